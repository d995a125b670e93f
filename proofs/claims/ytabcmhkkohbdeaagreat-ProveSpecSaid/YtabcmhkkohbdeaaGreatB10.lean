/-
  Parts of the proof. Conditions: none.
-/
import Derived.Test.YtabcmhkkohbdeaaGreatB9
set_option maxRecDepth 20000
set_option linter.all false
namespace Go.AM
open Go.Lib Go.Proofs Go.Proofs.Tryz
section
abbrev W3(n:Int):Fs:=.ifc 46 (.int .i64 n)
abbrev Iu(l:List Bs):x9:=.map (Hj l 0) l.length
def DA(H:AB)(n id:Nat)(pre ns:List Bs):xw->AB->Nat->Prop:=λo H' n'=>
 if Ap (pre++ns)=true then o= .xM (W3 161)/\H'=wB H id .dead/\n'=n else o= .ret (.mp id)/\H'=wB H id (Iu (pre++ns))/\n'=n
def Hr(H:AB)(id:Nat)(pre ns:List Bs):xw->AB->Nat->Prop:=λo H' n'=>
 if Ap (pre++ns)=true then o= .xM (W3 161)/\(∃ob,AD H' id=some ob)/\DX id H H' else(∃v,o= .ret v/\Wk v (.mp id))/\AD H' id=some (Iu (pre++ns))/\DX id H H'
def W4(n:Nat)(l:List Bs):(Iu l).under n:=by
 suffices h:∀(i n c:Nat),(x9.map (Hj l i) c).under n from h 0 n l.length
 induction l with
 |nil=>intro i n c;trivial
 |cons x r ih=>intro i n c;exact⟨zt,zt,ih (i+1) n c⟩
variable {H:AB} {f:Int} {pre:List Bs} {n id:Nat}
theorem O1{H':AB}{ob ob1:x9}(hf:AO H n)(s5:id<n)(h1:AD H' id=some ob1)(hw:fk ob1 ob)(hu:ob.under n)(h2:DX id H H'):IP n H H' (wB H id ob):=by
 refine⟨λi o ho=>?_,λi hi=>?_⟩
 ·rw[AT]at ho;by_cases e:id=i
  ·subst e;rw[sn rfl]at ho;cases ho;exact⟨s5,⟨_,h1,hw⟩,.inl hu⟩
  ·rw[sg e]at ho;exact⟨hf.lt ho,⟨o,h2 i o (Ne.symm e) ho,fk.refl _⟩,.inr ho⟩
 ·rw[AT];split
  ·exact λh=>by cases h
  ·exact hi
theorem Yj(ob:x9):fk ob .dead:=⟨λ_ _ _ _=>zt,λh=>by cases h⟩
theorem DA.of{y9:FuncId}{args:List Fs}{ns:List Bs}(hc:C3 prog y9)(hp:AD H id=some (Iu pre))(h:AO H n->id<n->AX prog y9 args H n (Hr H id pre ns)):AX prog y9 args H n (DA H n id pre ns):=by
 refine AX.fresh hc λhf=>?_
 have s5:=hf.lt hp;refine AX.forget (h hf s5) ?_;intro o H' n' q;unfold Hr at q;by_cases ht:Ap (pre++ns)=true
 ·rw[sn ht]at q;obtain⟨rfl,⟨ob,h1⟩,h2⟩:=q;exact⟨.xM (W3 161),wB H id .dead,by unfold DA;rw[sn ht];exact⟨rfl,rfl,rfl⟩,O1 hf s5 h1 (Yj _) zt h2,Wk.refl _,zt⟩
 ·rw[sg ht]at q;obtain⟨⟨v,rfl,hw⟩,h1,h2⟩:=q;exact⟨.ret (.mp id),wB H id (Iu (pre++ns)),by unfold DA;rw[sg ht];exact⟨rfl,rfl,rfl⟩,O1 hf s5 h1 (fk.refl _) (W4 n _) h2,hw,s5⟩
structure VIx where
 i:Nat
 H:AB
 n:Nat
structure IIx(H:AB)(n id:Nat)(pre ns:List Bs)(v:VIx):Prop where
 hi:v.i<=ns.length
 hn:n<=v.n
 fr:AO v.H v.n
 hm:AD v.H id=some (Iu (pre++ns.take v.i))
 hk:DX id H v.H
 tw:Ap (pre++ns.take v.i)=false
theorem Jj{ns:List Bs}{i:Nat}(h:i<ns.length)(wl:ns[i]∈pre++ns.take i):Ap (pre++ns)=true:=by
 have e:pre++ns=(pre++ns.take i)++ns[i]::ns.drop (i+1):=by
  rw[te,<-sO h,List.take_append_drop]
 rw[e];exact dC wl
theorem Jk{l:List Bs}{s:Bs}(h:Ap l=false)(hs:s∉l):Ap (l++[s])=false:=YP.2 ⟨h,hs⟩
theorem p198(x:xk):Av prog 198 [JK x] (.str x.nm):=by
 refine .mk ⟨MI 0 x,zt⟩ zt (c198.a (AI AH.wD (AJ ?_)));simp only[eE,eN,seval,c198]
theorem p200(x:xz):Av prog 200 [Gj x] (.str x.nm):=by
 refine .mk ⟨EN 0 x,zt⟩ zt (c200.a (AI AH.wD (AJ ?_)));simp only[eE,eN,seval,c200]
theorem p205(x:x8):Av prog 205 [Cb x] (.str x.nm):=by
 refine .mk ⟨Gk 0 x,zt⟩ zt (c205.a (AI AH.wD (AJ ?_)));simp only[eE,eN,seval,c205]
theorem p209(x:zj):Av prog 209 [Bt x] (.str x.nm):=by
 refine .mk ⟨BP 0 x,zt⟩ zt (c209.a (AI AH.wD (AJ ?_)));simp only[eE,eN,seval,c209]
theorem p203(x:Bs):Av prog 203 [.str x] (.str x):=by
 refine .mk ⟨zt,zt⟩ zt (c203.a (AI AH.wD (AJ ?_)));simp only[eE,eN,seval,c203]
theorem p202:Av prog 202 [] (FN CZ):=by
 refine .mk zt (CR 0 _) (c202.a (AI AH.wD (AJ ?_)));simp only[eE,eN,seval,c202];exact Wk.sl (.inl rfl)
def Tx1:Bg:=AF 198 (s1 dSy KS λx=>.str ((λx:xk=>x.nm) x)) wD
theorem kW:AH prog Tx1:=AH.wD.add (q1 λx _=>p198 x)
theorem Yk{l:List xk}(hl:Aq l)(xg:pre.length<1000000000)(hf0:f=(pre.length:Int))(hp:AD H id=some (Iu pre))(hd:Ap pre=false):
  AX prog 197 [He l,.int .i64 f,.fn (.func 198) [] [],.mp id] H n (DA H n id pre (l.map (λx:xk=>x.nm))):=by
 subst hf0;refine DA.of pb.l hp λhf s5=>pb.a (AI kW (AJ ?_))
 have wm:l.length<1000000000:=hl;simp only[eE,eN,seval,ry,pb];refine AQ (λv:VIx=>⟨[(1,true,.int .i64 pre.length),(2,true,.fn (.func 198) [] []),(3,true,.mp id),(13,true,He l),(14,true,.int .i64 l.length),(15,true,.int .i64 v.i)],v.H,v.n⟩) (IIx H n id pre (l.map (λx:xk=>x.nm))) (λv=>l.length-v.i)
  ⟨0,H,n⟩ rfl ⟨sk _,sj _,hf,by rw[uo,sR];exact hp,DX.refl _,by rw[uo,sR];exact hd⟩ ?_
 rintro⟨i,H1,n1⟩ hI;have hi:=hI.hi;have hn:=hI.hn;have l9:=hI.fr;have hm:=hI.hm;have hk:=hI.hk;have yb:=hI.tw;simp only[ry]at hi hn l9 hm hk yb;by_cases e9:i<l.length
 ·have xi:i<(l.map (λx:xk=>x.nm)).length:=by rw[ry];exact e9
  have hg:=rz e9;have ye:(l.map (λx:xk=>x.nm))[i]=(λx:xk=>x.nm) l[i]:=vN ..;have e:=AK (k:=i) zo;have l7:(l.map (λx:xk=>x.nm)).take (i+1)=(l.map (λx:xk=>x.nm)).take i++[(λx:xk=>x.nm) l[i]]:=by rw[sG,rz xi,ye];rfl
  have wy:(pre++(l.map (λx:xk=>x.nm)).take i).length=pre.length+i:=by rw[sH,sU,ry];omega
  have ew:IntKind.wrap .i64 ((pre.length:Int)+(i:Int))=((pre.length+i:Nat):Int):=by rw[A4 zo zo];omega
  have y1:∀k,(n1+k=id)=False:=λk=>sb zo
  have y2:∀k,(id=n1+k)=False:=λk=>sb zo
  have wl:=λq=>Jj (pre:=pre) xi (by rw[ye];exact q)
  generalize hx:l[i]=x at hg ye l7 wl;have xa:=GL (pre++(l.map (λx:xk=>x.nm)).take i) ((λx:xk=>x.nm) x);cases v9:Bb (pre++(l.map (λx:xk=>x.nm)).take i) ((λx:xk=>x.nm) x)with
  |some k=>
   have htt:Ap (pre++l.map (λx:xk=>x.nm))=true:=wl (by
    apply Classical.byContradiction;intro q;rw[Ck.2 q]at v9;cases v9)
   rw[v9,td]at xa;simp only[eZ,seval,xE,eY,Xm,AN e9,hg,Tx1,s1,cz,Wt,hm,xa,E8,KT.is,C5,Bq l9,y1,AW,AF];unfold Hr;rw[sn htt];refine⟨rfl,⟨Iu (pre++(l.map (λx:xk=>x.nm)).take i),?_⟩,?_⟩
   ·rw[AA _ _ _ _ zo];exact hm
   ·exact hk.new hf zo
  |none=>
   rw[v9,tU]at xa;have yf:=OG v9;rw[wy]at yf;simp only[eZ,seval,xE,eY,AN e9,hg,Tx1,s1,cz,Wt,hm,xa,E8,KT.is,C5,Bq l9,y1,e,ew,wy,yf,AW,AF];refine .mk ⟨i+1,wB (wB H1 (n1+3) (.box (JK x).cells)) id (.map (Hj (pre++(l.map (λx:xk=>x.nm)).take i++[(λx:xk=>x.nm) x]) 0) (pre.length+(i+1))),n1+6⟩ rfl ⟨by simp only[ry];omega,zp,?_,?_,?_,?_⟩ zp
   ·exact(l9.wB (m:=n1+6) zo zo).wB (sj (n1+6)) (show id<n1+6 by omega)
   ·simp only[];rw[AC,l7,<-te,Iu,sH,wy];rfl
   ·exact(hk.new hf zo).set
   ·simp only[];rw[l7,<-te];exact Jk yb (Ck.1 v9)
 have z9:i=l.length:=zo
 subst z9;have yi:(l.map (λx:xk=>x.nm)).take l.length=l.map (λx:xk=>x.nm):=tL (by rw[ry];omega);rw[yi]at hm yb;simp only[eZ,seval,Ag e9];unfold Hr;rw[yb,sg zd];exact⟨⟨_,rfl,Wk.refl _⟩,hm,hk⟩
def Tx2:Bg:=AF 200 (s1 rC KS λx=>.str ((λx:xz=>x.nm) x)) wD
theorem kX:AH prog Tx2:=AH.wD.add (q1 λx _=>p200 x)
theorem Yl{l:List xz}(hl:Aq l)(xg:pre.length<1000000000)(hf0:f=(pre.length:Int))(hp:AD H id=some (Iu pre))(hd:Ap pre=false):
  AX prog 199 [Gz l,.int .i64 f,.fn (.func 200) [] [],.mp id] H n (DA H n id pre (l.map (λx:xz=>x.nm))):=by
 subst hf0;refine DA.of pd.l hp λhf s5=>pd.a (AI kX (AJ ?_))
 have wm:l.length<1000000000:=hl;simp only[eE,eN,seval,ry,pd];refine AQ (λv:VIx=>⟨[(1,true,.int .i64 pre.length),(2,true,.fn (.func 200) [] []),(3,true,.mp id),(13,true,Gz l),(14,true,.int .i64 l.length),(15,true,.int .i64 v.i)],v.H,v.n⟩) (IIx H n id pre (l.map (λx:xz=>x.nm))) (λv=>l.length-v.i)
  ⟨0,H,n⟩ rfl ⟨sk _,sj _,hf,by rw[uo,sR];exact hp,DX.refl _,by rw[uo,sR];exact hd⟩ ?_
 rintro⟨i,H1,n1⟩ hI;have hi:=hI.hi;have hn:=hI.hn;have l9:=hI.fr;have hm:=hI.hm;have hk:=hI.hk;have yb:=hI.tw;simp only[ry]at hi hn l9 hm hk yb;by_cases e9:i<l.length
 ·have xi:i<(l.map (λx:xz=>x.nm)).length:=by rw[ry];exact e9
  have hg:=rz e9;have ye:(l.map (λx:xz=>x.nm))[i]=(λx:xz=>x.nm) l[i]:=vN ..;have e:=AK (k:=i) zo;have l7:(l.map (λx:xz=>x.nm)).take (i+1)=(l.map (λx:xz=>x.nm)).take i++[(λx:xz=>x.nm) l[i]]:=by rw[sG,rz xi,ye];rfl
  have wy:(pre++(l.map (λx:xz=>x.nm)).take i).length=pre.length+i:=by rw[sH,sU,ry];omega
  have ew:IntKind.wrap .i64 ((pre.length:Int)+(i:Int))=((pre.length+i:Nat):Int):=by rw[A4 zo zo];omega
  have y1:∀k,(n1+k=id)=False:=λk=>sb zo
  have y2:∀k,(id=n1+k)=False:=λk=>sb zo
  have wl:=λq=>Jj (pre:=pre) xi (by rw[ye];exact q)
  generalize hx:l[i]=x at hg ye l7 wl;have xa:=GL (pre++(l.map (λx:xz=>x.nm)).take i) ((λx:xz=>x.nm) x);cases v9:Bb (pre++(l.map (λx:xz=>x.nm)).take i) ((λx:xz=>x.nm) x)with
  |some k=>
   have htt:Ap (pre++l.map (λx:xz=>x.nm))=true:=wl (by
    apply Classical.byContradiction;intro q;rw[Ck.2 q]at v9;cases v9)
   rw[v9,td]at xa;simp only[eZ,seval,xE,eY,Xm,AN e9,hg,Tx2,s1,LM,I3,hm,xa,E8,KT.is,C5,Bq l9,y1,AW,AF];unfold Hr;rw[sn htt];refine⟨rfl,⟨Iu (pre++(l.map (λx:xz=>x.nm)).take i),?_⟩,?_⟩
   ·rw[AA _ _ _ _ zo];exact hm
   ·exact hk.new hf zo
  |none=>
   rw[v9,tU]at xa;have yf:=OG v9;rw[wy]at yf;simp only[eZ,seval,xE,eY,AN e9,hg,Tx2,s1,LM,I3,hm,xa,E8,KT.is,C5,Bq l9,y1,e,ew,wy,yf,AW,AF];refine .mk ⟨i+1,wB (wB H1 (n1+3) (.box (Gj x).cells)) id (.map (Hj (pre++(l.map (λx:xz=>x.nm)).take i++[(λx:xz=>x.nm) x]) 0) (pre.length+(i+1))),n1+6⟩ rfl ⟨by simp only[ry];omega,zp,?_,?_,?_,?_⟩ zp
   ·exact(l9.wB (m:=n1+6) zo zo).wB (sj (n1+6)) (show id<n1+6 by omega)
   ·simp only[];rw[AC,l7,<-te,Iu,sH,wy];rfl
   ·exact(hk.new hf zo).set
   ·simp only[];rw[l7,<-te];exact Jk yb (Ck.1 v9)
 have z9:i=l.length:=zo
 subst z9;have yi:(l.map (λx:xz=>x.nm)).take l.length=l.map (λx:xz=>x.nm):=tL (by rw[ry];omega);rw[yi]at hm yb;simp only[eZ,seval,Ag e9];unfold Hr;rw[yb,sg zd];exact⟨⟨_,rfl,Wk.refl _⟩,hm,hk⟩
def Tx3:Bg:=AF 203 (s1 dS KS λx=>.str ((λx:Bs=>x) x)) wD
theorem kY:AH prog Tx3:=AH.wD.add (q1 λx _=>p203 x)
theorem d6{l:List Bs}(hl:Aq l)(xg:pre.length<1000000000)(hf0:f=(pre.length:Int))(hp:AD H id=some (Iu pre))(hd:Ap pre=false):
  AX prog 201 [FN l,.int .i64 f,.fn (.func 203) [] [],.mp id] H n (DA H n id pre (l.map (λx:Bs=>x))):=by
 subst hf0;refine DA.of pe.l hp λhf s5=>pe.a (AI kY (AJ ?_))
 have wm:l.length<1000000000:=hl;simp only[eE,eN,seval,ry,pe];refine AQ (λv:VIx=>⟨[(1,true,.int .i64 pre.length),(2,true,.fn (.func 203) [] []),(3,true,.mp id),(13,true,FN l),(14,true,.int .i64 l.length),(15,true,.int .i64 v.i)],v.H,v.n⟩) (IIx H n id pre (l.map (λx:Bs=>x))) (λv=>l.length-v.i)
  ⟨0,H,n⟩ rfl ⟨sk _,sj _,hf,by rw[uo,sR];exact hp,DX.refl _,by rw[uo,sR];exact hd⟩ ?_
 rintro⟨i,H1,n1⟩ hI;have hi:=hI.hi;have hn:=hI.hn;have l9:=hI.fr;have hm:=hI.hm;have hk:=hI.hk;have yb:=hI.tw;simp only[ry]at hi hn l9 hm hk yb;by_cases e9:i<l.length
 ·have xi:i<(l.map (λx:Bs=>x)).length:=by rw[ry];exact e9
  have hg:=rz e9;have ye:(l.map (λx:Bs=>x))[i]=(λx:Bs=>x) l[i]:=vN ..;have e:=AK (k:=i) zo;have l7:(l.map (λx:Bs=>x)).take (i+1)=(l.map (λx:Bs=>x)).take i++[(λx:Bs=>x) l[i]]:=by rw[sG,rz xi,ye];rfl
  have wy:(pre++(l.map (λx:Bs=>x)).take i).length=pre.length+i:=by rw[sH,sU,ry];omega
  have ew:IntKind.wrap .i64 ((pre.length:Int)+(i:Int))=((pre.length+i:Nat):Int):=by rw[A4 zo zo];omega
  have y1:∀k,(n1+k=id)=False:=λk=>sb zo
  have y2:∀k,(id=n1+k)=False:=λk=>sb zo
  have wl:=λq=>Jj (pre:=pre) xi (by rw[ye];exact q)
  generalize hx:l[i]=x at hg ye l7 wl;have xa:=GL (pre++(l.map (λx:Bs=>x)).take i) ((λx:Bs=>x) x);cases v9:Bb (pre++(l.map (λx:Bs=>x)).take i) ((λx:Bs=>x) x)with
  |some k=>
   have htt:Ap (pre++l.map (λx:Bs=>x))=true:=wl (by
    apply Classical.byContradiction;intro q;rw[Ck.2 q]at v9;cases v9)
   rw[v9,td]at xa;simp only[eZ,seval,xE,eY,Xm,AN e9,hg,Tx3,s1,Hz,Fj,hm,xa,E8,KT.is,C5,AF];unfold Hr;rw[sn htt];refine⟨rfl,⟨Iu (pre++(l.map (λx:Bs=>x)).take i),?_⟩,?_⟩
   ·exact hm
   ·exact hk
  |none=>
   rw[v9,tU]at xa;have yf:=OG v9;rw[wy]at yf;simp only[eZ,seval,xE,eY,AN e9,hg,Tx3,s1,Hz,Fj,hm,xa,E8,KT.is,C5,e,ew,wy,yf,AF];refine .mk ⟨i+1,wB H1 id (.map (Hj (pre++(l.map (λx:Bs=>x)).take i++[(λx:Bs=>x) x]) 0) (pre.length+(i+1))),n1⟩ rfl ⟨by simp only[ry];omega,zp,?_,?_,?_,?_⟩ zp
   ·exact l9.wB (m:=n1) (sj _) zo
   ·simp only[];rw[AC,l7,<-te,Iu,sH,wy];rfl
   ·exact hk.set
   ·simp only[];rw[l7,<-te];exact Jk yb (Ck.1 v9)
 have z9:i=l.length:=zo
 subst z9;have yi:(l.map (λx:Bs=>x)).take l.length=l.map (λx:Bs=>x):=tL (by rw[ry];omega);rw[yi]at hm yb;simp only[eZ,seval,Ag e9];unfold Hr;rw[yb,sg zd];exact⟨⟨_,rfl,Wk.refl _⟩,hm,hk⟩
def Tx4:Bg:=AF 205 (s1 dCl KS λx=>.str ((λx:x8=>x.nm) x)) wD
theorem kZ:AH prog Tx4:=AH.wD.add (q1 λx _=>p205 x)
theorem Ym{l:List x8}(hl:Aq l)(xg:pre.length<1000000000)(hf0:f=(pre.length:Int))(hp:AD H id=some (Iu pre))(hd:Ap pre=false):
  AX prog 204 [Eh l,.int .i64 f,.fn (.func 205) [] [],.mp id] H n (DA H n id pre (l.map (λx:x8=>x.nm))):=by
 subst hf0;refine DA.of pg.l hp λhf s5=>pg.a (AI kZ (AJ ?_))
 have wm:l.length<1000000000:=hl;simp only[eE,eN,seval,ry,pg];refine AQ (λv:VIx=>⟨[(1,true,.int .i64 pre.length),(2,true,.fn (.func 205) [] []),(3,true,.mp id),(13,true,Eh l),(14,true,.int .i64 l.length),(15,true,.int .i64 v.i)],v.H,v.n⟩) (IIx H n id pre (l.map (λx:x8=>x.nm))) (λv=>l.length-v.i)
  ⟨0,H,n⟩ rfl ⟨sk _,sj _,hf,by rw[uo,sR];exact hp,DX.refl _,by rw[uo,sR];exact hd⟩ ?_
 rintro⟨i,H1,n1⟩ hI;have hi:=hI.hi;have hn:=hI.hn;have l9:=hI.fr;have hm:=hI.hm;have hk:=hI.hk;have yb:=hI.tw;simp only[ry]at hi hn l9 hm hk yb;by_cases e9:i<l.length
 ·have xi:i<(l.map (λx:x8=>x.nm)).length:=by rw[ry];exact e9
  have hg:=rz e9;have ye:(l.map (λx:x8=>x.nm))[i]=(λx:x8=>x.nm) l[i]:=vN ..;have e:=AK (k:=i) zo;have l7:(l.map (λx:x8=>x.nm)).take (i+1)=(l.map (λx:x8=>x.nm)).take i++[(λx:x8=>x.nm) l[i]]:=by rw[sG,rz xi,ye];rfl
  have wy:(pre++(l.map (λx:x8=>x.nm)).take i).length=pre.length+i:=by rw[sH,sU,ry];omega
  have ew:IntKind.wrap .i64 ((pre.length:Int)+(i:Int))=((pre.length+i:Nat):Int):=by rw[A4 zo zo];omega
  have y1:∀k,(n1+k=id)=False:=λk=>sb zo
  have y2:∀k,(id=n1+k)=False:=λk=>sb zo
  have wl:=λq=>Jj (pre:=pre) xi (by rw[ye];exact q)
  generalize hx:l[i]=x at hg ye l7 wl;have xa:=GL (pre++(l.map (λx:x8=>x.nm)).take i) ((λx:x8=>x.nm) x);cases v9:Bb (pre++(l.map (λx:x8=>x.nm)).take i) ((λx:x8=>x.nm) x)with
  |some k=>
   have htt:Ap (pre++l.map (λx:x8=>x.nm))=true:=wl (by
    apply Classical.byContradiction;intro q;rw[Ck.2 q]at v9;cases v9)
   rw[v9,td]at xa;simp only[eZ,seval,xE,eY,Xm,AN e9,hg,Tx4,s1,Je,Hg,hm,xa,E8,KT.is,C5,Bq l9,y1,AW,AF];unfold Hr;rw[sn htt];refine⟨rfl,⟨Iu (pre++(l.map (λx:x8=>x.nm)).take i),?_⟩,?_⟩
   ·rw[AA _ _ _ _ zo];exact hm
   ·exact hk.new hf zo
  |none=>
   rw[v9,tU]at xa;have yf:=OG v9;rw[wy]at yf;simp only[eZ,seval,xE,eY,AN e9,hg,Tx4,s1,Je,Hg,hm,xa,E8,KT.is,C5,Bq l9,y1,e,ew,wy,yf,AW,AF];refine .mk ⟨i+1,wB (wB H1 (n1+3) (.box (Cb x).cells)) id (.map (Hj (pre++(l.map (λx:x8=>x.nm)).take i++[(λx:x8=>x.nm) x]) 0) (pre.length+(i+1))),n1+6⟩ rfl ⟨by simp only[ry];omega,zp,?_,?_,?_,?_⟩ zp
   ·exact(l9.wB (m:=n1+6) zo zo).wB (sj (n1+6)) (show id<n1+6 by omega)
   ·simp only[];rw[AC,l7,<-te,Iu,sH,wy];rfl
   ·exact(hk.new hf zo).set
   ·simp only[];rw[l7,<-te];exact Jk yb (Ck.1 v9)
 have z9:i=l.length:=zo
 subst z9;have yi:(l.map (λx:x8=>x.nm)).take l.length=l.map (λx:x8=>x.nm):=tL (by rw[ry];omega);rw[yi]at hm yb;simp only[eZ,seval,Ag e9];unfold Hr;rw[yb,sg zd];exact⟨⟨_,rfl,Wk.refl _⟩,hm,hk⟩
def Tx5:Bg:=AF 209 (s1 Mq KS λx=>.str ((λx:zj=>x.nm) x)) wD
theorem ke:AH prog Tx5:=AH.wD.add (q1 λx _=>p209 x)
theorem Yn{l:List zj}(hl:Aq l)(xg:pre.length<1000000000)(hf0:f=(pre.length:Int))(hp:AD H id=some (Iu pre))(hd:Ap pre=false):
  AX prog 208 [DZ l,.int .i64 f,.fn (.func 209) [] [],.mp id] H n (DA H n id pre (l.map (λx:zj=>x.nm))):=by
 subst hf0;refine DA.of ph.l hp λhf s5=>ph.a (AI ke (AJ ?_))
 have wm:l.length<1000000000:=hl;simp only[eE,eN,seval,ry,ph];refine AQ (λv:VIx=>⟨[(1,true,.int .i64 pre.length),(2,true,.fn (.func 209) [] []),(3,true,.mp id),(13,true,DZ l),(14,true,.int .i64 l.length),(15,true,.int .i64 v.i)],v.H,v.n⟩) (IIx H n id pre (l.map (λx:zj=>x.nm))) (λv=>l.length-v.i)
  ⟨0,H,n⟩ rfl ⟨sk _,sj _,hf,by rw[uo,sR];exact hp,DX.refl _,by rw[uo,sR];exact hd⟩ ?_
 rintro⟨i,H1,n1⟩ hI;have hi:=hI.hi;have hn:=hI.hn;have l9:=hI.fr;have hm:=hI.hm;have hk:=hI.hk;have yb:=hI.tw;simp only[ry]at hi hn l9 hm hk yb;by_cases e9:i<l.length
 ·have xi:i<(l.map (λx:zj=>x.nm)).length:=by rw[ry];exact e9
  have hg:=rz e9;have ye:(l.map (λx:zj=>x.nm))[i]=(λx:zj=>x.nm) l[i]:=vN ..;have e:=AK (k:=i) zo;have l7:(l.map (λx:zj=>x.nm)).take (i+1)=(l.map (λx:zj=>x.nm)).take i++[(λx:zj=>x.nm) l[i]]:=by rw[sG,rz xi,ye];rfl
  have wy:(pre++(l.map (λx:zj=>x.nm)).take i).length=pre.length+i:=by rw[sH,sU,ry];omega
  have ew:IntKind.wrap .i64 ((pre.length:Int)+(i:Int))=((pre.length+i:Nat):Int):=by rw[A4 zo zo];omega
  have y1:∀k,(n1+k=id)=False:=λk=>sb zo
  have y2:∀k,(id=n1+k)=False:=λk=>sb zo
  have wl:=λq=>Jj (pre:=pre) xi (by rw[ye];exact q)
  generalize hx:l[i]=x at hg ye l7 wl;have xa:=GL (pre++(l.map (λx:zj=>x.nm)).take i) ((λx:zj=>x.nm) x);cases v9:Bb (pre++(l.map (λx:zj=>x.nm)).take i) ((λx:zj=>x.nm) x)with
  |some k=>
   have htt:Ap (pre++l.map (λx:zj=>x.nm))=true:=wl (by
    apply Classical.byContradiction;intro q;rw[Ck.2 q]at v9;cases v9)
   rw[v9,td]at xa;simp only[eZ,seval,xE,eY,Xm,AN e9,hg,Tx5,s1,CC,Bi,hm,xa,E8,KT.is,C5,Bq l9,y1,AW,AF];unfold Hr;rw[sn htt];refine⟨rfl,⟨Iu (pre++(l.map (λx:zj=>x.nm)).take i),?_⟩,?_⟩
   ·rw[AA _ _ _ _ zo];exact hm
   ·exact hk.new hf zo
  |none=>
   rw[v9,tU]at xa;have yf:=OG v9;rw[wy]at yf;simp only[eZ,seval,xE,eY,AN e9,hg,Tx5,s1,CC,Bi,hm,xa,E8,KT.is,C5,Bq l9,y1,e,ew,wy,yf,AW,AF];refine .mk ⟨i+1,wB (wB H1 (n1+3) (.box (Bt x).cells)) id (.map (Hj (pre++(l.map (λx:zj=>x.nm)).take i++[(λx:zj=>x.nm) x]) 0) (pre.length+(i+1))),n1+6⟩ rfl ⟨by simp only[ry];omega,zp,?_,?_,?_,?_⟩ zp
   ·exact(l9.wB (m:=n1+6) zo zo).wB (sj (n1+6)) (show id<n1+6 by omega)
   ·simp only[];rw[AC,l7,<-te,Iu,sH,wy];rfl
   ·exact(hk.new hf zo).set
   ·simp only[];rw[l7,<-te];exact Jk yb (Ck.1 v9)
 have z9:i=l.length:=zo
 subst z9;have yi:(l.map (λx:zj=>x.nm)).take l.length=l.map (λx:zj=>x.nm):=tL (by rw[ry];omega);rw[yi]at hm yb;simp only[eZ,seval,Ag e9];unfold Hr;rw[yb,sg zd];exact⟨⟨_,rfl,Wk.refl _⟩,hm,hk⟩
end
section
def jG(H:AB)(n:Nat)(r:Option Int):xw->AB->Nat->Prop:=λo H' n'=>H'=H/\n'=n/\match r with
 |some k=>o= .ret (.int .i64 k)
 |none=>o= .xM (W3 160)
variable {l:List Bs}
theorem Mt{H:AB}{n id:Nat}{s:Bs}(hp:AD H id=some (Iu l)):AX prog 207 [.mp id,.str s] H n (jG H n (Bb l s)):=by
 refine pi.a (AI AH.wD (AJ ?_));have hf:=GL l s;cases v9:Bb l s with
 |some k=>
  rw[v9,td]at hf;simp only[eZ,seval,sa,xE,eY,pi,hp,hf,E8,KT.is,C5];exact⟨rfl,rfl,rfl⟩
 |none=>
  rw[v9,tU]at hf;simp only[eZ,seval,se,xE,eY,Xm,pi,hp,hf,E8,KT.is,C5];exact⟨rfl,rfl,rfl⟩
theorem Yo{a b:Nat}(ha:a<65536)(hb:b<65536):bD .or .i64 (a:Int) (b:Int)=((a|||b:Nat):Int):=by
 have xd:a|||b<65536:=Nat.or_lt_two_pow (n:=16) ha hb
 have e:∀x:Nat,BitVec.ofInt 64 (x:Int)=BitVec.ofNat 64 x:=λx=>by
  apply BitVec.eq_of_toNat_eq;simp [BitVec.toNat_ofNat]
 show IntKind.wrap .i64 ((BitVec.ofInt 64 (a:Int)|||BitVec.ofInt 64 (b:Int)).toNat:Int)=_;rw[e,e,BitVec.toNat_or,BitVec.toNat_ofNat,BitVec.toNat_ofNat,Nat.mod_eq_of_lt zo,Nat.mod_eq_of_lt zo,A4 zo zo]
theorem VQ{j:Nat}(h:j<16):Kz .shl .i64 1 (j:Int)=((1<<<j:Nat):Int):=by
 have h2:2^j<65536:=Nat.pow_lt_pow_right zd (show j<16 from h);show IntKind.wrap .i64 (1*2^(min (j:Int).toNat 64))=_;rw[Int.one_mul,sm,Nat.min_eq_left zo,Nat.shiftLeft_eq,Nat.one_mul];have e:((2:Int)^j)=((2^j:Nat):Int):=by rw[Int.natCast_pow];rfl
 rw[e];generalize 2^j=p at h2;exact A4 zo zo
theorem QN{j:Nat}(h:j<16):1<<<j<65536:=by
 rw[Nat.shiftLeft_eq,Nat.one_mul];exact Nat.pow_lt_pow_right zd (show j<16 from h)
def F7(l:List Bs)(acc:Nat)(ss:List Bs):Option Int:=(Cu l ss).map λk=>((acc|||k.toNat:Nat):Int)
theorem Mu(l:List Bs)(acc:Nat):F7 l acc []=some (acc:Int):=by simp [F7,Cu]
theorem Lf{acc:Nat}{s:Bs}{r:List Bs}:F7 l acc (s::r)=match Bb l s with
  |none=>none
  |some j=>F7 l (acc|||1<<<j.toNat) r:=by
 unfold F7;rw[OC,Bb];cases l.findIdx? λx=>decide (x=s)with
 |none=>rfl
 |some i=>
  simp only[td,sm];cases Cu l r with
  |none=>rfl
  |some n=>
   simp only[td,Option.some.injEq];congr 1;show acc|||(Int.ofNat (Nat.lor (1<<<i) n.toNat)).toNat=_
   rw[Nat.or_assoc];rfl
theorem Rl(l ss:List Bs):F7 l 0 ss=Cu l ss:=by
 unfold F7;rw[U8];cases Ar (λs=>l.findIdx? λx=>decide (x=s)) ss with
 |none=>rfl
 |some is=>simp
theorem VR{H:AB}{n id sid:Nat}{ss:List Bs}(hl:l.length<=16)(yg:wide ss)(hs:AD H sid=some (.box [.mp id]))(hp:AD H id=some (Iu l)):AX prog 211 [FN ss,.ptr sid 0] H n (jG H n (Cu l ss)):=by
 refine c211.a (AI AH.wD (AJ ?_));have yk:ss.length<1125899906842624:=yg;rw[<-Rl];simp only[eE,eN,seval,ry,c211];refine AQ (λv:Nat×Nat=>⟨[(1,true,.ptr sid 0),(3,true,.int .i64 v.2),(6,true,FN ss),(7,true,.int .i64 ss.length),(8,true,.int .i64 v.1)],H,n⟩) (λv=>v.1<=ss.length/\v.2<65536/\F7 l 0 ss=F7 l v.2 (ss.drop v.1)) (λv=>ss.length-v.1) (0,0) rfl ⟨sk _,zd,rfl⟩ ?_;rintro⟨i,acc⟩ ⟨hi,yo,heq⟩;simp only at hi yo heq;by_cases e9:i<ss.length
 ·have hg:=rz e9;have e:=AK (k:=i) zo;rw[sO e9,Lf]at heq;generalize ss[i]=s at hg heq;simp only[eZ,seval,eY,AN e9,hg,hs];refine(Mt hp).mono λo H' n' hq=>?_
  obtain⟨rfl,rfl,hq⟩:=hq;cases v9:Bb l s with
  |none=>
   rw[v9]at hq heq;subst hq;simp only at heq;rw[heq];simp only[eE,eN,BL];exact⟨rfl,rfl,rfl⟩
  |some k=>
   rw[v9]at hq heq;subst hq;simp only at heq;obtain⟨h0,h1⟩:=QA v9;obtain⟨j,rfl⟩:∃j:Nat,k=j:=⟨k.toNat,zo⟩;rw[sm]at heq;simp only[eE,eN,seval,sr,BL,VQ (show j<16 by omega),Yo yo (QN (show j<16 by omega)),e];exact .mk (i+1,acc|||1<<<j) rfl ⟨e9,Nat.or_lt_two_pow (n:=16) yo (QN zo),heq⟩ zp
 obtain rfl:i=ss.length:=zo
 rw[t5,Mu]at heq;rw[heq];simp only[eZ,seval,Ag e9];exact⟨rfl,rfl,rfl⟩
end
abbrev JB:List Fs:=[.str [],.int .i64 0,.int .i64 0,.int .i64 0,.int .i64 0,.sl .nil [],.sl .nil [],.sl .nil [],.sl .nil [],.sl .nil []]
def d_rn{H:AB}{n i0 i1:Nat}:D8 prog 196 [.ptr i0 0,.ptr i1 0] .xA H n (λH' n'=>H'=H/\n'=n):=by
 refine a196 (AI AH.wD (AJ ?_));simp only[eZ,seval,sa,xE,hY]
def d_rp{H:AB}{n:Nat}{xs:List Fs}{y:Fs}{p:Int}(h0:AD H 1=some (.box xs))(hx:xs.length=10)(h1:AD H 2=some (.box [y])):
  D8 prog 196 [.ptr 1 0,.ptr 2 0] (W3 p) H n (λH' n'=>AD H' 1=some (.box JB)/\AD H' 2=some (.box [.int .i64 p])):=by
 refine a196 (AI AH.wD (AJ ?_));obtain⟨a,b,c,d,e,f,g,h,i,j,rfl⟩:∃a b c d e f g h i j,xs=[a,b,c,d,e,f,g,h,i,j]:=by
  match xs,hx with
  |[a,b,c,d,e,f,g,h,i,j],_=>exact⟨a,b,c,d,e,f,g,h,i,j,rfl⟩
 simp only[eZ,seval,xE,hY,h0,h1]
section
def Cd(d:xj):Fs:=match CL d with
 | .error e=>.wJ [B6 KW,.int .i64 e]
 | .ok x=>.wJ [B6 x,.int .i64 0]
abbrev DN(d:xj)(vc vr:Fs):List Fs:=[.str d.nm,.int .i64 d.yN,.int .i64 d.sh,.int .i64 d.w,.int .i64 d.h,Aj d.wC,He d.wE,Gz d.wK,vc,vr]
def RR(d:xj):xw->AB->Nat->Prop:=λo H' n'=>match CL d with
 | .error e=>∃v,o= .ret v/\Wk v (.wJ [B6 KW,.int .i64 e])
 | .ok x=>∃vc vr,o= .ret (.wJ [.agg (DN d vc vr),.int .i64 0])/\LV 6 vc H' (x.wG.map Cb)/\LV 12 vr H' (x.wF.map Bt)/\(∀i a b c e j f g h k,vc= .ref i a b c e->vr= .ref j f g h k->i≠j)
def Tnr:Bg:=AF 202 (λa _=>match a with
 |[]=>(True,FN CZ)
 |_=>(False,.wJ [])) wD
def Yp:AH prog Tnr:=AH.wD.add λargs H n h=>by
 cases args with
 |nil=>exact p202.quiet H n
 |cons _ _=>exact h.elim
abbrev rsR:List RC:=[.c 2 10 true,.c 3 1 false]
abbrev envR:List (Nat×Bool×Fs):=[(1,true,.ptr 0 0),(2,true,.ptr 1 0),(3,true,.ptr 2 0)]
abbrev argsR:List Fs:=[.ptr 1 0,.ptr 2 0]
def d7:z8->z8
 | .seq a _=>a
 |c=>c
def Tl:z8->z8
 | .seq _ b=>b
 |c=>c
def Mv:Nat->z8->z8
 |0,c=>c
 |k+1,c=>Mv k (Tl c)
abbrev QR(d:xj):x6->AS->Prop:=kF prog 196 argsR rsR envR (RR d)
variable {xs:List Fs}
theorem ten(h:xs.length=10):∃a b c d e f g h i j,xs=[a,b,c,d,e,f,g,h,i,j]:=by
 match xs,h with
 |[a,b,c,d,e,f,g,h,i,j],_=>exact⟨a,b,c,d,e,f,g,h,i,j,rfl⟩
theorem Dv{d:xj}{H:AB}{m:Nat}{y:Fs}{p:Int}(h1:AD H 1=some (.box xs))(hx:xs.length=10)(h2:AD H 2=some (.box [y]))(hr:CL d= .error p):QR d (.xM (W3 p)) ⟨[],H,m⟩:=by
 refine D8.mono (d_rp h1 hx h2) ?_;rintro H2 n2 ⟨k1,k2⟩;unfold YH;simp only[eE,seval,BO,k1,k2];unfold RR;rw[hr];exact⟨_,rfl,Wk.wJ (.cons (Wk.agg (.cons (Wk.refl _) (.cons (Wk.refl _) (.cons (Wk.refl _) (.cons (Wk.refl _) (.cons (Wk.refl _) (.cons (Wk.sl (.inr rfl)) (.cons (Wk.sl (.inr rfl)) (.cons (Wk.sl (.inr rfl)) (.cons (Wk.sl (.inr rfl)) (.cons (Wk.sl (.inr rfl)) .nil))))))))))) (.cons (Wk.refl _) .nil))⟩
theorem VS{d:xj}{env:List (Nat×Bool×Fs)}{H:AB}{m:Nat}{y:Fs}(h1:AD H 1=some (.box xs))(hx:xs.length=10)(h2:AD H 2=some (.box [y]))(hr:RR d (.ret (.wJ [.agg xs,y])) H m):QR d .ret ⟨env,H,m⟩:=by
 refine D8.mono d_rn ?_;rintro H2 n2 ⟨rfl,rfl⟩;obtain⟨a,b,c,d,e,f,g,h,i,j,rfl⟩:=ten hx;unfold YH;simp only[eE,seval,BO,h1,h2];exact hr
end
section
structure NM(d:xj)(vc vr:Fs)(H:AB):Prop where
 h0:AD H 0=some (.box (DN d vc vr))
 h1:AD H 1=some (.box JB)
 h2:AD H 2=some (.box [.int .i64 0])
 h5:AD H 5=some (Iu (d.wE.map λx:xk=>x.nm))
 h7:AD H 7=some (.box [.mp 5])
 h12:AD H 12=some (Iu (B0 d))
 h18:AD H 18=some (Iu (d.wG.map λx:x8=>x.nm))
def kg(i:Nat):Prop:=i≠0/\i≠1/\i≠2/\i≠5/\i≠7/\i≠12/\i≠18
variable {H:AB} {vc vr:Fs} {d:xj} {i e:Nat}
theorem NM.set{ob:x9}(h:NM d vc vr H)(hi:kg i):NM d vc vr (wB H i ob):=by
 obtain⟨a,b,c,e,f,g,k⟩:=hi;exact⟨by rw[AA _ _ _ _ a];exact h.h0,by rw[AA _ _ _ _ b];exact h.h1,by rw[AA _ _ _ _ c];exact h.h2,by rw[AA _ _ _ _ e];exact h.h5,by rw[AA _ _ _ _ f];exact h.h7,by rw[AA _ _ _ _ g];exact h.h12,by rw[AA _ _ _ _ k];exact h.h18⟩
theorem NM.put{vc' vr':Fs}(h:NM d vc vr H):NM d vc' vr' (wB H 0 (.box (DN d vc' vr'))):=
 ⟨AC ..,by rw[AA _ _ _ _ zd];exact h.h1,by rw[AA _ _ _ _ zd];exact h.h2,by rw[AA _ _ _ _ zd];exact h.h5,by rw[AA _ _ _ _ zd];exact h.h7,by rw[AA _ _ _ _ zd];exact h.h12,by rw[AA _ _ _ _ zd];exact h.h18⟩
theorem NM.ne{id:Nat}{A:List Fs}(xb:NM d vc vr H)(ho:AD H id=some (.arr e A)):kg id:=by
 refine⟨?_,?_,?_,?_,?_,?_,?_⟩<;>rintro rfl
 ·rw[xb.h0]at ho;cases ho
 ·rw[xb.h1]at ho;cases ho
 ·rw[xb.h2]at ho;cases ho
 ·rw[xb.h5]at ho;cases ho
 ·rw[xb.h7]at ho;cases ho
 ·rw[xb.h12]at ho;cases ho
 ·rw[xb.h18]at ho;cases ho
theorem QO(h:21<=i):kg i:=⟨zo,zo,zo,zo,zo,zo,zo⟩
theorem ES{α β:Type}(f:α->Option β)(x:α)(r:List α):Ar f (x::r)=(match f x with
  |some y=>(Ar f r).map λs=>y::s
  |none=>none):=by
 simp only[Ar];cases f x with
 |none=>rfl
 |some y=>cases Ar f r<;>rfl
structure VRl where
 i:Nat
 dn:List zj
 H:AB
structure IRl(d:xj)(cs:List x8)(vc vr:Fs)(n:Nat)(v:VRl):Prop where
 hi:v.i<=d.wF.length
 ln:v.dn.length=v.i
 fr:AO v.H n
 nm:NM d vc vr v.H
 lc:LV 6 vc v.H (cs.map Cb)
 lv:LV 12 vr v.H ((v.dn++d.wF.drop v.i).map Bt)
 eq:Ar (Bh d) d.wF=(Ar (Bh d) (d.wF.drop v.i)).map λr=>v.dn++r
section
variable {a b c d e f g h i j k l v:Fs}
theorem kh(hv:v.cells=[v]):Di (.agg [a,b,c,d,e,f,g,h,i,j,k,l]) 3 1 12 v=(True,.agg [a,b,c,v,e,f,g,h,i,j,k,l]):=by
 rw[G6 zd];simp [wZ,hv]
theorem d8(hv:v.cells=[v]):Di (.agg [a,b,c,d,e,f,g,h,i,j,k,l]) 6 1 12 v=(True,.agg [a,b,c,d,e,f,v,h,i,j,k,l]):=by
 rw[G6 zd];simp [wZ,hv]
theorem d9(hv:v.cells=[v]):Di (.agg [a,b,c,d,e,f,g,h,i,j,k,l]) 7 1 12 v=(True,.agg [a,b,c,d,e,f,g,v,i,j,k,l]):=by
 rw[G6 zd];simp [wZ,hv]
theorem VT(hv:v.cells=[v]):Di (.agg [a,b,c,d,e,f,g,h,i,j,k,l]) 11 1 12 v=(True,.agg [a,b,c,d,e,f,g,h,i,j,k,v]):=by
 rw[G6 zd];simp [wZ,hv]
end
theorem LV.set{v:Fs}{l:List Fs}{id:Nat}{ob:x9}(h:LV e v H l)(s8:∀a b c x,v≠ .ref id a b c x):LV e v (wB H id ob) l:=by
 rcases h with h|⟨h0,i,cap,rest,rfl,ho,hc⟩
 ·exact .inl h
 ·exact .inr ⟨h0,i,cap,rest,rfl,by rw[AA _ _ _ _ (λq=>s8 _ _ _ _ (by rw[q]))];exact ho,hc⟩
theorem LV.no{l:List Fs}{a b c x:Nat}(h:LV e (.ref i a b c x) H l)(hn:∀e' A,AD H i≠some (.arr e' A)):False:=by
 rcases h with⟨-,t,h,-⟩|⟨-,id,cap,rest,h,ho,-⟩
 ·cases h
 ·cases h;exact hn _ _ ho
theorem Yq(d:xj)(hd:zy d)(xe:¬16<d.wE.length)(me:Ap (d.wE.map λx:xk=>x.nm)=false)(wp:Ap (B0 d)=false)(yj:Ap (d.wG.map λx:x8=>x.nm)=false){cs:List x8}(xl:Ar (CK d) d.wG=some cs)(ht4:Ap (d.wF.map λx:zj=>x.nm)=false)
  {n:Nat} (hf:AO H n) (hm:NM d vc vr H) (hvc:LV 6 vc H (cs.map Cb)) (hvr:LV 12 vr H (d.wF.map Bt)) (hdj:∀i a b c e j f g h k,vc= .ref i a b c e->vr= .ref j f g h k->i≠j):
  Gw prog Tnr (Tl (d7 (Mv 9 Ow))) [.c (Tl (Mv 9 Ow))] (QR d) ⟨[(1,true,.ptr 0 0),(2,true,.ptr 1 0),(3,true,.ptr 2 0),(5,true,.mp 12),(6,true,.mp 18),(8,true,.fn (.func 211) [] [.ptr 7 0]),(66,true,.int .i64 d.wF.length),(67,true,.int .i64 0)],H,n⟩:=by
 have hrl:d.wF.length<1000000000:=hd.ru;have hbase:∀x,Ar (Bh d) d.wF=x->CL d=(match x with|none=>.error 160|some rs=>.ok {d with wG:=cs,wF:=rs}):=λx hx=>by
  unfold CL;rw[sg xe,me,wp,yj,xl];simp only[sN,sY];rw[ht4,hx];rfl
 simp only[eE,Mv,Tl,d7,Ow];refine AQ (λv:VRl=>⟨[(1,true,.ptr 0 0),(2,true,.ptr 1 0),(3,true,.ptr 2 0),(5,true,.mp 12),(6,true,.mp 18),(8,true,.fn (.func 211) [] [.ptr 7 0]),(66,true,.int .i64 d.wF.length),(67,true,.int .i64 v.i)],v.H,n⟩) (IRl d cs vc vr n) (λv=>d.wF.length-v.i)
  ⟨0,[],H⟩ rfl ⟨sk _,rfl,hf,hm,hvc,hvr,by rw[vI];cases Ar (Bh d) d.wF<;>rfl⟩ ?_
 rintro⟨i,dn,H1⟩ hI;have hi:=hI.hi;have ww:=hI.ln;have l9:=hI.fr;have xb:=hI.nm;have xm:=hI.lc;have wv:=hI.lv;have heq:=hI.eq;clear hI hf hm hvc hvr;simp only at hi ww l9 xb xm wv heq;by_cases e9:i<d.wF.length;case neg=>
  obtain rfl:i=d.wF.length:=zo
  rw[t5]at heq wv;rw[sR]at wv;have hr:=hbase _ heq;simp only[Ar,td,sR]at hr;simp only[eZ,seval,Ag e9,xb.h0,DN,xb.h1,xb.h2];refine VS (xs:=DN d vc vr) (y:=.int .i64 0) ?_ rfl ?_ ?_
  ·simp only[AT];rfl
  ·simp only[AT];rfl
  unfold RR;rw[hr];have to:∀a b c x,vc≠ .ref 1 a b c x/\vc≠ .ref 2 a b c x/\vr≠ .ref 1 a b c x/\vr≠ .ref 2 a b c x:=by
   intro a b c x;refine⟨?_,?_,?_,?_⟩<;>rintro rfl
   ·exact xm.no (by rw[xb.h1];simp)
   ·exact xm.no (by rw[xb.h2];simp)
   ·exact wv.no (by rw[xb.h1];simp)
   ·exact wv.no (by rw[xb.h2];simp)
  exact⟨vc,vr,rfl,(xm.set λa b c x=>(to a b c x).1).set λa b c x=>(to a b c x).2.1,(wv.set λa b c x=>(to a b c x).2.2.1).set λa b c x=>(to a b c x).2.2.2,hdj⟩
 have hrx:=(hd.rus _ (sC e9));rw[sO e9]at heq wv;rw[ES]at heq;generalize d.wF[i]=r at heq wv hrx;have wm:((dn++r::d.wF.drop (i+1)).map Bt).length=d.wF.length:=by simp;omega
 rcases wv with⟨h0,-⟩|⟨-,id,cap,rest,hvr,ho,hcr⟩
 ·simp at h0
 rw[wm]at hvr hcr;subst hvr;have e:=AK (k:=i) zo;have s5:id<n:=l9.lt ho;have s8:=xb.ne ho;have h0:=xb.h0;have yp:((dn++r::d.wF.drop (i+1)).map Bt++rest)[i]?=some (Bt r):=by
  rw[su,te,tR (by simp;omega)];simp [ww]
 have xo:i<((dn++r::d.wF.drop (i+1)).map Bt++rest).length:=by rw[sH,wm];omega
 have hse:∀r':zj,((dn++r::d.wF.drop (i+1)).map Bt++rest).set i (Bt r')=((dn++[r'])++d.wF.drop (i+1)).map Bt++rest:=λr'=>by
  rw[su,te,List.set_append_right _ _ (by simp;omega)];simp [ww]
 generalize hA:(dn++r::d.wF.drop (i+1)).map Bt++rest=A at ho yp xo hse;have xu:∀x,(i<(A.set i x).length)=True:=λx=>r9 (by rw[tz];exact xo)
 have hgs:∀x,(A.set i x)[i]?=some x:=λx=>List.getElem?_set_self xo
 have yg:∀x y,(A.set i x).set i y=A.set i y:=λx y=>List.set_set ..
 have z0':(id=0)=False:=sb s8.1;have z5':(id=5)=False:=sb s8.2.2.2.1;have z7':(id=7)=False:=sb s8.2.2.2.2.1;have z12':(id=12)=False:=sb s8.2.2.2.2.2.1;have z18':(id=18)=False:=sb s8.2.2.2.2.2.2;have h7:=xb.h7;have h5:=xb.h5;have am:Bh d r=none->CL d= .error 160:=λq=>by
  rw[q]at heq;exact hbase _ heq
 have wg:∀ob,NM d vc (.ref id 12 0 d.wF.length cap) (wB H1 id ob):=λob=>xb.set s8
 have hvn:∀a b c x,vc≠ .ref id a b c x:=λa b c x q=>hdj _ _ _ _ _ _ _ _ _ _ q rfl rfl
 have fin:∀(F a b c:Int),Bh d r=some {r with xX:=F,set:=a,wU:=b,wP:=c}->dw (λv:VRl=>⟨[(1,true,.ptr 0 0),(2,true,.ptr 1 0),(3,true,.ptr 2 0),(5,true,.mp 12),(6,true,.mp 18),(8,true,.fn (.func 211) [] [.ptr 7 0]),(66,true,.int .i64 d.wF.length),(67,true,.int .i64 v.i)],v.H,n⟩) (IRl d cs vc (.ref id 12 0 d.wF.length cap) n) (λv=>d.wF.length-v.i) ⟨i,dn,H1⟩
   ⟨[(1,true,.ptr 0 0),(2,true,.ptr 1 0),(3,true,.ptr 2 0),(5,true,.mp 12),(6,true,.mp 18),(8,true,.fn (.func 211) [] [.ptr 7 0]),(66,true,.int .i64 d.wF.length),(67,true,.int .i64 ((i+1:Nat):Int))],wB H1 id (.arr 12 (A.set i (.agg [.str r.nm,.str r.on,.int .i64 r.kind,.int .i64 F,FN r.ns,FN r.os,.int .i64 a,.int .i64 b,.int .i64 r.op,.int .i64 r.n,.str r.yI,.int .i64 c]))),n⟩:=λF a b c hrr=>by
  rw[hrr]at heq;have hse2:=hse {r with xX:=F,set:=a,wU:=b,wP:=c};refine .mk ⟨i+1,dn++[{r with xX:=F,set:=a,wU:=b,wP:=c}],wB H1 id (.arr 12 (A.set i (Bt {r with xX:=F,set:=a,wU:=b,wP:=c})))⟩ rfl ⟨e9,by simp [ww],l9.wB (sj _) s5,wg _,xm.set hvn,.inr ⟨zw,id,cap,rest,?_,?_,?_⟩,?_⟩ zp
  ·simp only[ry,sH,sM,tI,ue,ww];congr 1;omega
  ·simp only[];rw[AC,hse2]
  ·simp only[ry,sH,sM,tI,ue,ww];omega
  ·simp only[];rw[heq];cases Ar (Bh d) (d.wF.drop (i+1))<;>simp
 by_cases hon:r.on=[]
 ·have hb:scmp .neq r.on []=false:=by rw[A6,hon];rfl
  simp only[eZ,eX,seval,sw,sm,sr,Rj,Pg,G8,AN e9,h0,DN,ho,yp,r9 xo,ER,r9 s5,xu,hgs,yg,Bt,B3,kh,VT,AW,hb];refine(VR (by rw[ry];omega) hrx.1 (wg _).h7 (wg _).h5).mono λo H' n' hq=>?_
  obtain⟨rfl,rfl,hq⟩:=hq;cases wr:Cu (d.wE.map λx:xk=>x.nm) r.ns with
  |none=>
   rw[wr]at hq;subst hq;simp only[eE,eN,FX];exact Dv (wg _).h1 rfl (wg _).h2 (am (by unfold Bh;rw[sn hon,wr]))
  |some a=>
   rw[wr]at hq;subst hq;simp only[eE,eC,eX,seval,FX];refine(VR (by rw[ry];omega) hrx.2 (wg _).h7 (wg _).h5).mono λo H' n' hq=>?_
   obtain⟨rfl,rfl,hq⟩:=hq;cases yc:Cu (d.wE.map λx:xk=>x.nm) r.os with
   |none=>
    rw[yc]at hq;subst hq;simp only[eE,eN,FX];exact Dv (wg _).h1 rfl (wg _).h2 (am (by unfold Bh;rw[sn hon,wr,yc]))
   |some b=>
    rw[yc]at hq;subst hq;by_cases hby:r.yI=[]
    ·have my:scmp .neq r.yI []=false:=by rw[A6,hby];rfl
     simp only[eZ,eX,seval,sw,FX,my,LR,xu,hgs,yg,d8,d9,AW,e];exact fin 0 a b (-1) (by unfold Bh;rw[sn hon,wr,yc,sn hby])
    ·have my:scmp .neq r.yI []=true:=by rw[A6,A5 hby];rfl
     simp only[eZ,eX,seval,sw,FX,my,LR,xu,hgs,yg,d8,d9,AW];refine(Mt (wg _).h18).mono λo H' n' hq=>?_
     obtain⟨rfl,rfl,hq⟩:=hq;cases xn:Bb (d.wG.map λx:x8=>x.nm) r.yI with
     |none=>
      rw[xn]at hq;subst hq;simp only[eE,eN,BL];exact Dv (wg _).h1 rfl (wg _).h2 (am (by unfold Bh;rw[sn hon,wr,yc,sg hby,xn]))
     |some c=>
      rw[xn]at hq;subst hq;simp only[eE,eN,seval,sw,BL,xu,hgs,yg,VT,AW,e];exact fin 0 a b c (by unfold Bh;rw[sn hon,wr,yc,sg hby,xn])
 ·have hb:scmp .neq r.on []=true:=by rw[A6,A5 hon];rfl
  simp only[eZ,seval,sw,sm,sr,AN e9,h0,DN,ho,yp,r9 xo,xu,hgs,yg,Bt,B3,kh,VT,AW,hb];refine(Mt (wg _).h12).mono λo H' n' hq=>?_
  obtain⟨rfl,rfl,hq⟩:=hq;cases v9:Bb (B0 d) r.on with
  |none=>
   rw[v9]at hq;subst hq;simp only[eE,eN,BL];exact Dv (wg _).h1 rfl (wg _).h2 (am (by unfold Bh;rw[sg hon,v9]))
  |some F=>
   rw[v9]at hq;subst hq;simp only[eE,eN,eX,seval,sw,Rj,Pg,G8,BL,ER,r9 s5,xu,hgs,yg,kh,AW];refine(VR (by rw[ry];omega) hrx.1 (wg _).h7 (wg _).h5).mono λo H' n' hq=>?_
   obtain⟨rfl,rfl,hq⟩:=hq;cases wr:Cu (d.wE.map λx:xk=>x.nm) r.ns with
   |none=>
    rw[wr]at hq;subst hq;simp only[eE,eN,FX];exact Dv (wg _).h1 rfl (wg _).h2 (am (by unfold Bh;rw[sg hon,v9,wr]))
   |some a=>
    rw[wr]at hq;subst hq;simp only[eE,eC,eX,seval,FX];refine(VR (by rw[ry];omega) hrx.2 (wg _).h7 (wg _).h5).mono λo H' n' hq=>?_
    obtain⟨rfl,rfl,hq⟩:=hq;cases yc:Cu (d.wE.map λx:xk=>x.nm) r.os with
    |none=>
     rw[yc]at hq;subst hq;simp only[eE,eN,FX];exact Dv (wg _).h1 rfl (wg _).h2 (am (by unfold Bh;rw[sg hon,v9,wr,yc]))
    |some b=>
     rw[yc]at hq;subst hq;by_cases hby:r.yI=[]
     ·have my:scmp .neq r.yI []=false:=by rw[A6,hby];rfl
      simp only[eZ,eX,seval,sw,FX,my,LR,xu,hgs,yg,d8,d9,AW,e];exact fin F a b (-1) (by unfold Bh;rw[sg hon,v9,wr,yc,sn hby])
     ·have my:scmp .neq r.yI []=true:=by rw[A6,A5 hby];rfl
      simp only[eZ,eX,seval,sw,FX,my,LR,xu,hgs,yg,d8,d9,AW];refine(Mt (wg _).h18).mono λo H' n' hq=>?_
      obtain⟨rfl,rfl,hq⟩:=hq;cases xn:Bb (d.wG.map λx:x8=>x.nm) r.yI with
      |none=>
       rw[xn]at hq;subst hq;simp only[eE,eN,BL];exact Dv (wg _).h1 rfl (wg _).h2 (am (by unfold Bh;rw[sg hon,v9,wr,yc,sg hby,xn]))
      |some c=>
       rw[xn]at hq;subst hq;simp only[eE,eN,seval,sw,BL,xu,hgs,yg,VT,AW,e];exact fin F a b c (by unfold Bh;rw[sg hon,v9,wr,yc,sg hby,xn])
end
structure VCl where
 i:Nat
 dn:List x8
 H:AB
structure ICl(d:xj)(vc:Fs)(n:Nat)(v:VCl):Prop where
 hi:v.i<=d.wG.length
 ln:v.dn.length=v.i
 fr:AO v.H n
 nm:NM d vc (DZ d.wF) v.H
 lv:LV 6 vc v.H ((v.dn++d.wG.drop v.i).map Cb)
 eq:Ar (CK d) d.wG=(Ar (CK d) (d.wG.drop v.i)).map λr=>v.dn++r
def apS2{a b c d e f v:Fs}(h:v.cells=[v]):Di (.agg [a,b,c,d,e,f]) 2 1 6 v=(True,.agg [a,b,v,d,e,f]):=by
 rw[G6 zd];simp [wZ,h]
theorem Yr(d:xj)(hd:zy d)(xe:¬16<d.wE.length)(me:Ap (d.wE.map λx:xk=>x.nm)=false)(wp:Ap (B0 d)=false)(yj:Ap (d.wG.map λx:x8=>x.nm)=false)
  {vc:Fs} {H:AB} {n:Nat} {ml:Int} (hml:ml=(d.wG.length:Int)) (hn:21<=n) (hf:AO H n) (hm:NM d vc (DZ d.wF) H) (hv:LV 6 vc H (d.wG.map Cb)):
  Gw prog Tnr (Tl (d7 (Mv 5 Ow))) [.c (Tl (Mv 5 Ow))] (QR d) ⟨[(1,true,.ptr 0 0),(2,true,.ptr 1 0),(3,true,.ptr 2 0),(4,true,.ptr 7 0),(5,true,.mp 12),(6,true,.mp 18),(37,true,.int .i64 ml),(38,true,.int .i64 0)],H,n⟩:=by
 subst hml;have wi:d.wG.length<1000000000:=hd.cl;simp only[eE,Mv,Tl,d7,Ow];refine AQ (λv:VCl=>⟨[(1,true,.ptr 0 0),(2,true,.ptr 1 0),(3,true,.ptr 2 0),(4,true,.ptr 7 0),(5,true,.mp 12),(6,true,.mp 18),(37,true,.int .i64 d.wG.length),(38,true,.int .i64 v.i)],v.H,n⟩) (ICl d vc n) (λv=>d.wG.length-v.i)
  ⟨0,[],H⟩ rfl ⟨sk _,rfl,hf,hm,hv,by rw[vI];cases Ar (CK d) d.wG<;>rfl⟩ ?_
 rintro⟨i,dn,H1⟩ hI;have hi:=hI.hi;have ww:=hI.ln;have l9:=hI.fr;have xb:=hI.nm;have wv:=hI.lv;have heq:=hI.eq;simp only at hi ww l9 xb wv heq;by_cases e9:i<d.wG.length
 ·rw[sO e9]at heq wv;rw[ES]at heq;generalize d.wG[i]=c at heq wv;have wm:((dn++c::d.wG.drop (i+1)).map Cb).length=d.wG.length:=by simp;omega
  rcases wv with⟨h0,-⟩|⟨-,id,cap,rest,hvc,ho,hcr⟩
  ·simp at h0
  rw[wm]at hvc hcr;subst hvc;have e:=AK (k:=i) zo;have s5:id<n:=l9.lt ho;have h0:=xb.h0;have yp:((dn++c::d.wG.drop (i+1)).map Cb++rest)[i]?=some (.agg [.str c.nm,.str c.on,.int .i64 c.xX,.int .i64 c.ty,.int .i64 c.lo,.int .i64 c.hi]):=by
   rw[su,te,tR (by simp;omega)];simp [ww]
  have xo:(i<((dn++c::d.wG.drop (i+1)).map Cb++rest).length)=True:=r9 (by rw[sH,wm];omega);have hse:∀c':x8,((dn++c::d.wG.drop (i+1)).map Cb++rest).set i (Cb c')=((dn++[c'])++d.wG.drop (i+1)).map Cb++rest:=λc'=>by
   rw[su,te,List.set_append_right _ _ (by simp;omega)];simp [ww]
  have s8:=xb.ne ho;generalize hA:(dn++c::d.wG.drop (i+1)).map Cb++rest=A at ho yp xo hse;simp only[eZ,eX,seval,sw,sm,sr,Rj,Pg,G8,AN e9,h0,DN,ho,yp,xo,ER,r9 s5];refine(Mt xb.h12).mono λo H' n' hq=>?_
  obtain⟨rfl,rfl,hq⟩:=hq;cases v9:Bb (B0 d) c.on with
  |none=>
   rw[v9]at hq;subst hq;have hrc:CK d c=none:=by unfold CK;rw[v9];rfl
   rw[hrc]at heq;have hr:CL d= .error 160:=by unfold CL;rw[sg xe,me,wp,yj,heq];rfl
   simp only[eE,eN,FX];exact Dv xb.h1 rfl xb.h2 hr
  |some k=>
   rw[v9]at hq;subst hq;have hrc:CK d c=some {c with xX:=k}:=by unfold CK;rw[v9];rfl
   rw[hrc]at heq;have yc:=hse {c with xX:=k};simp only[eZ,eX,seval,sw,sm,sr,FX,LR,ho,yp,xo,apS2 (v:=.int .i64 k) rfl,e];refine⟨zo,.mk ⟨i+1,dn++[{c with xX:=k}],wB H' id (.arr 6 (A.set i (Cb {c with xX:=k})))⟩ rfl ⟨e9,by simp [ww],l9.wB (sj _) s5,xb.set s8,.inr ⟨zw,id,cap,rest,?_,?_,?_⟩,?_⟩ zp⟩
   ·simp only[ry,sH,sM,tI,ue,ww];congr 1;omega
   ·simp only[];rw[AC,yc]
   ·simp only[ry,sH,sM,tI,ue,ww];omega
   ·simp only[];rw[heq];cases Ar (CK d) (d.wG.drop (i+1))<;>simp
 obtain rfl:i=d.wG.length:=zo
 rw[t5]at heq wv;rw[sR]at wv;have xl:Ar (CK d) d.wG=some dn:=by rw[heq];simp [Ar]
 have h0:=xb.h0;have y0:∀k,(n+k=0)=False:=λk=>sb zo
 simp only[eZ,seval,xE,Ag e9,h0,DN,Bq l9];refine(Yn (pre:=[]) hd.ru zd rfl (AC ..) rfl).mono λo H' n' hq=>?_
 unfold DA at hq;rw[sI]at hq;have wg:∀a b,NM d vc (DZ d.wF) (wB (wB H1 (n+2) a) (n+2) b):=λa b=>(xb.set (QO zo)).set (QO zo)
 cases ht4:Ap (d.wF.map λx:zj=>x.nm)with
 |true=>
  rw[ht4,sn rfl]at hq;obtain⟨rfl,rfl,rfl⟩:=hq;have hr:CL d= .error 161:=by
   unfold CL;rw[sg xe,me,wp,yj,xl];simp only[sN,sY];rw[ht4];rfl
  simp only[eE,eN,BL];exact Dv (wg _ _).h1 rfl (wg _ _).h2 hr
 |false=>
 rw[ht4,sg zd]at hq;obtain⟨rfl,rfl,rfl⟩:=hq;have hH:=wg (Iu []) (Iu (d.wF.map λx:zj=>x.nm));have xm:LV 6 vc (wB (wB H1 (n+2) (Iu [])) (n+2) (Iu (d.wF.map λx:zj=>x.nm))) (dn.map Cb):=by
  have hv2:∀a b c x,vc≠ .ref (n+2) a b c x:=by
   rintro a b c x rfl;exact wv.no (by rw[l9 _ zo];simp)
  exact(wv.set hv2).set hv2
 have wn:AO (wB (wB H1 (n+2) (Iu [])) (n+2) (Iu (d.wF.map λx:zj=>x.nm))) (n+4):=(l9.wB (m:=n+4) zo zo).wB (sj _) zo;generalize wB (wB H1 (n+2) (Iu [])) (n+2) (Iu (d.wF.map λx:zj=>x.nm))=H2 at hH xm wn;have h02:=hH.h0;simp only[eE,eN,seval,BL,h02,DN];refine(iu d.wF hd.ru).mono λo H' n' hq=>?_
 rcases hq with⟨wj,rfl,hn',t,rfl,l7⟩|⟨wj,rfl,cap,rest,rfl,rfl,hcr⟩
 ·have hrl:d.wF.length=0:=by have:=congrArg List.length wj;simpa using this
  simp only[eE,seval,BL,h02,DN];rw[GK];simp only[eE,seval];rw[GK];simp only[eE,seval,c0];rw[GK];have ym:∀a b c x,vc≠ .ref 0 a b c x:=by
   rintro a b c x rfl;exact xm.no (by rw[h02];simp)
  have:=Yq d hd xe me wp yj xl ht4 (vr:=.sl t []) (wn.wB (id:=0) (m:=n') zo zo) hH.put (xm.set ym) (.inl ⟨wj,t,rfl,l7⟩) (λi a b c e j f g h k _ q=>by cases q);rw[hrl]at this;exact this
 ·have y4:∀k,(n+4+k=0)=False:=λk=>sb zo
  simp only[eE,seval,BL,h02,DN,y0];rw[GK];simp only[eE,seval];rw[GK];simp only[eE,seval,ry];rw[GK];have ym:∀a b c x,vc≠ .ref 0 a b c x:=by
   rintro a b c x rfl;exact xm.no (by rw[h02];simp)
  have hc6:∀a b c x,vc≠ .ref (n+6) a b c x:=by
   rintro a b c x rfl;exact xm.no (by rw[wn _ zo];simp)
  refine Yq d hd xe me wp yj xl ht4 (vr:=.ref (n+6) 12 0 d.wF.length cap) (((wn.wB (m:=n+8) zo zo).wB (sj _) zo)) (hH.set (QO zo)).put ((xm.set hc6).set ym) (.inr ⟨wj,n+6,cap,rest,by rw[ry],?_,hcr⟩) (λi a b c e j f g h k q1 q2=>?_)
  ·rw[AA _ _ _ _ zo];exact AC ..
  ·cases q2;rintro rfl;exact hc6 _ _ _ _ q1
def W5(d:xj)(hd:zy d):AX prog 153 [B6 d] Ak 0 (RR d):=by
 refine a153 (AI Yp (AJ ?_));simp only[eE,eN,seval,U1,Ja,TA,Af,B6];refine⟨_,_,rfl,AI Yp (AJ ?_)⟩;generalize hE:List.filter (λ(e:Nat×Bool×Fs)=>Nat.blt e.1 4) _=E;have hE':E=envR:=by rw[<-hE];rfl
 subst hE';clear hE;rw[sI];by_cases xe:16<d.wE.length
 ·have hr:CL d= .error 2:=by unfold CL;rw[sn xe]
  simp only[eZ,seval,ry,Ow,r9 (show(16:Int)<(d.wE.length:Int)by omega),AL];refine VS (xs:=JB) rfl rfl rfl ?_;unfold RR;rw[hr];exact⟨_,rfl,Wk.wJ (.cons (Wk.agg (.cons (Wk.refl _) (.cons (Wk.refl _) (.cons (Wk.refl _) (.cons (Wk.refl _) (.cons (Wk.refl _) (.cons (Wk.sl (.inr rfl)) (.cons (Wk.sl (.inr rfl)) (.cons (Wk.sl (.inr rfl)) (.cons (Wk.sl (.inr rfl)) (.cons (Wk.sl (.inr rfl)) .nil))))))))))) (.cons (Wk.refl _) .nil))⟩
 simp only[eZ,seval,xE,ry,Ow,sb (show ¬(16:Int)<(d.wE.length:Int)by omega),AL];refine(Yk (pre:=[]) hd.sy zd rfl rfl rfl).mono λo H' n' hq=>?_
 unfold DA at hq;rw[sI]at hq;cases me:Ap (d.wE.map λx:xk=>x.nm)with
 |true=>
  rw[me,sn rfl]at hq;obtain⟨rfl,rfl,rfl⟩:=hq;have hr:CL d= .error 161:=by unfold CL;rw[sg xe,me];rfl
  simp only[eE,eN,BL];exact Dv (xs:=JB) rfl rfl rfl hr
 |false=>
 rw[me,sg zd]at hq;obtain⟨rfl,rfl,rfl⟩:=hq;simp only[eZ,eX,seval,xE,BL,Tnr,ER,AF];refine⟨⟨zt,CR 0 _⟩,(d6 (pre:=[]) zd zd rfl rfl rfl).mono λo H' n' hq=>?_⟩;unfold DA at hq;rw[sI,show Ap (CZ.map λx:Bs=>x)=false by decide,sg zd]at hq;obtain⟨rfl,rfl,rfl⟩:=hq;simp only[eE,eX,seval,FX];refine(Yl (pre:=CZ) hd.rg zd rfl rfl zd).mono λo H' n' hq=>?_
 unfold DA at hq;cases wp:Ap (B0 d)with
 |true=>
  rw[show CZ++d.wK.map (λx:xz=>x.nm)=B0 d from rfl,wp,sn rfl]at hq;obtain⟨rfl,rfl,rfl⟩:=hq;have hr:CL d= .error 161:=by unfold CL;rw[sg xe,me,wp];rfl
  simp only[eE,eN,FX];exact Dv (xs:=JB) rfl rfl rfl hr
 |false=>
 rw[show CZ++d.wK.map (λx:xz=>x.nm)=B0 d from rfl,wp,sg zd]at hq;obtain⟨rfl,rfl,rfl⟩:=hq;simp only[eE,eN,eX,seval,xE,FX];refine(Ym (pre:=[]) hd.cl zd rfl rfl rfl).mono λo H' n' hq=>?_
 unfold DA at hq;rw[sI]at hq;cases yj:Ap (d.wG.map λx:x8=>x.nm)with
 |true=>
  rw[yj,sn rfl]at hq;obtain⟨rfl,rfl,rfl⟩:=hq;have hr:CL d= .error 161:=by unfold CL;rw[sg xe,me,wp,yj];rfl
  simp only[eE,eN,BL];exact Dv (xs:=JB) rfl rfl rfl hr
 |false=>
 rw[yj,sg zd]at hq;obtain⟨rfl,rfl,rfl⟩:=hq;simp only[eE,eN,seval,BL];refine(ir d.wG hd.cl).mono λo H' n' hq=>?_
 rcases hq with⟨h0,rfl,hn,t,rfl,l7⟩|⟨h0,rfl,cap,rest,rfl,rfl,hcr⟩
 ·have wi:d.wG.length=0:=by have:=congrArg List.length h0;simpa using this
  simp only[eE,seval,BL];rw[GK];simp only[eE,seval,c0];rw[GK];refine Yr d hd xe me wp yj (vc:=.sl t []) (by rw[wi];rfl) hn (λid s5=>?_) (NM.mk (d:=d) (vr:=DZ d.wF) rfl rfl rfl rfl rfl rfl rfl) (.inl ⟨h0,t,rfl,l7⟩);simp only[AT];repeat rw[sg zo]
  rfl
 ·simp only[eE,seval,BL];rw[GK];simp only[eE,seval,ry];rw[GK];refine Yr d hd xe me wp yj (vc:=.ref 23 6 0 d.wG.length cap) rfl zo (λid s5=>?_) (NM.mk (d:=d) (vr:=DZ d.wF) rfl rfl rfl rfl rfl rfl rfl) (.inr ⟨h0,23,cap,rest,by rw[ry],rfl,hcr⟩);simp only[AT];repeat rw[sg zo]
  rfl
def RS(d:xj):xw->AB->Nat->Prop:=λo H' n'=>match CL d with
 | .error e=>∃v,o= .ret v/\Wk v (.wJ [B6 KW,.int .i64 e])
 | .ok x=>∃vc vr,o= .ret (.wJ [.agg (DN d vc vr),.int .i64 0])/\LF 6 vc H' (x.wG.map Cb)/\LV 12 vr H' (x.wF.map Bt)
def RT(d:xj):xw->AB->Nat->Prop:=λo H' n'=>match CL d with
 | .error e=>∃v,o= .ret v/\Wk v (.wJ [B6 KW,.int .i64 e])
 | .ok x=>∃vc vr,o= .ret (.wJ [.agg (DN d vc vr),.int .i64 0])/\LF 6 vc H' (x.wG.map Cb)/\LF 12 vr H' (x.wF.map Bt)
def p153(d:xj)(hd:zy d):Av prog 153 [B6 d] (Cd d):=by
 refine .mk ⟨At 0 d,zt⟩ (by unfold Cd;split<;>exact⟨At 0 _,zt,zt⟩) ?_;refine AX.out (R:=RT d) (AX.seal (R:=RS d) (AX.seal (R:=RR d) (W5 d hd) ?_) ?_) ?_
 ·intro o H' n' h;unfold RR at h;unfold RS;split at h
  ·rename_i e he;try rw[he]
   exact .inl h
  ·rename_i x hx;try rw[hx]
   obtain⟨vc,vr,rfl,h1,h2,h3⟩:=h;rcases h1 with h1|⟨h0,id,cap,rest,rfl,ho,hc⟩
   ·exact .inl ⟨vc,vr,rfl,.inl h1,h2⟩
   ·refine .inr ⟨id,_,_,ho,_,vr,rfl,.inr ⟨h0,id,cap,rest,rfl,AC ..,hc⟩,h2.set λa b c x=>?_⟩;rintro rfl;exact h3 _ _ _ _ _ _ _ _ _ _ rfl rfl rfl
 ·intro o H' n' h;unfold RS at h;unfold RT;split at h
  ·rename_i e he;try rw[he]
   exact .inl h
  ·rename_i x hx;try rw[hx]
   obtain⟨vc,vr,rfl,h1,h2⟩:=h;rcases h2 with h2|⟨h0,id,cap,rest,rfl,ho,hc⟩
   ·exact .inl ⟨vc,vr,rfl,h1,.inl h2⟩
   ·refine .inr ⟨id,_,_,ho,vc,_,rfl,?_,.inr ⟨h0,id,cap,rest,rfl,AC ..,hc⟩⟩;rcases h1 with h1|⟨q0,i2,c2,r2,rfl,o2,hc2⟩
    ·exact .inl h1
    ·refine .inr ⟨q0,i2,c2,r2,rfl,?_,hc2⟩;rw[AA _ _ _ _ (by rintro rfl;rw[ho]at o2;cases o2)];exact o2
 ·intro o H' n' h;unfold RT at h;unfold Cd;split at h
  ·rename_i e he;try rw[he]
   obtain⟨v,rfl,hw⟩:=h;exact⟨.ret v,⟨v,rfl,hw⟩,λg w e _ q=>q⟩
  ·rename_i x hx;try rw[hx]
   obtain⟨vc,vr,rfl,h1,h2⟩:=h;refine⟨.ret (.wJ [B6 x,.int .i64 0]),⟨_,rfl,Wk.refl _⟩,λg w e hR q=>?_⟩;obtain⟨e1,e2,e3,e4,e5,e6,e7,e8⟩:=TL hx;cases e with
   |panicked c=>exact q.elim
   |outgrown=>exact q.elim
   |returned y=>
    obtain⟨vs,rfl,y1,r1,q1,q2,q3⟩:=q;refine⟨vs,rfl,y1,r1,q1,?_,q3⟩;obtain⟨us,rfl,p1,p2⟩:=q2;refine⟨us,rfl,?_,p2⟩;obtain⟨a1,b1,f1,g1,a2,b2,f2,g2,a3,b3,f3,g3,a4,b4,f4,g4,a5,b5,f5,g5,a6,b6,f6,g6,a7,b7,f7,g7,a8,b8,f8,g8,a9,b9,f9,g9,iO,b10,f10,g10,g11⟩:=p1;rw[<-e1]at g1;rw[<-e2]at g2;rw[<-e3]at g3;rw[<-e4]at g4;rw[<-e5]at g5;rw[<-e6]at g6;rw[<-e7]at g7;rw[<-e8]at g8;exact⟨a1,b1,f1,g1,a2,b2,f2,g2,a3,b3,f3,g3,a4,b4,f4,g4,a5,b5,f5,g5,a6,b6,f6,g6,a7,b7,f7,g7,a8,b8,f8,g8,a9,b9,f9,LQ h1 hR g9,iO,b10,f10,LQ h2 hR g10,g11⟩
abbrev MQ(f:FormD):Fs:=.agg [.bool f.on,.bool f.set,.bool f.wU,.bool f.wT,.bool f.num,.bool f.rdb,.bool f.knw,.int .i64 f.wP]
def O2{k:Int}(h:k<0\/14<=k):DJ k={}:=by
 unfold DJ;repeat rw[sg zo]
def p259(k:Int):Av prog 259 [.int .i64 k] (MQ (DJ k)):=by
 refine .mk ⟨zt,zt⟩ ⟨zt,zt,zt,zt,zt,zt,zt,zt,zt⟩ (pj.a (AI AH.wD (AJ ?_)));by_cases hk:k<0\/14<=k
 ·have hb:(decide (k<0)||decide (14<=k))=true:=by simpa using hk
  rw[O2 hk];simp only[eZ,seval,BO,pj,hb];exact Wk.refl _
 ·have hb:(decide (k<0)||decide (14<=k))=false:=by simp;omega
  simp only[eZ,seval,BO,pj,hb];have so:k=0\/k=1\/k=2\/k=3\/k=4\/k=5\/k=6\/k=7\/k=8\/k=9\/k=10\/k=11\/k=12\/k=13:=zo
  rcases so with rfl|rfl|rfl|rfl|rfl|rfl|rfl|rfl|rfl|rfl|rfl|rfl|rfl|rfl<;>exact⟨zd,zd,rfl,rfl,Wk.refl _⟩
def p244(c:x8):Av prog 244 [Cb c] (.bool (Ds c)):=by
 refine .mk ⟨Gk 0 c,zt⟩ zt (cB.a (AI AH.wD (AJ ?_)));unfold Ds;by_cases h1:c.ty=1
 ·simp only[eZ,seval,cB,h1]
 by_cases h2:c.ty=2
 ·simp only[eZ,seval,cB,h2]
 by_cases h3:c.ty=3
 ·simp only[eZ,seval,cB,h3]
 simp only[eZ,seval,cB,h1,h2,h3]
def p213(b:Bool)(e:Int):Av prog 213 [.bool b,.int .i64 e] (.int .i64 (if b=true then 0 else e)):=by
 refine .mk ⟨zt,zt,zt⟩ zt (c213.a (AI AH.wD (AJ ?_)));cases b<;>simp only[eZ,seval,c213]
def Ys:Bg:=AF 259 (s1 dI KS λk=>MQ (DJ k)) wD
def Yt:AH prog Ys:=AH.wD.add (q1 λk _=>p259 k)
def eA(k:Int):(DJ k).rdb=(decide (1<=k)&&decide (k<=11)):=by
 by_cases hk:k<0\/14<=k
 ·rw[O2 hk];symm;simp;omega
 ·have so:k=0\/k=1\/k=2\/k=3\/k=4\/k=5\/k=6\/k=7\/k=8\/k=9\/k=10\/k=11\/k=12\/k=13:=zo
  rcases so with rfl|rfl|rfl|rfl|rfl|rfl|rfl|rfl|rfl|rfl|rfl|rfl|rfl|rfl<;>rfl
def p245(r:zj):Av prog 245 [Bt r] (.bool (Id r)):=by
 refine .mk ⟨BP 0 r,zt⟩ zt (c245.a (AI Yt (AJ ?_)));simp only[eE,eN,seval,c245,Ys,s1,Ay,An,MQ,AF];exact eA r.kind
abbrev ki(r:zj)(on set wU:Bool):Bool:=on !=scmp .neq r.on []||set != !decide (r.set=0)||wU != !decide (r.wU=0)|| !on&& !decide (r.xX=0)|| !set&&decide ((0:Int)<(r.ns.length:Int))|| !wU&&decide ((0:Int)<(r.os.length:Int))
abbrev kj(r:zj)(wT:Bool):Bool:=wT !=(decide (1<=r.op)&&decide (r.op<=3))|| !wT&& !decide (r.op=0)||decide (r.n<0)||decide (65536<r.n)
abbrev ko(r:zj)(wT num:Bool):Bool:=!(num||wT&&scmp .eql r.yI [])&& !decide (r.n=0)
def Yu{cl:List x8}{r:zj}{on set wU wT num rdb:Bool}{wP:Int}(hf:DJ r.kind=⟨on,set,wU,wT,num,rdb,true,wP⟩):
  FZ cl r=if ki r on set wU=true then false else if kj r wT=true then false else if ko r wT num=true then false else
   if(if(wT&&scmp .neq r.yI [])=true then 2 else wP)=0 then decide (r.yI=[])&&decide (r.wP= -1)else MZ cl r (if(wT&&scmp .neq r.yI [])=true then 2 else wP):=by
 unfold FZ;rw[hf];have e1:∀(l:List Bs),decide ((0:Int)<(l.length:Int))=decide (0<l.length):=λl=>by
  rw[sP,si,si];omega
 simp only[ki,kj,ko,A6,BR,e1,ne_eq,decide_not,vW,sY];rfl
def p243(d:xj)(r:zj):Av prog 243 [B6 d,Bt r] (.bool (FZ d.wG r)):=by
 refine .mk ⟨At 0 d,BP 0 r,zt⟩ zt (Ox.a (AI Yt (AJ ?_)));cases hf:(DJ r.kind)with
 |mk on set wU wT num rdb knw wP=>
 cases knw with
 |false=>
  have hR:FZ d.wG r=false:=by unfold FZ;rw[hf];rfl
  rw[hR];simp only[eZ,seval,se,Ox,Ys,s1,Ay,An,hf,MQ,AF]
 |true=>
 rw[Yu hf];cases h1:ki r on set wU with
 |true=>
  rw[sn rfl];simp only[eZ,seval,sa,ry,Ox,Ys,s1,Ay,An,hf,MQ,h1,AF]
 |false=>
 rw[sg zd];cases h2:kj r wT with
 |true=>
  rw[sn rfl];simp only[eZ,seval,sa,ry,Ox,Ys,s1,Ay,An,hf,MQ,h1,h2,AF]
 |false=>
 rw[sg zd];cases h3:ko r wT num with
 |true=>
  rw[sn rfl];simp only[eZ,seval,sa,ry,Ox,Ys,s1,Ay,An,hf,MQ,h1,h2,h3,AF]
 |false=>
 rw[sg zd];cases h4:(wT&&scmp .neq r.yI [])with
 |true=>
  simp only[tD];rw[sg zd];by_cases hc:r.wP<0\/(d.wG.length:Int)<=r.wP
  ·have wo:(decide (r.wP<0)||decide ((d.wG.length:Int)<=r.wP))=true:=by simpa using hc
   have hP:MZ d.wG r 2=false:=by unfold MZ;rw[sn hc]
   rw[hP];simp only[eZ,seval,sa,ry,Ox,Ys,s1,Ay,An,hf,MQ,h1,h2,h3,h4,wo,AF]
  ·have wo:(decide (r.wP<0)||decide ((d.wG.length:Int)<=r.wP))=false:=by simp;omega
   obtain⟨j,hj⟩:∃j:Nat,r.wP=(j:Int):=⟨r.wP.toNat,zo⟩;have hjl:j<d.wG.length:=zo
   have hg:=rz hjl;generalize d.wG[j]=c at hg;have hP:MZ d.wG r 2=(decide (c.ty=2)&&(decide (2=1)||decide (c.xX=r.xX))):=by
    unfold MZ;(rw[sg hc,hj,sm,hg])<;>rfl
   rw[hP];rw[hj]at wo;simp only[eZ,seval,sa,eY,Ox,Ys,s1,Ay,An,hf,MQ,h1,h2,h3,h4,hj,wo,AN hjl,hg,AF]
 |false=>
  simp only[sN,sY];by_cases h5:wP=0
  ·rw[sn h5];subst h5;simp only[eZ,seval,sa,ry,Ox,Ys,s1,Ay,An,hf,MQ,h1,h2,h3,h4,AF];rw[BR]
  ·rw[sg h5];by_cases hc:r.wP<0\/(d.wG.length:Int)<=r.wP
   ·have wo:(decide (r.wP<0)||decide ((d.wG.length:Int)<=r.wP))=true:=by simpa using hc
    have hP:MZ d.wG r wP=false:=by unfold MZ;rw[sn hc]
    rw[hP];simp only[eZ,seval,sa,ry,Ox,Ys,s1,Ay,An,hf,MQ,h1,h2,h3,h4,A5 h5,wo,AF]
   ·have wo:(decide (r.wP<0)||decide ((d.wG.length:Int)<=r.wP))=false:=by simp;omega
    obtain⟨j,hj⟩:∃j:Nat,r.wP=(j:Int):=⟨r.wP.toNat,zo⟩;have hjl:j<d.wG.length:=zo
    have hg:=rz hjl;generalize d.wG[j]=c at hg;have hP:MZ d.wG r wP=(decide (c.ty=wP)&&(decide (wP=1)||decide (c.xX=r.xX))):=by
     unfold MZ;(rw[sg hc,hj,sm,hg])<;>rfl
    rw[hP];rw[hj]at wo;simp only[eZ,seval,sa,eY,Ox,Ys,s1,Ay,An,hf,MQ,h1,h2,h3,h4,A5 h5,hj,wo,AN hjl,hg,AF]
def Trd:Bg:=AF 245 (s1 Mq KS λr=>.bool (Id r)) wD
def kr:AH prog Trd:=AH.wD.add (q1 λr _=>p245 r)
structure VU where
 i:Nat
 tk:v8
 H:AB
 n:Nat
structure IU(rs:List zj)(v:VU):Prop where
 hi:v.i<=rs.length
 fr:AO v.H v.n
 hn:2<=v.n
 tok:C8 1 1 v.H v.tk
 es:v.tk.esz=1\/B2 (rs.take v.i)=[]
def Mw(rs:List zj):(B2 rs).length<=rs.length:=by
 unfold B2;rw[ry];exact sX (tN ..) zw
def Lg{rs:List zj}{i:Nat}(h:i<rs.length):B2 (rs.take (i+1))=B2 (rs.take i)++(if Id rs[i]=true then[]else[(i:Int)]):=by
 rw[sG,rz h];show B2 (rs.take i++[rs[i]])=_;rw[U6,sU,Nat.min_eq_left zo]
def p222(d:xj)(hr:Aq d.wF):Av prog 222 [B6 d] (Aj (B2 d.wF)):=by
 refine .mk ⟨At 0 d,zt⟩ (AV 0 _) (c222.a (AI kr (AJ ?_)));have hrl:d.wF.length<1000000000:=hr;simp only[eE,eN,seval,ry,c222];refine AQ (λv:VU=>⟨[(2,true,.sl v.tk ((B2 (d.wF.take v.i)).map eI)),(6,true,DZ d.wF),(7,true,.int .i64 d.wF.length),(8,true,.int .i64 v.i)],v.H,v.n⟩) (IU d.wF) (λv=>d.wF.length-v.i)
  ⟨0,.nil,wB Ak 0 (.box (AL d)),2⟩ rfl ⟨sk _,AO.nil.wB (m:=2) (sk 2) (show 0<2 by decide),sj _,.inl rfl,.inr rfl⟩ ?_
 rintro⟨i,tk,H,n⟩ ⟨hi,l9,hn,l7,s7⟩;simp only at hi l9 hn l7 s7;by_cases e9:i<d.wF.length
 ·have hg:=rz e9;have e:=AK (k:=i) zo;have hu:=Lg e9;have hul:=Mw (d.wF.take i);rw[sU]at hul;generalize d.wF[i]=r at hg hu;cases hrr:Id r with
  |true=>
   rw[hrr,sn rfl,sR]at hu;simp only[eZ,seval,sa,eY,AN e9,hg,Bq l9,Trd,s1,CC,Bi,hrr,e,AW,AF];refine .mk ⟨i+1,tk,wB H (n+3) (.box (B3 r)),n+6⟩ ?_ ⟨e9,l9.wB (m:=n+6) zo zo,zp,l7.set (.inr (.inr (l9 _ zo))),by simp only[hu];exact s7⟩ zp;simp only[hu]
  |false=>
   rw[hrr,sg zd]at hu;have gt:C8 1 1 (wB H (n+3) (.box (B3 r))) tk:=l7.set (.inr (.inr (l9 _ zo)));have gf:AO (wB H (n+3) (.box (B3 r))) (n+6):=l9.wB (m:=n+6) zo zo;have q1:BB (wB H (n+3) (.box (B3 r))) 1 tk=True:=r9 gt.app;have q2:((B2 (d.wF.take i)).length<=35184372088831)=True:=r9 zo;have q3:Al ((B2 (d.wF.take i)).length+1) 8=True:=r9 (Ae zo zd);simp only[eZ,seval,se,eY,AN e9,hg,Bq l9,Trd,s1,CC,Bi,hrr,e,AW,q1,q2,q3,AF];refine .mk ⟨i+1,.own (n+9) 1,wB (AU (wB H (n+3) (.box (B3 r))) tk) (n+9) .tok,n+11⟩ ?_ ⟨e9,(Ab gt gf).wB (m:=n+11) zo zo,zp,.inr (.inr ⟨n+9,rfl,zo,AC ..⟩),.inl rfl⟩ zp;simp only[hu,su];rfl
 obtain rfl:i=d.wF.length:=zo
 rw[sD]at s7;simp only[eZ,seval,Ag e9,sD];exact Wk.sl (s7.imp id λq=>by rw[q];rfl)
def rY:Bg:=AF 243 (s2 dD Mq cZ λd r=>.bool (FZ d.wG r)) (AF 244 (s1 dCl KS λc=>.bool (Ds c)) wD)
def ks:AH prog rY:=(AH.wD.add (q1 λc _=>p244 c)).add (q2 λd r _=>p243 d r)
structure VM2 where
 i:Nat
 es:List (Fs×Fs×Nat)
 c:Nat
 H:AB
 n:Nat
structure IM2(d:xj)(id:Nat)(v:VM2):Prop where
 hi:v.i<=d.wF.length
 fr:AO v.H v.n
 hn:id<v.n
 h0:AD v.H 0=some (.box (AL d))
 hm:AD v.H id=some (.map v.es v.c)
 ct:OH (d.wF.take v.i) v.es
 ok:d.wF.all (FZ d.wG)=(d.wF.drop v.i).all (FZ d.wG)
def OH.nil:OH [] []:=⟨zt,λz=>rfl⟩
def p220(d:xj)(hd:zy d):Av prog 220 [B6 d] (.bool (CA d)):=by
 refine .mk ⟨At 0 d,zt⟩ zt (c220.a (AI ks (AJ ?_)));have yk:d.wE.length<1000000000:=hd.sy;have hrl:d.wF.length<1000000000:=hd.ru;have wi:d.wG.length<1000000000:=hd.cl;simp only[eE,eN,seval,ry,c220];refine AQ (λv:VF=>⟨[(1,true,.ptr 0 0),(11,true,He d.wE),(12,true,.int .i64 d.wE.length),(13,true,.int .i64 v.i)],v.H,v.n⟩) (λv=>v.i<=d.wE.length/\AO v.H v.n/\2<=v.n/\AD v.H 0=some (.box (AL d))/\(d.wE.all λs=>decide (0<=s.v)&&decide (s.v<=99))=((d.wE.drop v.i).all λs=>decide (0<=s.v)&&decide (s.v<=99))) (λv=>d.wE.length-v.i)
  ⟨0,wB Ak 0 (.box (AL d)),2⟩ rfl ⟨sk _,AO.nil.wB (m:=2) (sk 2) (show 0<2 by decide),sj _,rfl,rfl⟩ ?_
 rintro⟨i,H,n⟩ ⟨hi,l9,hn,h0,l5⟩;simp only at hi l9 hn h0 l5;by_cases e9:i<d.wE.length
 ·have hg:=rz e9;have e:=AK (k:=i) zo;rw[sO e9,uR]at l5;generalize d.wE[i]=s at hg l5;by_cases hs:0<=s.v/\s.v<=99
  ·have hb:(decide (s.v<0)||decide (99<s.v))=false:=by simp;omega
   simp only[eZ,seval,eY,AN e9,hg,Bq l9,e,AW,hb];refine .mk ⟨i+1,wB H (n+2) (.box [.str s.nm,.int .i64 s.v]),n+4⟩ rfl ⟨e9,l9.wB (m:=n+4) zo zo,zp,by simp only[];rw[AA _ _ _ _ zo];exact h0,?_⟩ zp;simp only[];rw[l5,BU hs.1,BU hs.2];rfl
  ·have hb:(decide (s.v<0)||decide (99<s.v))=true:=by simp;omega
   have hR:CA d=false:=by
    unfold CA;rw[l5,show(decide (0<=s.v)&&decide (s.v<=99))=false by simp;omega];rfl
   rw[hR];simp only[eZ,seval,eY,AN e9,hg,Bq l9,AW,hb]
 obtain rfl:i=d.wE.length:=zo
 rw[t5]at l5;have y0:(n=0)=False:=sb zo;simp only[eZ,seval,xE,ry,Ag e9,h0,OZ l9,y0];refine AQ (λv:VM2=>⟨[(1,true,.ptr 0 0),(5,true,.mp n),(28,true,DZ d.wF),(29,true,.int .i64 d.wF.length),(30,true,.int .i64 v.i)],v.H,v.n⟩) (IM2 d n) (λv=>d.wF.length-v.i)
  ⟨0,[],0,wB H n (.map [] 0),n+2⟩ rfl ⟨sk _,l9.wB (m:=n+2) zo zo,zp,by simp only[];rw[AA _ _ _ _ zo];exact h0,AC ..,OH.nil,rfl⟩ ?_
 rintro⟨k,es,c,H1,n1⟩ hI;have hk:=hI.hi;have ya:=hI.fr;have to:=hI.hn;have wh:=hI.h0;have hm:=hI.hm;have wx:=hI.ct;have s9:=hI.ok;simp only at hk ya to wh hm wx s9;by_cases xh:k<d.wF.length
 ·have hg:=rz xh;have e:=AK (k:=k) zo;have l7:d.wF.take (k+1)=d.wF.take k++[d.wF[k]]:=by rw[sG,rz xh];rfl
  rw[sO xh,uR]at s9;have y1:∀q,(n1+q=n)=False:=λq=>sb zo
  have y2:∀q,(n=n1+q)=False:=λq=>sb zo
  have y3:∀q,(n1+q=0)=False:=λq=>sb zo
  have y4:∀q,(0=n1+q)=False:=λq=>sb zo
  generalize d.wF[k]=r at hg s9 l7;cases hr:FZ d.wG r with
  |false=>
   have hR:CA d=false:=by
    unfold CA;rw[s9,hr];simp
   rw[hR];simp only[eZ,seval,se,eY,AN xh,hg,rY,s2,BT,Ax,CC,Bi,hr,wh,Bq ya,y3,AW,AF]
  |true=>
  rw[hr,tS]at s9;have wi:=dG (d.wF.take k) r.wP;rw[sU]at wi;have ew:=AK (k:=Jg (d.wF.take k) r.wP) zo;have hq:=wx.2 r.wP;simp only[eZ,seval,sa,xE,eY,AN xh,hg,rY,s2,BT,Ax,CC,Bi,hr,wh,Bq ya,y1,y3,AW,hm,wx.1,KT.is,C5,hq,e,ew,AF];refine .mk ⟨k+1,EQ (.int .i64 r.wP) (.int .i64 ((Jg (d.wF.take k) r.wP+1:Nat):Int)) c es,(if(Bm (Fs.int IntKind.i64 r.wP) es).isSome=true then c else c+1),wB (wB H1 (n1+2) (.box (B3 r))) n (.map (EQ (.int .i64 r.wP) (.int .i64 ((Jg (d.wF.take k) r.wP+1:Nat):Int)) c es) (if(Bm (Fs.int IntKind.i64 r.wP) es).isSome=true then c else c+1)),n1+4⟩ rfl
   ⟨xh,(ya.wB (m:=n1+4) zo zo).wB (sj (n1+4)) (show n<n1+4 by omega),zp,?_,AC ..,by simp only[];rw[l7];exact wx.next,s9⟩ zp
  simp only[];rw[AA _ _ _ _ zo,AA _ _ _ _ zo];exact wh
 obtain rfl:k=d.wF.length:=zo
 rw[t5]at s9;rw[sD]at wx;simp only[eZ,seval,ry,Ag xh,wh];refine AQ (λv:VF=>⟨[(5,true,.mp n),(45,true,Eh d.wG),(46,true,.int .i64 d.wG.length),(47,true,.int .i64 v.i)],v.H,v.n⟩) (λv=>v.i<=d.wG.length/\AO v.H v.n/\n<v.n/\AD v.H n=some (.map es c)/\∀j (h:j<d.wG.length),j<v.i->Ef d.wF j=1/\Ds d.wG[j]=true) (λv=>d.wG.length-v.i)
  ⟨0,H1,n1⟩ rfl ⟨sk _,ya,to,hm,λj h q=>absurd q (tH _)⟩ ?_
 rintro⟨j,H2,n2⟩ ⟨hj,yd,yq,yh,wu⟩;simp only at hj yd yq yh wu;by_cases s6:j<d.wG.length
 ·have hg:=rz s6;have e:=AK (k:=j) zo;have y1:∀q,(n2+q=n)=False:=λq=>sb zo
  have y2:∀q,(n=n2+q)=False:=λq=>sb zo
  have hq:=wx.2 (j:Int);rw[TO]at hq;have am:¬(Ef d.wF j=1/\Ds d.wG[j]=true)->CA d=false:=λq=>by
   unfold CA;rw[l5,s9];cases q1:((List.range d.wG.length).all λi=>decide (Ef d.wF i=1))with
   |false=>rfl
   |true=>
   cases q2:d.wG.all Ds with
   |false=>rfl
   |true=>exact absurd ⟨th (sE.1 q1 j (tF.2 s6)),sE.1 q2 _ (sC s6)⟩ q
  have xf:Ef d.wF j=1/\Ds d.wG[j]=true->∀q (h:q<d.wG.length),q<j+1->Ef d.wF q=1/\Ds d.wG[q]=true:=λz q h hq=>by
   by_cases w:q=j
   ·subst w;exact z
   ·exact wu q h zo
  generalize hx:d.wG[j]=x at hg am xf;by_cases hmc:Ef d.wF j=1
  ·have hmb:(((Ef d.wF j:Nat):Int)=1)=True:=r9 zo;cases hc:Ds x with
   |false=>
    rw[am (by rw[hc];simp)];simp only[eZ,seval,sa,se,xE,eY,AN s6,hg,rY,s1,Je,Hg,hc,Bq yd,y1,AW,yh,wx.1,KT.is,C5,hq,hmb,AF]
   |true=>
    simp only[eZ,seval,sa,xE,eY,AN s6,hg,rY,s1,Je,Hg,hc,Bq yd,y1,AW,yh,wx.1,KT.is,C5,hq,e,hmb,AF];refine .mk ⟨j+1,wB H2 (n2+3) (.box (Cb x).cells),n2+6⟩ rfl ⟨s6,yd.wB (m:=n2+6) zo zo,zp,?_,xf ⟨hmc,hc⟩⟩ zp;simp only[];rw[AA _ _ _ _ zo];exact yh
  ·have hmb:(((Ef d.wF j:Nat):Int)=1)=False:=sb zo;rw[am (λq=>hmc q.1)];simp only[eZ,seval,sa,se,xE,eY,AN s6,hg,rY,s1,Je,Hg,Bq yd,y1,AW,yh,wx.1,KT.is,C5,hq,hmb,AF]
 obtain rfl:j=d.wG.length:=zo
 have hR:CA d=true:=by
  have z2:d.wG.all Ds=true:=sE.2 λq hq=>by
   obtain⟨m,hm,rfl⟩:=sV.1 hq;exact(wu m hm hm).2
  unfold CA;rw[l5,s9,sE.2 λq hq=>sK (wu q (tF.1 hq) (tF.1 hq)).1,z2];rfl
 rw[hR];simp only[eZ,seval,Ag s6]
section
abbrev clV(q:Nat):Fs:=.fn (.func 257) [] [.ptr q 0]
abbrev ku(q c:Nat):List (Nat×Bool×Fs):=[(2,true,.ptr c 0),(4,true,.sl .nil []),(6,true,clV q)]
structure AppF(q c L l':Nat)(H0:AB)(n0:Nat)(qs:List Int)(H:AB)(m:Nat):Prop where
 fr:AO H m
 lc:n0<=c
 cl:c<L
 lm:L<m
 hc:∃lv,AD H c=some (.box [lv])/\Rk eI 1 (L+1) H lv qs
 hL:AD H L=some (.lp ⟨l',.ready,none,13,ku q c, #[7],Gf,Gg⟩)
 kp:∀id ob,id<n0->AD H0 id=some ob->AD H id=some ob
variable {H:AB} {l:List Int} {q n:Nat}
theorem y_app{c L l':Nat}{H0:AB}{n0:Nat}{qs:List Int}{m:Nat}(F:AppF q c L l' H0 n0 qs H m)(x:Int)(hs:qs.length<1000000000){R:Bool->AB->Nat->Prop}
  (hR:∀H' m',AppF q c L l' H0 n0 (qs++[x]) H' m'->R true H' m'):CY prog l' [eI x] H m R:=by
 obtain⟨fr,lc,cl,lm,⟨lv,hc,wv⟩,hL,kp⟩:=F;refine cE hL rfl (AI AH.wD (AJ ?_));simp only[eE,eN,seval,Mn,Gv,uI,uT,ug,vn];refine⟨_,hL,rfl,AI AH.wD (AJ ?_)⟩;have y1:∀k,(L=m+k)=False:=λk=>sb zo
 have y2:(L=c)=False:=sb zo;have y3:(c=L)=False:=sb zo;simp only[eE,seval,Mm,hc,y2];have g1:∀k,AD (wB H L (.lp ⟨l',.busy,none,13,ku q c, #[7],Gf,Gg⟩)) (m+k)=none:=λk=>by rw[AA _ _ _ _ zo];exact Bq fr k
 refine RV (enc:=eI) (lo:=L+1) (qs:=qs) (z0:=0) ?_ rfl zd rfl rfl (Ae zo zd) (g1 3) zo zo ?_
 ·rcases wv with h|⟨s8,id,rest,h1,h2,h3⟩
  ·exact .inl h
  ·exact .inr ⟨s8,id,rest,h1,h2,by rw[AA _ _ _ _ zo];exact h3⟩
 intro id rest hlo s5;have hidm:id<m+5:=by
  rcases s5 with rfl|⟨Z,h⟩
  ·omega
  ·apply Classical.byContradiction;intro z;obtain⟨k,rfl⟩:∃k,id=m+k:=⟨id-m,zo⟩;rw[g1]at h;cases h
 have z1:(id=L)=False:=sb zo;have z2:(id=c)=False:=sb zo;have z3:(L=id)=False:=sb zo;have z4:(c=id)=False:=sb zo;have hidn:¬id<n0:=zo
 simp only[eE,eN,seval,Fg,z2,y2,hc];refine⟨⟨l',.busy,none,13,ku q c, #[7],Gf,Gg⟩,by simp only[AT,y3,z1,sY,tD],hR _ _ ⟨?_,lc,cl,zp,⟨_,by simp only[AT,y2,sY,tD],.inr ⟨zw,id,rest,rfl,hlo,by simp only[AT,z3,z4,sY,tD]⟩⟩,by simp only[AT,tD],?_⟩⟩
 ·intro j hj;have hj':m+5<=j:=hj;simp only[AT];repeat rw[sg zo]
  exact fr j zo
 ·intro j ob hj h0;simp only[AT];repeat rw[sg zo]
  exact kp j ob hj h0
theorem Yv(hf:AO H n)(hq:AD H q=some (.box [Aj l]))(hl:Aq l):
  AX prog 272 [.sl .nil [],clV q] H n λo H' n'=>∃lv,o= .ret lv/\Rk eI 1 (n+3) H' lv l/\AO H' n'/\n<=n'/\∀id ob,id<n->AD H id=some ob->AD H' id=some ob:=by
 have wm:l.length<1000000000:=hl;have hqn:=hf.lt hq;refine a272 (AI AH.wD (AJ ?_));simp only[eE,eN,seval,pk,OZ hf,GE];intro l';generalize yA:wB (wB H n (.box [.sl .nil []])) (n+2) _=H1;have hq1:AD H1 q=some (.box [Aj l]):=by
  subst yA;simp only[AT];repeat rw[sg zo]
  exact hq
 have F0:AppF q n (n+2) l' H n [] H1 (n+3):=by
  subst yA;refine⟨λj hj=>?_,sj _,zo,zo,⟨.sl .nil [],?_,.inl ⟨rfl,rfl⟩⟩,AC ..,λj ob hj h0=>?_⟩
  ·simp only[AT];repeat rw[sg zo]
   exact hf j zo
  ·simp only[AT];rw[sg zo,sn zt]
  ·simp only[AT];repeat rw[sg zo]
   exact h0
 clear yA;refine c257.a (AI AH.wD (AJ ?_));simp only[eE,eN,seval,ry,c257,hq1];refine AQ (λv:VF=>⟨[(0,true,.fn (.yield l') [] []),(5,true,Aj l),(6,true,.int .i64 l.length),(7,true,.int .i64 v.i)],v.H,v.n⟩) (λv=>v.i<=l.length/\n+3<=v.n/\AppF q n (n+2) l' H n (l.take v.i) v.H v.n) (λv=>l.length-v.i)
  ⟨0,H1,n+3⟩ rfl ⟨sk _,sj _,F0⟩ ?_
 rintro⟨i,H2,m⟩ ⟨hi,hm,F⟩;simp only at hi hm F;by_cases e9:i<l.length
 ·have hg:=rz e9;have e:=AK (k:=i) zo;have l7:l.take (i+1)=l.take i++[l[i]]:=by rw[sG,rz e9];rfl
  generalize l[i]=x at hg l7;simp only[eZ,seval,eY,AN e9,hg];refine y_app F x (by rw[sU];omega) λH' m' F'=>?_
  simp only[eZ,seval,sa,Ov,e];exact .mk ⟨i+1,H',m'⟩ rfl ⟨e9,by have:=F'.lm;simp only[];omega,by simp only[];rw[l7];exact F'⟩ zp
 obtain rfl:i=l.length:=zo
 rw[sD]at F;obtain⟨fr,lc,cl,lm,⟨lv,hc,wv⟩,hL,kp⟩:=F;have y1:(n+2=n)=False:=sb zo;simp only[eZ,seval,Ag e9,GD,hL,hc,y1];refine⟨lv,rfl,?_,fr.wB (sj m) (show n+2<m by omega),zo,λid ob s5 h0=>by rw[sg zo];exact kp id ob s5 h0⟩;rcases wv with h|⟨s8,id,rest,h1,h2,h3⟩
 ·exact .inl h
 ·exact .inr ⟨s8,id,rest,h1,h2,by rw[AA _ _ _ _ zo];exact h3⟩
theorem kw(hf:AO H n)(hq:AD H q=some (.box [Aj l]))(hl:Aq l):
  AX prog 256 [clV q] H n λo H' n'=>∃lv,o= .ret lv/\Rk eI 1 (n+3) H' lv l/\AO H' n'/\n<=n'/\∀id ob,id<n->AD H id=some ob->AD H' id=some ob:=by
 refine hZ.a (AI AH.wD (AJ ?_));simp only[eE,eN,seval,hZ];refine(Yv hf hq hl).mono ?_;rintro o H' n' ⟨lv,rfl,h1,h2,h3,h4⟩;simp only[eE,eN,seval,BL];exact⟨lv,rfl,h1,h2,h3,h4⟩
theorem QP:AX prog 226 [.sl .nil []] H n λo H' n'=>o= .ret (.wJ [])/\H'=H/\n'=n:=by
 refine⟨kS,λg w vs hR hv=>?_⟩;obtain⟨v,r,rfl,k1,k2⟩:=hv;have k2':r=[]:=k2;subst k2';have hv:∃p cap,v= .slice p 0 cap:=by
  rcases k1 with⟨-,rfl,-⟩|⟨-,b,o,cap,⟨sp,rfl,yS⟩,hc,wX,-⟩
  ·exact⟨_,_,rfl⟩
  ·exact⟨_,_,rfl⟩
 obtain⟨p,cap,rfl⟩:=hv;refine(slices_Sort_int_none p cap w).mono ?_;rintro e w' ⟨rfl,rfl⟩;exact⟨g,.ret (.wJ []),H,n,⟨rfl,rfl,rfl⟩,⟨_,rfl,rfl⟩,hR,sj _,q9.refl _ _ _ _⟩
def SrA(ob:List Fs->x9)(H:AB)(l:List Int):xw->AB->Nat->Prop:=λo H' n'=>
 C0 H H'/\((l=[]/\o= .ret (.sl .nil []))\/l≠[]/\∃id rest,o= .ret (.ref id 1 0 l.length (l.length+rest.length))/\AD H id=none/\AD H' id=some (ob ((l.mergeSort Ft++rest).map eI)))
theorem Ep(l:List Int):(l.mergeSort Ft).length=l.length:=List.length_mergeSort ..
theorem kz(hf:AO H n)(hq:AD H q=some (.box [Aj l]))(hl:Aq l):
  AX prog 239 [clV q] H n (Ux H (Aj (l.mergeSort Ft))):=by
 have wm:l.length<1000000000:=hl;refine AX.out (AX.seal (R:=SrA (.arr 1) H l) (R':=SrA (.frz 1) H l) (YK.a (AI AH.wD (AJ ?_))) ?_) ?_
 ·simp only[eE,eN,seval,YK];refine(kw hf hq hl).mono ?_;rintro o H1 n1 ⟨lv,rfl,wv,wW,to,hk⟩;simp only[eE,eN,seval,BL];have hK:C0 H H1:=λid ob h0=>hk id ob (hf.lt h0) h0
  rcases wv with⟨rfl,rfl⟩|⟨s8,id,rest,rfl,h2,h3⟩
  ·refine QP.mono ?_;rintro o H2 n2 ⟨rfl,rfl,rfl⟩;simp only[eE,eN,seval,BL];exact⟨hK,.inl ⟨rfl,rfl⟩⟩
  ·refine(RU h3 zw wm).mono ?_;rintro o H2 n2 ⟨rfl,rfl,rfl⟩;rw[vJ,List.drop_left];simp only[eE,eN,seval,BL];refine⟨λi ob h0=>?_,.inr ⟨s8,id,rest,rfl,hf _ zo,AC ..⟩⟩;rw[AA _ _ _ _ (λe=>by subst e;rw[hf _ zo]at h0;cases h0)];exact hK i ob h0
 ·rintro o H' n' ⟨hK,h⟩;rcases h with h|⟨s8,id,rest,h1,h2,h3⟩
  ·exact .inl ⟨hK,.inl h⟩
  ·refine .inr ⟨id,1,_,h3,λi ob h0=>?_,.inr ⟨s8,id,rest,h1,h2,AC ..⟩⟩;rw[AA _ _ _ _ (λe=>by subst e;rw[h2]at h0;cases h0)];exact hK i ob h0
 ·rintro o H' n' ⟨hK,h⟩;refine⟨.ret (Aj (l.mergeSort Ft)),⟨⟨_,rfl,Wk.refl _⟩,hK⟩,λg w e hR he=>?_⟩;have hL:∃lv,o= .ret lv/\LF 1 lv H' ((l.mergeSort Ft).map eI):=by
   rcases h with⟨rfl,rfl⟩|⟨hz,id,rest,rfl,h2,h3⟩
   ·exact⟨_,rfl,.inl ⟨zw,_,rfl,.inl rfl⟩⟩
   ·refine⟨_,rfl,?_⟩;have hl2:=Ep l;refine .inr ⟨λq=>hz (by rw[List.map_eq_nil_iff]at q;rw[q]at hl2;exact tZ.1 hl2.symm),id,l.length+rest.length,rest.map eI,by rw[ry,hl2],by rw[h3,su],by simp [hl2]⟩
  obtain⟨lv,rfl,hL⟩:=hL;cases e with
  |returned v=>exact LQ hL hR he
  |panicked c=>exact he.elim
  |outgrown=>exact he.elim
theorem k9(hf:AO H n):AX prog 240 [Aj l] H n λo H' n'=>o= .ret (clV n)/\H'=wB H n (.box [Aj l])/\n'=n+2:=by
 refine c240.a (AI AH.wD (AJ ?_));simp only[eE,eN,seval,c240,OZ hf]
end
section
abbrev Rm(l:List Int):List Int:=l.mergeSort Ft
def Jl(ls:List (List Int))(j:Nat)(x:List Int):Bool:=((ls.take j).map Rm).contains (Rm x)
def Yw{ls:List (List Int)}(hn:∀l∈ls,l.Nodup){j:Nat}(hj:j<ls.length)(h:Jl ls j ls[j]=true):Cq ls=true:=by
 unfold Jl at h;rw[t9,tn]at h;obtain⟨y,hy,e⟩:=h;obtain⟨b,hb,rfl⟩:=sV.1 hy;rw[sU]at hb;rw[List.getElem_take]at e;refine Ii.2 ⟨j,b,hj,zo,zo,?_⟩;rw[OB (hn _ (sC _)) (hn _ (sC _)),si];exact e.symm
def W6{ls:List (List Int)}(hn:∀l∈ls,l.Nodup)(h:∀j (hj:j<ls.length),Jl ls j ls[j]=false):Cq ls=false:=by
 cases q:Cq ls with
 |false=>rfl
 |true=>
  obtain⟨a,b,ha,hb,xd,h2⟩:=Ii.1 q;rw[OB (hn _ (sC _)) (hn _ (sC _)),si]at h2;have:=h a ha;unfold Jl at this;rw[<-Bool.not_eq_true,t9,tn]at this;exact absurd ⟨ls[b],sV.2 ⟨b,by rw[sU];omega,by rw[List.getElem_take]⟩,h2.symm⟩ this
def VV(o:Option x9):Prop:=∃x:List Int,Aq x/\o=some (.box [Aj x])
def QS:Option x9->List Int
 |some (.box [.sl _ L])=>L.map A9
 |_=>[]
variable {x:List Int}
theorem HM(h:Aq x):VV (some (.box [Aj x]))=True:=r9 ⟨x,h,rfl⟩
theorem FO(x:List Int):QS (some (.box [Aj x]))=x:=Aw x
def rZ:List Fs->AB->Prop×Fs:=λa H=>match a with
 |[.fn (.func f) [] [.ptr q 0]]=>(f=257/\VV (AD H q),Aj (Rm (QS (AD H q))))
 |_=>(False,.wJ [])
theorem qSr:∀args H n,(rZ args H).1->Ao prog 239 args H n (rZ args H).2:=by
 intro args H n hh;unfold rZ at hh⊢;split at hh
 ·rename_i f q;obtain⟨rfl,x,hx,h0⟩:=hh;simp only[h0,FO];exact Ao.of YK.l (AV n _) λhf=>kz hf h0 hx
 ·exact hh.elim
def ra:List Fs->AB->Prop×Fs:=λa H=>match a with
 |[y,.ptr q 0]=>(A3.ok y/\wide (A3.dec y)/\VV (AD H q),.bool (decide (QS (AD H q)=A3.dec y)))
 |_=>(False,.wJ [])
def Teq:Bg:=AF 109 (s2 A3 A3 (λ_ b=>wide b) (λa b=>.bool (decide (a=b)))) wD
theorem lA:AH prog Teq:=AH.wD.add (q2 YU)
theorem qR1:∀args H n,(ra args H).1->Ao prog 242 args H n (ra args H).2:=by
 intro args H n hh;unfold ra at hh⊢;split at hh
 ·rename_i y q;obtain⟨h1,h2,x,hx,h0⟩:=hh;simp only[h0,FO];refine Ao.of pm.l zt λhf=>pm.a (AI lA (AJ ?_))
  simp only[eE,eN,seval,pm,h0,Teq,s2,Ah,Ad,r9 h1,r9 h2,AF];exact λ_ _ h=>h
 ·exact hh.elim
abbrev clR(q:Nat):Fs:=.fn (.func 242) [] [.ptr q 0]
def Tr1:Bg:=AF 242 ra wD
theorem lB:AH prog Tr1:=AH.wD.add qR1
def Rn(met:List (List Int))(x:List Int):Int:=match met.findIdx? (λy=>decide (x=y))with
 |some k=>(k:Int)
 |none=>-1
theorem lC{H:AB}{n q:Nat}{met:List (List Int)}(hm:B7 met)(hx:Aq x)(h0:AD H q=some (.box [Aj x])):Ao prog 258 [Br met,clR q] H n (.int .i64 (Rn met x)):=by
 refine Ao.of pn.l zt λhf=>pn.a (AI lB (AJ ?_))
 have hml:met.length<1000000000:=hm.1;simp only[eE,eN,seval,ry,pn];refine AQ (λi:Nat=>⟨[(0,true,Br met),(1,true,clR q),(7,true,.int .i64 met.length),(8,true,.int .i64 i)],H,n⟩) (λi=>i<=met.length/\∀j (h:j<met.length),j<i->¬x=met[j]) (λi=>met.length-i)
  0 rfl ⟨sk _,λj _ h=>absurd h (tH _)⟩ ?_
 rintro i ⟨hi,hb⟩;by_cases e9:i<met.length
 ·have hg:=rz e9;have e:=AK (k:=i) zo;have hyf:=hm.2 _ (sC e9);generalize hy:met[i]=y at hg hyf;by_cases xH:x=y
  ·have hR:Rn met x=i:=by
    unfold Rn;rw[t7.2 ⟨e9,by simpa [hy]using xH,λj hj=>by simpa using hb j zo hj⟩]
   rw[hR];simp only[eZ,seval,eY,AN e9,hg,Tr1,ra,h0,HM hx,FO,Ah,Ad,r9 hyf,BU xH,AF];exact λ_ _ h=>h
  ·simp only[eZ,seval,eY,AN e9,hg,e,Tr1,ra,h0,HM hx,FO,Ah,Ad,r9 hyf,A5 xH,AF];refine .mk (i+1) rfl ⟨e9,λj hj h=>?_⟩ zo;by_cases z:j=i
   ·subst z;rw[hy];exact xH
   ·exact hb j hj zo
 obtain rfl:i=met.length:=zo
 have hR:Rn met x= -1:=by
  unfold Rn;rw[ui.2 λy hy=>by
   obtain⟨j,hj,rfl⟩:=sV.1 hy;simpa using hb j hj hj]
 rw[hR];simp only[eZ,seval,Ag e9];exact λ_ _ h=>h
theorem lD(met:List (List Int))(x:List Int):decide (0<=Rn met x)=met.contains x:=by
 rw[sP,si,t9];unfold Rn;cases h:met.findIdx? (λy=>decide (x=y))with
 |none=>
  rw[ui]at h;constructor
  ·intro q;simp at q
  ·intro q;have:=h x q;simp at this
 |some k=>
  obtain⟨h1,h2,-⟩:=t7.1 h;constructor
  ·intro _;have:=th h2;rw[this];exact sC _
  ·intro _;simp
def jH(f:List (List Int)->List Int->Fs):List Fs->AB->Prop×Fs:=λa H=>match a with
 |[y,.fn (.func g) [] [.ptr q 0]]=>(OF.ok y/\B7 (OF.dec y)/\g=242/\VV (AD H q),f (OF.dec y) (QS (AD H q)))
 |_=>(False,.wJ [])
theorem jI{f:List (List Int)->List Int->Fs}{y9:FuncId}(h:∀{H:AB} {n q:Nat} {met:List (List Int)} {x:List Int},B7 met->Aq x->AD H q=some (.box [Aj x])->Ao prog y9 [Br met,clR q] H n (f met x)):∀args H n,(jH f args H).1->Ao prog y9 args H n (jH f args H).2:=by
 intro args H n hh;unfold jH at hh⊢;split at hh
 ·rename_i y g q;obtain⟨h1,h2,rfl,x,hx,h0⟩:=hh;simp only[h0,FO];refine AX.args (h (n:=n) h2 hx h0) ?_;rintro g vs ⟨v,r,rfl,k1,k2⟩;exact⟨v,_,rfl,OF.wk _ h1 _ _ k1,k2⟩
 ·exact hh.elim
abbrev fIf(met:List (List Int))(x:List Int):Fs:=.int .i64 (Rn met x)
abbrev fCf(met:List (List Int))(x:List Int):Fs:=.bool (met.contains x)
def Tr2:Bg:=AF 258 (jH fIf) wD
theorem lE:AH prog Tr2:=AH.wD.add (jI λh1 h2 h3=>lC h1 h2 h3)
theorem VW{t:v8}{l:List (List Int)}(ht:t.esz=1\/l=[]):OF.ok (.sl t (l.map Aj))=True:=Jf F5 ht
theorem Ro{t:v8}(l:List (List Int)):OF.dec (.sl t (l.map Aj))=l:=Hh F5
theorem lF{H:AB}{n q:Nat}{met:List (List Int)}(hm:B7 met)(hx:Aq x)(h0:AD H q=some (.box [Aj x])):Ao prog 241 [Br met,clR q] H n (fCf met x):=by
 refine Ao.of po.l zt λhf=>po.a (AI lE (AJ ?_))
 simp only[eE,eN,seval,po,Tr2,jH,h0,HM hx,FO,Db,Cv,r9 hm,lD,AF];exact λ_ _ h=>h
def Trg:Bg:=AF 158 (s2 DS OF (λg l=>Au g.sh g.w g.h g.wC=some g.cells/\Aq g.wC/\B7 l) λg l=>EB g.cells l) (AF 241 (jH fCf) (AF 239 rZ wD))
theorem lG:AH prog Trg:=((AH.wD.add qSr).add (jI λh1 h2 h3=>lF h1 h2 h3)).add (q2 λg l h=>p158 g l h.1 h.2.1 h.2.2)
structure VRm where
 j:Nat
 tk:v8
 H:AB
 n:Nat
structure IRm(g:v7)(r:xz)(v:VRm):Prop where
 hj:v.j<=r.ls.length
 fr:AO v.H v.n
 hn:3<=v.n
 h1:AD v.H 1=some (.box (AE g.sh g.w g.h g.wC g.cells))
 tok:C8 1 2 v.H v.tk
 es:v.tk.esz=1\/(r.ls.take v.j).map Rm=[]
 no:∀k (hk:k<r.ls.length),k<v.j->Jl r.ls k r.ls[k]=false
theorem p218(d:xj)(g:v7)(hd:zy d)(hG:Au g.sh g.w g.h g.wC=some g.cells)(hh:Aq g.wC):Av prog 218 [B6 d,CM g] (.int .i64 (DO g.cells d.wK)):=by
 refine .mk ⟨At 0 d,BM 0 ..,zt⟩ zt (c218.a (AI lG (AJ ?_)));have hrl:d.wK.length<1000000000:=hd.rg;simp only[eE,eN,seval,ry,c218];refine AQ (λv:VF=>⟨[(3,true,.ptr 1 0),(14,true,Gz d.wK),(15,true,.int .i64 d.wK.length),(16,true,.int .i64 v.i)],v.H,v.n⟩) (λv=>v.i<=d.wK.length/\AO v.H v.n/\3<=v.n/\AD v.H 1=some (.box (AE g.sh g.w g.h g.wC g.cells))/\DO g.cells d.wK=DO g.cells (d.wK.drop v.i)) (λv=>d.wK.length-v.i)
  ⟨0,wB (wB Ak 0 (.box (AL d))) 1 (.box (AE g.sh g.w g.h g.wC g.cells)),3⟩ rfl ⟨sk _,(AO.nil.wB (m:=3) (sk 3) (show 0<3 by decide)).wB (sj 3) (show 1<3 by decide),sj _,rfl,rfl⟩ ?_
 rintro⟨i,H,n⟩ ⟨hi,l9,hn,h1,heq⟩;simp only at hi l9 hn h1 heq;by_cases e9:i<d.wK.length;case neg=>
  obtain rfl:i=d.wK.length:=zo
  rw[t5]at heq;rw[heq];simp only[eZ,seval,Ag e9];rfl
 have hg:=rz e9;have e:=AK (k:=i) zo;have hrf:OI d.wK[i]:=hd.rgs _ (sC e9);rw[QC _ _ _ e9]at heq;generalize d.wK[i]=r at hg hrf heq;have y1:∀q,(n+q=1)=False:=λq=>sb zo
 have hc:=r9 (⟨hG,hh,hrf⟩:Au g.sh g.w g.h g.wC=some g.cells/\Aq g.wC/\B7 r.ls);by_cases hb:(decide (r.ls.length<=64)&&r.ls.all (Ee g.cells))=true;case neg=>
  have hv:EB g.cells r.ls= .wJ [Br [],.int .i64 130]:=sg hb;have hE:LK g.cells r=130:=sn (by simpa using hb);rw[hE,sg zd]at heq;rw[heq];simp only[eZ,seval,se,eY,AN e9,hg,Bq l9,h1,y1,Trg,s2,Fu,Dk,Db,Cv,hc,hv,AF]
 have hv:EB g.cells r.ls= .wJ [Br (r.ls.map (Bo g.cells)),.int .i64 0]:=sn hb;obtain⟨zl,my⟩:=(sf _ _).mp hb;have zl:=th zl;have hnd:∀l∈r.ls,l.Nodup:=λl hl=>(Hd (sE.1 my l hl)).1
 have hregE:LK g.cells r=if Cq r.ls=true then 161 else 0:=by unfold LK;rw[hb,sg zd]
 simp only[eZ,seval,sa,eY,AN e9,hg,Bq l9,h1,y1,Trg,s2,Fu,Dk,Db,Cv,hc,hv,AW,AF];refine AQ (λv:VRm=>⟨[(3,true,.ptr 1 0),(9,true,.sl v.tk (((r.ls.take v.j).map Rm).map Aj)),(14,true,Gz d.wK),(15,true,.int .i64 d.wK.length),(16,true,.int .i64 i),(31,true,Br r.ls),(32,true,.int .i64 r.ls.length),(33,true,.int .i64 v.j)],v.H,v.n⟩) (IRm g r) (λv=>r.ls.length-v.j)
  ⟨0,.nil,wB H (n+2) (.box [.str r.nm,Br r.ls]),n+4⟩ rfl ⟨sk _,l9.wB (m:=n+4) zo zo,zp,by simp only[];rw[AA _ _ _ _ zo];exact h1,.inl rfl,.inr rfl,λk _ h=>absurd h (tH _)⟩ ?_
 rintro⟨j,tk,H1,n1⟩ hI;have hj:=hI.hj;have wW:=hI.fr;have to:=hI.hn;have h11:=hI.h1;have l7:=hI.tok;have s7:=hI.es;have v9:=hI.no;simp only at hj wW to h11 l7 s7 v9;by_cases s6:j<r.ls.length
 ·have yT:=rz s6;have ej:=AK (k:=j) zo;have hlf:Aq r.ls[j]:=by
   obtain⟨q1,-,q3⟩:=Hd (sE.1 my _ (sC s6));have h1:=KZ q1 q3;have h2:=(Ba hG).2.1;show r.ls[j].length<_;omega
  have hmt:=map_take (f:=Rm) s6;have hhit:=λq=>Yw hnd s6 q
  have hnx:Jl r.ls j r.ls[j]=false->∀k (hk:k<r.ls.length),k<j+1->Jl r.ls k r.ls[k]=false:=λq k hk h=>by
   by_cases z:k=j
   ·subst z;exact q
   ·exact v9 k hk zo
  generalize r.ls[j]=l at yT hlf hmt hhit hnx;have hmf:B7 ((r.ls.take j).map Rm):=⟨show((r.ls.take j).map Rm).length<_ by rw[ry,sU];omega,λx hx=>by
   obtain⟨y,hy,rfl⟩:=tn.1 hx;show(Rm y).length<_;rw[Ep];exact hrf.2 _ (vL hy)⟩
  have hsf:Aq (Rm l):=show(Rm l).length<_ by rw[Ep];exact hlf
  have z1:∀q,(n1+q=1)=False:=λq=>sb zo
  have hmb:((r.ls.take j).map Rm).contains (Rm l)=Jl r.ls j l:=rfl;simp only[eZ,seval,eY,AN s6,yT];refine(k9 (n:=n1+5) λj hj=>wW j zo).mono ?_;rintro o H2 n2 ⟨rfl,rfl,rfl⟩;cases hb3:Jl r.ls j l with
  |true=>
   rw[hregE,hhit hb3,sn rfl,sg zd]at heq;rw[heq];simp only[eZ,seval,BL,Trg,rZ,HM hlf,FO,Bq wW,jH,HM hsf,VW s7,Ro,r9 hmf,hmb,hb3,AW,AF]
  |false=>
   have gt:C8 1 2 (wB (wB H1 (n1+5) (.box [Aj l])) (n1+3) (.box [Aj (Rm l)])) tk:=(l7.set (.inr (.inr (Bq wW 5)))).set (.inr (.inr (by rw[AA _ _ _ _ zo];exact Bq wW 3)));have gf:AO (wB (wB H1 (n1+5) (.box [Aj l])) (n1+3) (.box [Aj (Rm l)])) (n1+12):=(wW.wB (m:=n1+12) zo zo).wB (m:=n1+12) zo zo;have q1:BB (wB (wB H1 (n1+5) (.box [Aj l])) (n1+3) (.box [Aj (Rm l)])) 1 tk=True:=r9 gt.app;have q2:((r.ls.take j).length<=35184372088831)=True:=r9 (by rw[sU];omega);have q3:Al ((r.ls.take j).length+1) 24=True:=r9 (Ae (by rw[sU];omega) zd);simp only[eZ,seval,ry,BL,Trg,rZ,HM hlf,FO,Bq wW,jH,HM hsf,VW s7,Ro,r9 hmf,hmb,hb3,AW,q2,q3,q1,ej,AF];refine .mk ⟨j+1,.own (n1+10) 1,wB (AU (wB (wB H1 (n1+5) (.box [Aj l])) (n1+3) (.box [Aj (Rm l)])) tk) (n1+10) .tok,n1+12⟩ ?_ ⟨s6,(Ab gt gf).wB (sj _) (show n1+10<n1+12 by omega),zp,?_,.inr (.inr ⟨n1+10,rfl,zo,AC ..⟩),.inl rfl,hnx hb3⟩ zp
   ·simp only[hmt,su];rfl
   ·simp only[];rw[AA _ _ _ _ zo,Ac gt (.inl zo),AA _ _ _ _ zo,AA _ _ _ _ zo];exact h11
 obtain rfl:j=r.ls.length:=zo
 rw[hregE,W6 hnd λj hj=>v9 j hj hj]at heq;simp only[eZ,seval,Ag s6,e];exact .mk ⟨i+1,H1,n1⟩ rfl ⟨e9,wW,to,h11,heq⟩ zp
end
section
def Yx(b:Bool)(e:Int):Int:=if b=true then 0 else e
def O3(d:xj):Int:=Yx (KV d) 2
def Mx(d:xj):Int:=match CL d with
 | .error e=>e
 | .ok x=>Yx (decide (x=d)) 170
def O4(d:xj):Int:=Yx (decide (1<=d.yN)&&decide (d.yN<=255)) 170
def O5(d:xj):Int:=match Au d.sh d.w d.h d.wC with
 |some _=>0
 |none=>130
def O6(d:xj):Int:=Yx (CA d) 170
def Rp(d:xj):Int:=Yx (decide (B2 d.wF=[])) 171
def GX{d:xj}{e:Int}(h:CL d= .error e):e≠0:=by
 unfold CL at h
 rintro rfl
 repeat' split at h
 all_goals simp at h
def dB:Dc Bool:=⟨.bool,Fm,λv=>match v with| .bool _=>True|_=>False,λv h=>by
 cases v<;>first|exact Wk.refl _|exact h.elim⟩
theorem Rq(b:Bool):dB.ok (.bool b)=True:=rfl
theorem My(b:Bool):dB.dec (.bool b)=b:=rfl
def jJ:Bg:=AF 213 (s2 dB dI cZ λb e=>.int .i64 (Yx b e)) (AF 153 (s1 dD zy Cd) (AF 110 (s2 dD dD (λ_ b=>zy b) λa b=>.bool (decide (a=b))) (AF 220 (s1 dD zy λd=>.bool (CA d)) (AF 222 (s1 dD zy λd=>Aj (B2 d.wF)) (AF 218 (s2 dD DS (λd g=>zy d/\Au g.sh g.w g.h g.wC=some g.cells/\Aq g.wC) λd g=>.int .i64 (DO g.cells d.wK)) wD)))))
def Kk:AH prog jJ:=(((((AH.wD.add (q2 λd g h=>p218 d g h.1 h.2.1 h.2.2)).add (q1 λd h=>p222 d h.ru)).add (q1 λd h=>p220 d h)).add (q2 λa b h=>p110 a b h)).add (q1 λd h=>p153 d h)).add (q2 λb e _=>p213 b e)
def Yy{H:AB}{n i:Nat}(hf:AO H n)(hi:n<=i)(a b:x9):C0 H (wB (wB H i a) i b):=λid ob h=>by
 have:=hf.lt h;rw[AA _ _ _ _ zo,AA _ _ _ _ zo];exact h
def Yz(d:xj):(decide ((0:Int)<d.wE.length)&&decide ((d.wE.length:Int)<=16)&&decide ((d.wK.length:Int)<=4)&&decide ((d.wG.length:Int)<=4)&&decide ((d.wF.length:Int)<=16))=KV d:=by
 rw[sP];simp [KV];omega
def eB(l:List Int):decide ((l.length:Int)=0)=decide (l=[]):=by
 cases l<;>simp;omega
variable {d:xj} {H:AB} {n q:Nat}
theorem u1(hd:zy d)(h0:AD H q=some (.box (AL d))):Ao prog 212 [.ptr q 0] H n (.int .i64 (O3 d)):=by
 refine Ao.of pp.l zt λhf=>pp.a (AI Kk (AJ ?_))
 simp only[eZ,seval,ry,pp,h0,jJ,s2,Rq,My,Ay,An,Yz,AF];exact⟨rfl,λ_ _ h=>h⟩
theorem u2(hd:zy d)(h0:AD H q=some (.box (AL d))):Ao prog 214 [.ptr q 0] H n (.int .i64 (Mx d)):=by
 refine Ao.of iA.l zt λhf=>iA.a (AI Kk (AJ ?_))
 have hq:=hf.lt h0;have y1:∀k,(n+k=q)=False:=λk=>sb zo
 unfold Mx;cases hr:CL d with
 |error e=>
  have hv:Cd d= .wJ [B6 KW,.int .i64 e]:=by unfold Cd;rw[hr]
  have he:(e=0)=False:=sb (GX hr);simp only[eZ,seval,se,eY,iA,h0,jJ,s1,BT,Ax,r9 hd,hv,Bq hf,he,AF];exact Yy hf zo _ _
 |ok x=>
  have hv:Cd d= .wJ [B6 x,.int .i64 0]:=by unfold Cd;rw[hr]
  simp only[eZ,seval,sa,eY,iA,h0,jJ,s1,s2,BT,Ax,r9 hd,hv,Bq hf,y1,Rq,My,Ay,An,AF];exact Yy hf zo _ _
theorem u3(h0:AD H q=some (.box (AL d))):Ao prog 215 [.ptr q 0] H n (.int .i64 (O4 d)):=by
 refine Ao.of pq.l zt λhf=>pq.a (AI Kk (AJ ?_))
 simp only[eZ,seval,pq,h0,jJ,s2,Rq,My,Ay,An,AF];exact⟨rfl,λ_ _ h=>h⟩
theorem u6(hd:zy d)(h0:AD H q=some (.box (AL d))):Ao prog 219 [.ptr q 0] H n (.int .i64 (O6 d)):=by
 refine Ao.of px.l zt λhf=>px.a (AI Kk (AJ ?_))
 simp only[eE,eN,seval,px,h0,jJ,s1,s2,Rq,My,Ay,An,BT,Ax,r9 hd,AF];exact⟨rfl,λ_ _ h=>h⟩
theorem u7(hd:zy d)(h0:AD H q=some (.box (AL d))):Ao prog 221 [.ptr q 0] H n (.int .i64 (Rp d)):=by
 refine Ao.of py.l zt λhf=>py.a (AI Kk (AJ ?_))
 simp only[eE,eN,seval,ry,py,h0,jJ,s1,s2,Rq,My,Ay,An,BT,Ax,r9 hd,eB,AF];exact⟨rfl,λ_ _ h=>h⟩
theorem u5{g:v7}{q':Nat}(hd:zy d)(hG:Au g.sh g.w g.h g.wC=some g.cells)(hh:Aq g.wC)(h0:AD H q=some (.box (AL d)))(h1:AD H q'=some (.box (AE g.sh g.w g.h g.wC g.cells))):Ao prog 217 [.ptr q 0,.ptr q' 0] H n (.int .i64 (DO g.cells d.wK)):=by
 refine Ao.of pu.l zt λhf=>pu.a (AI Kk (AJ ?_))
 simp only[eE,eN,seval,pu,h0,h1,jJ,s2,Fu,Dk,BT,Ax,r9 hd,hG,r9 hh,AF];exact λ_ _ h=>h
abbrev gr0:List Fs:=[.int .i64 0,.int .i64 0,.int .i64 0,.sl .nil [],.sl .nil []]
def Tmc:Bg:=AF 155 (λa H=>match a with
 |[.int .i64 sh,.int .i64 w,.int .i64 h,x]=>(A3.ok x/\Aq (A3.dec x),Bf sh w h (A3.dec x))
 |_=>(False,.wJ [])) wD
theorem lH:AH prog Tmc:=AH.wD.add dP
theorem u4{q':Nat}(s8:q≠q')(hh:Aq d.wC)(h0:AD H q=some (.box (AL d)))(h1:AD H q'=some (.box gr0)):
  AX prog 216 [.ptr q 0,.ptr q' 0] H n λo H' n'=>o= .ret (.int .i64 (O5 d))/\n'=n/\∃cs,H'=wB H q' (.box cs)/\∀cells,Au d.sh d.w d.h d.wC=some cells->cs=AE d.sh d.w d.h d.wC cells:=by
 refine pt.a (AI lH (AJ ?_));unfold O5;cases hc:Au d.sh d.w d.h d.wC with
 |none=>
  have hv:Bf d.sh d.w d.h d.wC= .wJ [Ej 0 0 0 [] [],.int .i64 130]:=by unfold Bf;rw[hc]
  simp only[eE,eN,seval,eY,pt,h0,h1,Tmc,Ah,Ad,r9 hh,hv,AF];exact⟨_,rfl⟩
 |some cells=>
  have hv:Bf d.sh d.w d.h d.wC= .wJ [Ej d.sh d.w d.h d.wC cells,.int .i64 0]:=by unfold Bf;rw[hc]
  simp only[eE,eN,seval,eY,pt,h0,h1,Tmc,Ah,Ad,r9 hh,hv,AF];exact⟨_,rfl,λc h=>by cases h;rfl⟩
end
theorem W7(d:xj):Dt d=if O3 d≠0 then O3 d else if Mx d≠0 then Mx d else if O4 d≠0 then O4 d else match Au d.sh d.w d.h d.wC with
  |none=>130
  |some cells=>if DO cells d.wK≠0 then DO cells d.wK else if O6 d≠0 then O6 d else Rp d:=by
 unfold Dt O3 Mx O4 O6 Rp;cases KV d with
 |false=>rfl
 |true=>
 cases hr:CL d with
 |error e=>simp [Yx,GX hr]
 |ok x=>
 by_cases hx:x=d
 ·by_cases hv:d.yN<1\/255<d.yN
  ·have:(decide (1<=d.yN)&&decide (d.yN<=255))=false:=by simp;omega
   simp [Yx,hx,hv,this]
  ·have:(decide (1<=d.yN)&&decide (d.yN<=255))=true:=by simp;omega
   cases hc:Au d.sh d.w d.h d.wC with
   |none=>simp [Yx,hx,hv,this]
   |some cells=>
    cases CA d<;>by_cases hu:B2 d.wF=[]<;>simp [Yx,hx,hv,this,hu]
 ·simp [Yx,hx]
abbrev Tm:List Fs:=[.fn (.func 212) [] [.ptr 0 0],.fn (.func 214) [] [.ptr 0 0],.fn (.func 215) [] [.ptr 0 0],.fn (.func 216) [] [.ptr 0 0,.ptr 2 0],.fn (.func 217) [] [.ptr 0 0,.ptr 2 0],.fn (.func 219) [] [.ptr 0 0],.fn (.func 221) [] [.ptr 0 0]]
structure IChk(d:xj)(v:VF):Prop where
 hi:v.i<=7
 h0:AD v.H 0=some (.box (AL d))
 z1:0<v.i->O3 d=0
 z2:1<v.i->Mx d=0
 z3:2<v.i->O4 d=0
 g0:v.i<=3->AD v.H 2=some (.box gr0)
 z4:3<v.i->∃cells,Au d.sh d.w d.h d.wC=some cells/\AD v.H 2=some (.box (AE d.sh d.w d.h d.wC cells))/\(4<v.i->DO cells d.wK=0)
 z6:5<v.i->O6 d=0
 z7:6<v.i->Rp d=0
def p154(d:xj)(hd:zy d):Av prog 154 [B6 d] (.int .i64 (Dt d)):=by
 refine .mk ⟨At 0 d,zt⟩ zt (c154.a (AI AH.wD (AJ ?_)));simp only[eE,eN,seval,c154];have h7:((7:Nat):Int)=7:=rfl;refine AQ (λv:VF=>⟨[(14,true,.sl (.exact 1) Tm),(15,true,.int .i64 7),(16,true,.int .i64 v.i)],v.H,v.n⟩) (IChk d) (λv=>7-v.i)
  ⟨0,wB (wB Ak 0 (.box (AL d))) 2 (.box gr0),3⟩ rfl ⟨sk _,rfl,λh=>absurd h (tH _),λh=>absurd h (tH _),λh=>absurd h (tH _),λ_=>rfl,λh=>absurd h (tH _),λh=>absurd h (tH _),λh=>absurd h (tH _)⟩ ?_
 rintro⟨i,H,n⟩ hI;obtain⟨hi,h0,z1,z2,z3,g0,z4,z6,z7⟩:=hI;simp only at hi h0 z1 z2 z3 g0 z4 z6 z7;have hS:=W7 d;by_cases e9:i<7;case neg=>
  obtain⟨cells,hc,-,hr⟩:=z4 zo;have hlF:((i:Int)<7)=False:=sb zo;simp only[z1 zo,z2 zo,z3 zo,hc,hr zo,z6 zo,z7 zo,ne_eq,uN,sY]at hS;rw[hS];simp only[eZ,seval,hlF]
 have hlT:((i:Int)<7)=True:=r9 zo;have hlN:((i:Int)<((7:Nat):Int))=True:=hlT;have e:=AK (k:=i) zo;have h8:i=0\/i=1\/i=2\/i=3\/i=4\/i=5\/i=6:=zo
 rcases h8 with h8|h8|h8|h8|h8|h8|h8
 ·have hg:Tm[i]?=some (.fn (.func 212) [] [.ptr 0 0]):=by rw[h8];rfl
  have hl7:i<Tm.length:=e9;simp only[eZ,seval,sw,sm,sr,hlT,hlN,hg];refine(u1 hd h0).mono ?_;rintro o H' n' ⟨rfl,rfl,rfl⟩;by_cases hz:O3 d=0
  ·rw[hz];simp only[eZ,seval,sa,BL,e];exact .mk ⟨i+1,H',n'⟩ rfl ⟨e9,h0,λ_=>hz,λh=>absurd h zp,λh=>absurd h zp,λ_=>g0 zo,λh=>absurd h zp,λh=>absurd h zp,λh=>absurd h zp⟩ zp
  ·rw[sn hz]at hS;rw[hS];simp only[eZ,seval,se,BL,sb hz]
 ·have hg:Tm[i]?=some (.fn (.func 214) [] [.ptr 0 0]):=by rw[h8];rfl
  have hl7:i<Tm.length:=e9;simp only[eZ,seval,sw,sm,sr,hlT,hlN,hg];refine(u2 hd h0).mono ?_;rintro o H' n' ⟨rfl,rfl,rfl⟩;simp only[z1 zo,ne_eq,uN,sY]at hS;by_cases hz:Mx d=0
  ·rw[hz];simp only[eZ,seval,sa,BL,e];exact .mk ⟨i+1,H',n'⟩ rfl ⟨e9,h0,λ_=>z1 zo,λ_=>hz,λh=>absurd h zp,λ_=>g0 zo,λh=>absurd h zp,λh=>absurd h zp,λh=>absurd h zp⟩ zp
  ·rw[sn hz]at hS;rw[hS];simp only[eZ,seval,se,BL,sb hz]
 ·have hg:Tm[i]?=some (.fn (.func 215) [] [.ptr 0 0]):=by rw[h8];rfl
  have hl7:i<Tm.length:=e9;simp only[eZ,seval,sw,sm,sr,hlT,hlN,hg];refine(u3 h0).mono ?_;rintro o H' n' ⟨rfl,rfl,rfl⟩;simp only[z1 zo,z2 zo,ne_eq,uN,sY]at hS;by_cases hz:O4 d=0
  ·rw[hz];simp only[eZ,seval,sa,BL,e];exact .mk ⟨i+1,H',n'⟩ rfl ⟨e9,h0,λ_=>z1 zo,λ_=>z2 zo,λ_=>hz,λ_=>g0 zo,λh=>absurd h zp,λh=>absurd h zp,λh=>absurd h zp⟩ zp
  ·rw[sn hz]at hS;rw[hS];simp only[eZ,seval,se,BL,sb hz]
 ·have hg:Tm[i]?=some (.fn (.func 216) [] [.ptr 0 0,.ptr 2 0]):=by rw[h8];rfl
  have hl7:i<Tm.length:=e9;simp only[eZ,seval,sw,sm,sr,hlT,hlN,hg];refine(u4 zd hd.ho h0 (g0 zo)).mono ?_;rintro o H' n' ⟨rfl,rfl,cs,rfl,xl⟩;have wj:AD (wB H 2 (.box cs)) 0=some (.box (AL d)):=by rw[AA _ _ _ _ zd];exact h0
  simp only[z1 zo,z2 zo,z3 zo,ne_eq,uN,sY]at hS;cases hc:Au d.sh d.w d.h d.wC with
  |none=>
   have hs4:O5 d=130:=by unfold O5;rw[hc]
   rw[hc]at hS;rw[hS,hs4];simp only[eZ,seval,se,BL]
  |some cells=>
   have hs4:O5 d=0:=by unfold O5;rw[hc]
   rw[hs4];simp only[eZ,seval,sa,BL,e];refine .mk ⟨i+1,wB H 2 (.box cs),n'⟩ rfl ⟨e9,wj,λ_=>z1 zo,λ_=>z2 zo,λ_=>z3 zo,λh=>absurd h zp,λ_=>⟨cells,hc,by simp only[];rw[AC,xl cells hc],λh=>absurd h zp⟩,λh=>absurd h zp,λh=>absurd h zp⟩ zp
 ·have hg:Tm[i]?=some (.fn (.func 217) [] [.ptr 0 0,.ptr 2 0]):=by rw[h8];rfl
  have hl7:i<Tm.length:=e9;obtain⟨cells,hc,hg2,hr⟩:=z4 zo;simp only[eZ,seval,sw,sm,sr,hlT,hlN,hg];refine(u5 (g:=⟨d.sh,d.w,d.h,d.wC,cells⟩) hd hc hd.ho h0 hg2).mono ?_;rintro o H' n' ⟨rfl,rfl,rfl⟩;simp only[z1 zo,z2 zo,z3 zo,hc,ne_eq,uN,sY]at hS;by_cases hz:DO cells d.wK=0
  ·rw[hz];simp only[eZ,seval,sa,BL,e];exact .mk ⟨i+1,H',n'⟩ rfl ⟨e9,h0,λ_=>z1 zo,λ_=>z2 zo,λ_=>z3 zo,λh=>absurd h zp,λ_=>⟨cells,hc,hg2,λ_=>hz⟩,λh=>absurd h zp,λh=>absurd h zp⟩ zp
  ·rw[sn hz]at hS;rw[hS];simp only[eZ,seval,se,BL,sb hz]
 ·have hg:Tm[i]?=some (.fn (.func 219) [] [.ptr 0 0]):=by rw[h8];rfl
  have hl7:i<Tm.length:=e9;obtain⟨cells,hc,hg2,hr⟩:=z4 zo;simp only[eZ,seval,sw,sm,sr,hlT,hlN,hg];refine(u6 hd h0).mono ?_;rintro o H' n' ⟨rfl,rfl,rfl⟩;simp only[z1 zo,z2 zo,z3 zo,hc,hr zo,ne_eq,uN,sY]at hS;by_cases hz:O6 d=0
  ·rw[hz];simp only[eZ,seval,sa,BL,e];exact .mk ⟨i+1,H',n'⟩ rfl ⟨e9,h0,λ_=>z1 zo,λ_=>z2 zo,λ_=>z3 zo,λh=>absurd h zp,λ_=>⟨cells,hc,hg2,λ_=>hr zo⟩,λ_=>hz,λh=>absurd h zp⟩ zp
  ·rw[sn hz]at hS;rw[hS];simp only[eZ,seval,se,BL,sb hz]
 ·have hg:Tm[i]?=some (.fn (.func 221) [] [.ptr 0 0]):=by rw[h8];rfl
  have hl7:i<Tm.length:=e9;obtain⟨cells,hc,hg2,hr⟩:=z4 zo;simp only[eZ,seval,sw,sm,sr,hlT,hlN,hg];refine(u7 hd h0).mono ?_;rintro o H' n' ⟨rfl,rfl,rfl⟩;simp only[z1 zo,z2 zo,z3 zo,hc,hr zo,z6 zo,ne_eq,uN,sY]at hS;by_cases hz:Rp d=0
  ·rw[hz];simp only[eZ,seval,sa,BL,e];exact .mk ⟨i+1,H',n'⟩ rfl ⟨e9,h0,λ_=>z1 zo,λ_=>z2 zo,λ_=>z3 zo,λh=>absurd h zp,λ_=>⟨cells,hc,hg2,λ_=>hr zo⟩,λ_=>z6 zo,λ_=>hz⟩ zp
  ·rw[hS];simp only[eZ,seval,se,BL,sb hz]
structure zx where
 d:xj
 g:v7
 nb:List (List Int)
 ls:List (List (List Int))
 deriving DecidableEq
def BD(x:xj)(cells:List Int):v7:=⟨x.sh,x.w,x.h,x.wC,cells⟩
def Y0(x:xj)(cells:List Int):zx:=
 ⟨x,BD x cells,Ek x.sh (AZ x.sh x.w cells),((List.range 8).map λf=>E9 x.sh x.w x.h (AZ x.sh x.w cells) f)++x.wK.map λr=>r.ls.map (Bo cells)⟩
def EU(d:xj):Except Int zx:=match CL d with
 | .error e=>.error e
 | .ok x=>if Dt x≠0 then .error (Dt x)else match Au x.sh x.w x.h x.wC with
  |none=>.error 130
  |some cells=>.ok (Y0 x cells)
def JL(k:zx):Bool:=match EU k.d with
 | .ok x=>decide (k=x)
 | .error _=>false
def BE(k:zx):Int:=if JL k then 0 else 180
def Rr{k:zx}(h:JL k=true):EU k.d= .ok k:=by grind [JL]
def Rs{x:xj}(h:Dt x=0):∃cells,Au x.sh x.w x.h x.wC=some cells:=by
 unfold Dt at h;split at h
 ·cases h
 ·split at h
  ·rename_i e he;have:=GX he;exact absurd h this
  ·grind
def Mz{d:xj}{k:zx}(h:EU d= .ok k):∃x cells,CL d= .ok x/\Dt x=0/\Au x.sh x.w x.h x.wC=some cells/\k=Y0 x cells:=by grind [EU]
def jK(a b:List Int)(ha:wide a):Av prog 167 [Aj a,Aj b] (.bool (decide (a=b))):=by
 refine .mk ⟨AV 0 _,AV 0 _,zt⟩ zt (iC.a (AI AH.wD (AJ ?_)));have wu:a.length<1125899906842624:=ha;by_cases hl:a.length=b.length;case neg=>
  have hR:decide (a=b)=false:=sA λq=>hl (by rw[q])
  have hq:((a.length:Int)=(b.length:Int))=False:=sb zo;rw[hR];simp only[eZ,seval,se,ry,iC,hq]
 have hq:((a.length:Int)=(b.length:Int))=True:=r9 zo;simp only[eZ,seval,sa,ry,iC,hq];refine AQ (λi:Nat=>⟨[(0,true,Aj a),(1,true,Aj b),(5,true,.int .i64 i)],Ak,0⟩) (λi=>i<=a.length/\a.take i=b.take i) (λi=>a.length-i) 0 rfl ⟨sk _,rfl⟩ ?_;rintro i ⟨hi,l7⟩;by_cases e9:i<a.length
 ·have wO:i<b.length:=zo
  have hg:=rz e9;have wQ:=rz wO;have e:=AK (k:=i) zo;have ta:a.take (i+1)=a.take i++[a[i]]:=by rw[sG,hg];rfl
  have tb:b.take (i+1)=b.take i++[b[i]]:=by rw[sG,wQ];rfl
  generalize a[i]=x at hg ta;generalize b[i]=y at wQ tb;by_cases xH:x=y
  ·simp only[eZ,seval,sa,eY,AN e9,AN wO,hg,wQ,e,xH];exact .mk (i+1) rfl ⟨e9,by rw[ta,tb,l7,xH]⟩ zo
  ·have hR:decide (a=b)=false:=sA λq=>xH (by rw[q]at hg;rw[hg]at wQ;exact Option.some.inj wQ)
   rw[hR];simp only[eZ,seval,se,eY,AN e9,AN wO,hg,wQ,A5 xH]
 obtain rfl:i=a.length:=zo
 have hR:decide (a=b)=true:=sK (by rw[sD,hl,sD]at l7;exact l7);rw[hR];simp only[eZ,seval,ry,Ag e9]
def p167(a b:List Int)(ha:Aq a):Av prog 167 [Aj a,Aj b] (.bool (decide (a=b))):=jK a b (Dr ha)
def p179(r:zj):Av prog 179 [Bt r] (.bool (Id r)):=by
 refine .mk ⟨BP 0 r,zt⟩ zt (qF.a (AI AH.wD (AJ ?_)));simp only[eZ,seval,qF];rfl
def Tr7:Bg:=AF 179 (s1 Mq KS λr=>.bool (Id r)) wD
def lI:AH prog Tr7:=AH.wD.add (q1 λr _=>p179 r)
structure IUr(d:xj)(v:VU):Prop where
 hi:v.i<=d.wF.length
 fr:AO v.H v.n
 hn:2<=v.n
 h0:AD v.H 0=some (.box (AL d))
 tok:C8 1 1 v.H v.tk
 es:v.tk.esz=1\/B2 (d.wF.take v.i)=[]
def p123(d:xj)(hr:Aq d.wF):Av prog 123 [B6 d] (Aj (B2 d.wF)):=by
 refine .mk ⟨At 0 d,zt⟩ (AV 0 _) (qG.a (AI lI (AJ ?_)));have hrl:d.wF.length<1000000000:=hr;simp only[eE,eN,seval,qG];refine AQ (λv:VU=>⟨[(1,true,.ptr 0 0),(3,true,.sl v.tk ((B2 (d.wF.take v.i)).map eI)),(4,true,.int .i64 v.i)],v.H,v.n⟩) (IUr d) (λv=>d.wF.length-v.i)
  ⟨0,.nil,wB Ak 0 (.box (AL d)),2⟩ rfl ⟨sk _,AO.nil.wB (m:=2) (sk 2) (show 0<2 by decide),sj _,rfl,.inl rfl,.inr rfl⟩ ?_
 rintro⟨i,tk,H,n⟩ ⟨hi,l9,hn,h0,l7,s7⟩;simp only at hi l9 hn h0 l7 s7;by_cases e9:i<d.wF.length
 ·have hg:=rz e9;have e:=AK (k:=i) zo;have hu:=Lg e9;have hul:=Mw (d.wF.take i);rw[sU]at hul;generalize d.wF[i]=r at hg hu;cases hrr:Id r with
  |true=>
   rw[hrr,sn rfl,sR]at hu;simp only[eZ,seval,sa,eY,AN e9,hg,Tr7,s1,CC,Bi,hrr,e,h0,AF];refine .mk ⟨i+1,tk,H,n⟩ ?_ ⟨e9,l9,hn,h0,l7,by simp only[hu];exact s7⟩ zp;simp only[hu]
  |false=>
   rw[hrr,sg zd]at hu;have q1:BB H 1 tk=True:=r9 l7.app;have q2:((B2 (d.wF.take i)).length<=35184372088831)=True:=r9 zo;have q3:Al ((B2 (d.wF.take i)).length+1) 8=True:=r9 (Ae zo zd);simp only[eZ,seval,se,eY,AN e9,hg,Bq l9,Tr7,s1,CC,Bi,hrr,e,h0,q1,q2,q3,AF];refine .mk ⟨i+1,.own (n+3) 1,wB (AU H tk) (n+3) .tok,n+5⟩ ?_ ⟨e9,(Ab l7 l9).wB (m:=n+5) zo zo,zp,?_,.inr (.inr ⟨n+3,rfl,zo,AC ..⟩),.inl rfl⟩ zp
   ·simp only[hu,su];rfl
   ·simp only[];rw[AA _ _ _ _ zo,Ac l7 (.inr ⟨_,h0⟩)];exact h0
 obtain rfl:i=d.wF.length:=zo
 rw[sD]at s7;simp only[eZ,seval,ry,Ag e9,sD,h0];exact Wk.sl (s7.imp id λq=>by rw[q];rfl)
end Go.AM
