/-
  Names: each name's number put into a map; two elements with one name end the work · Names: a name's number, sets of symb.
  Conditions: none beyond those of its parts.
-/
import Derived.Test.YtepckdbdfhpggaaGreatB9
import Derived.Test.YtepckdbdfhpggaaGreatB6
import Derived.Test.YtepckdbdfhpggaaGreatB8

set_option maxRecDepth 20000
set_option linter.all false
namespace Go.AM
open Go.Proofs Go.Lib
abbrev errV (n:Int):AVal:=.ifc 46 (.int .i64 n)
abbrev nmO (l:List Bs):AObj:=.map (nmEs l 0) l.length
def Bt (H:AB) (n id:Nat) (pre ns:List Bs):AOut->AB->Nat->Prop:=λo H' n'=>
 if Ai (pre++ns)=true then o= .pan (errV 161)/\H'=hset H id .dead/\n'=n else o= .ret (.mp id)/\H'=hset H id (nmO (pre++ns))/\n'=n
def GK (H:AB) (id:Nat) (pre ns:List Bs):AOut->AB->Nat->Prop:=λo H' n'=>
 if Ai (pre++ns)=true then o= .pan (errV 161)/\(∃ob,hget H' id=some ob)/\CQ id H H' else(∃v,o= .ret v/\Wk v (.mp id))/\hget H' id=some (nmO (pre++ns))/\CQ id H H'
theorem PA (n:Nat) (l:List Bs):(nmO l).under n:=by
 suffices h:∀(i n c:Nat),(AObj.map (nmEs l i) c).under n from h 0 n l.length
 induction l with
 |nil=>intro i n c;trivial
 |cons x r ih=>intro i n c;exact⟨trivial,trivial,ih (i+1) n c⟩
theorem J1 {H H':AB} {n id:Nat} {ob ob1:AObj} (hf:AN H n) (hid:id<n) (h1:hget H' id=some ob1) (hw:OWk ob1 ob) (hu:ob.under n) (h2:CQ id H H'):FJ n H H' (hset H id ob):=by
 refine⟨λi o ho=>?_,λi hi=>?_⟩
 ·rw[AI]at ho
  by_cases e:id=i
  ·subst e
   rw[Xg rfl]at ho
   cases ho
   exact⟨hid,⟨_,h1,hw⟩,.inl hu⟩
  ·rw[Xc e]at ho
   exact⟨hf.lt ho,⟨o,h2 i o (Ne.symm e) ho,OWk.refl _⟩,.inr ho⟩
 ·rw[AI]
  split
  ·exact λh=>by cases h
  ·exact hi
theorem Rz (ob:AObj):OWk ob .dead:=⟨λ_ _ _ _=>trivial,λh=>by cases h⟩
theorem Bt.of {fid:FuncId} {args:List AVal} {H:AB} {n id:Nat} {pre ns:List Bs} (hc:AZ Tryz.prog fid) (hp:hget H id=some (nmO pre)) (h:AN H n->id<n->AO Tryz.prog fid args H n (GK H id pre ns)):AO Tryz.prog fid args H n (Bt H n id pre ns):=by
 refine AO.fresh hc λhf=>?_
 have hid:=hf.lt hp
 refine AO.forget (h hf hid) ?_
 intro o H' n' q
 unfold GK at q
 by_cases ht:Ai (pre++ns)=true
 ·rw[Xg ht]at q
  obtain⟨rfl,⟨ob,h1⟩,h2⟩:=q
  exact⟨.pan (errV 161),hset H id .dead,by unfold Bt;rw[Xg ht];exact⟨rfl,rfl,rfl⟩,J1 hf hid h1 (Rz _) trivial h2,Wk.refl _,trivial⟩
 ·rw[Xc ht]at q
  obtain⟨⟨v,rfl,hw⟩,h1,h2⟩:=q
  exact⟨.ret (.mp id),hset H id (nmO (pre++ns)),by unfold Bt;rw[Xc ht];exact⟨rfl,rfl,rfl⟩,J1 hf hid h1 (OWk.refl _) (PA n _) h2,hw,hid⟩
structure VIx where
 i:Nat
 H:AB
 n:Nat
structure IIx (H:AB) (n id:Nat) (pre ns:List Bs) (v:VIx):Prop where
 hi:v.i<=ns.length
 hn:n<=v.n
 fr:AN v.H v.n
 hm:hget v.H id=some (nmO (pre++ns.take v.i))
 hk:CQ id H v.H
 tw:Ai (pre++ns.take v.i)=false
theorem Gh {pre ns:List Bs} {i:Nat} (h:i<ns.length) (hin:ns[i]∈pre++ns.take i):Ai (pre++ns)=true:=by
 have e:pre++ns=(pre++ns.take i)++ns[i]::ns.drop (i+1):=by
  rw[XR,<-XM h,List.take_append_drop]
 rw[e];exact To hin
theorem Gi {l:List Bs} {s:Bs} (h:Ai l=false) (hs:s∉l):Ai (l++[s])=false:=RQ.2 ⟨h,hs⟩
theorem p206 (x:DSym):Pur Tryz.prog 206 [IK x] (.str x.nm):=by
 refine .mk ⟨Hg 0 x,trivial⟩ trivial (a206 (AF AH.tnil (AG ?_)))
 simp only[eE,eN,Nat.reduceEqDiff,↓reduceIte,Nat.reduceAdd,Nat.reduceLeDiff,c206]
theorem p208 (x:DReg):Pur Tryz.prog 208 [GT x] (.str x.nm):=by
 refine .mk ⟨Dn 0 x,trivial⟩ trivial (a208 (AF AH.tnil (AG ?_)))
 simp only[eE,eN,Nat.reduceEqDiff,↓reduceIte,Nat.reduceAdd,Nat.reduceLeDiff,c208]
theorem p213 (x:DClu):Pur Tryz.prog 213 [B1 x] (.str x.nm):=by
 refine .mk ⟨FD 0 x,trivial⟩ trivial (a213 (AF AH.tnil (AG ?_)))
 simp only[eE,eN,Nat.reduceEqDiff,↓reduceIte,Nat.reduceAdd,Nat.reduceLeDiff,c213]
theorem p217 (x:DRul):Pur Tryz.prog 217 [Bl x] (.str x.nm):=by
 refine .mk ⟨CJ 0 x,trivial⟩ trivial (a217 (AF AH.tnil (AG ?_)))
 simp only[eE,eN,Nat.reduceEqDiff,↓reduceIte,Nat.reduceAdd,Nat.reduceLeDiff,c217]
theorem p211 (x:Bs):Pur Tryz.prog 211 [.str x] (.str x):=by
 refine .mk ⟨trivial,trivial⟩ trivial (a211 (AF AH.tnil (AG ?_)))
 simp only[eE,eN,reduceCtorEq,↓reduceIte,c211]
theorem p210:Pur Tryz.prog 210 [] (eSs GF):=by
 refine .mk trivial (DO 0 _) (a210 (AF AH.tnil (AG ?_)))
 simp only[eE,eN,↓reduceIte,Nat.reduceLeDiff,Nat.reduceMul,Nat.reduceLT,c210]
 exact Wk.sl (.inl rfl)
def Tx1:Tab:=tadd 206 (s1 dSy any1 λx=>.str ((λx:DSym=>x.nm) x)) tnil
theorem Tx1_ok:AH Tryz.prog Tx1:=AH.tnil.add (q1 λx _=>p206 x)
theorem Tx1_e (a:List AVal) (H:AB):Tx1 206 a H=s1 dSy any1 (λx=>.str ((λx:DSym=>x.nm) x)) a H:=rfl
theorem R5 {H:AB} {n id:Nat} {pre:List Bs} {l:List DSym} {f:Int} (hl:few l) (hpl:pre.length<1000000000) (hf0:f=(pre.length:Int)) (hp:hget H id=some (nmO pre)) (hd:Ai pre=false):
  AO Tryz.prog 205 [eSys l,.int .i64 f,.fn (.func 206) [] [],.mp id] H n (Bt H n id pre (l.map (λx:DSym=>x.nm))):=by
 subst hf0
 refine Bt.of l205 hp λhf hid=>a205 (AF Tx1_ok (AG ?_))
 have hll:l.length<1000000000:=hl
 simp only[eE,eN,reduceCtorEq,Nat.reduceEqDiff,↓reduceIte,Nat.reduceAdd,X0,c205]
 refine AU (λv:VIx=>⟨[(1,true,.int .i64 pre.length),(2,true,.fn (.func 206) [] []),(3,true,.mp id),(13,true,eSys l),(14,true,.int .i64 l.length),(15,true,.int .i64 v.i)],v.H,v.n⟩) (IIx H n id pre (l.map (λx:DSym=>x.nm))) (λv=>l.length-v.i)
  ⟨0,H,n⟩ rfl ⟨Xh _,Xb _,hf,by rw[YN,Xu];exact hp,CQ.refl _,by rw[YN,Xu];exact hd⟩ ?_
 rintro⟨i,H1,n1⟩ hI
 have hi:=hI.hi
 have hn:=hI.hn
 have hfr:=hI.fr
 have hm:=hI.hm
 have hk:=hI.hk
 have htw:=hI.tw
 simp only[X0]at hi hn hfr hm hk htw
 by_cases hlt:i<l.length
 ·have hltm:i<(l.map (λx:DSym=>x.nm)).length:=by rw[X0];exact hlt
  have hg:=X5 hlt
  have hgm:(l.map (λx:DSym=>x.nm))[i]=(λx:DSym=>x.nm) l[i]:=ZD ..
  have e:=AL (k:=i) (by omega)
  have htk:(l.map (λx:DSym=>x.nm)).take (i+1)=(l.map (λx:DSym=>x.nm)).take i++[(λx:DSym=>x.nm) l[i]]:=by rw[Y2,X5 hltm,hgm];rfl
  have hpl2:(pre++(l.map (λx:DSym=>x.nm)).take i).length=pre.length+i:=by rw[Xm,Xv,X0];omega
  have ew:IntKind.wrap .i64 ((pre.length:Int)+(i:Int))=((pre.length+i:Nat):Int):=by rw[Ay (by omega) (by omega)];omega
  have y1:∀k,(n1+k=id)=False:=λk=>X9 (by omega)
  have y2:∀k,(id=n1+k)=False:=λk=>X9 (by omega)
  have hin:=λq=>Gh (pre:=pre) hltm (by rw[hgm];exact q)
  generalize hx:l[i]=x at hg hgm htk hin
  have hfi:=Do (pre++(l.map (λx:DSym=>x.nm)).take i) ((λx:DSym=>x.nm) x)
  cases hno:B7 (pre++(l.map (λx:DSym=>x.nm)).take i) ((λx:DSym=>x.nm) x)with
  |some k=>
   have htt:Ai (pre++l.map (λx:DSym=>x.nm))=true:=hin (by
    apply Classical.byContradiction
    intro q
    rw[BS.2 q]at hno;cases hno)
   rw[hno,XU]at hfi
   simp only[eE,eC,eN,Nat.reduceEqDiff,↓reduceIte,Nat.reduceAdd,Nat.reduceLT,xE,X2,Option.isSome_some,isF,X3,X4,X0,X6,Xa,Xd,lt_T hlt,hg,Tx1_e,s1,Ur,RZ,hm,hfi,DR,KT.is,CC,fr1 hfr,y1,AJ]
   unfold GK
   rw[Xg htt]
   refine⟨rfl,⟨nmO (pre++(l.map (λx:DSym=>x.nm)).take i),?_⟩,?_⟩
   ·rw[AA _ _ _ _ (by omega)];exact hm
   ·exact hk.new hf (by omega)
  |none=>
   rw[hno,YE]at hfi
   have hms:=K6 hno
   rw[hpl2]at hms
   simp only[eE,eC,eN,Nat.reduceEqDiff,↓reduceIte,Nat.reduceAdd,Nat.reduceLT,Int.reduceEq,xE,YY,X2,Option.isSome_none,X3,X4,X0,X6,Xa,Xd,lt_T hlt,hg,Tx1_e,s1,Ur,RZ,hm,hfi,DR,KT.is,CC,fr1 hfr,y1,e,ew,hpl2,hms,AJ]
   refine .mk ⟨i+1,hset (hset H1 (n1+3) (.box (IK x).cells)) id (.map (nmEs (pre++(l.map (λx:DSym=>x.nm)).take i++[(λx:DSym=>x.nm) x]) 0) (pre.length+(i+1))),n1+6⟩ rfl ⟨by simp only[X0];omega,by simp only[];omega,?_,?_,?_,?_⟩ (by simp only[];omega)
   ·exact(hfr.hset (m:=n1+6) (by omega) (by omega)).hset (Xb (n1+6)) (show id<n1+6 by omega)
   ·simp only[]
    rw[AC,htk,<-XR,nmO,Xm,hpl2];rfl
   ·exact(hk.new hf (by omega)).set
   ·simp only[]
    rw[htk,<-XR];exact Gi htw (BS.1 hno)
 have hi':i=l.length:=by omega
 subst hi'
 have hta:(l.map (λx:DSym=>x.nm)).take l.length=l.map (λx:DSym=>x.nm):=Y0 (by rw[X0];omega)
 rw[hta]at hm htw
 simp only[eE,eC,eN,Nat.reduceEqDiff,↓reduceIte,lt_F hlt]
 unfold GK
 rw[htw,Xc (by decide)]
 exact⟨⟨_,rfl,Wk.refl _⟩,hm,hk⟩
def Tx2:Tab:=tadd 208 (s1 dRg any1 λx=>.str ((λx:DReg=>x.nm) x)) tnil
theorem Tx2_ok:AH Tryz.prog Tx2:=AH.tnil.add (q1 λx _=>p208 x)
theorem Tx2_e (a:List AVal) (H:AB):Tx2 208 a H=s1 dRg any1 (λx=>.str ((λx:DReg=>x.nm) x)) a H:=rfl
theorem R6 {H:AB} {n id:Nat} {pre:List Bs} {l:List DReg} {f:Int} (hl:few l) (hpl:pre.length<1000000000) (hf0:f=(pre.length:Int)) (hp:hget H id=some (nmO pre)) (hd:Ai pre=false):
  AO Tryz.prog 207 [eRgs l,.int .i64 f,.fn (.func 208) [] [],.mp id] H n (Bt H n id pre (l.map (λx:DReg=>x.nm))):=by
 subst hf0
 refine Bt.of l207 hp λhf hid=>a207 (AF Tx2_ok (AG ?_))
 have hll:l.length<1000000000:=hl
 simp only[eE,eN,reduceCtorEq,Nat.reduceEqDiff,↓reduceIte,Nat.reduceAdd,X0,c207]
 refine AU (λv:VIx=>⟨[(1,true,.int .i64 pre.length),(2,true,.fn (.func 208) [] []),(3,true,.mp id),(13,true,eRgs l),(14,true,.int .i64 l.length),(15,true,.int .i64 v.i)],v.H,v.n⟩) (IIx H n id pre (l.map (λx:DReg=>x.nm))) (λv=>l.length-v.i)
  ⟨0,H,n⟩ rfl ⟨Xh _,Xb _,hf,by rw[YN,Xu];exact hp,CQ.refl _,by rw[YN,Xu];exact hd⟩ ?_
 rintro⟨i,H1,n1⟩ hI
 have hi:=hI.hi
 have hn:=hI.hn
 have hfr:=hI.fr
 have hm:=hI.hm
 have hk:=hI.hk
 have htw:=hI.tw
 simp only[X0]at hi hn hfr hm hk htw
 by_cases hlt:i<l.length
 ·have hltm:i<(l.map (λx:DReg=>x.nm)).length:=by rw[X0];exact hlt
  have hg:=X5 hlt
  have hgm:(l.map (λx:DReg=>x.nm))[i]=(λx:DReg=>x.nm) l[i]:=ZD ..
  have e:=AL (k:=i) (by omega)
  have htk:(l.map (λx:DReg=>x.nm)).take (i+1)=(l.map (λx:DReg=>x.nm)).take i++[(λx:DReg=>x.nm) l[i]]:=by rw[Y2,X5 hltm,hgm];rfl
  have hpl2:(pre++(l.map (λx:DReg=>x.nm)).take i).length=pre.length+i:=by rw[Xm,Xv,X0];omega
  have ew:IntKind.wrap .i64 ((pre.length:Int)+(i:Int))=((pre.length+i:Nat):Int):=by rw[Ay (by omega) (by omega)];omega
  have y1:∀k,(n1+k=id)=False:=λk=>X9 (by omega)
  have y2:∀k,(id=n1+k)=False:=λk=>X9 (by omega)
  have hin:=λq=>Gh (pre:=pre) hltm (by rw[hgm];exact q)
  generalize hx:l[i]=x at hg hgm htk hin
  have hfi:=Do (pre++(l.map (λx:DReg=>x.nm)).take i) ((λx:DReg=>x.nm) x)
  cases hno:B7 (pre++(l.map (λx:DReg=>x.nm)).take i) ((λx:DReg=>x.nm) x)with
  |some k=>
   have htt:Ai (pre++l.map (λx:DReg=>x.nm))=true:=hin (by
    apply Classical.byContradiction
    intro q
    rw[BS.2 q]at hno;cases hno)
   rw[hno,XU]at hfi
   simp only[eE,eC,eN,Nat.reduceEqDiff,↓reduceIte,Nat.reduceAdd,Nat.reduceLT,xE,X2,Option.isSome_some,isF,X3,X4,X0,X6,Xa,Xd,lt_T hlt,hg,Tx2_e,s1,NZ,Ju,hm,hfi,DR,KT.is,CC,fr1 hfr,y1,AJ]
   unfold GK
   rw[Xg htt]
   refine⟨rfl,⟨nmO (pre++(l.map (λx:DReg=>x.nm)).take i),?_⟩,?_⟩
   ·rw[AA _ _ _ _ (by omega)];exact hm
   ·exact hk.new hf (by omega)
  |none=>
   rw[hno,YE]at hfi
   have hms:=K6 hno
   rw[hpl2]at hms
   simp only[eE,eC,eN,Nat.reduceEqDiff,↓reduceIte,Nat.reduceAdd,Nat.reduceLT,Int.reduceEq,xE,YY,X2,Option.isSome_none,X3,X4,X0,X6,Xa,Xd,lt_T hlt,hg,Tx2_e,s1,NZ,Ju,hm,hfi,DR,KT.is,CC,fr1 hfr,y1,e,ew,hpl2,hms,AJ]
   refine .mk ⟨i+1,hset (hset H1 (n1+3) (.box (GT x).cells)) id (.map (nmEs (pre++(l.map (λx:DReg=>x.nm)).take i++[(λx:DReg=>x.nm) x]) 0) (pre.length+(i+1))),n1+6⟩ rfl ⟨by simp only[X0];omega,by simp only[];omega,?_,?_,?_,?_⟩ (by simp only[];omega)
   ·exact(hfr.hset (m:=n1+6) (by omega) (by omega)).hset (Xb (n1+6)) (show id<n1+6 by omega)
   ·simp only[]
    rw[AC,htk,<-XR,nmO,Xm,hpl2];rfl
   ·exact(hk.new hf (by omega)).set
   ·simp only[]
    rw[htk,<-XR];exact Gi htw (BS.1 hno)
 have hi':i=l.length:=by omega
 subst hi'
 have hta:(l.map (λx:DReg=>x.nm)).take l.length=l.map (λx:DReg=>x.nm):=Y0 (by rw[X0];omega)
 rw[hta]at hm htw
 simp only[eE,eC,eN,Nat.reduceEqDiff,↓reduceIte,lt_F hlt]
 unfold GK
 rw[htw,Xc (by decide)]
 exact⟨⟨_,rfl,Wk.refl _⟩,hm,hk⟩
def Tx3:Tab:=tadd 211 (s1 dS any1 λx=>.str ((λx:Bs=>x) x)) tnil
theorem Tx3_ok:AH Tryz.prog Tx3:=AH.tnil.add (q1 λx _=>p211 x)
theorem Tx3_e (a:List AVal) (H:AB):Tx3 211 a H=s1 dS any1 (λx=>.str ((λx:Bs=>x) x)) a H:=rfl
theorem U3 {H:AB} {n id:Nat} {pre:List Bs} {l:List Bs} {f:Int} (hl:few l) (hpl:pre.length<1000000000) (hf0:f=(pre.length:Int)) (hp:hget H id=some (nmO pre)) (hd:Ai pre=false):
  AO Tryz.prog 209 [eSs l,.int .i64 f,.fn (.func 211) [] [],.mp id] H n (Bt H n id pre (l.map (λx:Bs=>x))):=by
 subst hf0
 refine Bt.of l209 hp λhf hid=>a209 (AF Tx3_ok (AG ?_))
 have hll:l.length<1000000000:=hl
 simp only[eE,eN,reduceCtorEq,Nat.reduceEqDiff,↓reduceIte,Nat.reduceAdd,X0,c209]
 refine AU (λv:VIx=>⟨[(1,true,.int .i64 pre.length),(2,true,.fn (.func 211) [] []),(3,true,.mp id),(13,true,eSs l),(14,true,.int .i64 l.length),(15,true,.int .i64 v.i)],v.H,v.n⟩) (IIx H n id pre (l.map (λx:Bs=>x))) (λv=>l.length-v.i)
  ⟨0,H,n⟩ rfl ⟨Xh _,Xb _,hf,by rw[YN,Xu];exact hp,CQ.refl _,by rw[YN,Xu];exact hd⟩ ?_
 rintro⟨i,H1,n1⟩ hI
 have hi:=hI.hi
 have hn:=hI.hn
 have hfr:=hI.fr
 have hm:=hI.hm
 have hk:=hI.hk
 have htw:=hI.tw
 simp only[X0]at hi hn hfr hm hk htw
 by_cases hlt:i<l.length
 ·have hltm:i<(l.map (λx:Bs=>x)).length:=by rw[X0];exact hlt
  have hg:=X5 hlt
  have hgm:(l.map (λx:Bs=>x))[i]=(λx:Bs=>x) l[i]:=ZD ..
  have e:=AL (k:=i) (by omega)
  have htk:(l.map (λx:Bs=>x)).take (i+1)=(l.map (λx:Bs=>x)).take i++[(λx:Bs=>x) l[i]]:=by rw[Y2,X5 hltm,hgm];rfl
  have hpl2:(pre++(l.map (λx:Bs=>x)).take i).length=pre.length+i:=by rw[Xm,Xv,X0];omega
  have ew:IntKind.wrap .i64 ((pre.length:Int)+(i:Int))=((pre.length+i:Nat):Int):=by rw[Ay (by omega) (by omega)];omega
  have y1:∀k,(n1+k=id)=False:=λk=>X9 (by omega)
  have y2:∀k,(id=n1+k)=False:=λk=>X9 (by omega)
  have hin:=λq=>Gh (pre:=pre) hltm (by rw[hgm];exact q)
  generalize hx:l[i]=x at hg hgm htk hin
  have hfi:=Do (pre++(l.map (λx:Bs=>x)).take i) ((λx:Bs=>x) x)
  cases hno:B7 (pre++(l.map (λx:Bs=>x)).take i) ((λx:Bs=>x) x)with
  |some k=>
   have htt:Ai (pre++l.map (λx:Bs=>x))=true:=hin (by
    apply Classical.byContradiction
    intro q
    rw[BS.2 q]at hno;cases hno)
   rw[hno,XU]at hfi
   simp only[eE,eC,eN,Nat.reduceEqDiff,↓reduceIte,Nat.reduceAdd,Nat.reduceLT,xE,X2,Option.isSome_some,isF,X3,X4,X0,X6,Xa,Xd,lt_T hlt,hg,Tx3_e,s1,dS_ok,Us,hm,hfi,DR,KT.is,CC]
   unfold GK
   rw[Xg htt]
   refine⟨rfl,⟨nmO (pre++(l.map (λx:Bs=>x)).take i),?_⟩,?_⟩
   ·exact hm
   ·exact hk
  |none=>
   rw[hno,YE]at hfi
   have hms:=K6 hno
   rw[hpl2]at hms
   simp only[eE,eC,eN,Nat.reduceEqDiff,↓reduceIte,Nat.reduceAdd,Nat.reduceLT,Int.reduceEq,xE,YY,X2,Option.isSome_none,X3,X4,X0,X6,Xa,Xd,lt_T hlt,hg,Tx3_e,s1,dS_ok,Us,hm,hfi,DR,KT.is,CC,e,ew,hpl2,hms]
   refine .mk ⟨i+1,hset H1 id (.map (nmEs (pre++(l.map (λx:Bs=>x)).take i++[(λx:Bs=>x) x]) 0) (pre.length+(i+1))),n1⟩ rfl ⟨by simp only[X0];omega,by simp only[];omega,?_,?_,?_,?_⟩ (by simp only[];omega)
   ·exact hfr.hset (m:=n1) (Xb _) (by omega)
   ·simp only[]
    rw[AC,htk,<-XR,nmO,Xm,hpl2];rfl
   ·exact hk.set
   ·simp only[]
    rw[htk,<-XR];exact Gi htw (BS.1 hno)
 have hi':i=l.length:=by omega
 subst hi'
 have hta:(l.map (λx:Bs=>x)).take l.length=l.map (λx:Bs=>x):=Y0 (by rw[X0];omega)
 rw[hta]at hm htw
 simp only[eE,eC,eN,Nat.reduceEqDiff,↓reduceIte,lt_F hlt]
 unfold GK
 rw[htw,Xc (by decide)]
 exact⟨⟨_,rfl,Wk.refl _⟩,hm,hk⟩
def Tx4:Tab:=tadd 213 (s1 dCl any1 λx=>.str ((λx:DClu=>x.nm) x)) tnil
theorem Tx4_ok:AH Tryz.prog Tx4:=AH.tnil.add (q1 λx _=>p213 x)
theorem Tx4_e (a:List AVal) (H:AB):Tx4 213 a H=s1 dCl any1 (λx=>.str ((λx:DClu=>x.nm) x)) a H:=rfl
theorem R7 {H:AB} {n id:Nat} {pre:List Bs} {l:List DClu} {f:Int} (hl:few l) (hpl:pre.length<1000000000) (hf0:f=(pre.length:Int)) (hp:hget H id=some (nmO pre)) (hd:Ai pre=false):
  AO Tryz.prog 212 [eCls l,.int .i64 f,.fn (.func 213) [] [],.mp id] H n (Bt H n id pre (l.map (λx:DClu=>x.nm))):=by
 subst hf0
 refine Bt.of l212 hp λhf hid=>a212 (AF Tx4_ok (AG ?_))
 have hll:l.length<1000000000:=hl
 simp only[eE,eN,reduceCtorEq,Nat.reduceEqDiff,↓reduceIte,Nat.reduceAdd,X0,c212]
 refine AU (λv:VIx=>⟨[(1,true,.int .i64 pre.length),(2,true,.fn (.func 213) [] []),(3,true,.mp id),(13,true,eCls l),(14,true,.int .i64 l.length),(15,true,.int .i64 v.i)],v.H,v.n⟩) (IIx H n id pre (l.map (λx:DClu=>x.nm))) (λv=>l.length-v.i)
  ⟨0,H,n⟩ rfl ⟨Xh _,Xb _,hf,by rw[YN,Xu];exact hp,CQ.refl _,by rw[YN,Xu];exact hd⟩ ?_
 rintro⟨i,H1,n1⟩ hI
 have hi:=hI.hi
 have hn:=hI.hn
 have hfr:=hI.fr
 have hm:=hI.hm
 have hk:=hI.hk
 have htw:=hI.tw
 simp only[X0]at hi hn hfr hm hk htw
 by_cases hlt:i<l.length
 ·have hltm:i<(l.map (λx:DClu=>x.nm)).length:=by rw[X0];exact hlt
  have hg:=X5 hlt
  have hgm:(l.map (λx:DClu=>x.nm))[i]=(λx:DClu=>x.nm) l[i]:=ZD ..
  have e:=AL (k:=i) (by omega)
  have htk:(l.map (λx:DClu=>x.nm)).take (i+1)=(l.map (λx:DClu=>x.nm)).take i++[(λx:DClu=>x.nm) l[i]]:=by rw[Y2,X5 hltm,hgm];rfl
  have hpl2:(pre++(l.map (λx:DClu=>x.nm)).take i).length=pre.length+i:=by rw[Xm,Xv,X0];omega
  have ew:IntKind.wrap .i64 ((pre.length:Int)+(i:Int))=((pre.length+i:Nat):Int):=by rw[Ay (by omega) (by omega)];omega
  have y1:∀k,(n1+k=id)=False:=λk=>X9 (by omega)
  have y2:∀k,(id=n1+k)=False:=λk=>X9 (by omega)
  have hin:=λq=>Gh (pre:=pre) hltm (by rw[hgm];exact q)
  generalize hx:l[i]=x at hg hgm htk hin
  have hfi:=Do (pre++(l.map (λx:DClu=>x.nm)).take i) ((λx:DClu=>x.nm) x)
  cases hno:B7 (pre++(l.map (λx:DClu=>x.nm)).take i) ((λx:DClu=>x.nm) x)with
  |some k=>
   have htt:Ai (pre++l.map (λx:DClu=>x.nm))=true:=hin (by
    apply Classical.byContradiction
    intro q
    rw[BS.2 q]at hno;cases hno)
   rw[hno,XU]at hfi
   simp only[eE,eC,eN,Nat.reduceEqDiff,↓reduceIte,Nat.reduceAdd,Nat.reduceLT,xE,X2,Option.isSome_some,isF,X3,X4,X0,X6,Xa,Xd,lt_T hlt,hg,Tx4_e,s1,K5,Hh,hm,hfi,DR,KT.is,CC,fr1 hfr,y1,AJ]
   unfold GK
   rw[Xg htt]
   refine⟨rfl,⟨nmO (pre++(l.map (λx:DClu=>x.nm)).take i),?_⟩,?_⟩
   ·rw[AA _ _ _ _ (by omega)];exact hm
   ·exact hk.new hf (by omega)
  |none=>
   rw[hno,YE]at hfi
   have hms:=K6 hno
   rw[hpl2]at hms
   simp only[eE,eC,eN,Nat.reduceEqDiff,↓reduceIte,Nat.reduceAdd,Nat.reduceLT,Int.reduceEq,xE,YY,X2,Option.isSome_none,X3,X4,X0,X6,Xa,Xd,lt_T hlt,hg,Tx4_e,s1,K5,Hh,hm,hfi,DR,KT.is,CC,fr1 hfr,y1,e,ew,hpl2,hms,AJ]
   refine .mk ⟨i+1,hset (hset H1 (n1+3) (.box (B1 x).cells)) id (.map (nmEs (pre++(l.map (λx:DClu=>x.nm)).take i++[(λx:DClu=>x.nm) x]) 0) (pre.length+(i+1))),n1+6⟩ rfl ⟨by simp only[X0];omega,by simp only[];omega,?_,?_,?_,?_⟩ (by simp only[];omega)
   ·exact(hfr.hset (m:=n1+6) (by omega) (by omega)).hset (Xb (n1+6)) (show id<n1+6 by omega)
   ·simp only[]
    rw[AC,htk,<-XR,nmO,Xm,hpl2];rfl
   ·exact(hk.new hf (by omega)).set
   ·simp only[]
    rw[htk,<-XR];exact Gi htw (BS.1 hno)
 have hi':i=l.length:=by omega
 subst hi'
 have hta:(l.map (λx:DClu=>x.nm)).take l.length=l.map (λx:DClu=>x.nm):=Y0 (by rw[X0];omega)
 rw[hta]at hm htw
 simp only[eE,eC,eN,Nat.reduceEqDiff,↓reduceIte,lt_F hlt]
 unfold GK
 rw[htw,Xc (by decide)]
 exact⟨⟨_,rfl,Wk.refl _⟩,hm,hk⟩
def Tx5:Tab:=tadd 217 (s1 dRu any1 λx=>.str ((λx:DRul=>x.nm) x)) tnil
theorem Tx5_ok:AH Tryz.prog Tx5:=AH.tnil.add (q1 λx _=>p217 x)
theorem Tx5_e (a:List AVal) (H:AB):Tx5 217 a H=s1 dRu any1 (λx=>.str ((λx:DRul=>x.nm) x)) a H:=rfl
theorem R8 {H:AB} {n id:Nat} {pre:List Bs} {l:List DRul} {f:Int} (hl:few l) (hpl:pre.length<1000000000) (hf0:f=(pre.length:Int)) (hp:hget H id=some (nmO pre)) (hd:Ai pre=false):
  AO Tryz.prog 216 [eRus l,.int .i64 f,.fn (.func 217) [] [],.mp id] H n (Bt H n id pre (l.map (λx:DRul=>x.nm))):=by
 subst hf0
 refine Bt.of l216 hp λhf hid=>a216 (AF Tx5_ok (AG ?_))
 have hll:l.length<1000000000:=hl
 simp only[eE,eN,reduceCtorEq,Nat.reduceEqDiff,↓reduceIte,Nat.reduceAdd,X0,c216]
 refine AU (λv:VIx=>⟨[(1,true,.int .i64 pre.length),(2,true,.fn (.func 217) [] []),(3,true,.mp id),(13,true,eRus l),(14,true,.int .i64 l.length),(15,true,.int .i64 v.i)],v.H,v.n⟩) (IIx H n id pre (l.map (λx:DRul=>x.nm))) (λv=>l.length-v.i)
  ⟨0,H,n⟩ rfl ⟨Xh _,Xb _,hf,by rw[YN,Xu];exact hp,CQ.refl _,by rw[YN,Xu];exact hd⟩ ?_
 rintro⟨i,H1,n1⟩ hI
 have hi:=hI.hi
 have hn:=hI.hn
 have hfr:=hI.fr
 have hm:=hI.hm
 have hk:=hI.hk
 have htw:=hI.tw
 simp only[X0]at hi hn hfr hm hk htw
 by_cases hlt:i<l.length
 ·have hltm:i<(l.map (λx:DRul=>x.nm)).length:=by rw[X0];exact hlt
  have hg:=X5 hlt
  have hgm:(l.map (λx:DRul=>x.nm))[i]=(λx:DRul=>x.nm) l[i]:=ZD ..
  have e:=AL (k:=i) (by omega)
  have htk:(l.map (λx:DRul=>x.nm)).take (i+1)=(l.map (λx:DRul=>x.nm)).take i++[(λx:DRul=>x.nm) l[i]]:=by rw[Y2,X5 hltm,hgm];rfl
  have hpl2:(pre++(l.map (λx:DRul=>x.nm)).take i).length=pre.length+i:=by rw[Xm,Xv,X0];omega
  have ew:IntKind.wrap .i64 ((pre.length:Int)+(i:Int))=((pre.length+i:Nat):Int):=by rw[Ay (by omega) (by omega)];omega
  have y1:∀k,(n1+k=id)=False:=λk=>X9 (by omega)
  have y2:∀k,(id=n1+k)=False:=λk=>X9 (by omega)
  have hin:=λq=>Gh (pre:=pre) hltm (by rw[hgm];exact q)
  generalize hx:l[i]=x at hg hgm htk hin
  have hfi:=Do (pre++(l.map (λx:DRul=>x.nm)).take i) ((λx:DRul=>x.nm) x)
  cases hno:B7 (pre++(l.map (λx:DRul=>x.nm)).take i) ((λx:DRul=>x.nm) x)with
  |some k=>
   have htt:Ai (pre++l.map (λx:DRul=>x.nm))=true:=hin (by
    apply Classical.byContradiction
    intro q
    rw[BS.2 q]at hno;cases hno)
   rw[hno,XU]at hfi
   simp only[eE,eC,eN,Nat.reduceEqDiff,↓reduceIte,Nat.reduceAdd,Nat.reduceLT,xE,X2,Option.isSome_some,isF,X3,X4,X0,X6,Xa,Xd,lt_T hlt,hg,Tx5_e,s1,GH,ES,hm,hfi,DR,KT.is,CC,fr1 hfr,y1,AJ]
   unfold GK
   rw[Xg htt]
   refine⟨rfl,⟨nmO (pre++(l.map (λx:DRul=>x.nm)).take i),?_⟩,?_⟩
   ·rw[AA _ _ _ _ (by omega)];exact hm
   ·exact hk.new hf (by omega)
  |none=>
   rw[hno,YE]at hfi
   have hms:=K6 hno
   rw[hpl2]at hms
   simp only[eE,eC,eN,Nat.reduceEqDiff,↓reduceIte,Nat.reduceAdd,Nat.reduceLT,Int.reduceEq,xE,YY,X2,Option.isSome_none,X3,X4,X0,X6,Xa,Xd,lt_T hlt,hg,Tx5_e,s1,GH,ES,hm,hfi,DR,KT.is,CC,fr1 hfr,y1,e,ew,hpl2,hms,AJ]
   refine .mk ⟨i+1,hset (hset H1 (n1+3) (.box (Bl x).cells)) id (.map (nmEs (pre++(l.map (λx:DRul=>x.nm)).take i++[(λx:DRul=>x.nm) x]) 0) (pre.length+(i+1))),n1+6⟩ rfl ⟨by simp only[X0];omega,by simp only[];omega,?_,?_,?_,?_⟩ (by simp only[];omega)
   ·exact(hfr.hset (m:=n1+6) (by omega) (by omega)).hset (Xb (n1+6)) (show id<n1+6 by omega)
   ·simp only[]
    rw[AC,htk,<-XR,nmO,Xm,hpl2];rfl
   ·exact(hk.new hf (by omega)).set
   ·simp only[]
    rw[htk,<-XR];exact Gi htw (BS.1 hno)
 have hi':i=l.length:=by omega
 subst hi'
 have hta:(l.map (λx:DRul=>x.nm)).take l.length=l.map (λx:DRul=>x.nm):=Y0 (by rw[X0];omega)
 rw[hta]at hm htw
 simp only[eE,eC,eN,Nat.reduceEqDiff,↓reduceIte,lt_F hlt]
 unfold GK
 rw[htw,Xc (by decide)]
 exact⟨⟨_,rfl,Wk.refl _⟩,hm,hk⟩
end Go.AM
namespace Go.AM
open Go.Proofs Go.Lib
def NPost (H:AB) (n:Nat) (r:Option Int):AOut->AB->Nat->Prop:=λo H' n'=>H'=H/\n'=n/\match r with
 |some k=>o= .ret (.int .i64 k)
 |none=>o= .pan (errV 160)
theorem J2 {H:AB} {n id:Nat} {l:List Bs} {s:Bs} (hp:hget H id=some (nmO l)):AO Tryz.prog 215 [.mp id,.str s] H n (NPost H n (B7 l s)):=by
 refine a215 (AF AH.tnil (AG ?_))
 have hf:=Do l s
 cases hno:B7 l s with
 |some k=>
  rw[hno,XU]at hf
  simp only[eE,eC,eN,reduceCtorEq,Nat.reduceEqDiff,↓reduceIte,Nat.reduceAdd,Nat.reduceLT,X7,xE,X2,Option.isSome_some,Xa,Xd,c215,hp,hf,DR,KT.is,CC]
  exact⟨rfl,rfl,rfl⟩
 |none=>
  rw[hno,YE]at hf
  simp only[eE,eC,eN,reduceCtorEq,Nat.reduceEqDiff,↓reduceIte,Nat.reduceAdd,Nat.reduceLT,Xe,xE,YY,X2,Option.isSome_none,isF,Xa,Xd,c215,hp,hf,DR,KT.is,CC]
  exact⟨rfl,rfl,rfl⟩
theorem or_nat {a b:Nat} (ha:a<65536) (hb:b<65536):V8 .or .i64 (a:Int) (b:Int)=((a|||b:Nat):Int):=by
 have hab:a|||b<65536:=Nat.or_lt_two_pow (n:=16) ha hb
 have e:∀x:Nat,BitVec.ofInt 64 (x:Int)=BitVec.ofNat 64 x:=λx=>by
  apply BitVec.eq_of_toNat_eq
  simp [BitVec.toNat_ofNat]
 show IntKind.wrap .i64 ((BitVec.ofInt 64 (a:Int)|||BitVec.ofInt 64 (b:Int)).toNat:Int)=_
 rw[e,e,BitVec.toNat_or,BitVec.toNat_ofNat,BitVec.toNat_ofNat,Nat.mod_eq_of_lt (by omega),Nat.mod_eq_of_lt (by omega),Ay (by omega) (by omega)]
theorem U4 {j:Nat} (h:j<16):IZ .shl .i64 1 (j:Int)=((1<<<j:Nat):Int):=by
 have h2:2^j<65536:=Nat.pow_lt_pow_right (by decide) (show j<16 from h)
 show IntKind.wrap .i64 (1*2^(min (j:Int).toNat 64))=_
 rw[Int.one_mul,X3,Nat.min_eq_left (by omega),Nat.shiftLeft_eq,Nat.one_mul]
 have e:((2:Int)^j)=((2^j:Nat):Int):=by rw[Int.natCast_pow];rfl
 rw[e]
 generalize 2^j=p at h2
 exact Ay (by omega) (by omega)
theorem UC {j:Nat} (h:j<16):1<<<j<65536:=by
 rw[Nat.shiftLeft_eq,Nat.one_mul];exact Nat.pow_lt_pow_right (by decide) (show j<16 from h)
def FG (l:List Bs) (acc:Nat) (ss:List Bs):Option Int:=(FC l ss).map λk=>((acc|||k.toNat:Nat):Int)
theorem Nn (l:List Bs) (acc:Nat):FG l acc []=some (acc:Int):=by simp [FG,FC]
theorem LM {l:List Bs} {acc:Nat} {s:Bs} {r:List Bs}:FG l acc (s::r)=match B7 l s with
  |none=>none
  |some j=>FG l (acc|||1<<<j.toNat) r:=by
 unfold FG
 rw[I2,B7]
 cases l.findIdx? λx=>decide (x=s)with
 |none=>rfl
 |some i=>
  simp only[XU,X3]
  cases FC l r with
  |none=>rfl
  |some n=>
   simp only[XU,Option.some.injEq]
   congr 1
   show acc|||(Int.ofNat (Nat.lor (1<<<i) n.toNat)).toNat=_
   rw[Nat.or_assoc];rfl
theorem R9 (l ss:List Bs):FG l 0 ss=FC l ss:=by
 unfold FG
 rw[Ov]
 cases Ae (λs=>l.findIdx? λx=>decide (x=s)) ss with
 |none=>rfl
 |some is=>simp
theorem SA {H:AB} {n id sid:Nat} {l ss:List Bs} (hl:l.length<=16) (hss:wide ss) (hs:hget H sid=some (.box [.mp id])) (hp:hget H id=some (nmO l)):AO Tryz.prog 219 [eSs ss,.ptr sid 0] H n (NPost H n (FC l ss)):=by
 refine a219 (AF AH.tnil (AG ?_))
 have hsl:ss.length<1125899906842624:=hss
 rw[<-R9]
 simp only[eE,eN,reduceCtorEq,Nat.reduceEqDiff,↓reduceIte,Nat.reduceAdd,X0,c219]
 refine AU (λv:Nat×Nat=>⟨[(1,true,.ptr sid 0),(3,true,.int .i64 v.2),(6,true,eSs ss),(7,true,.int .i64 ss.length),(8,true,.int .i64 v.1)],H,n⟩) (λv=>v.1<=ss.length/\v.2<65536/\FG l 0 ss=FG l v.2 (ss.drop v.1)) (λv=>ss.length-v.1) (0,0) rfl ⟨Xh _,by decide,rfl⟩ ?_
 rintro⟨i,acc⟩ ⟨hi,hacc,heq⟩
 simp only at hi hacc heq
 by_cases hlt:i<ss.length
 ·have hg:=X5 hlt
  have e:=AL (k:=i) (by omega)
  rw[XM hlt,LM]at heq
  generalize ss[i]=s at hg heq
  simp only[eE,eC,eN,Nat.reduceEqDiff,↓reduceIte,X2,X3,X4,X0,X6,lt_T hlt,hg,hs]
  refine(J2 hp).mono λo H' n' hq=>?_
  obtain⟨rfl,rfl,hq⟩:=hq
  cases hno:B7 l s with
  |none=>
   rw[hno]at hq heq
   subst hq
   simp only at heq
   rw[heq]
   simp only[eE,eN,retK]
   exact⟨rfl,rfl,rfl⟩
  |some k=>
   rw[hno]at hq heq
   subst hq
   simp only at heq
   obtain⟨h0,h1⟩:=RU hno
   obtain⟨j,rfl⟩:∃j:Nat,k=j:=⟨k.toNat,by omega⟩
   rw[X3]at heq
   simp only[eE,eN,Nat.reduceEqDiff,↓reduceIte,Int.reduceEq,X4,retK,U4 (show j<16 by omega),or_nat hacc (UC (show j<16 by omega)),e]
   exact .mk (i+1,acc|||1<<<j) rfl ⟨hlt,Nat.or_lt_two_pow (n:=16) hacc (UC (by omega)),heq⟩ (by simp only[];omega)
 obtain rfl:i=ss.length:=by omega
 rw[Yt,Nn]at heq
 rw[heq]
 simp only[eE,eC,eN,Nat.reduceEqDiff,↓reduceIte,lt_F hlt]
 exact⟨rfl,rfl,rfl⟩
end Go.AM
namespace Go.AM
open Go.Proofs Go.Lib
abbrev No:List AVal:=[.str [],.int .i64 0,.int .i64 0,.int .i64 0,.int .i64 0,.sl .nil [],.sl .nil [],.sl .nil [],.sl .nil [],.sl .nil []]
theorem d_rn {H:AB} {n i0 i1:Nat}:C7 Tryz.prog 204 [.ptr i0 0,.ptr i1 0] .nilifc H n (λH' n'=>H'=H/\n'=n):=by
 refine a204 (AF AH.tnil (AG ?_))
 simp only[eE,eC,eN,reduceCtorEq,Nat.reduceEqDiff,↓reduceIte,Nat.reduceAdd,X7,xE,c204]
theorem d_rp {H:AB} {n:Nat} {xs:List AVal} {y:AVal} {p:Int} (h0:hget H 1=some (.box xs)) (hx:xs.length=10) (h1:hget H 2=some (.box [y])):
  C7 Tryz.prog 204 [.ptr 1 0,.ptr 2 0] (errV p) H n (λH' n'=>hget H' 1=some (.box No)/\hget H' 2=some (.box [.int .i64 p])):=by
 refine a204 (AF AH.tnil (AG ?_))
 obtain⟨a,b,c,d,e,f,g,h,i,j,rfl⟩:∃a b c d e f g h i j,xs=[a,b,c,d,e,f,g,h,i,j]:=by
  match xs,hx with
  |[a,b,c,d,e,f,g,h,i,j],_=>exact⟨a,b,c,d,e,f,g,h,i,j,rfl⟩
 simp only[eE,eC,eN,reduceCtorEq,Nat.reduceEqDiff,↓reduceIte,Nat.reduceAdd,xE,c204,h0,h1]
end Go.AM
namespace Go.AM
open Go.Proofs Go.Lib
def Ev (d:Dcl):AVal:=match resD d with
 | .error e=>.tup [encD dcl0,.int .i64 e]
 | .ok x=>.tup [encD x,.int .i64 0]
abbrev Bu (d:Dcl) (vc vr:AVal):List AVal:=[.str d.nm,.int .i64 d.ver,.int .i64 d.sh,.int .i64 d.w,.int .i64 d.h,eIs d.holes,eSys d.syms,eRgs d.regs,vc,vr]
def RR (d:Dcl):AOut->AB->Nat->Prop:=λo H' n'=>match resD d with
 | .error e=>∃v,o= .ret v/\Wk v (.tup [encD dcl0,.int .i64 e])
 | .ok x=>∃vc vr,o= .ret (.tup [.agg (Bu d vc vr),.int .i64 0])/\LV 6 vc H' (x.clus.map B1)/\LV 12 vr H' (x.ruls.map Bl)/\(∀i a b c e j f g h k,vc= .ref i a b c e->vr= .ref j f g h k->i≠j)
def Tnr:Tab:=tadd 210 (λa _=>match a with
 |[]=>(True,eSs GF)
 |_=>(False,.tup [])) tnil
theorem UD:AH Tryz.prog Tnr:=AH.tnil.add λargs H n h=>by
 cases args with
 |nil=>exact p210.quiet H n
 |cons _ _=>exact h.elim
theorem Tnr_g (H:AB):Tnr 210 [] H=(True,eSs GF):=rfl
abbrev rsR:List RC:=[.c 2 10 true,.c 3 1 false]
abbrev envR:List (Nat×Bool×AVal):=[(1,true,.ptr 0 0),(2,true,.ptr 1 0),(3,true,.ptr 2 0)]
abbrev argsR:List AVal:=[.ptr 1 0,.ptr 2 0]
def afst:ACode->ACode
 | .seq a _=>a
 |c=>c
def asnd:ACode->ACode
 | .seq _ b=>b
 |c=>c
def LN:Nat->ACode->ACode
 |0,c=>c
 |k+1,c=>LN k (asnd c)
abbrev QR (d:Dcl):AExit->AS->Prop:=postX Tryz.prog 204 argsR rsR envR (RR d)
theorem ten {xs:List AVal} (h:xs.length=10):∃a b c d e f g h i j,xs=[a,b,c,d,e,f,g,h,i,j]:=by
 match xs,h with
 |[a,b,c,d,e,f,g,h,i,j],_=>exact⟨a,b,c,d,e,f,g,h,i,j,rfl⟩
theorem CT {d:Dcl} {H:AB} {m:Nat} {xs:List AVal} {y:AVal} {p:Int} (h1:hget H 1=some (.box xs)) (hx:xs.length=10) (h2:hget H 2=some (.box [y])) (hr:resD d= .error p):QR d (.pan (errV p)) ⟨[],H,m⟩:=by
 refine C7.mono (d_rp h1 hx h2) ?_
 rintro H2 n2 ⟨k1,k2⟩
 unfold RcOf
 simp only[eE,Nat.reduceEqDiff,↓reduceIte,Nat.reduceAdd,Bc,k1,k2]
 unfold RR
 rw[hr]
 exact⟨_,rfl,Wk.tup (.cons (Wk.agg (.cons (Wk.refl _) (.cons (Wk.refl _) (.cons (Wk.refl _) (.cons (Wk.refl _) (.cons (Wk.refl _) (.cons (Wk.sl (.inr rfl)) (.cons (Wk.sl (.inr rfl)) (.cons (Wk.sl (.inr rfl)) (.cons (Wk.sl (.inr rfl)) (.cons (Wk.sl (.inr rfl)) .nil))))))))))) (.cons (Wk.refl _) .nil))⟩
theorem PB {d:Dcl} {env:List (Nat×Bool×AVal)} {H:AB} {m:Nat} {xs:List AVal} {y:AVal} (h1:hget H 1=some (.box xs)) (hx:xs.length=10) (h2:hget H 2=some (.box [y])) (hr:RR d (.ret (.tup [.agg xs,y])) H m):QR d .ret ⟨env,H,m⟩:=by
 refine C7.mono d_rn ?_
 rintro H2 n2 ⟨rfl,rfl⟩
 obtain⟨a,b,c,d,e,f,g,h,i,j,rfl⟩:=ten hx
 unfold RcOf
 simp only[eE,Nat.reduceEqDiff,↓reduceIte,Nat.reduceAdd,Bc,h1,h2]
 exact hr
end Go.AM
namespace Go.AM
open Go.Proofs Go.Lib
structure NM (d:Dcl) (vc vr:AVal) (H:AB):Prop where
 h0:hget H 0=some (.box (Bu d vc vr))
 h1:hget H 1=some (.box No)
 h2:hget H 2=some (.box [.int .i64 0])
 h5:hget H 5=some (nmO (d.syms.map λx:DSym=>x.nm))
 h7:hget H 7=some (.box [.mp 5])
 h12:hget H 12=some (nmO (GR d))
 h18:hget H 18=some (nmO (d.clus.map λx:DClu=>x.nm))
def notM (i:Nat):Prop:=i≠0/\i≠1/\i≠2/\i≠5/\i≠7/\i≠12/\i≠18
theorem NM.set {d:Dcl} {vc vr:AVal} {H:AB} {i:Nat} {ob:AObj} (h:NM d vc vr H) (hi:notM i):NM d vc vr (hset H i ob):=by
 obtain⟨a,b,c,e,f,g,k⟩:=hi
 exact⟨by rw[AA _ _ _ _ a];exact h.h0,by rw[AA _ _ _ _ b];exact h.h1,by rw[AA _ _ _ _ c];exact h.h2,by rw[AA _ _ _ _ e];exact h.h5,by rw[AA _ _ _ _ f];exact h.h7,by rw[AA _ _ _ _ g];exact h.h12,by rw[AA _ _ _ _ k];exact h.h18⟩
theorem NM.put {d:Dcl} {vc vr vc' vr':AVal} {H:AB} (h:NM d vc vr H):NM d vc' vr' (hset H 0 (.box (Bu d vc' vr'))):=
 ⟨AC ..,by rw[AA _ _ _ _ (by decide)];exact h.h1,by rw[AA _ _ _ _ (by decide)];exact h.h2,by rw[AA _ _ _ _ (by decide)];exact h.h5,by rw[AA _ _ _ _ (by decide)];exact h.h7,by rw[AA _ _ _ _ (by decide)];exact h.h12,by rw[AA _ _ _ _ (by decide)];exact h.h18⟩
theorem NM.ne {d:Dcl} {vc vr:AVal} {H:AB} {id e:Nat} {A:List AVal} (hnm:NM d vc vr H) (ho:hget H id=some (.arr e A)):notM id:=by
 refine⟨?_,?_,?_,?_,?_,?_,?_⟩<;>rintro rfl
 ·rw[hnm.h0]at ho;cases ho
 ·rw[hnm.h1]at ho;cases ho
 ·rw[hnm.h2]at ho;cases ho
 ·rw[hnm.h5]at ho;cases ho
 ·rw[hnm.h7]at ho;cases ho
 ·rw[hnm.h12]at ho;cases ho
 ·rw[hnm.h18]at ho;cases ho
theorem LO {i:Nat} (h:21<=i):notM i:=⟨by omega,by omega,by omega,by omega,by omega,by omega,by omega⟩
theorem D5 {α β:Type} (f:α->Option β) (x:α) (r:List α):Ae f (x::r)=(match f x with
  |some y=>(Ae f r).map λs=>y::s
  |none=>none):=by
 simp only[Ae]
 cases f x with
 |none=>rfl
 |some y=>cases Ae f r<;>rfl
structure VRl where
 i:Nat
 dn:List DRul
 H:AB
structure IRl (d:Dcl) (cs:List DClu) (vc vr:AVal) (n:Nat) (v:VRl):Prop where
 hi:v.i<=d.ruls.length
 ln:v.dn.length=v.i
 fr:AN v.H n
 nm:NM d vc vr v.H
 lc:LV 6 vc v.H (cs.map B1)
 lv:LV 12 vr v.H ((v.dn++d.ruls.drop v.i).map Bl)
 eq:Ae (BV d) d.ruls=(Ae (BV d) (d.ruls.drop v.i)).map λr=>v.dn++r
section
variable {a b c d e f g h i j k l v:AVal}
theorem apR3 (hv:v.cells=[v]):DX (.agg [a,b,c,d,e,f,g,h,i,j,k,l]) 3 1 12 v=(True,.agg [a,b,c,v,e,f,g,h,i,j,k,l]):=by
 rw[EA (by decide)];simp [splice,hv]
theorem apR6 (hv:v.cells=[v]):DX (.agg [a,b,c,d,e,f,g,h,i,j,k,l]) 6 1 12 v=(True,.agg [a,b,c,d,e,f,v,h,i,j,k,l]):=by
 rw[EA (by decide)];simp [splice,hv]
theorem apR7 (hv:v.cells=[v]):DX (.agg [a,b,c,d,e,f,g,h,i,j,k,l]) 7 1 12 v=(True,.agg [a,b,c,d,e,f,g,v,i,j,k,l]):=by
 rw[EA (by decide)];simp [splice,hv]
theorem SB (hv:v.cells=[v]):DX (.agg [a,b,c,d,e,f,g,h,i,j,k,l]) 11 1 12 v=(True,.agg [a,b,c,d,e,f,g,h,i,j,k,v]):=by
 rw[EA (by decide)];simp [splice,hv]
end
theorem LV.set {e:Nat} {v:AVal} {H:AB} {l:List AVal} {id:Nat} {ob:AObj} (h:LV e v H l) (hne:∀a b c x,v≠ .ref id a b c x):LV e v (hset H id ob) l:=by
 rcases h with h|⟨h0,i,cap,rest,rfl,ho,hc⟩
 ·exact .inl h
 ·exact .inr ⟨h0,i,cap,rest,rfl,by rw[AA _ _ _ _ (λq=>hne _ _ _ _ (by rw[q]))];exact ho,hc⟩
theorem LV.no {e:Nat} {H:AB} {l:List AVal} {i a b c x:Nat} (h:LV e (.ref i a b c x) H l) (hn:∀e' A,hget H i≠some (.arr e' A)):False:=by
 rcases h with⟨-,t,h,-⟩|⟨-,id,cap,rest,h,ho,-⟩
 ·cases h
 ·cases h;exact hn _ _ ho
theorem UE (d:Dcl) (hd:FewD d) (h16:¬16<d.syms.length) (ht1:Ai (d.syms.map λx:DSym=>x.nm)=false) (ht2:Ai (GR d)=false) (ht3:Ai (d.clus.map λx:DClu=>x.nm)=false) {cs:List DClu} (hcs:Ae (C9 d) d.clus=some cs) (ht4:Ai (d.ruls.map λx:DRul=>x.nm)=false)
  {vc vr:AVal} {H:AB} {n:Nat} (hf:AN H n) (hm:NM d vc vr H) (hvc:LV 6 vc H (cs.map B1)) (hvr:LV 12 vr H (d.ruls.map Bl)) (hdj:∀i a b c e j f g h k,vc= .ref i a b c e->vr= .ref j f g h k->i≠j):
  evK Tryz.prog Tnr (asnd (afst (LN 9 c161))) [.c (asnd (LN 9 c161))] (QR d) ⟨[(1,true,.ptr 0 0),(2,true,.ptr 1 0),(3,true,.ptr 2 0),(5,true,.mp 12),(6,true,.mp 18),(8,true,.fn (.func 219) [] [.ptr 7 0]),(66,true,.int .i64 d.ruls.length),(67,true,.int .i64 0)],H,n⟩:=by
 have hrl:d.ruls.length<1000000000:=hd.ru
 have hbase:∀x,Ae (BV d) d.ruls=x->resD d=(match x with|none=>.error 160|some rs=>.ok {d with clus:=cs,ruls:=rs}):=λx hx=>by
  unfold resD
  rw[Xc h16,ht1,ht2,ht3,hcs]
  simp only[Xq,XO]
  rw[ht4,hx]
  rfl
 simp only[eE,LN,asnd,afst,c161]
 refine AU (λv:VRl=>⟨[(1,true,.ptr 0 0),(2,true,.ptr 1 0),(3,true,.ptr 2 0),(5,true,.mp 12),(6,true,.mp 18),(8,true,.fn (.func 219) [] [.ptr 7 0]),(66,true,.int .i64 d.ruls.length),(67,true,.int .i64 v.i)],v.H,n⟩) (IRl d cs vc vr n) (λv=>d.ruls.length-v.i)
  ⟨0,[],H⟩ rfl ⟨Xh _,rfl,hf,hm,hvc,hvr,by rw[List.drop_zero];cases Ae (BV d) d.ruls<;>rfl⟩ ?_
 rintro⟨i,dn,H1⟩ hI
 have hi:=hI.hi
 have hln:=hI.ln
 have hfr:=hI.fr
 have hnm:=hI.nm
 have hlc:=hI.lc
 have hlv:=hI.lv
 have heq:=hI.eq
 clear hI hf hm hvc hvr
 simp only at hi hln hfr hnm hlc hlv heq
 by_cases hlt:i<d.ruls.length
 case neg=>
  obtain rfl:i=d.ruls.length:=by omega
  rw[Yt]at heq hlv
  rw[Xu]at hlv
  have hr:=hbase _ heq
  simp only[Ae,XU,Xu]at hr
  simp only[eE,eC,eN,Nat.reduceEqDiff,↓reduceIte,Nat.reduceAdd,lt_F hlt,hnm.h0,Bu,hnm.h1,hnm.h2]
  refine PB (xs:=Bu d vc vr) (y:=.int .i64 0) ?_ rfl ?_ ?_
  ·simp only[AI];rfl
  ·simp only[AI];rfl
  unfold RR
  rw[hr]
  have hn1:∀a b c x,vc≠ .ref 1 a b c x/\vc≠ .ref 2 a b c x/\vr≠ .ref 1 a b c x/\vr≠ .ref 2 a b c x:=by
   intro a b c x
   refine⟨?_,?_,?_,?_⟩<;>rintro rfl
   ·exact hlc.no (by rw[hnm.h1];simp)
   ·exact hlc.no (by rw[hnm.h2];simp)
   ·exact hlv.no (by rw[hnm.h1];simp)
   ·exact hlv.no (by rw[hnm.h2];simp)
  exact⟨vc,vr,rfl,(hlc.set λa b c x=>(hn1 a b c x).1).set λa b c x=>(hn1 a b c x).2.1,(hlv.set λa b c x=>(hn1 a b c x).2.2.1).set λa b c x=>(hn1 a b c x).2.2.2,hdj⟩
 have hrx:=(hd.rus _ (Xk hlt))
 rw[XM hlt]at heq hlv
 rw[D5]at heq
 generalize d.ruls[i]=r at heq hlv hrx
 have hll:((dn++r::d.ruls.drop (i+1)).map Bl).length=d.ruls.length:=by simp;omega
 rcases hlv with⟨h0,-⟩|⟨-,id,cap,rest,hvr,ho,hcr⟩
 ·simp at h0
 rw[hll]at hvr hcr
 subst hvr
 have e:=AL (k:=i) (by omega)
 have hid:id<n:=hfr.lt ho
 have hne:=hnm.ne ho
 have h0:=hnm.h0
 have hgi:((dn++r::d.ruls.drop (i+1)).map Bl++rest)[i]?=some (Bl r):=by
  rw[Xj,XR,Yg (by simp;omega)]
  simp [hln]
 have hil:i<((dn++r::d.ruls.drop (i+1)).map Bl++rest).length:=by rw[Xm,hll];omega
 have hse:∀r':DRul,((dn++r::d.ruls.drop (i+1)).map Bl++rest).set i (Bl r')=((dn++[r'])++d.ruls.drop (i+1)).map Bl++rest:=λr'=>by
  rw[Xj,XR,List.set_append_right _ _ (by simp;omega)]
  simp [hln]
 generalize hA:(dn++r::d.ruls.drop (i+1)).map Bl++rest=A at ho hgi hil hse
 have hls:∀x,(i<(A.set i x).length)=True:=λx=>X1 (by rw[Ye];exact hil)
 have hgs:∀x,(A.set i x)[i]?=some x:=λx=>List.getElem?_set_self hil
 have hss:∀x y,(A.set i x).set i y=A.set i y:=λx y=>List.set_set ..
 have z0':(id=0)=False:=X9 hne.1
 have z5':(id=5)=False:=X9 hne.2.2.2.1
 have z7':(id=7)=False:=X9 hne.2.2.2.2.1
 have z12':(id=12)=False:=X9 hne.2.2.2.2.2.1
 have z18':(id=18)=False:=X9 hne.2.2.2.2.2.2
 have h7:=hnm.h7
 have h5:=hnm.h5
 have hbad:BV d r=none->resD d= .error 160:=λq=>by
  rw[q]at heq
  exact hbase _ heq
 have hnv:∀ob,NM d vc (.ref id 12 0 d.ruls.length cap) (hset H1 id ob):=λob=>hnm.set hne
 have hvn:∀a b c x,vc≠ .ref id a b c x:=λa b c x q=>hdj _ _ _ _ _ _ _ _ _ _ q rfl rfl
 have fin:∀(F a b c:Int),BV d r=some {r with fam:=F,set:=a,oth:=b,clue:=c}->lpN (λv:VRl=>⟨[(1,true,.ptr 0 0),(2,true,.ptr 1 0),(3,true,.ptr 2 0),(5,true,.mp 12),(6,true,.mp 18),(8,true,.fn (.func 219) [] [.ptr 7 0]),(66,true,.int .i64 d.ruls.length),(67,true,.int .i64 v.i)],v.H,n⟩) (IRl d cs vc (.ref id 12 0 d.ruls.length cap) n) (λv=>d.ruls.length-v.i) ⟨i,dn,H1⟩
   ⟨[(1,true,.ptr 0 0),(2,true,.ptr 1 0),(3,true,.ptr 2 0),(5,true,.mp 12),(6,true,.mp 18),(8,true,.fn (.func 219) [] [.ptr 7 0]),(66,true,.int .i64 d.ruls.length),(67,true,.int .i64 ((i+1:Nat):Int))],hset H1 id (.arr 12 (A.set i (.agg [.str r.nm,.str r.on,.int .i64 r.kind,.int .i64 F,eSs r.ns,eSs r.os,.int .i64 a,.int .i64 b,.int .i64 r.op,.int .i64 r.n,.str r.byN,.int .i64 c]))),n⟩:=λF a b c hrr=>by
  rw[hrr]at heq
  have hse2:=hse {r with fam:=F,set:=a,oth:=b,clue:=c}
  refine .mk ⟨i+1,dn++[{r with fam:=F,set:=a,oth:=b,clue:=c}],hset H1 id (.arr 12 (A.set i (Bl {r with fam:=F,set:=a,oth:=b,clue:=c})))⟩ rfl ⟨hlt,by simp [hln],hfr.hset (Xb _) hid,hnv _,hlc.set hvn,.inr ⟨by simp,id,cap,rest,?_,?_,?_⟩,?_⟩ (by simp only[];omega)
  ·simp only[X0,Xm,Xn,Y7,Yw,hln]
   congr 1;omega
  ·simp only[]
   rw[AC,hse2]
  ·simp only[X0,Xm,Xn,Y7,Yw,hln]
   omega
  ·simp only[]
   rw[heq]
   cases Ae (BV d) (d.ruls.drop (i+1))<;>simp
 by_cases hon:r.on=[]
 ·have hb:scmp .neq r.on []=false:=by rw[Dp,hon];rfl
  simp only[eE,eC,eN,eX,reduceCtorEq,Nat.reduceEqDiff,↓reduceIte,Nat.reduceAdd,Nat.reduceLeDiff,Nat.reduceLT,Nat.reduceMod,Nat.reduceSub,Nat.reduceDiv,X2,X3,X4,atN,atK,IE,lt_T hlt,h0,Bu,ho,hgi,X1 hil,addr,X1 hid,hls,hgs,hss,Bl,Dm,apR3,SB,AJ,hb]
  refine(SA (by rw[X0];omega) hrx.1 (hnv _).h7 (hnv _).h5).mono λo H' n' hq=>?_
  obtain⟨rfl,rfl,hq⟩:=hq
  cases hs1:FC (d.syms.map λx:DSym=>x.nm) r.ns with
  |none=>
   rw[hs1]at hq
   subst hq
   simp only[eE,eN,EG]
   exact CT (hnv _).h1 rfl (hnv _).h2 (hbad (by unfold BV;rw[Xg hon,hs1]))
  |some a=>
   rw[hs1]at hq
   subst hq
   simp only[eE,eC,eX,Nat.reduceEqDiff,↓reduceIte,Nat.reduceLeDiff,Nat.reduceMod,Nat.reduceSub,Nat.reduceDiv,EG]
   refine(SA (by rw[X0];omega) hrx.2 (hnv _).h7 (hnv _).h5).mono λo H' n' hq=>?_
   obtain⟨rfl,rfl,hq⟩:=hq
   cases hs2:FC (d.syms.map λx:DSym=>x.nm) r.os with
   |none=>
    rw[hs2]at hq
    subst hq
    simp only[eE,eN,EG]
    exact CT (hnv _).h1 rfl (hnv _).h2 (hbad (by unfold BV;rw[Xg hon,hs1,hs2]))
   |some b=>
    rw[hs2]at hq
    subst hq
    by_cases hby:r.byN=[]
    ·have hb2:scmp .neq r.byN []=false:=by rw[Dp,hby];rfl
     simp only[eE,eC,eN,eX,Nat.reduceEqDiff,↓reduceIte,Nat.reduceAdd,Nat.reduceLeDiff,Int.reduceEq,Nat.reduceSub,Nat.reduceDiv,X2,EG,hb2,I4,hls,hgs,hss,apR6,apR7,AJ,e]
     exact fin 0 a b (-1) (by unfold BV;rw[Xg hon,hs1,hs2,Xg hby])
    ·have hb2:scmp .neq r.byN []=true:=by rw[Dp,B2 hby];rfl
     simp only[eE,eC,eN,eX,Nat.reduceEqDiff,↓reduceIte,Nat.reduceAdd,Nat.reduceLeDiff,Nat.reduceSub,Nat.reduceDiv,X2,EG,hb2,I4,hls,hgs,hss,apR6,apR7,AJ]
     refine(J2 (hnv _).h18).mono λo H' n' hq=>?_
     obtain⟨rfl,rfl,hq⟩:=hq
     cases hnb:B7 (d.clus.map λx:DClu=>x.nm) r.byN with
     |none=>
      rw[hnb]at hq
      subst hq
      simp only[eE,eN,retK]
      exact CT (hnv _).h1 rfl (hnv _).h2 (hbad (by unfold BV;rw[Xg hon,hs1,hs2,Xc hby,hnb]))
     |some c=>
      rw[hnb]at hq
      subst hq
      simp only[eE,eN,Nat.reduceEqDiff,↓reduceIte,Int.reduceEq,X2,retK,hls,hgs,hss,SB,AJ,e]
      exact fin 0 a b c (by unfold BV;rw[Xg hon,hs1,hs2,Xc hby,hnb])
 ·have hb:scmp .neq r.on []=true:=by rw[Dp,B2 hon];rfl
  simp only[eE,eC,eN,Nat.reduceEqDiff,↓reduceIte,Nat.reduceAdd,Nat.reduceLeDiff,X2,X3,X4,lt_T hlt,h0,Bu,ho,hgi,X1 hil,hls,hgs,hss,Bl,Dm,apR3,SB,AJ,hb]
  refine(J2 (hnv _).h12).mono λo H' n' hq=>?_
  obtain⟨rfl,rfl,hq⟩:=hq
  cases hno:B7 (GR d) r.on with
  |none=>
   rw[hno]at hq
   subst hq
   simp only[eE,eN,retK]
   exact CT (hnv _).h1 rfl (hnv _).h2 (hbad (by unfold BV;rw[Xc hon,hno]))
  |some F=>
   rw[hno]at hq
   subst hq
   simp only[eE,eN,eX,reduceCtorEq,Nat.reduceEqDiff,↓reduceIte,Nat.reduceAdd,Nat.reduceLeDiff,Nat.reduceLT,Nat.reduceMod,Nat.reduceSub,Nat.reduceDiv,X2,atN,atK,IE,retK,addr,X1 hid,hls,hgs,hss,apR3,AJ]
   refine(SA (by rw[X0];omega) hrx.1 (hnv _).h7 (hnv _).h5).mono λo H' n' hq=>?_
   obtain⟨rfl,rfl,hq⟩:=hq
   cases hs1:FC (d.syms.map λx:DSym=>x.nm) r.ns with
   |none=>
    rw[hs1]at hq
    subst hq
    simp only[eE,eN,EG]
    exact CT (hnv _).h1 rfl (hnv _).h2 (hbad (by unfold BV;rw[Xc hon,hno,hs1]))
   |some a=>
    rw[hs1]at hq
    subst hq
    simp only[eE,eC,eX,Nat.reduceEqDiff,↓reduceIte,Nat.reduceLeDiff,Nat.reduceMod,Nat.reduceSub,Nat.reduceDiv,EG]
    refine(SA (by rw[X0];omega) hrx.2 (hnv _).h7 (hnv _).h5).mono λo H' n' hq=>?_
    obtain⟨rfl,rfl,hq⟩:=hq
    cases hs2:FC (d.syms.map λx:DSym=>x.nm) r.os with
    |none=>
     rw[hs2]at hq
     subst hq
     simp only[eE,eN,EG]
     exact CT (hnv _).h1 rfl (hnv _).h2 (hbad (by unfold BV;rw[Xc hon,hno,hs1,hs2]))
    |some b=>
     rw[hs2]at hq
     subst hq
     by_cases hby:r.byN=[]
     ·have hb2:scmp .neq r.byN []=false:=by rw[Dp,hby];rfl
      simp only[eE,eC,eN,eX,Nat.reduceEqDiff,↓reduceIte,Nat.reduceAdd,Nat.reduceLeDiff,Int.reduceEq,Nat.reduceSub,Nat.reduceDiv,X2,EG,hb2,I4,hls,hgs,hss,apR6,apR7,AJ,e]
      exact fin F a b (-1) (by unfold BV;rw[Xc hon,hno,hs1,hs2,Xg hby])
     ·have hb2:scmp .neq r.byN []=true:=by rw[Dp,B2 hby];rfl
      simp only[eE,eC,eN,eX,Nat.reduceEqDiff,↓reduceIte,Nat.reduceAdd,Nat.reduceLeDiff,Nat.reduceSub,Nat.reduceDiv,X2,EG,hb2,I4,hls,hgs,hss,apR6,apR7,AJ]
      refine(J2 (hnv _).h18).mono λo H' n' hq=>?_
      obtain⟨rfl,rfl,hq⟩:=hq
      cases hnb:B7 (d.clus.map λx:DClu=>x.nm) r.byN with
      |none=>
       rw[hnb]at hq
       subst hq
       simp only[eE,eN,retK]
       exact CT (hnv _).h1 rfl (hnv _).h2 (hbad (by unfold BV;rw[Xc hon,hno,hs1,hs2,Xc hby,hnb]))
      |some c=>
       rw[hnb]at hq
       subst hq
       simp only[eE,eN,Nat.reduceEqDiff,↓reduceIte,Int.reduceEq,X2,retK,hls,hgs,hss,SB,AJ,e]
       exact fin F a b c (by unfold BV;rw[Xc hon,hno,hs1,hs2,Xc hby,hnb])
end Go.AM
namespace Go.AM
open Go.Proofs Go.Lib
structure VCl where
 i:Nat
 dn:List DClu
 H:AB
structure ICl (d:Dcl) (vc:AVal) (n:Nat) (v:VCl):Prop where
 hi:v.i<=d.clus.length
 ln:v.dn.length=v.i
 fr:AN v.H n
 nm:NM d vc (eRus d.ruls) v.H
 lv:LV 6 vc v.H ((v.dn++d.clus.drop v.i).map B1)
 eq:Ae (C9 d) d.clus=(Ae (C9 d) (d.clus.drop v.i)).map λr=>v.dn++r
theorem apS2 {a b c d e f v:AVal} (h:v.cells=[v]):DX (.agg [a,b,c,d,e,f]) 2 1 6 v=(True,.agg [a,b,v,d,e,f]):=by
 rw[EA (by decide)];simp [splice,h]
theorem UF (d:Dcl) (hd:FewD d) (h16:¬16<d.syms.length) (ht1:Ai (d.syms.map λx:DSym=>x.nm)=false) (ht2:Ai (GR d)=false) (ht3:Ai (d.clus.map λx:DClu=>x.nm)=false)
  {vc:AVal} {H:AB} {n:Nat} {ml:Int} (hml:ml=(d.clus.length:Int)) (hn:21<=n) (hf:AN H n) (hm:NM d vc (eRus d.ruls) H) (hv:LV 6 vc H (d.clus.map B1)):
  evK Tryz.prog Tnr (asnd (afst (LN 5 c161))) [.c (asnd (LN 5 c161))] (QR d) ⟨[(1,true,.ptr 0 0),(2,true,.ptr 1 0),(3,true,.ptr 2 0),(4,true,.ptr 7 0),(5,true,.mp 12),(6,true,.mp 18),(37,true,.int .i64 ml),(38,true,.int .i64 0)],H,n⟩:=by
 subst hml
 have hcl:d.clus.length<1000000000:=hd.cl
 simp only[eE,LN,asnd,afst,c161]
 refine AU (λv:VCl=>⟨[(1,true,.ptr 0 0),(2,true,.ptr 1 0),(3,true,.ptr 2 0),(4,true,.ptr 7 0),(5,true,.mp 12),(6,true,.mp 18),(37,true,.int .i64 d.clus.length),(38,true,.int .i64 v.i)],v.H,n⟩) (ICl d vc n) (λv=>d.clus.length-v.i)
  ⟨0,[],H⟩ rfl ⟨Xh _,rfl,hf,hm,hv,by rw[List.drop_zero];cases Ae (C9 d) d.clus<;>rfl⟩ ?_
 rintro⟨i,dn,H1⟩ hI
 have hi:=hI.hi
 have hln:=hI.ln
 have hfr:=hI.fr
 have hnm:=hI.nm
 have hlv:=hI.lv
 have heq:=hI.eq
 simp only at hi hln hfr hnm hlv heq
 by_cases hlt:i<d.clus.length
 ·rw[XM hlt]at heq hlv
  rw[D5]at heq
  generalize d.clus[i]=c at heq hlv
  have hll:((dn++c::d.clus.drop (i+1)).map B1).length=d.clus.length:=by simp;omega
  rcases hlv with⟨h0,-⟩|⟨-,id,cap,rest,hvc,ho,hcr⟩
  ·simp at h0
  rw[hll]at hvc hcr
  subst hvc
  have e:=AL (k:=i) (by omega)
  have hid:id<n:=hfr.lt ho
  have h0:=hnm.h0
  have hgi:((dn++c::d.clus.drop (i+1)).map B1++rest)[i]?=some (.agg [.str c.nm,.str c.on,.int .i64 c.fam,.int .i64 c.ty,.int .i64 c.lo,.int .i64 c.hi]):=by
   rw[Xj,XR,Yg (by simp;omega)]
   simp [hln]
  have hil:(i<((dn++c::d.clus.drop (i+1)).map B1++rest).length)=True:=X1 (by rw[Xm,hll];omega)
  have hse:∀c':DClu,((dn++c::d.clus.drop (i+1)).map B1++rest).set i (B1 c')=((dn++[c'])++d.clus.drop (i+1)).map B1++rest:=λc'=>by
   rw[Xj,XR,List.set_append_right _ _ (by simp;omega)]
   simp [hln]
  have hne:=hnm.ne ho
  generalize hA:(dn++c::d.clus.drop (i+1)).map B1++rest=A at ho hgi hil hse
  simp only[eE,eC,eN,eX,reduceCtorEq,Nat.reduceEqDiff,↓reduceIte,Nat.reduceAdd,Nat.reduceLeDiff,Nat.reduceLT,Nat.reduceMod,Nat.reduceSub,Nat.reduceDiv,X2,X3,X4,atN,atK,IE,lt_T hlt,h0,Bu,ho,hgi,hil,addr,X1 hid]
  refine(J2 hnm.h12).mono λo H' n' hq=>?_
  obtain⟨rfl,rfl,hq⟩:=hq
  cases hno:B7 (GR d) c.on with
  |none=>
   rw[hno]at hq
   subst hq
   have hrc:C9 d c=none:=by unfold C9;rw[hno];rfl
   rw[hrc]at heq
   have hr:resD d= .error 160:=by unfold resD;rw[Xc h16,ht1,ht2,ht3,heq];rfl
   simp only[eE,eN,EG]
   exact CT hnm.h1 rfl hnm.h2 hr
  |some k=>
   rw[hno]at hq
   subst hq
   have hrc:C9 d c=some {c with fam:=k}:=by unfold C9;rw[hno];rfl
   rw[hrc]at heq
   have hs2:=hse {c with fam:=k}
   simp only[eE,eC,eN,eX,Nat.reduceEqDiff,↓reduceIte,Nat.reduceLeDiff,Int.reduceEq,Nat.reduceSub,Nat.reduceDiv,X2,X3,X4,EG,I4,ho,hgi,hil,apS2 (v:=.int .i64 k) rfl,e]
   refine⟨by omega,.mk ⟨i+1,dn++[{c with fam:=k}],hset H' id (.arr 6 (A.set i (B1 {c with fam:=k})))⟩ rfl ⟨hlt,by simp [hln],hfr.hset (Xb _) hid,hnm.set hne,.inr ⟨by simp,id,cap,rest,?_,?_,?_⟩,?_⟩ (by simp only[];omega)⟩
   ·simp only[X0,Xm,Xn,Y7,Yw,hln]
    congr 1;omega
   ·simp only[]
    rw[AC,hs2]
   ·simp only[X0,Xm,Xn,Y7,Yw,hln]
    omega
   ·simp only[]
    rw[heq]
    cases Ae (C9 d) (d.clus.drop (i+1))<;>simp
 obtain rfl:i=d.clus.length:=by omega
 rw[Yt]at heq hlv
 rw[Xu]at hlv
 have hcs:Ae (C9 d) d.clus=some dn:=by rw[heq];simp [Ae]
 have h0:=hnm.h0
 have y0:∀k,(n+k=0)=False:=λk=>X9 (by omega)
 simp only[eE,eC,eN,Nat.reduceEqDiff,↓reduceIte,Nat.reduceAdd,xE,lt_F hlt,h0,Bu,fr1 hfr]
 refine(R8 (pre:=[]) hd.ru (by decide) rfl (AC ..) rfl).mono λo H' n' hq=>?_
 unfold Bt at hq
 rw[Xo]at hq
 have hnv:∀a b,NM d vc (eRus d.ruls) (hset (hset H1 (n+2) a) (n+2) b):=λa b=>(hnm.set (LO (by omega))).set (LO (by omega))
 cases ht4:Ai (d.ruls.map λx:DRul=>x.nm)with
 |true=>
  rw[ht4,Xg rfl]at hq
  obtain⟨rfl,rfl,rfl⟩:=hq
  have hr:resD d= .error 161:=by
   unfold resD
   rw[Xc h16,ht1,ht2,ht3,hcs]
   simp only[Xq,XO]
   rw[ht4];rfl
  simp only[eE,eN,retK]
  exact CT (hnv _ _).h1 rfl (hnv _ _).h2 hr
 |false=>
 rw[ht4,Xc (by decide)]at hq
 obtain⟨rfl,rfl,rfl⟩:=hq
 have hH:=hnv (nmO []) (nmO (d.ruls.map λx:DRul=>x.nm))
 have hlc:LV 6 vc (hset (hset H1 (n+2) (nmO [])) (n+2) (nmO (d.ruls.map λx:DRul=>x.nm))) (dn.map B1):=by
  have hv2:∀a b c x,vc≠ .ref (n+2) a b c x:=by
   rintro a b c x rfl
   exact hlv.no (by rw[hfr _ (by omega)];simp)
  exact(hlv.set hv2).set hv2
 have hf2:AN (hset (hset H1 (n+2) (nmO [])) (n+2) (nmO (d.ruls.map λx:DRul=>x.nm))) (n+4):=(hfr.hset (m:=n+4) (by omega) (by omega)).hset (Xb _) (by omega)
 generalize hset (hset H1 (n+2) (nmO [])) (n+2) (nmO (d.ruls.map λx:DRul=>x.nm))=H2 at hH hlc hf2
 have h02:=hH.h0
 simp only[eE,eN,Nat.reduceEqDiff,↓reduceIte,Nat.reduceAdd,retK,h02,Bu]
 refine(Wv d.ruls hd.ru).mono λo H' n' hq=>?_
 rcases hq with⟨h0',rfl,hn',t,rfl,htk⟩|⟨h0',rfl,cap,rest,rfl,rfl,hcr⟩
 ·have hrl:d.ruls.length=0:=by have:=congrArg List.length h0';simpa using this
  simp only[eE,Nat.reduceEqDiff,↓reduceIte,Nat.reduceAdd,retK,h02,Bu]
  rw[EH]
  simp only[eE,Nat.reduceEqDiff,↓reduceIte]
  rw[EH]
  simp only[eE,Nat.reduceEqDiff,↓reduceIte,Nat.reduceAdd,c0]
  rw[EH]
  have hc0:∀a b c x,vc≠ .ref 0 a b c x:=by
   rintro a b c x rfl
   exact hlc.no (by rw[h02];simp)
  have:=UE d hd h16 ht1 ht2 ht3 hcs ht4 (vr:=.sl t []) (hf2.hset (id:=0) (m:=n') (by omega) (by omega)) hH.put (hlc.set hc0) (.inl ⟨h0',t,rfl,htk⟩) (λi a b c e j f g h k _ q=>by cases q)
  rw[hrl]at this
  exact this
 ·have y4:∀k,(n+4+k=0)=False:=λk=>X9 (by omega)
  simp only[eE,Nat.reduceEqDiff,↓reduceIte,Nat.reduceAdd,retK,h02,Bu,y0]
  rw[EH]
  simp only[eE,Nat.reduceEqDiff,↓reduceIte]
  rw[EH]
  simp only[eE,Nat.reduceEqDiff,↓reduceIte,Nat.reduceAdd,X0]
  rw[EH]
  have hc0:∀a b c x,vc≠ .ref 0 a b c x:=by
   rintro a b c x rfl
   exact hlc.no (by rw[h02];simp)
  have hc6:∀a b c x,vc≠ .ref (n+6) a b c x:=by
   rintro a b c x rfl
   exact hlc.no (by rw[hf2 _ (by omega)];simp)
  refine UE d hd h16 ht1 ht2 ht3 hcs ht4 (vr:=.ref (n+6) 12 0 d.ruls.length cap) (((hf2.hset (m:=n+8) (by omega) (by omega)).hset (Xb _) (by omega))) (hH.set (LO (by omega))).put ((hlc.set hc6).set hc0) (.inr ⟨h0',n+6,cap,rest,by rw[X0],?_,hcr⟩) (λi a b c e j f g h k q1 q2=>?_)
  ·rw[AA _ _ _ _ (by omega)];exact AC ..
  ·cases q2
   rintro rfl
   exact hc6 _ _ _ _ q1
end Go.AM
namespace Go.AM
open Go.Proofs Go.Lib
theorem PC (d:Dcl) (hd:FewD d):AO Tryz.prog 161 [encD d] hnil 0 (RR d):=by
 refine a161 (AF UD (AG ?_))
 simp only[eE,eN,reduceCtorEq,Nat.reduceEqDiff,↓reduceIte,Nat.reduceAdd,RJ,HK,Q9,AR,encD]
 refine⟨_,_,rfl,AF UD (AG ?_)⟩
 generalize hE:List.filter (λ(e:Nat×Bool×AVal)=>Nat.blt e.1 4) _=E
 have hE':E=envR:=by rw[<-hE];rfl
 subst hE'
 clear hE
 rw[Xo]
 by_cases h16:16<d.syms.length
 ·have hr:resD d= .error 2:=by unfold resD;rw[Xg h16]
  simp only[eE,eC,eN,reduceCtorEq,Nat.reduceEqDiff,↓reduceIte,Nat.reduceAdd,Nat.reduceLeDiff,X0,c161,X1 (show(16:Int)<(d.syms.length:Int)by omega),AK]
  refine PB (xs:=No) rfl rfl rfl ?_
  unfold RR
  rw[hr]
  exact⟨_,rfl,Wk.tup (.cons (Wk.agg (.cons (Wk.refl _) (.cons (Wk.refl _) (.cons (Wk.refl _) (.cons (Wk.refl _) (.cons (Wk.refl _) (.cons (Wk.sl (.inr rfl)) (.cons (Wk.sl (.inr rfl)) (.cons (Wk.sl (.inr rfl)) (.cons (Wk.sl (.inr rfl)) (.cons (Wk.sl (.inr rfl)) .nil))))))))))) (.cons (Wk.refl _) .nil))⟩
 simp only[eE,eC,eN,reduceCtorEq,Nat.reduceEqDiff,↓reduceIte,Nat.reduceAdd,Nat.reduceLeDiff,xE,X0,c161,X9 (show ¬(16:Int)<(d.syms.length:Int)by omega),AK]
 refine(R5 (pre:=[]) hd.sy (by decide) rfl rfl rfl).mono λo H' n' hq=>?_
 unfold Bt at hq
 rw[Xo]at hq
 cases ht1:Ai (d.syms.map λx:DSym=>x.nm)with
 |true=>
  rw[ht1,Xg rfl]at hq
  obtain⟨rfl,rfl,rfl⟩:=hq
  have hr:resD d= .error 161:=by unfold resD;rw[Xc h16,ht1];rfl
  simp only[eE,eN,retK]
  exact CT (xs:=No) rfl rfl rfl hr
 |false=>
 rw[ht1,Xc (by decide)]at hq
 obtain⟨rfl,rfl,rfl⟩:=hq
 simp only[eE,eC,eN,eX,reduceCtorEq,Nat.reduceEqDiff,↓reduceIte,Nat.reduceAdd,Nat.reduceLeDiff,Nat.reduceLT,Nat.reduceMod,Nat.reduceSub,Nat.reduceDiv,xE,retK,Tnr_g,addr]
 refine⟨⟨trivial,DO 0 _⟩,(U3 (pre:=[]) (by decide) (by decide) rfl rfl rfl).mono λo H' n' hq=>?_⟩
 unfold Bt at hq
 rw[Xo,show Ai (GF.map λx:Bs=>x)=false by decide,Xc (by decide)]at hq
 obtain⟨rfl,rfl,rfl⟩:=hq
 simp only[eE,eX,Nat.reduceEqDiff,↓reduceIte,Nat.reduceAdd,Nat.reduceLeDiff,Nat.reduceMod,Nat.reduceSub,Nat.reduceDiv,EG]
 refine(R6 (pre:=GF) hd.rg (by decide) rfl rfl (by decide)).mono λo H' n' hq=>?_
 unfold Bt at hq
 cases ht2:Ai (GR d)with
 |true=>
  rw[show GF++d.regs.map (λx:DReg=>x.nm)=GR d from rfl,ht2,Xg rfl]at hq
  obtain⟨rfl,rfl,rfl⟩:=hq
  have hr:resD d= .error 161:=by unfold resD;rw[Xc h16,ht1,ht2];rfl
  simp only[eE,eN,EG]
  exact CT (xs:=No) rfl rfl rfl hr
 |false=>
 rw[show GF++d.regs.map (λx:DReg=>x.nm)=GR d from rfl,ht2,Xc (by decide)]at hq
 obtain⟨rfl,rfl,rfl⟩:=hq
 simp only[eE,eN,eX,reduceCtorEq,Nat.reduceEqDiff,↓reduceIte,Nat.reduceAdd,Nat.reduceLeDiff,Nat.reduceSub,Nat.reduceDiv,xE,EG]
 refine(R7 (pre:=[]) hd.cl (by decide) rfl rfl rfl).mono λo H' n' hq=>?_
 unfold Bt at hq
 rw[Xo]at hq
 cases ht3:Ai (d.clus.map λx:DClu=>x.nm)with
 |true=>
  rw[ht3,Xg rfl]at hq
  obtain⟨rfl,rfl,rfl⟩:=hq
  have hr:resD d= .error 161:=by unfold resD;rw[Xc h16,ht1,ht2,ht3];rfl
  simp only[eE,eN,retK]
  exact CT (xs:=No) rfl rfl rfl hr
 |false=>
 rw[ht3,Xc (by decide)]at hq
 obtain⟨rfl,rfl,rfl⟩:=hq
 simp only[eE,eN,reduceCtorEq,Nat.reduceEqDiff,↓reduceIte,Nat.reduceAdd,Nat.reduceLeDiff,retK]
 refine(Wu d.clus hd.cl).mono λo H' n' hq=>?_
 rcases hq with⟨h0,rfl,hn,t,rfl,htk⟩|⟨h0,rfl,cap,rest,rfl,rfl,hcr⟩
 ·have hcl:d.clus.length=0:=by have:=congrArg List.length h0;simpa using this
  simp only[eE,reduceCtorEq,Nat.reduceEqDiff,↓reduceIte,Nat.reduceAdd,Nat.reduceLeDiff,retK]
  rw[EH]
  simp only[eE,Nat.reduceEqDiff,↓reduceIte,Nat.reduceAdd,Nat.reduceLeDiff,c0]
  rw[EH]
  refine UF d hd h16 ht1 ht2 ht3 (vc:=.sl t []) (by rw[hcl];rfl) hn (λid hid=>?_) (NM.mk (d:=d) (vr:=eRus d.ruls) rfl rfl rfl rfl rfl rfl rfl) (.inl ⟨h0,t,rfl,htk⟩)
  simp only[AI]
  repeat rw[Xc (by omega)]
  rfl
 ·simp only[eE,reduceCtorEq,Nat.reduceEqDiff,↓reduceIte,Nat.reduceAdd,Nat.reduceLeDiff,retK]
  rw[EH]
  simp only[eE,Nat.reduceEqDiff,↓reduceIte,Nat.reduceAdd,Nat.reduceLeDiff,X0]
  rw[EH]
  refine UF d hd h16 ht1 ht2 ht3 (vc:=.ref 23 6 0 d.clus.length cap) rfl (by omega) (λid hid=>?_) (NM.mk (d:=d) (vr:=eRus d.ruls) rfl rfl rfl rfl rfl rfl rfl) (.inr ⟨h0,23,cap,rest,by rw[X0],rfl,hcr⟩)
  simp only[AI]
  repeat rw[Xc (by omega)]
  rfl
def RS (d:Dcl):AOut->AB->Nat->Prop:=λo H' n'=>match resD d with
 | .error e=>∃v,o= .ret v/\Wk v (.tup [encD dcl0,.int .i64 e])
 | .ok x=>∃vc vr,o= .ret (.tup [.agg (Bu d vc vr),.int .i64 0])/\LF 6 vc H' (x.clus.map B1)/\LV 12 vr H' (x.ruls.map Bl)
def RT (d:Dcl):AOut->AB->Nat->Prop:=λo H' n'=>match resD d with
 | .error e=>∃v,o= .ret v/\Wk v (.tup [encD dcl0,.int .i64 e])
 | .ok x=>∃vc vr,o= .ret (.tup [.agg (Bu d vc vr),.int .i64 0])/\LF 6 vc H' (x.clus.map B1)/\LF 12 vr H' (x.ruls.map Bl)
theorem p161 (d:Dcl) (hd:FewD d):Pur Tryz.prog 161 [encD d] (Ev d):=by
 refine .mk ⟨BT 0 d,trivial⟩ (by unfold Ev;split<;>exact⟨BT 0 _,trivial,trivial⟩) ?_
 refine AO.out (R:=RT d) (AO.seal (R:=RS d) (AO.seal (R:=RR d) (PC d hd) ?_) ?_) ?_
 ·intro o H' n' h
  unfold RR at h
  unfold RS
  split at h
  ·rename_i e he
   try rw[he]
   exact .inl h
  ·rename_i x hx
   try rw[hx]
   obtain⟨vc,vr,rfl,h1,h2,h3⟩:=h
   rcases h1 with h1|⟨h0,id,cap,rest,rfl,ho,hc⟩
   ·exact .inl ⟨vc,vr,rfl,.inl h1,h2⟩
   ·refine .inr ⟨id,_,_,ho,_,vr,rfl,.inr ⟨h0,id,cap,rest,rfl,AC ..,hc⟩,h2.set λa b c x=>?_⟩
    rintro rfl
    exact h3 _ _ _ _ _ _ _ _ _ _ rfl rfl rfl
 ·intro o H' n' h
  unfold RS at h
  unfold RT
  split at h
  ·rename_i e he
   try rw[he]
   exact .inl h
  ·rename_i x hx
   try rw[hx]
   obtain⟨vc,vr,rfl,h1,h2⟩:=h
   rcases h2 with h2|⟨h0,id,cap,rest,rfl,ho,hc⟩
   ·exact .inl ⟨vc,vr,rfl,h1,.inl h2⟩
   ·refine .inr ⟨id,_,_,ho,vc,_,rfl,?_,.inr ⟨h0,id,cap,rest,rfl,AC ..,hc⟩⟩
    rcases h1 with h1|⟨q0,i2,c2,r2,rfl,o2,hc2⟩
    ·exact .inl h1
    ·refine .inr ⟨q0,i2,c2,r2,rfl,?_,hc2⟩
     rw[AA _ _ _ _ (by rintro rfl;rw[ho]at o2;cases o2)];exact o2
 ·intro o H' n' h
  unfold RT at h
  unfold Ev
  split at h
  ·rename_i e he
   try rw[he]
   obtain⟨v,rfl,hw⟩:=h
   exact⟨.ret v,⟨v,rfl,hw⟩,λg w e _ q=>q⟩
  ·rename_i x hx
   try rw[hx]
   obtain⟨vc,vr,rfl,h1,h2⟩:=h
   refine⟨.ret (.tup [encD x,.int .i64 0]),⟨_,rfl,Wk.refl _⟩,λg w e hR q=>?_⟩
   obtain⟨e1,e2,e3,e4,e5,e6,e7,e8⟩:=NX hx
   cases e with
   |panicked c=>exact q.elim
   |outgrown=>exact q.elim
   |returned y=>
    obtain⟨vs,rfl,y1,r1,q1,q2,q3⟩:=q
    refine⟨vs,rfl,y1,r1,q1,?_,q3⟩
    obtain⟨us,rfl,p1,p2⟩:=q2
    refine⟨us,rfl,?_,p2⟩
    obtain⟨a1,b1,f1,g1,a2,b2,f2,g2,a3,b3,f3,g3,a4,b4,f4,g4,a5,b5,f5,g5,a6,b6,f6,g6,a7,b7,f7,g7,a8,b8,f8,g8,a9,b9,f9,g9,a10,b10,f10,g10,g11⟩:=p1
    rw[<-e1]at g1
    rw[<-e2]at g2
    rw[<-e3]at g3
    rw[<-e4]at g4
    rw[<-e5]at g5
    rw[<-e6]at g6
    rw[<-e7]at g7
    rw[<-e8]at g8
    exact⟨a1,b1,f1,g1,a2,b2,f2,g2,a3,b3,f3,g3,a4,b4,f4,g4,a5,b5,f5,g5,a6,b6,f6,g6,a7,b7,f7,g7,a8,b8,f8,g8,a9,b9,f9,I3 h1 hR g9,a10,b10,f10,I3 h2 hR g10,g11⟩
end Go.AM
namespace Go.AM
open Go.Proofs Go.Lib
abbrev encF (f:FormD):AVal:=.agg [.bool f.on,.bool f.set,.bool f.oth,.bool f.bnd,.bool f.num,.bool f.rdb,.bool f.knw,.int .i64 f.clue]
theorem J3 {k:Int} (h:k<0\/14<=k):Jp k={}:=by
 unfold Jp
 repeat rw[Xc (by omega)]
theorem p267 (k:Int):Pur Tryz.prog 267 [.int .i64 k] (encF (Jp k)):=by
 refine .mk ⟨trivial,trivial⟩ ⟨trivial,trivial,trivial,trivial,trivial,trivial,trivial,trivial,trivial⟩ (a267 (AF AH.tnil (AG ?_)))
 by_cases hk:k<0\/14<=k
 ·have hb:(decide (k<0)||decide (14<=k))=true:=by simpa using hk
  rw[J3 hk]
  simp only[eE,eC,eN,reduceCtorEq,Nat.reduceEqDiff,↓reduceIte,Nat.reduceAdd,Nat.reduceLeDiff,Bc,c267,hb]
  exact Wk.refl _
 ·have hb:(decide (k<0)||decide (14<=k))=false:=by simp;omega
  simp only[eE,eC,eN,reduceCtorEq,Nat.reduceEqDiff,↓reduceIte,Nat.reduceAdd,Nat.reduceLeDiff,Bc,c267,hb]
  have hk2:k=0\/k=1\/k=2\/k=3\/k=4\/k=5\/k=6\/k=7\/k=8\/k=9\/k=10\/k=11\/k=12\/k=13:=by omega
  rcases hk2 with rfl|rfl|rfl|rfl|rfl|rfl|rfl|rfl|rfl|rfl|rfl|rfl|rfl|rfl<;>exact⟨by decide,by decide,rfl,rfl,Wk.refl _⟩
theorem p252 (c:DClu):Pur Tryz.prog 252 [B1 c] (.bool (GS c)):=by
 refine .mk ⟨FD 0 c,trivial⟩ trivial (a252 (AF AH.tnil (AG ?_)))
 unfold GS
 by_cases h1:c.ty=1
 ·simp only[eE,eC,eN,Nat.reduceEqDiff,↓reduceIte,Nat.reduceAdd,Nat.reduceLeDiff,Int.reduceEq,c252,h1]
 by_cases h2:c.ty=2
 ·simp only[eE,eC,eN,Nat.reduceEqDiff,↓reduceIte,Nat.reduceAdd,Nat.reduceLeDiff,Int.reduceEq,c252,h2]
 by_cases h3:c.ty=3
 ·simp only[eE,eC,eN,Nat.reduceEqDiff,↓reduceIte,Nat.reduceAdd,Nat.reduceLeDiff,Int.reduceEq,c252,h3]
 simp only[eE,eC,eN,Nat.reduceEqDiff,↓reduceIte,Nat.reduceAdd,Nat.reduceLeDiff,c252,h1,h2,h3]
theorem p221 (b:Bool) (e:Int):Pur Tryz.prog 221 [.bool b,.int .i64 e] (.int .i64 (if b=true then 0 else e)):=by
 refine .mk ⟨trivial,trivial,trivial⟩ trivial (a221 (AF AH.tnil (AG ?_)))
 cases b<;>simp only[eE,eC,eN,reduceCtorEq,Nat.reduceEqDiff,↓reduceIte,Nat.reduceAdd,c221]
def Tsh:Tab:=tadd 267 (s1 dI any1 λk=>encF (Jp k)) tnil
theorem UG:AH Tryz.prog Tsh:=AH.tnil.add (q1 λk _=>p267 k)
theorem Hx (a:List AVal) (H:AB):Tsh 267 a H=s1 dI any1 (λk=>encF (Jp k)) a H:=rfl
theorem U5 (k:Int):(Jp k).rdb=(decide (1<=k)&&decide (k<=11)):=by
 by_cases hk:k<0\/14<=k
 ·rw[J3 hk]
  symm
  simp;omega
 ·have hk2:k=0\/k=1\/k=2\/k=3\/k=4\/k=5\/k=6\/k=7\/k=8\/k=9\/k=10\/k=11\/k=12\/k=13:=by omega
  rcases hk2 with rfl|rfl|rfl|rfl|rfl|rfl|rfl|rfl|rfl|rfl|rfl|rfl|rfl|rfl<;>rfl
theorem p253 (r:DRul):Pur Tryz.prog 253 [Bl r] (.bool (Jq r)):=by
 refine .mk ⟨CJ 0 r,trivial⟩ trivial (a253 (AF UG (AG ?_)))
 simp only[eE,eN,Nat.reduceEqDiff,↓reduceIte,Nat.reduceAdd,Nat.reduceLeDiff,c253,Hx,s1,Cm,BW,encF]
 exact U5 r.kind
abbrev ruE1 (r:DRul) (on set oth:Bool):Bool:=on !=scmp .neq r.on []||set != !decide (r.set=0)||oth != !decide (r.oth=0)|| !on&& !decide (r.fam=0)|| !set&&decide ((0:Int)<(r.ns.length:Int))|| !oth&&decide ((0:Int)<(r.os.length:Int))
abbrev ruE2 (r:DRul) (bnd:Bool):Bool:=bnd !=(decide (1<=r.op)&&decide (r.op<=3))|| !bnd&& !decide (r.op=0)||decide (r.n<0)||decide (65536<r.n)
abbrev ruE3 (r:DRul) (bnd num:Bool):Bool:=!(num||bnd&&scmp .eql r.byN [])&& !decide (r.n=0)
theorem SC {cl:List DClu} {r:DRul} {on set oth bnd num rdb:Bool} {clue:Int} (hf:Jp r.kind=⟨on,set,oth,bnd,num,rdb,true,clue⟩):
  He cl r=if ruE1 r on set oth=true then false else if ruE2 r bnd=true then false else if ruE3 r bnd num=true then false else
   if(if(bnd&&scmp .neq r.byN [])=true then 2 else clue)=0 then decide (r.byN=[])&&decide (r.clue= -1)else cluP cl r (if(bnd&&scmp .neq r.byN [])=true then 2 else clue):=by
 unfold He
 rw[hf]
 have e1:∀(l:List Bs),decide ((0:Int)<(l.length:Int))=decide (0<l.length):=λl=>by
  rw[Y8,Xf,Xf];omega
 simp only[ruE1,ruE2,ruE3,Dp,FF,e1,ne_eq,decide_not,Bool.true_eq_false,XO]
 rfl
theorem p251 (d:Dcl) (r:DRul):Pur Tryz.prog 251 [encD d,Bl r] (.bool (He d.clus r)):=by
 refine .mk ⟨BT 0 d,CJ 0 r,trivial⟩ trivial (a251 (AF UG (AG ?_)))
 cases hf:(Jp r.kind)with
 |mk on set oth bnd num rdb knw clue=>
 cases knw with
 |false=>
  have hR:He d.clus r=false:=by unfold He;rw[hf];rfl
  rw[hR]
  simp only[eE,eC,eN,reduceCtorEq,Nat.reduceEqDiff,↓reduceIte,Nat.reduceAdd,Nat.reduceLeDiff,Xe,c251,Hx,s1,Cm,BW,hf,encF]
 |true=>
 rw[SC hf]
 cases h1:ruE1 r on set oth with
 |true=>
  rw[Xg rfl]
  simp only[eE,eC,eN,reduceCtorEq,Nat.reduceEqDiff,↓reduceIte,Nat.reduceAdd,Nat.reduceLeDiff,X7,X0,c251,Hx,s1,Cm,BW,hf,encF,h1]
 |false=>
 rw[Xc (by decide)]
 cases h2:ruE2 r bnd with
 |true=>
  rw[Xg rfl]
  simp only[eE,eC,eN,reduceCtorEq,Nat.reduceEqDiff,↓reduceIte,Nat.reduceAdd,Nat.reduceLeDiff,X7,X0,c251,Hx,s1,Cm,BW,hf,encF,h1,h2]
 |false=>
 rw[Xc (by decide)]
 cases h3:ruE3 r bnd num with
 |true=>
  rw[Xg rfl]
  simp only[eE,eC,eN,reduceCtorEq,Nat.reduceEqDiff,↓reduceIte,Nat.reduceAdd,Nat.reduceLeDiff,X7,X0,c251,Hx,s1,Cm,BW,hf,encF,h1,h2,h3]
 |false=>
 rw[Xc (by decide)]
 cases h4:(bnd&&scmp .neq r.byN [])with
 |true=>
  simp only[Yv]
  rw[Xc (by decide)]
  by_cases hc:r.clue<0\/(d.clus.length:Int)<=r.clue
  ·have hcb:(decide (r.clue<0)||decide ((d.clus.length:Int)<=r.clue))=true:=by simpa using hc
   have hP:cluP d.clus r 2=false:=by unfold cluP;rw[Xg hc]
   rw[hP]
   simp only[eE,eC,eN,reduceCtorEq,Nat.reduceEqDiff,↓reduceIte,Nat.reduceAdd,Nat.reduceLeDiff,Int.reduceEq,X7,X0,c251,Hx,s1,Cm,BW,hf,encF,h1,h2,h3,h4,hcb]
  ·have hcb:(decide (r.clue<0)||decide ((d.clus.length:Int)<=r.clue))=false:=by simp;omega
   obtain⟨j,hj⟩:∃j:Nat,r.clue=(j:Int):=⟨r.clue.toNat,by omega⟩
   have hjl:j<d.clus.length:=by omega
   have hg:=X5 hjl
   generalize d.clus[j]=c at hg
   have hP:cluP d.clus r 2=(decide (c.ty=2)&&(decide (2=1)||decide (c.fam=r.fam))):=by
    unfold cluP;(rw[Xc hc,hj,X3,hg])<;>rfl
   rw[hP]
   rw[hj]at hcb
   simp only[eE,eC,eN,reduceCtorEq,Nat.reduceEqDiff,↓reduceIte,Nat.reduceAdd,Nat.reduceLeDiff,Int.reduceEq,X7,X2,X3,X4,X0,X6,c251,Hx,s1,Cm,BW,hf,encF,h1,h2,h3,h4,hj,hcb,lt_T hjl,hg]
 |false=>
  simp only[Xq,XO]
  by_cases h5:clue=0
  ·rw[Xg h5]
   subst h5
   simp only[eE,eC,eN,reduceCtorEq,Nat.reduceEqDiff,↓reduceIte,Nat.reduceAdd,Nat.reduceLeDiff,X7,X0,c251,Hx,s1,Cm,BW,hf,encF,h1,h2,h3,h4]
   rw[FF]
  ·rw[Xc h5]
   by_cases hc:r.clue<0\/(d.clus.length:Int)<=r.clue
   ·have hcb:(decide (r.clue<0)||decide ((d.clus.length:Int)<=r.clue))=true:=by simpa using hc
    have hP:cluP d.clus r clue=false:=by unfold cluP;rw[Xg hc]
    rw[hP]
    simp only[eE,eC,eN,reduceCtorEq,Nat.reduceEqDiff,↓reduceIte,Nat.reduceAdd,Nat.reduceLeDiff,X7,X0,c251,Hx,s1,Cm,BW,hf,encF,h1,h2,h3,h4,B2 h5,hcb]
   ·have hcb:(decide (r.clue<0)||decide ((d.clus.length:Int)<=r.clue))=false:=by simp;omega
    obtain⟨j,hj⟩:∃j:Nat,r.clue=(j:Int):=⟨r.clue.toNat,by omega⟩
    have hjl:j<d.clus.length:=by omega
    have hg:=X5 hjl
    generalize d.clus[j]=c at hg
    have hP:cluP d.clus r clue=(decide (c.ty=clue)&&(decide (clue=1)||decide (c.fam=r.fam))):=by
     unfold cluP;(rw[Xc hc,hj,X3,hg])<;>rfl
    rw[hP]
    rw[hj]at hcb
    simp only[eE,eC,eN,reduceCtorEq,Nat.reduceEqDiff,↓reduceIte,Nat.reduceAdd,Nat.reduceLeDiff,X7,X2,X3,X4,X0,X6,c251,Hx,s1,Cm,BW,hf,encF,h1,h2,h3,h4,B2 h5,hj,hcb,lt_T hjl,hg]
end Go.AM
namespace Go.AM
open Go.Proofs Go.Lib
def Trd:Tab:=tadd 253 (s1 dRu any1 λr=>.bool (Jq r)) tnil
theorem Trd_ok:AH Tryz.prog Trd:=AH.tnil.add (q1 λr _=>p253 r)
theorem Trd_e (a:List AVal) (H:AB):Trd 253 a H=s1 dRu any1 (λr=>.bool (Jq r)) a H:=rfl
structure VU where
 i:Nat
 tk:Tok
 H:AB
 n:Nat
structure IU (rs:List DRul) (v:VU):Prop where
 hi:v.i<=rs.length
 fr:AN v.H v.n
 hn:2<=v.n
 tok:tkG 1 1 v.H v.tk
 es:v.tk.esz=1\/Bf (rs.take v.i)=[]
theorem Np (rs:List DRul):(Bf rs).length<=rs.length:=by
 unfold Bf
 rw[X0]
 exact XT (Yh ..) (by simp)
theorem LP {rs:List DRul} {i:Nat} (h:i<rs.length):Bf (rs.take (i+1))=Bf (rs.take i)++(if Jq rs[i]=true then[]else[(i:Int)]):=by
 rw[Y2,X5 h]
 show Bf (rs.take i++[rs[i]])=_
 rw[Ou,Xv,Nat.min_eq_left (by omega)]
theorem p230 (d:Dcl) (hr:few d.ruls):Pur Tryz.prog 230 [encD d] (eIs (Bf d.ruls)):=by
 refine .mk ⟨BT 0 d,trivial⟩ (AW 0 _) (a230 (AF Trd_ok (AG ?_)))
 have hrl:d.ruls.length<1000000000:=hr
 simp only[eE,eN,Nat.reduceEqDiff,↓reduceIte,Nat.reduceAdd,X0,c230]
 refine AU (λv:VU=>⟨[(2,true,.sl v.tk ((Bf (d.ruls.take v.i)).map eI)),(6,true,eRus d.ruls),(7,true,.int .i64 d.ruls.length),(8,true,.int .i64 v.i)],v.H,v.n⟩) (IU d.ruls) (λv=>d.ruls.length-v.i)
  ⟨0,.nil,hset hnil 0 (.box (AK d)),2⟩ rfl ⟨Xh _,AN.nil.hset (m:=2) (Xh 2) (show 0<2 by decide),Xb _,.inl rfl,.inr rfl⟩ ?_
 rintro⟨i,tk,H,n⟩ ⟨hi,hfr,hn,htk,hes⟩
 simp only at hi hfr hn htk hes
 by_cases hlt:i<d.ruls.length
 ·have hg:=X5 hlt
  have e:=AL (k:=i) (by omega)
  have hu:=LP hlt
  have hul:=Np (d.ruls.take i)
  rw[Xv]at hul
  generalize d.ruls[i]=r at hg hu
  cases hrr:Jq r with
  |true=>
   rw[hrr,Xg rfl,Xu]at hu
   simp only[eE,eC,eN,Nat.reduceEqDiff,↓reduceIte,Nat.reduceAdd,Int.reduceEq,X7,X2,X3,X4,X0,X6,lt_T hlt,hg,fr1 hfr,Trd_e,s1,GH,ES,hrr,e,AJ]
   refine .mk ⟨i+1,tk,hset H (n+3) (.box (Dm r)),n+6⟩ ?_ ⟨hlt,hfr.hset (m:=n+6) (by omega) (by omega),by simp only[];omega,htk.set (.inr (.inr (hfr _ (by omega)))),by simp only[hu];exact hes⟩ (by simp only[];omega)
   simp only[hu]
  |false=>
   rw[hrr,Xc (by decide)]at hu
   have gt:tkG 1 1 (hset H (n+3) (.box (Dm r))) tk:=htk.set (.inr (.inr (hfr _ (by omega))))
   have gf:AN (hset H (n+3) (.box (Dm r))) (n+6):=hfr.hset (m:=n+6) (by omega) (by omega)
   have q1:Bj (hset H (n+3) (.box (Dm r))) 1 tk=True:=X1 gt.app
   have q2:((Bf (d.ruls.take i)).length<=35184372088831)=True:=X1 (by omega)
   have q3:Ap ((Bf (d.ruls.take i)).length+1) 8=True:=X1 (AX (by omega) (by decide))
   simp only[eE,eC,eN,reduceCtorEq,Nat.reduceEqDiff,↓reduceIte,Nat.reduceAdd,Nat.reduceLeDiff,Nat.reduceMul,Nat.reduceLT,Int.reduceEq,Xe,X2,X3,X4,X0,X6,lt_T hlt,hg,fr1 hfr,Trd_e,s1,GH,ES,hrr,e,AJ,q1,q2,q3]
   refine .mk ⟨i+1,.own (n+9) 1,hset (AV (hset H (n+3) (.box (Dm r))) tk) (n+9) .tok,n+11⟩ ?_ ⟨hlt,(Ag gt gf).hset (m:=n+11) (by omega) (by omega),by simp only[];omega,.inr (.inr ⟨n+9,rfl,by omega,AC ..⟩),.inl rfl⟩ (by simp only[];omega)
   simp only[hu,Xj];rfl
 obtain rfl:i=d.ruls.length:=by omega
 rw[XY]at hes
 simp only[eE,eC,eN,Nat.reduceEqDiff,↓reduceIte,lt_F hlt,XY]
 exact Wk.sl (hes.imp id λq=>by rw[q];rfl)
def Tfm:Tab:=tadd 251 (s2 dD dRu any2 λd r=>.bool (He d.clus r)) (tadd 252 (s1 dCl any1 λc=>.bool (GS c)) tnil)
theorem Tfm_ok:AH Tryz.prog Tfm:=(AH.tnil.add (q1 λc _=>p252 c)).add (q2 λd r _=>p251 d r)
theorem Tfm_r (a:List AVal) (H:AB):Tfm 251 a H=s2 dD dRu any2 (λd r=>.bool (He d.clus r)) a H:=rfl
theorem U6 (a:List AVal) (H:AB):Tfm 252 a H=s1 dCl any1 (λc=>.bool (GS c)) a H:=rfl
structure VM2 where
 i:Nat
 es:List (AVal×AVal×Nat)
 c:Nat
 H:AB
 n:Nat
structure IM2 (d:Dcl) (id:Nat) (v:VM2):Prop where
 hi:v.i<=d.ruls.length
 fr:AN v.H v.n
 hn:id<v.n
 h0:hget v.H 0=some (.box (AK d))
 hm:hget v.H id=some (.map v.es v.c)
 ct:MS (d.ruls.take v.i) v.es
 ok:d.ruls.all (He d.clus)=(d.ruls.drop v.i).all (He d.clus)
theorem MS.nil:MS [] []:=⟨trivial,λz=>rfl⟩
theorem p228 (d:Dcl) (hd:FewD d):Pur Tryz.prog 228 [encD d] (.bool (CY d)):=by
 refine .mk ⟨BT 0 d,trivial⟩ trivial (a228 (AF Tfm_ok (AG ?_)))
 have hsl:d.syms.length<1000000000:=hd.sy
 have hrl:d.ruls.length<1000000000:=hd.ru
 have hcl:d.clus.length<1000000000:=hd.cl
 simp only[eE,eN,Nat.reduceEqDiff,↓reduceIte,Nat.reduceAdd,Nat.reduceLeDiff,X0,c228]
 refine AU (λv:VF=>⟨[(1,true,.ptr 0 0),(11,true,eSys d.syms),(12,true,.int .i64 d.syms.length),(13,true,.int .i64 v.i)],v.H,v.n⟩) (λv=>v.i<=d.syms.length/\AN v.H v.n/\2<=v.n/\hget v.H 0=some (.box (AK d))/\(d.syms.all λs=>decide (0<=s.v)&&decide (s.v<=99))=((d.syms.drop v.i).all λs=>decide (0<=s.v)&&decide (s.v<=99))) (λv=>d.syms.length-v.i)
  ⟨0,hset hnil 0 (.box (AK d)),2⟩ rfl ⟨Xh _,AN.nil.hset (m:=2) (Xh 2) (show 0<2 by decide),Xb _,rfl,rfl⟩ ?_
 rintro⟨i,H,n⟩ ⟨hi,hfr,hn,h0,hall⟩
 simp only at hi hfr hn h0 hall
 by_cases hlt:i<d.syms.length
 ·have hg:=X5 hlt
  have e:=AL (k:=i) (by omega)
  rw[XM hlt,Zn]at hall
  generalize d.syms[i]=s at hg hall
  by_cases hs:0<=s.v/\s.v<=99
  ·have hb:(decide (s.v<0)||decide (99<s.v))=false:=by simp;omega
   simp only[eE,eC,eN,Nat.reduceEqDiff,↓reduceIte,Nat.reduceAdd,Int.reduceEq,X2,X3,X4,X0,X6,lt_T hlt,hg,fr1 hfr,e,AJ,hb]
   refine .mk ⟨i+1,hset H (n+2) (.box [.str s.nm,.int .i64 s.v]),n+4⟩ rfl ⟨hlt,hfr.hset (m:=n+4) (by omega) (by omega),by simp only[];omega,by simp only[];rw[AA _ _ _ _ (by omega)];exact h0,?_⟩ (by simp only[];omega)
   simp only[]
   rw[hall,Cn hs.1,Cn hs.2];rfl
  ·have hb:(decide (s.v<0)||decide (99<s.v))=true:=by simp;omega
   have hR:CY d=false:=by
    unfold CY
    rw[hall,show(decide (0<=s.v)&&decide (s.v<=99))=false by simp;omega];rfl
   rw[hR]
   simp only[eE,eC,eN,Nat.reduceEqDiff,↓reduceIte,Nat.reduceAdd,X2,X3,X4,X0,X6,lt_T hlt,hg,fr1 hfr,AJ,hb]
 obtain rfl:i=d.syms.length:=by omega
 rw[Yt]at hall
 have y0:(n=0)=False:=X9 (by omega)
 simp only[eE,eC,eN,Nat.reduceEqDiff,↓reduceIte,Nat.reduceAdd,xE,X0,lt_F hlt,h0,fr0 hfr,y0]
 refine AU (λv:VM2=>⟨[(1,true,.ptr 0 0),(5,true,.mp n),(28,true,eRus d.ruls),(29,true,.int .i64 d.ruls.length),(30,true,.int .i64 v.i)],v.H,v.n⟩) (IM2 d n) (λv=>d.ruls.length-v.i)
  ⟨0,[],0,hset H n (.map [] 0),n+2⟩ rfl ⟨Xh _,hfr.hset (m:=n+2) (by omega) (by omega),by simp only[];omega,by simp only[];rw[AA _ _ _ _ (by omega)];exact h0,AC ..,MS.nil,rfl⟩ ?_
 rintro⟨k,es,c,H1,n1⟩ hI
 have hk:=hI.hi
 have hfr1:=hI.fr
 have hn1:=hI.hn
 have h01:=hI.h0
 have hm:=hI.hm
 have hct:=hI.ct
 have hok:=hI.ok
 simp only at hk hfr1 hn1 h01 hm hct hok
 by_cases hlk:k<d.ruls.length
 ·have hg:=X5 hlk
  have e:=AL (k:=k) (by omega)
  have htk:d.ruls.take (k+1)=d.ruls.take k++[d.ruls[k]]:=by rw[Y2,X5 hlk];rfl
  rw[XM hlk,Zn]at hok
  have y1:∀q,(n1+q=n)=False:=λq=>X9 (by omega)
  have y2:∀q,(n=n1+q)=False:=λq=>X9 (by omega)
  have y3:∀q,(n1+q=0)=False:=λq=>X9 (by omega)
  have y4:∀q,(0=n1+q)=False:=λq=>X9 (by omega)
  generalize d.ruls[k]=r at hg hok htk
  cases hr:He d.clus r with
  |false=>
   have hR:CY d=false:=by
    unfold CY
    rw[hok,hr];simp
   rw[hR]
   simp only[eE,eC,eN,Nat.reduceEqDiff,↓reduceIte,Nat.reduceAdd,Xe,X2,X3,X4,X0,X6,lt_T hlk,hg,Tfm_r,s2,GW,Dx,GH,ES,hr,h01,fr1 hfr1,y3,AJ]
  |true=>
  rw[hr,YM]at hok
  have hcl:=cnt_le (d.ruls.take k) r.clue
  rw[Xv]at hcl
  have ew:=AL (k:=cntZ (d.ruls.take k) r.clue) (by omega)
  have hq:=hct.2 r.clue
  simp only[eE,eC,eN,Nat.reduceEqDiff,↓reduceIte,Nat.reduceAdd,Int.reduceEq,X7,xE,X2,X3,X4,X0,X6,lt_T hlk,hg,Tfm_r,s2,GW,Dx,GH,ES,hr,h01,fr1 hfr1,y1,y3,AJ,hm,hct.1,KT.is,CC,hq,e,ew]
  refine .mk ⟨k+1,mset (.int .i64 r.clue) (.int .i64 ((cntZ (d.ruls.take k) r.clue+1:Nat):Int)) c es,(if(A4 (AVal.int IntKind.i64 r.clue) es).isSome=true then c else c+1),hset (hset H1 (n1+2) (.box (Dm r))) n (.map (mset (.int .i64 r.clue) (.int .i64 ((cntZ (d.ruls.take k) r.clue+1:Nat):Int)) c es) (if(A4 (AVal.int IntKind.i64 r.clue) es).isSome=true then c else c+1)),n1+4⟩ rfl
   ⟨hlk,(hfr1.hset (m:=n1+4) (by omega) (by omega)).hset (Xb (n1+4)) (show n<n1+4 by omega),by simp only[];omega,?_,AC ..,by simp only[];rw[htk];exact hct.next,hok⟩ (by simp only[];omega)
  simp only[]
  rw[AA _ _ _ _ (by omega),AA _ _ _ _ (by omega)];exact h01
 obtain rfl:k=d.ruls.length:=by omega
 rw[Yt]at hok
 rw[XY]at hct
 simp only[eE,eC,eN,Nat.reduceEqDiff,↓reduceIte,Nat.reduceAdd,Nat.reduceLeDiff,X0,lt_F hlk,h01]
 refine AU (λv:VF=>⟨[(5,true,.mp n),(45,true,eCls d.clus),(46,true,.int .i64 d.clus.length),(47,true,.int .i64 v.i)],v.H,v.n⟩) (λv=>v.i<=d.clus.length/\AN v.H v.n/\n<v.n/\hget v.H n=some (.map es c)/\∀j (h:j<d.clus.length),j<v.i->IJ d.ruls j=1/\GS d.clus[j]=true) (λv=>d.clus.length-v.i)
  ⟨0,H1,n1⟩ rfl ⟨Xh _,hfr1,hn1,hm,λj h q=>absurd q (YD _)⟩ ?_
 rintro⟨j,H2,n2⟩ ⟨hj,hfr2,hn2,hm2,hal⟩
 simp only at hj hfr2 hn2 hm2 hal
 by_cases hlj:j<d.clus.length
 ·have hg:=X5 hlj
  have e:=AL (k:=j) (by omega)
  have y1:∀q,(n2+q=n)=False:=λq=>X9 (by omega)
  have y2:∀q,(n=n2+q)=False:=λq=>X9 (by omega)
  have hq:=hct.2 (j:Int)
  rw[Tp]at hq
  have hbad:¬(IJ d.ruls j=1/\GS d.clus[j]=true)->CY d=false:=λq=>by
   unfold CY
   rw[hall,hok]
   cases q1:((List.range d.clus.length).all λi=>decide (IJ d.ruls i=1))with
   |false=>rfl
   |true=>
   cases q2:d.clus.all GS with
   |false=>rfl
   |true=>exact absurd ⟨Ys (Xi.1 q1 j (Y4.2 hlj)),Xi.1 q2 _ (Xk hlj)⟩ q
  have hnext:IJ d.ruls j=1/\GS d.clus[j]=true->∀q (h:q<d.clus.length),q<j+1->IJ d.ruls q=1/\GS d.clus[q]=true:=λz q h hq=>by
   by_cases w:q=j
   ·subst w;exact z
   ·exact hal q h (by omega)
  generalize hx:d.clus[j]=x at hg hbad hnext
  by_cases hmc:IJ d.ruls j=1
  ·have hmb:(((IJ d.ruls j:Nat):Int)=1)=True:=X1 (by omega)
   cases hc:GS x with
   |false=>
    rw[hbad (by rw[hc];simp)]
    simp only[eE,eC,eN,Nat.reduceEqDiff,↓reduceIte,Nat.reduceAdd,X7,Xe,xE,X2,X3,X4,X0,X6,lt_T hlj,hg,U6,s1,K5,Hh,hc,fr1 hfr2,y1,AJ,hm2,hct.1,KT.is,CC,hq,hmb]
   |true=>
    simp only[eE,eC,eN,Nat.reduceEqDiff,↓reduceIte,Nat.reduceAdd,Int.reduceEq,X7,xE,X2,X3,X4,X0,X6,lt_T hlj,hg,U6,s1,K5,Hh,hc,fr1 hfr2,y1,AJ,hm2,hct.1,KT.is,CC,hq,e,hmb]
    refine .mk ⟨j+1,hset H2 (n2+3) (.box (B1 x).cells),n2+6⟩ rfl ⟨hlj,hfr2.hset (m:=n2+6) (by omega) (by omega),by simp only[];omega,?_,hnext ⟨hmc,hc⟩⟩ (by simp only[];omega)
    simp only[]
    rw[AA _ _ _ _ (by omega)];exact hm2
  ·have hmb:(((IJ d.ruls j:Nat):Int)=1)=False:=X9 (by omega)
   rw[hbad (λq=>hmc q.1)]
   simp only[eE,eC,eN,reduceCtorEq,Nat.reduceEqDiff,↓reduceIte,Nat.reduceAdd,X7,Xe,xE,X2,X3,X4,X0,X6,lt_T hlj,hg,U6,s1,K5,Hh,fr1 hfr2,y1,AJ,hm2,hct.1,KT.is,CC,hq,hmb]
 obtain rfl:j=d.clus.length:=by omega
 have hR:CY d=true:=by
  have z2:d.clus.all GS=true:=Xi.2 λq hq=>by
   obtain⟨m,hm,rfl⟩:=Xx.1 hq
   exact(hal m hm hm).2
  unfold CY
  rw[hall,hok,Xi.2 λq hq=>Xz (hal q (Y4.1 hq) (Y4.1 hq)).1,z2]
  rfl
 rw[hR]
 simp only[eE,eC,eN,Nat.reduceEqDiff,↓reduceIte,lt_F hlj]
end Go.AM
namespace Go.AM
open Go.Proofs Go.Lib
abbrev clV (q:Nat):AVal:=.fn (.func 265) [] [.ptr q 0]
abbrev eApp (q c:Nat):List (Nat×Bool×AVal):=[(2,true,.ptr c 0),(4,true,.sl .nil []),(6,true,clV q)]
structure AppF (q c L l':Nat) (H0:AB) (n0:Nat) (qs:List Int) (H:AB) (m:Nat):Prop where
 fr:AN H m
 lc:n0<=c
 cl:c<L
 lm:L<m
 hc:∃lv,hget H c=some (.box [lv])/\LvG eI 1 (L+1) H lv qs
 hL:hget H L=some (.lp ⟨l',.ready,none,13,eApp q c, #[7],EJ,EK⟩)
 kp:∀id ob,id<n0->hget H0 id=some ob->hget H id=some ob
theorem y_app {q c L l':Nat} {H0:AB} {n0:Nat} {qs:List Int} {H:AB} {m:Nat} (F:AppF q c L l' H0 n0 qs H m) (x:Int) (hs:qs.length<1000000000) {R:Bool->AB->Nat->Prop}
  (hR:∀H' m',AppF q c L l' H0 n0 (qs++[x]) H' m'->R true H' m'):BU Tryz.prog l' [eI x] H m R:=by
 obtain⟨fr,lc,cl,lm,⟨lv,hc,hlv⟩,hL,kp⟩:=F
 refine Uo hL rfl (AF AH.tnil (AG ?_))
 simp only[eE,eN,Nat.reduceEqDiff,↓reduceIte,Jl,renv,YT,Za,Yy,Zj]
 refine⟨_,hL,rfl,AF AH.tnil (AG ?_)⟩
 have y1:∀k,(L=m+k)=False:=λk=>X9 (by omega)
 have y2:(L=c)=False:=X9 (by omega)
 have y3:(c=L)=False:=X9 (by omega)
 simp only[eE,reduceCtorEq,Nat.reduceEqDiff,↓reduceIte,Nat.reduceLeDiff,Nat.reduceMul,Nat.reduceLT,Jk,hc,y2]
 have g1:∀k,hget (hset H L (.lp ⟨l',.busy,none,13,eApp q c, #[7],EJ,EK⟩)) (m+k)=none:=λk=>by rw[AA _ _ _ _ (by omega)];exact fr1 fr k
 refine MT (enc:=eI) (lo:=L+1) (qs:=qs) (z0:=0) ?_ rfl (by decide) rfl rfl (AX (by omega) (by decide)) (g1 3) (by omega) (by omega) ?_
 ·rcases hlv with h|⟨hne,id,rest,h1,h2,h3⟩
  ·exact .inl h
  ·exact .inr ⟨hne,id,rest,h1,h2,by rw[AA _ _ _ _ (by omega)];exact h3⟩
 intro id rest hlo hid
 have hidm:id<m+5:=by
  rcases hid with rfl|⟨Z,h⟩
  ·omega
  ·apply Classical.byContradiction
   intro z
   obtain⟨k,rfl⟩:∃k,id=m+k:=⟨id-m,by omega⟩
   rw[g1]at h;cases h
 have z1:(id=L)=False:=X9 (by omega)
 have z2:(id=c)=False:=X9 (by omega)
 have z3:(L=id)=False:=X9 (by omega)
 have z4:(c=id)=False:=X9 (by omega)
 have hidn:¬id<n0:=by omega
 simp only[eE,eN,Nat.reduceEqDiff,↓reduceIte,Dw,z2,y2,hc]
 refine⟨⟨l',.busy,none,13,eApp q c, #[7],EJ,EK⟩,by simp only[AI,y3,z1,XO,Yv],hR _ _ ⟨?_,lc,cl,by simp only[];omega,⟨_,by simp only[AI,y2,XO,Yv],.inr ⟨by simp,id,rest,rfl,hlo,by simp only[AI,z3,z4,XO,Yv]⟩⟩,by simp only[AI,Yv],?_⟩⟩
 ·intro j hj
  have hj':m+5<=j:=hj
  simp only[AI];repeat rw[Xc (by omega)]
  exact fr j (by omega)
 ·intro j ob hj h0
  simp only[AI];repeat rw[Xc (by omega)]
  exact kp j ob hj h0
theorem SD {H:AB} {n q:Nat} {l:List Int} (hf:AN H n) (hq:hget H q=some (.box [eIs l])) (hl:few l):
  AO Tryz.prog 280 [.sl .nil [],clV q] H n λo H' n'=>∃lv,o= .ret lv/\LvG eI 1 (n+3) H' lv l/\AN H' n'/\n<=n'/\∀id ob,id<n->hget H id=some ob->hget H' id=some ob:=by
 have hll:l.length<1000000000:=hl
 have hqn:=hf.lt hq
 refine a280 (AF AH.tnil (AG ?_))
 simp only[eE,eN,reduceCtorEq,Nat.reduceEqDiff,↓reduceIte,Nat.reduceAdd,c280,fr0 hf,E4]
 intro l'
 generalize hH1:hset (hset H n (.box [.sl .nil []])) (n+2) _=H1
 have hq1:hget H1 q=some (.box [eIs l]):=by
  subst hH1
  simp only[AI];repeat rw[Xc (by omega)]
  exact hq
 have F0:AppF q n (n+2) l' H n [] H1 (n+3):=by
  subst hH1
  refine⟨λj hj=>?_,Xb _,by omega,by omega,⟨.sl .nil [],?_,.inl ⟨rfl,rfl⟩⟩,AC ..,λj ob hj h0=>?_⟩
  ·simp only[AI];repeat rw[Xc (by omega)]
   exact hf j (by omega)
  ·simp only[AI];rw[Xc (by omega),Xg trivial]
  ·simp only[AI];repeat rw[Xc (by omega)]
   exact h0
 clear hH1
 refine a265 (AF AH.tnil (AG ?_))
 simp only[eE,eN,reduceCtorEq,Nat.reduceEqDiff,↓reduceIte,Nat.reduceAdd,X0,c265,hq1]
 refine AU (λv:VF=>⟨[(0,true,.fn (.yield l') [] []),(5,true,eIs l),(6,true,.int .i64 l.length),(7,true,.int .i64 v.i)],v.H,v.n⟩) (λv=>v.i<=l.length/\n+3<=v.n/\AppF q n (n+2) l' H n (l.take v.i) v.H v.n) (λv=>l.length-v.i)
  ⟨0,H1,n+3⟩ rfl ⟨Xh _,Xb _,F0⟩ ?_
 rintro⟨i,H2,m⟩ ⟨hi,hm,F⟩
 simp only at hi hm F
 by_cases hlt:i<l.length
 ·have hg:=X5 hlt
  have e:=AL (k:=i) (by omega)
  have htk:l.take (i+1)=l.take i++[l[i]]:=by rw[Y2,X5 hlt];rfl
  generalize l[i]=x at hg htk
  simp only[eE,eC,eN,reduceCtorEq,Nat.reduceEqDiff,↓reduceIte,X2,X3,X4,X0,X6,lt_T hlt,hg]
  refine y_app F x (by rw[Xv];omega) λH' m' F'=>?_
  simp only[eE,eC,eN,reduceCtorEq,Nat.reduceEqDiff,↓reduceIte,Int.reduceEq,X7,yldK,e]
  exact .mk ⟨i+1,H',m'⟩ rfl ⟨hlt,by have:=F'.lm;simp only[];omega,by simp only[];rw[htk];exact F'⟩ (by simp only[];omega)
 obtain rfl:i=l.length:=by omega
 rw[XY]at F
 obtain⟨fr,lc,cl,lm,⟨lv,hc,hlv⟩,hL,kp⟩:=F
 have y1:(n+2=n)=False:=X9 (by omega)
 simp only[eE,eC,eN,reduceCtorEq,Nat.reduceEqDiff,↓reduceIte,lt_F hlt,Ez,hL,hc,y1]
 refine⟨lv,rfl,?_,fr.hset (Xb m) (show n+2<m by omega),by omega,λid ob hid h0=>by rw[Xc (by omega)];exact kp id ob hid h0⟩
 rcases hlv with h|⟨hne,id,rest,h1,h2,h3⟩
 ·exact .inl h
 ·exact .inr ⟨hne,id,rest,h1,h2,by rw[AA _ _ _ _ (by omega)];exact h3⟩
theorem t_coll {H:AB} {n q:Nat} {l:List Int} (hf:AN H n) (hq:hget H q=some (.box [eIs l])) (hl:few l):
  AO Tryz.prog 264 [clV q] H n λo H' n'=>∃lv,o= .ret lv/\LvG eI 1 (n+3) H' lv l/\AN H' n'/\n<=n'/\∀id ob,id<n->hget H id=some ob->hget H' id=some ob:=by
 refine a264 (AF AH.tnil (AG ?_))
 simp only[eE,eN,reduceCtorEq,↓reduceIte,c264]
 refine(SD hf hq hl).mono ?_
 rintro o H' n' ⟨lv,rfl,h1,h2,h3,h4⟩
 simp only[eE,eN,↓reduceIte,retK]
 exact⟨lv,rfl,h1,h2,h3,h4⟩
theorem LQ {H:AB} {n:Nat}:AO Tryz.prog 234 [.sl .nil []] H n λo H' n'=>o= .ret (.tup [])/\H'=H/\n'=n:=by
 refine⟨lSort,λg w vs hR hv=>?_⟩
 obtain⟨v,r,rfl,k1,k2⟩:=hv
 have k2':r=[]:=k2
 subst k2'
 have hv:∃p cap,v= .slice p 0 cap:=by
  rcases k1 with⟨-,rfl,-⟩|⟨-,b,o,cap,⟨sp,rfl,hsp⟩,hc,hst,-⟩
  ·exact⟨_,_,rfl⟩
  ·exact⟨_,_,rfl⟩
 obtain⟨p,cap,rfl⟩:=hv
 refine(Tryz.slices_Sort_int_none p cap w).mono ?_
 rintro e w' ⟨rfl,rfl⟩
 exact⟨g,.ret (.tup []),H,n,⟨rfl,rfl,rfl⟩,⟨_,rfl,rfl⟩,hR,Xb _,Trans.refl _ _ _ _⟩
def SrA (ob:List AVal->AObj) (H:AB) (l:List Int):AOut->AB->Nat->Prop:=λo H' n'=>
 B6 H H'/\((l=[]/\o= .ret (.sl .nil []))\/l≠[]/\∃id rest,o= .ret (.ref id 1 0 l.length (l.length+rest.length))/\hget H id=none/\hget H' id=some (ob ((l.mergeSort leI++rest).map eI)))
theorem Ct (l:List Int):(l.mergeSort leI).length=l.length:=List.length_mergeSort ..
theorem t_srtd {H:AB} {n q:Nat} {l:List Int} (hf:AN H n) (hq:hget H q=some (.box [eIs l])) (hl:few l):
  AO Tryz.prog 247 [clV q] H n (QRet H (eIs (l.mergeSort leI))):=by
 have hll:l.length<1000000000:=hl
 refine AO.out (AO.seal (R:=SrA (.arr 1) H l) (R':=SrA (.frz 1) H l) (a247 (AF AH.tnil (AG ?_))) ?_) ?_
 ·simp only[eE,eN,reduceCtorEq,↓reduceIte,c247]
  refine(t_coll hf hq hl).mono ?_
  rintro o H1 n1 ⟨lv,rfl,hlv,hf1,hn1,hk⟩
  simp only[eE,eN,↓reduceIte,retK]
  have hK:B6 H H1:=λid ob h0=>hk id ob (hf.lt h0) h0
  rcases hlv with⟨rfl,rfl⟩|⟨hne,id,rest,rfl,h2,h3⟩
  ·refine LQ.mono ?_
   rintro o H2 n2 ⟨rfl,rfl,rfl⟩
   simp only[eE,eN,Nat.reduceEqDiff,↓reduceIte,retK]
   exact⟨hK,.inl ⟨rfl,rfl⟩⟩
  ·refine(Na h3 (by simp) hll).mono ?_
   rintro o H2 n2 ⟨rfl,rfl,rfl⟩
   rw[Zz,List.drop_left]
   simp only[eE,eN,Nat.reduceEqDiff,↓reduceIte,retK]
   refine⟨λi ob h0=>?_,.inr ⟨hne,id,rest,rfl,hf _ (by omega),AC ..⟩⟩
   rw[AA _ _ _ _ (λe=>by subst e;rw[hf _ (by omega)]at h0;cases h0)];exact hK i ob h0
 ·rintro o H' n' ⟨hK,h⟩
  rcases h with h|⟨hne,id,rest,h1,h2,h3⟩
  ·exact .inl ⟨hK,.inl h⟩
  ·refine .inr ⟨id,1,_,h3,λi ob h0=>?_,.inr ⟨hne,id,rest,h1,h2,AC ..⟩⟩
   rw[AA _ _ _ _ (λe=>by subst e;rw[h2]at h0;cases h0)];exact hK i ob h0
 ·rintro o H' n' ⟨hK,h⟩
  refine⟨.ret (eIs (l.mergeSort leI)),⟨⟨_,rfl,Wk.refl _⟩,hK⟩,λg w e hR he=>?_⟩
  have hL:∃lv,o= .ret lv/\LF 1 lv H' ((l.mergeSort leI).map eI):=by
   rcases h with⟨rfl,rfl⟩|⟨hz,id,rest,rfl,h2,h3⟩
   ·exact⟨_,rfl,.inl ⟨by simp,_,rfl,.inl rfl⟩⟩
   ·refine⟨_,rfl,?_⟩
    have hl2:=Ct l
    refine .inr ⟨λq=>hz (by rw[List.map_eq_nil_iff]at q;rw[q]at hl2;exact YX.1 hl2.symm),id,l.length+rest.length,rest.map eI,by rw[X0,hl2],by rw[h3,Xj],by simp [hl2]⟩
  obtain⟨lv,rfl,hL⟩:=hL
  cases e with
  |returned v=>exact I3 hL hR he
  |panicked c=>exact he.elim
  |outgrown=>exact he.elim
theorem t_vals {H:AB} {n:Nat} {l:List Int} (hf:AN H n):AO Tryz.prog 248 [eIs l] H n λo H' n'=>o= .ret (clV n)/\H'=hset H n (.box [eIs l])/\n'=n+2:=by
 refine a248 (AF AH.tnil (AG ?_))
 simp only[eE,eN,Nat.reduceEqDiff,↓reduceIte,c248,fr0 hf]
end Go.AM
namespace Go.AM
open Go.Proofs Go.Lib
abbrev srt (l:List Int):List Int:=l.mergeSort leI
def I9 (ls:List (List Int)) (j:Nat) (x:List Int):Bool:=((ls.take j).map srt).contains (srt x)
theorem SE {ls:List (List Int)} (hn:∀l∈ls,l.Nodup) {j:Nat} (hj:j<ls.length) (h:I9 ls j ls[j]=true):B0 ls=true:=by
 unfold I9 at h
 rw[Yi,XN]at h
 obtain⟨y,hy,e⟩:=h
 obtain⟨b,hb,rfl⟩:=Xx.1 hy
 rw[Xv]at hb
 rw[List.getElem_take]at e
 refine Js.2 ⟨j,b,hj,by omega,by omega,?_⟩
 rw[I0 (hn _ (Xk _)) (hn _ (Xk _)),Xf]
 exact e.symm
theorem PD {ls:List (List Int)} (hn:∀l∈ls,l.Nodup) (h:∀j (hj:j<ls.length),I9 ls j ls[j]=false):B0 ls=false:=by
 cases q:B0 ls with
 |false=>rfl
 |true=>
  obtain⟨a,b,ha,hb,hab,h2⟩:=Js.1 q
  rw[I0 (hn _ (Xk _)) (hn _ (Xk _)),Xf]at h2
  have:=h a ha
  unfold I9 at this
  rw[<-Bool.not_eq_true,Yi,XN]at this
  exact absurd ⟨ls[b],Xx.2 ⟨b,by rw[Xv];omega,by rw[List.getElem_take]⟩,h2.symm⟩ this
def SF (o:Option AObj):Prop:=∃x:List Int,few x/\o=some (.box [eIs x])
def Mg:Option AObj->List Int
 |some (.box [.sl _ L])=>L.map toI
 |_=>[]
theorem Ew {x:List Int} (h:few x):SF (some (.box [eIs x]))=True:=X1 ⟨x,h,rfl⟩
theorem C2 (x:List Int):Mg (some (.box [eIs x]))=x:=As x
def sSr:List AVal->AB->Prop×AVal:=λa H=>match a with
 |[.fn (.func f) [] [.ptr q 0]]=>(f=265/\SF (hget H q),eIs (srt (Mg (hget H q))))
 |_=>(False,.tup [])
theorem qSr:∀args H n,(sSr args H).1->Aa Tryz.prog 247 args H n (sSr args H).2:=by
 intro args H n hh
 unfold sSr at hh⊢
 split at hh
 ·rename_i f q
  obtain⟨rfl,x,hx,h0⟩:=hh
  simp only[h0,C2]
  exact Aa.of l247 (AW n _) λhf=>t_srtd hf h0 hx
 ·exact hh.elim
def sR1:List AVal->AB->Prop×AVal:=λa H=>match a with
 |[y,.ptr q 0]=>(dIs.ok y/\wide (dIs.dec y)/\SF (hget H q),.bool (decide (Mg (hget H q)=dIs.dec y)))
 |_=>(False,.tup [])
def Teq:Tab:=tadd 121 (s2 dIs dIs (λ_ b=>wide b) (λa b=>.bool (decide (a=b)))) tnil
theorem Teq_ok:AH Tryz.prog Teq:=AH.tnil.add (q2 p121)
theorem Teq_e (a:List AVal) (H:AB):Teq 121 a H=s2 dIs dIs (λ_ b=>wide b) (λa b=>.bool (decide (a=b))) a H:=rfl
theorem qR1:∀args H n,(sR1 args H).1->Aa Tryz.prog 250 args H n (sR1 args H).2:=by
 intro args H n hh
 unfold sR1 at hh⊢
 split at hh
 ·rename_i y q
  obtain⟨h1,h2,x,hx,h0⟩:=hh
  simp only[h0,C2]
  refine Aa.of l250 trivial λhf=>a250 (AF Teq_ok (AG ?_))
  simp only[eE,eN,reduceCtorEq,Nat.reduceEqDiff,↓reduceIte,Nat.reduceAdd,c250,h0,Teq_e,s2,Ax,At,X1 h1,X1 h2]
  exact λ_ _ h=>h
 ·exact hh.elim
abbrev clR (q:Nat):AVal:=.fn (.func 250) [] [.ptr q 0]
def Tr1:Tab:=tadd 250 sR1 tnil
theorem Tr1_ok:AH Tryz.prog Tr1:=AH.tnil.add qR1
theorem Tr1_e (a:List AVal) (H:AB):Tr1 250 a H=sR1 a H:=rfl
def idxL (met:List (List Int)) (x:List Int):Int:=match met.findIdx? (λy=>decide (x=y))with
 |some k=>(k:Int)
 |none=>-1
theorem q_ifLi {H:AB} {n q:Nat} {met:List (List Int)} {x:List Int} (hm:CK met) (hx:few x) (h0:hget H q=some (.box [eIs x])):Aa Tryz.prog 266 [eLl met,clR q] H n (.int .i64 (idxL met x)):=by
 refine Aa.of l266 trivial λhf=>a266 (AF Tr1_ok (AG ?_))
 have hml:met.length<1000000000:=hm.1
 simp only[eE,eN,reduceCtorEq,Nat.reduceEqDiff,↓reduceIte,Nat.reduceAdd,X0,c266]
 refine AU (λi:Nat=>⟨[(0,true,eLl met),(1,true,clR q),(7,true,.int .i64 met.length),(8,true,.int .i64 i)],H,n⟩) (λi=>i<=met.length/\∀j (h:j<met.length),j<i->¬x=met[j]) (λi=>met.length-i)
  0 rfl ⟨Xh _,λj _ h=>absurd h (YD _)⟩ ?_
 rintro i ⟨hi,hb⟩
 by_cases hlt:i<met.length
 ·have hg:=X5 hlt
  have e:=AL (k:=i) (by omega)
  have hyf:=hm.2 _ (Xk hlt)
  generalize hy:met[i]=y at hg hyf
  by_cases hxy:x=y
  ·have hR:idxL met x=i:=by
    unfold idxL
    rw[XK.2 ⟨hlt,by simpa [hy]using hxy,λj hj=>by simpa using hb j (by omega) hj⟩]
   rw[hR]
   simp only[eE,eC,eN,reduceCtorEq,Nat.reduceEqDiff,↓reduceIte,X2,X3,X4,X0,X6,lt_T hlt,hg,Tr1_e,sR1,h0,Ew hx,C2,Ax,At,X1 hyf,Cn hxy]
   exact λ_ _ h=>h
  ·simp only[eE,eC,eN,reduceCtorEq,Nat.reduceEqDiff,↓reduceIte,Int.reduceEq,X2,X3,X4,X0,X6,lt_T hlt,hg,e,Tr1_e,sR1,h0,Ew hx,C2,Ax,At,X1 hyf,B2 hxy]
   refine .mk (i+1) rfl ⟨hlt,λj hj h=>?_⟩ (by omega)
   by_cases z:j=i
   ·subst z;rw[hy];exact hxy
   ·exact hb j hj (by omega)
 obtain rfl:i=met.length:=by omega
 have hR:idxL met x= -1:=by
  unfold idxL
  rw[Yd.2 λy hy=>by
   obtain⟨j,hj,rfl⟩:=Xx.1 hy
   simpa using hb j hj hj]
 rw[hR]
 simp only[eE,eC,eN,reduceCtorEq,Nat.reduceEqDiff,↓reduceIte,lt_F hlt]
 exact λ_ _ h=>h
theorem idx_in (met:List (List Int)) (x:List Int):decide (0<=idxL met x)=met.contains x:=by
 rw[Y8,Xf,Yi]
 unfold idxL
 cases h:met.findIdx? (λy=>decide (x=y))with
 |none=>
  rw[Yd]at h
  constructor
  ·intro q;simp at q
  ·intro q;have:=h x q;simp at this
 |some k=>
  obtain⟨h1,h2,-⟩:=XK.1 h
  constructor
  ·intro _
   have:=Ys h2
   rw[this];exact Xk _
  ·intro _;simp
def sIf (f:List (List Int)->List Int->AVal):List AVal->AB->Prop×AVal:=λa H=>match a with
 |[y,.fn (.func g) [] [.ptr q 0]]=>(dLl.ok y/\CK (dLl.dec y)/\g=250/\SF (hget H q),f (dLl.dec y) (Mg (hget H q)))
 |_=>(False,.tup [])
theorem q_sIf {f:List (List Int)->List Int->AVal} {fid:FuncId} (h:∀{H:AB} {n q:Nat} {met:List (List Int)} {x:List Int},CK met->few x->hget H q=some (.box [eIs x])->Aa Tryz.prog fid [eLl met,clR q] H n (f met x)):∀args H n,(sIf f args H).1->Aa Tryz.prog fid args H n (sIf f args H).2:=by
 intro args H n hh
 unfold sIf at hh⊢
 split at hh
 ·rename_i y g q
  obtain⟨h1,h2,rfl,x,hx,h0⟩:=hh
  simp only[h0,C2]
  refine AO.args (h (n:=n) h2 hx h0) ?_
  rintro g vs ⟨v,r,rfl,k1,k2⟩
  exact⟨v,_,rfl,dLl.wk _ h1 _ _ k1,k2⟩
 ·exact hh.elim
abbrev fIf (met:List (List Int)) (x:List Int):AVal:=.int .i64 (idxL met x)
abbrev fCf (met:List (List Int)) (x:List Int):AVal:=.bool (met.contains x)
def Tr2:Tab:=tadd 266 (sIf fIf) tnil
theorem Tr2_ok:AH Tryz.prog Tr2:=AH.tnil.add (q_sIf λh1 h2 h3=>q_ifLi h1 h2 h3)
theorem Tr2_e (a:List AVal) (H:AB):Tr2 266 a H=sIf fIf a H:=rfl
theorem PE {t:Tok} {l:List (List Int)} (ht:t.esz=1\/l=[]):dLl.ok (.sl t (l.map eIs))=True:=Hi DQ ht
theorem Mh {t:Tok} (l:List (List Int)):dLl.dec (.sl t (l.map eIs))=l:=FE DQ
theorem q_cfLi {H:AB} {n q:Nat} {met:List (List Int)} {x:List Int} (hm:CK met) (hx:few x) (h0:hget H q=some (.box [eIs x])):Aa Tryz.prog 249 [eLl met,clR q] H n (fCf met x):=by
 refine Aa.of l249 trivial λhf=>a249 (AF Tr2_ok (AG ?_))
 simp only[eE,eN,reduceCtorEq,Nat.reduceEqDiff,↓reduceIte,Nat.reduceAdd,c249,Tr2_e,sIf,h0,Ew hx,C2,Fa,Dq,X1 hm,idx_in]
 exact λ_ _ h=>h
def Trg:Tab:=tadd 166 (s2 dGd dLl (λg l=>Aj g.sh g.w g.h g.holes=some g.cells/\few g.holes/\CK l) λg l=>rgsV g.cells l) (tadd 249 (sIf fCf) (tadd 247 sSr tnil))
theorem Trg_ok:AH Tryz.prog Trg:=((AH.tnil.add qSr).add (q_sIf λh1 h2 h3=>q_cfLi h1 h2 h3)).add (q2 λg l h=>p166 g l h.1 h.2.1 h.2.2)
theorem Trg_g (a:List AVal) (H:AB):Trg 166 a H=s2 dGd dLl (λg l=>Aj g.sh g.w g.h g.holes=some g.cells/\few g.holes/\CK l) (λg l=>rgsV g.cells l) a H:=rfl
theorem Trg_c (a:List AVal) (H:AB):Trg 249 a H=sIf fCf a H:=rfl
theorem Trg_s (a:List AVal) (H:AB):Trg 247 a H=sSr a H:=rfl
structure VRm where
 j:Nat
 tk:Tok
 H:AB
 n:Nat
structure IRm (g:Grd) (r:DReg) (v:VRm):Prop where
 hj:v.j<=r.ls.length
 fr:AN v.H v.n
 hn:3<=v.n
 h1:hget v.H 1=some (.box (AD g.sh g.w g.h g.holes g.cells))
 tok:tkG 1 2 v.H v.tk
 es:v.tk.esz=1\/(r.ls.take v.j).map srt=[]
 no:∀k (hk:k<r.ls.length),k<v.j->I9 r.ls k r.ls[k]=false
theorem p226 (d:Dcl) (g:Grd) (hd:FewD d) (hG:Aj g.sh g.w g.h g.holes=some g.cells) (hh:few g.holes):Pur Tryz.prog 226 [encD d,DS g] (.int .i64 (Dl g.cells d.regs)):=by
 refine .mk ⟨BT 0 d,Bp 0 ..,trivial⟩ trivial (a226 (AF Trg_ok (AG ?_)))
 have hrl:d.regs.length<1000000000:=hd.rg
 simp only[eE,eN,reduceCtorEq,Nat.reduceEqDiff,↓reduceIte,Nat.reduceAdd,Nat.reduceLeDiff,X0,c226]
 refine AU (λv:VF=>⟨[(3,true,.ptr 1 0),(14,true,eRgs d.regs),(15,true,.int .i64 d.regs.length),(16,true,.int .i64 v.i)],v.H,v.n⟩) (λv=>v.i<=d.regs.length/\AN v.H v.n/\3<=v.n/\hget v.H 1=some (.box (AD g.sh g.w g.h g.holes g.cells))/\Dl g.cells d.regs=Dl g.cells (d.regs.drop v.i)) (λv=>d.regs.length-v.i)
  ⟨0,hset (hset hnil 0 (.box (AK d))) 1 (.box (AD g.sh g.w g.h g.holes g.cells)),3⟩ rfl ⟨Xh _,(AN.nil.hset (m:=3) (Xh 3) (show 0<3 by decide)).hset (Xb 3) (show 1<3 by decide),Xb _,rfl,rfl⟩ ?_
 rintro⟨i,H,n⟩ ⟨hi,hfr,hn,h1,heq⟩
 simp only at hi hfr hn h1 heq
 by_cases hlt:i<d.regs.length
 case neg=>
  obtain rfl:i=d.regs.length:=by omega
  rw[Yt]at heq
  rw[heq]
  simp only[eE,eC,eN,Nat.reduceEqDiff,↓reduceIte,lt_F hlt]
  rfl
 have hg:=X5 hlt
 have e:=AL (k:=i) (by omega)
 have hrf:K7 d.regs[i]:=hd.rgs _ (Xk hlt)
 rw[RW _ _ _ hlt]at heq
 generalize d.regs[i]=r at hg hrf heq
 have y1:∀q,(n+q=1)=False:=λq=>X9 (by omega)
 have hc:=X1 (⟨hG,hh,hrf⟩:Aj g.sh g.w g.h g.holes=some g.cells/\few g.holes/\CK r.ls)
 by_cases hb:(decide (r.ls.length<=64)&&r.ls.all (EO g.cells))=true
 case neg=>
  have hv:rgsV g.cells r.ls= .tup [eLl [],.int .i64 130]:=Xc hb
  have hE:regE g.cells r=130:=Xg (by simpa using hb)
  rw[hE,Xc (by decide)]at heq
  rw[heq]
  simp only[eE,eC,eN,Nat.reduceEqDiff,↓reduceIte,Nat.reduceAdd,Nat.reduceLT,Int.reduceEq,Xe,X2,X3,X4,X0,X6,Xa,Xd,lt_T hlt,hg,fr1 hfr,h1,y1,Trg_g,s2,Rf,K9,Fa,Dq,hc,hv]
 have hv:rgsV g.cells r.ls= .tup [eLl (r.ls.map (B8 g.cells)),.int .i64 0]:=Xg hb
 obtain⟨hb1,hb2⟩:=(X8 _ _).mp hb
 have hb1:=Ys hb1
 have hnd:∀l∈r.ls,l.Nodup:=λl hl=>(GG (Xi.1 hb2 l hl)).1
 have hregE:regE g.cells r=if B0 r.ls=true then 161 else 0:=by unfold regE;rw[hb,Xc (by decide)]
 simp only[eE,eC,eN,Nat.reduceEqDiff,↓reduceIte,Nat.reduceAdd,Nat.reduceLT,X7,X2,X3,X4,X0,X6,Xa,Xd,lt_T hlt,hg,fr1 hfr,h1,y1,Trg_g,s2,Rf,K9,Fa,Dq,hc,hv,AJ]
 refine AU (λv:VRm=>⟨[(3,true,.ptr 1 0),(9,true,.sl v.tk (((r.ls.take v.j).map srt).map eIs)),(14,true,eRgs d.regs),(15,true,.int .i64 d.regs.length),(16,true,.int .i64 i),(31,true,eLl r.ls),(32,true,.int .i64 r.ls.length),(33,true,.int .i64 v.j)],v.H,v.n⟩) (IRm g r) (λv=>r.ls.length-v.j)
  ⟨0,.nil,hset H (n+2) (.box [.str r.nm,eLl r.ls]),n+4⟩ rfl ⟨Xh _,hfr.hset (m:=n+4) (by omega) (by omega),by simp only[];omega,by simp only[];rw[AA _ _ _ _ (by omega)];exact h1,.inl rfl,.inr rfl,λk _ h=>absurd h (YD _)⟩ ?_
 rintro⟨j,tk,H1,n1⟩ hI
 have hj:=hI.hj
 have hf1:=hI.fr
 have hn1:=hI.hn
 have h11:=hI.h1
 have htk:=hI.tok
 have hes:=hI.es
 have hno:=hI.no
 simp only at hj hf1 hn1 h11 htk hes hno
 by_cases hlj:j<r.ls.length
 ·have hgj:=X5 hlj
  have ej:=AL (k:=j) (by omega)
  have hlf:few r.ls[j]:=by
   obtain⟨q1,-,q3⟩:=GG (Xi.1 hb2 _ (Xk hlj))
   have h1:=MW q1 q3
   have h2:=(BK hG).2.1
   show r.ls[j].length<_
   omega
  have hmt:=map_take (f:=srt) hlj
  have hhit:=λq=>SE hnd hlj q
  have hnx:I9 r.ls j r.ls[j]=false->∀k (hk:k<r.ls.length),k<j+1->I9 r.ls k r.ls[k]=false:=λq k hk h=>by
   by_cases z:k=j
   ·subst z;exact q
   ·exact hno k hk (by omega)
  generalize r.ls[j]=l at hgj hlf hmt hhit hnx
  have hmf:CK ((r.ls.take j).map srt):=⟨show((r.ls.take j).map srt).length<_ by rw[X0,Xv];omega,λx hx=>by
   obtain⟨y,hy,rfl⟩:=XN.1 hx
   show(srt y).length<_
   rw[Ct];exact hrf.2 _ (ZB hy)⟩
  have hsf:few (srt l):=show(srt l).length<_ by rw[Ct];exact hlf
  have z1:∀q,(n1+q=1)=False:=λq=>X9 (by omega)
  have hmb:((r.ls.take j).map srt).contains (srt l)=I9 r.ls j l:=rfl
  simp only[eE,eC,eN,Nat.reduceEqDiff,↓reduceIte,X2,X3,X4,X0,X6,lt_T hlj,hgj]
  refine(t_vals (n:=n1+5) λj hj=>hf1 j (by omega)).mono ?_
  rintro o H2 n2 ⟨rfl,rfl,rfl⟩
  cases hb3:I9 r.ls j l with
  |true=>
   rw[hregE,hhit hb3,Xg rfl,Xc (by decide)]at heq
   rw[heq]
   simp only[eE,eC,eN,reduceCtorEq,Nat.reduceEqDiff,↓reduceIte,Nat.reduceAdd,retK,Trg_s,sSr,Ew hlf,C2,fr1 hf1,Trg_c,sIf,Ew hsf,PE hes,Mh,X1 hmf,hmb,hb3,AJ]
  |false=>
   have gt:tkG 1 2 (hset (hset H1 (n1+5) (.box [eIs l])) (n1+3) (.box [eIs (srt l)])) tk:=(htk.set (.inr (.inr (fr1 hf1 5)))).set (.inr (.inr (by rw[AA _ _ _ _ (by omega)];exact fr1 hf1 3)))
   have gf:AN (hset (hset H1 (n1+5) (.box [eIs l])) (n1+3) (.box [eIs (srt l)])) (n1+12):=(hf1.hset (m:=n1+12) (by omega) (by omega)).hset (m:=n1+12) (by omega) (by omega)
   have q1:Bj (hset (hset H1 (n1+5) (.box [eIs l])) (n1+3) (.box [eIs (srt l)])) 1 tk=True:=X1 gt.app
   have q2:((r.ls.take j).length<=35184372088831)=True:=X1 (by rw[Xv];omega)
   have q3:Ap ((r.ls.take j).length+1) 24=True:=X1 (AX (by rw[Xv];omega) (by decide))
   simp only[eE,eC,eN,reduceCtorEq,Nat.reduceEqDiff,↓reduceIte,Nat.reduceAdd,Nat.reduceLeDiff,Nat.reduceMul,Nat.reduceLT,Int.reduceEq,X0,retK,Trg_s,sSr,Ew hlf,C2,fr1 hf1,Trg_c,sIf,Ew hsf,PE hes,Mh,X1 hmf,hmb,hb3,AJ,q2,q3,q1,ej]
   refine .mk ⟨j+1,.own (n1+10) 1,hset (AV (hset (hset H1 (n1+5) (.box [eIs l])) (n1+3) (.box [eIs (srt l)])) tk) (n1+10) .tok,n1+12⟩ ?_ ⟨hlj,(Ag gt gf).hset (Xb _) (show n1+10<n1+12 by omega),by simp only[];omega,?_,.inr (.inr ⟨n1+10,rfl,by omega,AC ..⟩),.inl rfl,hnx hb3⟩ (by simp only[];omega)
   ·simp only[hmt,Xj];rfl
   ·simp only[]
    rw[AA _ _ _ _ (by omega),Ad gt (.inl (by omega)),AA _ _ _ _ (by omega),AA _ _ _ _ (by omega)]
    exact h11
 obtain rfl:j=r.ls.length:=by omega
 rw[hregE,PD hnd λj hj=>hno j hj hj]at heq
 simp only[eE,eC,eN,Nat.reduceEqDiff,↓reduceIte,Int.reduceEq,lt_F hlj,e]
 exact .mk ⟨i+1,H1,n1⟩ rfl ⟨hlt,hf1,hn1,h11,heq⟩ (by simp only[];omega)
end Go.AM
namespace Go.AM
open Go.Proofs Go.Lib
def whn (b:Bool) (e:Int):Int:=if b=true then 0 else e
def Nq (d:Dcl):Int:=whn (limD d) 2
def LR (d:Dcl):Int:=match resD d with
 | .error e=>e
 | .ok x=>whn (decide (x=d)) 170
def Nr (d:Dcl):Int:=whn (decide (1<=d.ver)&&decide (d.ver<=255)) 170
def Ns (d:Dcl):Int:=match Aj d.sh d.w d.h d.holes with
 |some _=>0
 |none=>130
def Nt (d:Dcl):Int:=whn (CY d) 170
def PF (d:Dcl):Int:=whn (decide (Bf d.ruls=[])) 171
theorem Fk {d:Dcl} {e:Int} (h:resD d= .error e):e≠0:=by
 unfold resD at h
 rintro rfl
 repeat' split at h
 all_goals simp at h
def dB:Dc Bool:=⟨.bool,toB,λv=>match v with| .bool _=>True|_=>False,λv h=>by
 cases v<;>first|exact Wk.refl _|exact h.elim⟩
theorem PG (b:Bool):dB.ok (.bool b)=True:=rfl
theorem J4 (b:Bool):dB.dec (.bool b)=b:=rfl
def Tst:Tab:=tadd 221 (s2 dB dI any2 λb e=>.int .i64 (whn b e)) (tadd 161 (s1 dD FewD Ev) (tadd 122 (s2 dD dD (λ_ b=>FewD b) λa b=>.bool (decide (a=b))) (tadd 228 (s1 dD FewD λd=>.bool (CY d)) (tadd 230 (s1 dD FewD λd=>eIs (Bf d.ruls)) (tadd 226 (s2 dD dGd (λd g=>FewD d/\Aj g.sh g.w g.h g.holes=some g.cells/\few g.holes) λd g=>.int .i64 (Dl g.cells d.regs)) tnil)))))
theorem IN:AH Tryz.prog Tst:=(((((AH.tnil.add (q2 λd g h=>p226 d g h.1 h.2.1 h.2.2)).add (q1 λd h=>p230 d h.ru)).add (q1 λd h=>p228 d h)).add (q2 λa b h=>p122 a b h)).add (q1 λd h=>p161 d h)).add (q2 λb e _=>p221 b e)
theorem PH (a:List AVal) (H:AB):Tst 221 a H=s2 dB dI any2 (λb e=>.int .i64 (whn b e)) a H:=rfl
theorem Tst_n (a:List AVal) (H:AB):Tst 161 a H=s1 dD FewD Ev a H:=rfl
theorem Tst_s (a:List AVal) (H:AB):Tst 122 a H=s2 dD dD (λ_ b=>FewD b) (λa b=>.bool (decide (a=b))) a H:=rfl
theorem Tst_f (a:List AVal) (H:AB):Tst 228 a H=s1 dD FewD (λd=>.bool (CY d)) a H:=rfl
theorem Tst_u (a:List AVal) (H:AB):Tst 230 a H=s1 dD FewD (λd=>eIs (Bf d.ruls)) a H:=rfl
theorem Tst_r (a:List AVal) (H:AB):Tst 226 a H=s2 dD dGd (λd g=>FewD d/\Aj g.sh g.w g.h g.holes=some g.cells/\few g.holes) (λd g=>.int .i64 (Dl g.cells d.regs)) a H:=rfl
theorem UH {H:AB} {n i:Nat} (hf:AN H n) (hi:n<=i) (a b:AObj):B6 H (hset (hset H i a) i b):=λid ob h=>by
 have:=hf.lt h
 rw[AA _ _ _ _ (by omega),AA _ _ _ _ (by omega)];exact h
theorem SG (d:Dcl):(decide ((0:Int)<d.syms.length)&&decide ((d.syms.length:Int)<=16)&&decide ((d.regs.length:Int)<=4)&&decide ((d.clus.length:Int)<=4)&&decide ((d.ruls.length:Int)<=16))=limD d:=by
 rw[Y8];simp [limD];omega
theorem U7 (l:List Int):decide ((l.length:Int)=0)=decide (l=[]):=by
 cases l<;>simp;omega
variable {d:Dcl} {H:AB} {n q:Nat}
theorem u1 (hd:FewD d) (h0:hget H q=some (.box (AK d))):Aa Tryz.prog 220 [.ptr q 0] H n (.int .i64 (Nq d)):=by
 refine Aa.of l220 trivial λhf=>a220 (AF IN (AG ?_))
 simp only[eE,eC,eN,reduceCtorEq,Nat.reduceEqDiff,↓reduceIte,Nat.reduceAdd,Nat.reduceLeDiff,X0,c220,h0,PH,s2,PG,J4,Cm,BW,SG]
 exact⟨rfl,λ_ _ h=>h⟩
theorem u2 (hd:FewD d) (h0:hget H q=some (.box (AK d))):Aa Tryz.prog 222 [.ptr q 0] H n (.int .i64 (LR d)):=by
 refine Aa.of l222 trivial λhf=>a222 (AF IN (AG ?_))
 have hq:=hf.lt h0
 have y1:∀k,(n+k=q)=False:=λk=>X9 (by omega)
 unfold LR
 cases hr:resD d with
 |error e=>
  have hv:Ev d= .tup [encD dcl0,.int .i64 e]:=by unfold Ev;rw[hr]
  have he:(e=0)=False:=X9 (Fk hr)
  simp only[eE,eC,eN,reduceCtorEq,Nat.reduceEqDiff,↓reduceIte,Nat.reduceAdd,Nat.reduceLT,Xe,X2,Xa,Xd,c222,h0,Tst_n,s1,GW,Dx,X1 hd,hv,fr1 hf,he]
  exact UH hf (by omega) _ _
 |ok x=>
  have hv:Ev d= .tup [encD x,.int .i64 0]:=by unfold Ev;rw[hr]
  simp only[eE,eC,eN,reduceCtorEq,Nat.reduceEqDiff,↓reduceIte,Nat.reduceAdd,Nat.reduceLT,X7,X2,Xa,Xd,c222,h0,Tst_n,Tst_s,PH,s1,s2,GW,Dx,X1 hd,hv,fr1 hf,y1,PG,J4,Cm,BW]
  exact UH hf (by omega) _ _
theorem u3 (h0:hget H q=some (.box (AK d))):Aa Tryz.prog 223 [.ptr q 0] H n (.int .i64 (Nr d)):=by
 refine Aa.of l223 trivial λhf=>a223 (AF IN (AG ?_))
 simp only[eE,eC,eN,reduceCtorEq,Nat.reduceEqDiff,↓reduceIte,Nat.reduceAdd,Nat.reduceLeDiff,c223,h0,PH,s2,PG,J4,Cm,BW]
 exact⟨rfl,λ_ _ h=>h⟩
theorem u6 (hd:FewD d) (h0:hget H q=some (.box (AK d))):Aa Tryz.prog 227 [.ptr q 0] H n (.int .i64 (Nt d)):=by
 refine Aa.of l227 trivial λhf=>a227 (AF IN (AG ?_))
 simp only[eE,eN,reduceCtorEq,↓reduceIte,Nat.reduceAdd,c227,h0,PH,Tst_f,s1,s2,PG,J4,Cm,BW,GW,Dx,X1 hd]
 exact⟨rfl,λ_ _ h=>h⟩
theorem u7 (hd:FewD d) (h0:hget H q=some (.box (AK d))):Aa Tryz.prog 229 [.ptr q 0] H n (.int .i64 (PF d)):=by
 refine Aa.of l229 trivial λhf=>a229 (AF IN (AG ?_))
 simp only[eE,eN,reduceCtorEq,↓reduceIte,Nat.reduceAdd,X0,c229,h0,PH,Tst_u,s1,s2,PG,J4,Cm,BW,GW,Dx,X1 hd,U7]
 exact⟨rfl,λ_ _ h=>h⟩
theorem u5 {g:Grd} {q':Nat} (hd:FewD d) (hG:Aj g.sh g.w g.h g.holes=some g.cells) (hh:few g.holes) (h0:hget H q=some (.box (AK d))) (h1:hget H q'=some (.box (AD g.sh g.w g.h g.holes g.cells))):Aa Tryz.prog 225 [.ptr q 0,.ptr q' 0] H n (.int .i64 (Dl g.cells d.regs)):=by
 refine Aa.of l225 trivial λhf=>a225 (AF IN (AG ?_))
 simp only[eE,eN,reduceCtorEq,Nat.reduceEqDiff,↓reduceIte,Nat.reduceAdd,c225,h0,h1,Tst_r,s2,Rf,K9,GW,Dx,X1 hd,hG,X1 hh]
 exact λ_ _ h=>h
abbrev gr0:List AVal:=[.int .i64 0,.int .i64 0,.int .i64 0,.sl .nil [],.sl .nil []]
def Tmc:Tab:=tadd 163 (λa H=>match a with
 |[.int .i64 sh,.int .i64 w,.int .i64 h,x]=>(dIs.ok x/\few (dIs.dec x),CL sh w h (dIs.dec x))
 |_=>(False,.tup [])) tnil
theorem Tmc_ok:AH Tryz.prog Tmc:=AH.tnil.add Uz
theorem Tmc_m (sh w h:Int) (x:AVal) (H:AB):Tmc 163 [.int .i64 sh,.int .i64 w,.int .i64 h,x] H=(dIs.ok x/\few (dIs.dec x),CL sh w h (dIs.dec x)):=rfl
theorem u4 {q':Nat} (hne:q≠q') (hh:few d.holes) (h0:hget H q=some (.box (AK d))) (h1:hget H q'=some (.box gr0)):
  AO Tryz.prog 224 [.ptr q 0,.ptr q' 0] H n λo H' n'=>o= .ret (.int .i64 (Ns d))/\n'=n/\∃cs,H'=hset H q' (.box cs)/\∀cells,Aj d.sh d.w d.h d.holes=some cells->cs=AD d.sh d.w d.h d.holes cells:=by
 refine a224 (AF Tmc_ok (AG ?_))
 unfold Ns
 cases hc:Aj d.sh d.w d.h d.holes with
 |none=>
  have hv:CL d.sh d.w d.h d.holes= .tup [encG 0 0 0 [] [],.int .i64 130]:=by unfold CL;rw[hc]
  simp only[eE,eN,reduceCtorEq,Nat.reduceEqDiff,↓reduceIte,Nat.reduceAdd,Nat.reduceLeDiff,Nat.reduceLT,X2,Xa,Xd,c224,h0,h1,Tmc_m,Ax,At,X1 hh,hv]
  exact⟨_,rfl⟩
 |some cells=>
  have hv:CL d.sh d.w d.h d.holes= .tup [encG d.sh d.w d.h d.holes cells,.int .i64 0]:=by unfold CL;rw[hc]
  simp only[eE,eN,reduceCtorEq,Nat.reduceEqDiff,↓reduceIte,Nat.reduceAdd,Nat.reduceLeDiff,Nat.reduceLT,X2,Xa,Xd,c224,h0,h1,Tmc_m,Ax,At,X1 hh,hv]
  exact⟨_,rfl,λc h=>by cases h;rfl⟩
end Go.AM
namespace Go.AM
open Go.Proofs Go.Lib
theorem PI (d:Dcl):chkD d=if Nq d≠0 then Nq d else if LR d≠0 then LR d else if Nr d≠0 then Nr d else match Aj d.sh d.w d.h d.holes with
  |none=>130
  |some cells=>if Dl cells d.regs≠0 then Dl cells d.regs else if Nt d≠0 then Nt d else PF d:=by
 unfold chkD Nq LR Nr Nt PF
 cases limD d with
 |false=>rfl
 |true=>
 cases hr:resD d with
 |error e=>simp [whn,Fk hr]
 |ok x=>
 by_cases hx:x=d
 ·by_cases hv:d.ver<1\/255<d.ver
  ·have:(decide (1<=d.ver)&&decide (d.ver<=255))=false:=by simp;omega
   simp [whn,hx,hv,this]
  ·have:(decide (1<=d.ver)&&decide (d.ver<=255))=true:=by simp;omega
   cases hc:Aj d.sh d.w d.h d.holes with
   |none=>simp [whn,hx,hv,this]
   |some cells=>
    cases CY d<;>by_cases hu:Bf d.ruls=[]<;>simp [whn,hx,hv,this,hu]
 ·simp [whn,hx]
abbrev stA:List AVal:=[.fn (.func 220) [] [.ptr 0 0],.fn (.func 222) [] [.ptr 0 0],.fn (.func 223) [] [.ptr 0 0],.fn (.func 224) [] [.ptr 0 0,.ptr 2 0],.fn (.func 225) [] [.ptr 0 0,.ptr 2 0],.fn (.func 227) [] [.ptr 0 0],.fn (.func 229) [] [.ptr 0 0]]
structure IChk (d:Dcl) (v:VF):Prop where
 hi:v.i<=7
 h0:hget v.H 0=some (.box (AK d))
 z1:0<v.i->Nq d=0
 z2:1<v.i->LR d=0
 z3:2<v.i->Nr d=0
 g0:v.i<=3->hget v.H 2=some (.box gr0)
 z4:3<v.i->∃cells,Aj d.sh d.w d.h d.holes=some cells/\hget v.H 2=some (.box (AD d.sh d.w d.h d.holes cells))/\(4<v.i->Dl cells d.regs=0)
 z6:5<v.i->Nt d=0
 z7:6<v.i->PF d=0
theorem p162 (d:Dcl) (hd:FewD d):Pur Tryz.prog 162 [encD d] (.int .i64 (chkD d)):=by
 refine .mk ⟨BT 0 d,trivial⟩ trivial (a162 (AF AH.tnil (AG ?_)))
 simp only[eE,eN,reduceCtorEq,Nat.reduceEqDiff,↓reduceIte,Nat.reduceAdd,Nat.reduceLeDiff,Nat.reduceMul,Nat.reduceLT,c162]
 have h7:((7:Nat):Int)=7:=rfl
 refine AU (λv:VF=>⟨[(14,true,.sl (.exact 1) stA),(15,true,.int .i64 7),(16,true,.int .i64 v.i)],v.H,v.n⟩) (IChk d) (λv=>7-v.i)
  ⟨0,hset (hset hnil 0 (.box (AK d))) 2 (.box gr0),3⟩ rfl ⟨Xh _,rfl,λh=>absurd h (YD _),λh=>absurd h (YD _),λh=>absurd h (YD _),λ_=>rfl,λh=>absurd h (YD _),λh=>absurd h (YD _),λh=>absurd h (YD _)⟩ ?_
 rintro⟨i,H,n⟩ hI
 obtain⟨hi,h0,z1,z2,z3,g0,z4,z6,z7⟩:=hI
 simp only at hi h0 z1 z2 z3 g0 z4 z6 z7
 have hS:=PI d
 by_cases hlt:i<7
 case neg=>
  obtain⟨cells,hc,-,hr⟩:=z4 (by omega)
  have hlF:((i:Int)<7)=False:=X9 (by omega)
  simp only[z1 (by omega),z2 (by omega),z3 (by omega),hc,hr (by omega),z6 (by omega),z7 (by omega),ne_eq,Z4,XO]at hS
  rw[hS]
  simp only[eE,eC,eN,Nat.reduceEqDiff,↓reduceIte,hlF]
 have hlT:((i:Int)<7)=True:=X1 (by omega)
 have hlN:((i:Int)<((7:Nat):Int))=True:=hlT
 have e:=AL (k:=i) (by omega)
 have h8:i=0\/i=1\/i=2\/i=3\/i=4\/i=5\/i=6:=by omega
 rcases h8 with h8|h8|h8|h8|h8|h8|h8
 ·have hg:stA[i]?=some (.fn (.func 220) [] [.ptr 0 0]):=by rw[h8];rfl
  have hl7:i<stA.length:=hlt
  simp only[eE,eC,eN,Nat.reduceEqDiff,↓reduceIte,Nat.reduceAdd,X2,X3,X4,hlT,hlN,hg]
  refine(u1 hd h0).mono ?_
  rintro o H' n' ⟨rfl,rfl,rfl⟩
  by_cases hz:Nq d=0
  ·rw[hz]
   simp only[eE,eC,eN,Nat.reduceEqDiff,↓reduceIte,Int.reduceEq,X7,retK,e]
   exact .mk ⟨i+1,H',n'⟩ rfl ⟨hlt,h0,λ_=>hz,λh=>absurd h (by simp only[];omega),λh=>absurd h (by simp only[];omega),λ_=>g0 (by omega),λh=>absurd h (by simp only[];omega),λh=>absurd h (by simp only[];omega),λh=>absurd h (by simp only[];omega)⟩ (by simp only[];omega)
  ·rw[Xg hz]at hS
   rw[hS]
   simp only[eE,eC,eN,Nat.reduceEqDiff,↓reduceIte,Xe,retK,X9 hz]
 ·have hg:stA[i]?=some (.fn (.func 222) [] [.ptr 0 0]):=by rw[h8];rfl
  have hl7:i<stA.length:=hlt
  simp only[eE,eC,eN,Nat.reduceEqDiff,↓reduceIte,Nat.reduceAdd,X2,X3,X4,hlT,hlN,hg]
  refine(u2 hd h0).mono ?_
  rintro o H' n' ⟨rfl,rfl,rfl⟩
  simp only[z1 (by omega),ne_eq,Z4,XO]at hS
  by_cases hz:LR d=0
  ·rw[hz]
   simp only[eE,eC,eN,Nat.reduceEqDiff,↓reduceIte,Int.reduceEq,X7,retK,e]
   exact .mk ⟨i+1,H',n'⟩ rfl ⟨hlt,h0,λ_=>z1 (by omega),λ_=>hz,λh=>absurd h (by simp only[];omega),λ_=>g0 (by omega),λh=>absurd h (by simp only[];omega),λh=>absurd h (by simp only[];omega),λh=>absurd h (by simp only[];omega)⟩ (by simp only[];omega)
  ·rw[Xg hz]at hS
   rw[hS]
   simp only[eE,eC,eN,Nat.reduceEqDiff,↓reduceIte,Xe,retK,X9 hz]
 ·have hg:stA[i]?=some (.fn (.func 223) [] [.ptr 0 0]):=by rw[h8];rfl
  have hl7:i<stA.length:=hlt
  simp only[eE,eC,eN,Nat.reduceEqDiff,↓reduceIte,Nat.reduceAdd,X2,X3,X4,hlT,hlN,hg]
  refine(u3 h0).mono ?_
  rintro o H' n' ⟨rfl,rfl,rfl⟩
  simp only[z1 (by omega),z2 (by omega),ne_eq,Z4,XO]at hS
  by_cases hz:Nr d=0
  ·rw[hz]
   simp only[eE,eC,eN,Nat.reduceEqDiff,↓reduceIte,Int.reduceEq,X7,retK,e]
   exact .mk ⟨i+1,H',n'⟩ rfl ⟨hlt,h0,λ_=>z1 (by omega),λ_=>z2 (by omega),λ_=>hz,λ_=>g0 (by omega),λh=>absurd h (by simp only[];omega),λh=>absurd h (by simp only[];omega),λh=>absurd h (by simp only[];omega)⟩ (by simp only[];omega)
  ·rw[Xg hz]at hS
   rw[hS]
   simp only[eE,eC,eN,Nat.reduceEqDiff,↓reduceIte,Xe,retK,X9 hz]
 ·have hg:stA[i]?=some (.fn (.func 224) [] [.ptr 0 0,.ptr 2 0]):=by rw[h8];rfl
  have hl7:i<stA.length:=hlt
  simp only[eE,eC,eN,Nat.reduceEqDiff,↓reduceIte,Nat.reduceAdd,X2,X3,X4,hlT,hlN,hg]
  refine(u4 (by decide) hd.ho h0 (g0 (by omega))).mono ?_
  rintro o H' n' ⟨rfl,rfl,cs,rfl,hcs⟩
  have h0':hget (hset H 2 (.box cs)) 0=some (.box (AK d)):=by rw[AA _ _ _ _ (by decide)];exact h0
  simp only[z1 (by omega),z2 (by omega),z3 (by omega),ne_eq,Z4,XO]at hS
  cases hc:Aj d.sh d.w d.h d.holes with
  |none=>
   have hs4:Ns d=130:=by unfold Ns;rw[hc]
   rw[hc]at hS
   rw[hS,hs4]
   simp only[eE,eC,eN,Nat.reduceEqDiff,↓reduceIte,Int.reduceEq,Xe,retK]
  |some cells=>
   have hs4:Ns d=0:=by unfold Ns;rw[hc]
   rw[hs4]
   simp only[eE,eC,eN,Nat.reduceEqDiff,↓reduceIte,Int.reduceEq,X7,retK,e]
   refine .mk ⟨i+1,hset H 2 (.box cs),n'⟩ rfl ⟨hlt,h0',λ_=>z1 (by omega),λ_=>z2 (by omega),λ_=>z3 (by omega),λh=>absurd h (by simp only[];omega),λ_=>⟨cells,hc,by simp only[];rw[AC,hcs cells hc],λh=>absurd h (by simp only[];omega)⟩,λh=>absurd h (by simp only[];omega),λh=>absurd h (by simp only[];omega)⟩ (by simp only[];omega)
 ·have hg:stA[i]?=some (.fn (.func 225) [] [.ptr 0 0,.ptr 2 0]):=by rw[h8];rfl
  have hl7:i<stA.length:=hlt
  obtain⟨cells,hc,hg2,hr⟩:=z4 (by omega)
  simp only[eE,eC,eN,Nat.reduceEqDiff,↓reduceIte,Nat.reduceAdd,X2,X3,X4,hlT,hlN,hg]
  refine(u5 (g:=⟨d.sh,d.w,d.h,d.holes,cells⟩) hd hc hd.ho h0 hg2).mono ?_
  rintro o H' n' ⟨rfl,rfl,rfl⟩
  simp only[z1 (by omega),z2 (by omega),z3 (by omega),hc,ne_eq,Z4,XO]at hS
  by_cases hz:Dl cells d.regs=0
  ·rw[hz]
   simp only[eE,eC,eN,Nat.reduceEqDiff,↓reduceIte,Int.reduceEq,X7,retK,e]
   exact .mk ⟨i+1,H',n'⟩ rfl ⟨hlt,h0,λ_=>z1 (by omega),λ_=>z2 (by omega),λ_=>z3 (by omega),λh=>absurd h (by simp only[];omega),λ_=>⟨cells,hc,hg2,λ_=>hz⟩,λh=>absurd h (by simp only[];omega),λh=>absurd h (by simp only[];omega)⟩ (by simp only[];omega)
  ·rw[Xg hz]at hS
   rw[hS]
   simp only[eE,eC,eN,Nat.reduceEqDiff,↓reduceIte,Xe,retK,X9 hz]
 ·have hg:stA[i]?=some (.fn (.func 227) [] [.ptr 0 0]):=by rw[h8];rfl
  have hl7:i<stA.length:=hlt
  obtain⟨cells,hc,hg2,hr⟩:=z4 (by omega)
  simp only[eE,eC,eN,Nat.reduceEqDiff,↓reduceIte,Nat.reduceAdd,X2,X3,X4,hlT,hlN,hg]
  refine(u6 hd h0).mono ?_
  rintro o H' n' ⟨rfl,rfl,rfl⟩
  simp only[z1 (by omega),z2 (by omega),z3 (by omega),hc,hr (by omega),ne_eq,Z4,XO]at hS
  by_cases hz:Nt d=0
  ·rw[hz]
   simp only[eE,eC,eN,Nat.reduceEqDiff,↓reduceIte,Int.reduceEq,X7,retK,e]
   exact .mk ⟨i+1,H',n'⟩ rfl ⟨hlt,h0,λ_=>z1 (by omega),λ_=>z2 (by omega),λ_=>z3 (by omega),λh=>absurd h (by simp only[];omega),λ_=>⟨cells,hc,hg2,λ_=>hr (by omega)⟩,λ_=>hz,λh=>absurd h (by simp only[];omega)⟩ (by simp only[];omega)
  ·rw[Xg hz]at hS
   rw[hS]
   simp only[eE,eC,eN,Nat.reduceEqDiff,↓reduceIte,Xe,retK,X9 hz]
 ·have hg:stA[i]?=some (.fn (.func 229) [] [.ptr 0 0]):=by rw[h8];rfl
  have hl7:i<stA.length:=hlt
  obtain⟨cells,hc,hg2,hr⟩:=z4 (by omega)
  simp only[eE,eC,eN,Nat.reduceEqDiff,↓reduceIte,Nat.reduceAdd,X2,X3,X4,hlT,hlN,hg]
  refine(u7 hd h0).mono ?_
  rintro o H' n' ⟨rfl,rfl,rfl⟩
  simp only[z1 (by omega),z2 (by omega),z3 (by omega),hc,hr (by omega),z6 (by omega),ne_eq,Z4,XO]at hS
  by_cases hz:PF d=0
  ·rw[hz]
   simp only[eE,eC,eN,Nat.reduceEqDiff,↓reduceIte,Int.reduceEq,X7,retK,e]
   exact .mk ⟨i+1,H',n'⟩ rfl ⟨hlt,h0,λ_=>z1 (by omega),λ_=>z2 (by omega),λ_=>z3 (by omega),λh=>absurd h (by simp only[];omega),λ_=>⟨cells,hc,hg2,λ_=>hr (by omega)⟩,λ_=>z6 (by omega),λ_=>hz⟩ (by simp only[];omega)
  ·rw[hS]
   simp only[eE,eC,eN,Nat.reduceEqDiff,↓reduceIte,Xe,retK,X9 hz]
end Go.AM
namespace Go.AM
open Go.Proofs Go.Lib
structure Knd where
 d:Dcl
 g:Grd
 nb:List (List Int)
 ls:List (List (List Int))
 deriving DecidableEq
def BA (x:Dcl) (cells:List Int):Grd:=⟨x.sh,x.w,x.h,x.holes,cells⟩
def U8 (x:Dcl) (cells:List Int):Knd:=
 ⟨x,BA x cells,nbsS x.sh (AQ x.sh x.w cells),((List.range 8).map λf=>famS x.sh x.w x.h (AQ x.sh x.w cells) f)++x.regs.map λr=>r.ls.map (B8 cells)⟩
def Ds (d:Dcl):Except Int Knd:=match resD d with
 | .error e=>.error e
 | .ok x=>if chkD x≠0 then .error (chkD x)else match Aj x.sh x.w x.h x.holes with
  |none=>.error 130
  |some cells=>.ok (U8 x cells)
def IP (k:Knd):Bool:=match Ds k.d with
 | .ok x=>decide (k=x)
 | .error _=>false
def Al (k:Knd):Int:=if IP k then 0 else 180
theorem Mi {k:Knd} (h:IP k=true):Ds k.d= .ok k:=by
 unfold IP at h
 split at h
 ·rename_i x hx
  rw[hx];have:=Ys h;rw[this]
 ·cases h
theorem SH {x:Dcl} (h:chkD x=0):∃cells,Aj x.sh x.w x.h x.holes=some cells:=by
 unfold chkD at h
 split at h
 ·cases h
 ·split at h
  ·rename_i e he
   have:=Fk he
   exact absurd h this
  ·split at h
   ·cases h
   ·split at h
    ·cases h
    ·split at h
     ·cases h
     ·rename_i cells hc;exact⟨cells,hc⟩
theorem JA {d:Dcl} {k:Knd} (h:Ds d= .ok k):∃x cells,resD d= .ok x/\chkD x=0/\Aj x.sh x.w x.h x.holes=some cells/\k=U8 x cells:=by
 unfold Ds at h
 split at h
 ·cases h
 ·rename_i x hx
  split at h
  ·cases h
  ·rename_i hc
   split at h
   ·cases h
   ·rename_i cells hg
    cases h
    exact⟨x,cells,hx,Classical.byContradiction λz=>hc z,hg,rfl⟩
end Go.AM
namespace Go.AM
open Go.Proofs Go.Lib
structure IUr (d:Dcl) (v:VU):Prop where
 hi:v.i<=d.ruls.length
 fr:AN v.H v.n
 hn:2<=v.n
 h0:hget v.H 0=some (.box (AK d))
 tok:tkG 1 1 v.H v.tk
 es:v.tk.esz=1\/Bf (d.ruls.take v.i)=[]
end Go.AM
