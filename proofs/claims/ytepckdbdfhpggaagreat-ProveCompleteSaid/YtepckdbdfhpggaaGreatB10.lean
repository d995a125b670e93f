/-
  Names: each name's number put into a map; two elements with one name end the work · Names: a name's number, sets of symb.
  Conditions: none beyond those of its parts.
-/
import Derived.Test.YtepckdbdfhpggaaGreatB9
import Derived.Test.YtepckdbdfhpggaaGreatB6
import Derived.Test.YtepckdbdfhpggaaGreatB8

set_option maxRecDepth 20000
set_option linter.all false
namespace Go.AM
open Go.Proofs Go.Lib
abbrev errV (n:Int):AVal:=.ifc 46 (.int .i64 n)
abbrev nmO (l:List Bs):AObj:=.map (nmEs l 0) l.length
def Bt (H:AB) (n id:Nat) (pre ns:List Bs):AOut->AB->Nat->Prop:=λo H' n'=>
 if Ai (pre++ns)=true then o= .pan (errV 161)/\H'=hset H id .dead/\n'=n else o= .ret (.mp id)/\H'=hset H id (nmO (pre++ns))/\n'=n
def GI (H:AB) (id:Nat) (pre ns:List Bs):AOut->AB->Nat->Prop:=λo H' n'=>
 if Ai (pre++ns)=true then o= .pan (errV 161)/\(∃ob,hget H' id=some ob)/\CP id H H' else(∃v,o= .ret v/\Wk v (.mp id))/\hget H' id=some (nmO (pre++ns))/\CP id H H'
theorem Oz (n:Nat) (l:List Bs):(nmO l).under n:=by
 suffices h:∀(i n c:Nat),(AObj.map (nmEs l i) c).under n from h 0 n l.length
 induction l with
 |nil=>intro i n c;trivial
 |cons x r ih=>intro i n c;exact⟨trivial,trivial,ih (i+1) n c⟩
theorem Jt {H H':AB} {n id:Nat} {ob ob1:AObj} (hf:AN H n) (hid:id<n) (h1:hget H' id=some ob1) (hw:OWk ob1 ob) (hu:ob.under n) (h2:CP id H H'):FH n H H' (hset H id ob):=by
 refine⟨λi o ho=>?_,λi hi=>?_⟩
 ·rw[AI]at ho
  by_cases e:id=i
  ·subst e
   rw[Xc rfl]at ho
   cases ho
   exact⟨hid,⟨_,h1,hw⟩,.inl hu⟩
  ·rw[X8 e]at ho
   exact⟨hf.lt ho,⟨o,h2 i o (Ne.symm e) ho,OWk.refl _⟩,.inr ho⟩
 ·rw[AI]
  split
  ·exact λh=>by cases h
  ·exact hi
theorem Rk (ob:AObj):OWk ob .dead:=⟨λ_ _ _ _=>trivial,λh=>by cases h⟩
theorem Bt.of {fid:FuncId} {args:List AVal} {H:AB} {n id:Nat} {pre ns:List Bs} (hc:Aa Tryz.prog fid) (hp:hget H id=some (nmO pre)) (h:AN H n->id<n->AO Tryz.prog fid args H n (GI H id pre ns)):AO Tryz.prog fid args H n (Bt H n id pre ns):=by
 refine AO.fresh hc λhf=>?_
 have hid:=hf.lt hp
 refine AO.forget (h hf hid) ?_
 intro o H' n' q
 unfold GI at q
 by_cases ht:Ai (pre++ns)=true
 ·rw[Xc ht]at q
  obtain⟨rfl,⟨ob,h1⟩,h2⟩:=q
  exact⟨.pan (errV 161),hset H id .dead,by unfold Bt;rw[Xc ht];exact⟨rfl,rfl,rfl⟩,Jt hf hid h1 (Rk _) trivial h2,Wk.refl _,trivial⟩
 ·rw[X8 ht]at q
  obtain⟨⟨v,rfl,hw⟩,h1,h2⟩:=q
  exact⟨.ret (.mp id),hset H id (nmO (pre++ns)),by unfold Bt;rw[X8 ht];exact⟨rfl,rfl,rfl⟩,Jt hf hid h1 (OWk.refl _) (Oz n _) h2,hw,hid⟩
structure VIx where
 i:Nat
 H:AB
 n:Nat
structure IIx (H:AB) (n id:Nat) (pre ns:List Bs) (v:VIx):Prop where
 hi:v.i<=ns.length
 hn:n<=v.n
 fr:AN v.H v.n
 hm:hget v.H id=some (nmO (pre++ns.take v.i))
 hk:CP id H v.H
 tw:Ai (pre++ns.take v.i)=false
theorem Gh {pre ns:List Bs} {i:Nat} (h:i<ns.length) (hin:ns[i]∈pre++ns.take i):Ai (pre++ns)=true:=by
 have e:pre++ns=(pre++ns.take i)++ns[i]::ns.drop (i+1):=by
  rw[XD,<-Xu h,List.take_append_drop]
 rw[e];exact Ta hin
theorem Gi {l:List Bs} {s:Bs} (h:Ai l=false) (hs:s∉l):Ai (l++[s])=false:=RD.2 ⟨h,hs⟩
theorem p206 (x:DSym):Pur Tryz.prog 206 [ID x] (.str x.nm):=by
 refine .mk ⟨HZ 0 x,trivial⟩ trivial (a206 (AF AH.tnil (AG ?_)))
 simp only[eE,eN,Nat.reduceEqDiff,↓reduceIte,Nat.reduceAdd,Nat.reduceLeDiff,c206]
theorem p208 (x:DReg):Pur Tryz.prog 208 [GT x] (.str x.nm):=by
 refine .mk ⟨Dj 0 x,trivial⟩ trivial (a208 (AF AH.tnil (AG ?_)))
 simp only[eE,eN,Nat.reduceEqDiff,↓reduceIte,Nat.reduceAdd,Nat.reduceLeDiff,c208]
theorem p213 (x:DClu):Pur Tryz.prog 213 [B0 x] (.str x.nm):=by
 refine .mk ⟨FB 0 x,trivial⟩ trivial (a213 (AF AH.tnil (AG ?_)))
 simp only[eE,eN,Nat.reduceEqDiff,↓reduceIte,Nat.reduceAdd,Nat.reduceLeDiff,c213]
theorem p217 (x:DRul):Pur Tryz.prog 217 [Bn x] (.str x.nm):=by
 refine .mk ⟨CG 0 x,trivial⟩ trivial (a217 (AF AH.tnil (AG ?_)))
 simp only[eE,eN,Nat.reduceEqDiff,↓reduceIte,Nat.reduceAdd,Nat.reduceLeDiff,c217]
theorem p211 (x:Bs):Pur Tryz.prog 211 [.str x] (.str x):=by
 refine .mk ⟨trivial,trivial⟩ trivial (a211 (AF AH.tnil (AG ?_)))
 simp only[eE,eN,reduceCtorEq,↓reduceIte,c211]
theorem p210:Pur Tryz.prog 210 [] (eSs GC):=by
 refine .mk trivial (DI 0 _) (a210 (AF AH.tnil (AG ?_)))
 simp only[eE,eN,↓reduceIte,Nat.reduceLeDiff,Nat.reduceMul,Nat.reduceLT,c210]
 exact Wk.sl (.inl rfl)
def Tx1:Tab:=tadd 206 (s1 dSy any1 λx=>.str ((λx:DSym=>x.nm) x)) tnil
theorem Tx1_ok:AH Tryz.prog Tx1:=AH.tnil.add (q1 λx _=>p206 x)
theorem Tx1_e (a:List AVal) (H:AB):Tx1 206 a H=s1 dSy any1 (λx=>.str ((λx:DSym=>x.nm) x)) a H:=rfl
theorem Rl {H:AB} {n id:Nat} {pre:List Bs} {l:List DSym} {f:Int} (hl:few l) (hpl:pre.length<1000000000) (hf0:f=(pre.length:Int)) (hp:hget H id=some (nmO pre)) (hd:Ai pre=false):
  AO Tryz.prog 205 [eSys l,.int .i64 f,.fn (.func 206) [] [],.mp id] H n (Bt H n id pre (l.map (λx:DSym=>x.nm))):=by
 subst hf0
 refine Bt.of l205 hp λhf hid=>a205 (AF Tx1_ok (AG ?_))
 have hll:l.length<1000000000:=hl
 simp only[eE,eN,reduceCtorEq,Nat.reduceEqDiff,↓reduceIte,Nat.reduceAdd,W6,c205]
 refine AV (λv:VIx=>⟨[(1,true,.int .i64 pre.length),(2,true,.fn (.func 206) [] []),(3,true,.mp id),(13,true,eSys l),(14,true,.int .i64 l.length),(15,true,.int .i64 v.i)],v.H,v.n⟩) (IIx H n id pre (l.map (λx:DSym=>x.nm))) (λv=>l.length-v.i)
  ⟨0,H,n⟩ rfl ⟨Xd _,X4 _,hf,by rw[Yy,Xr];exact hp,CP.refl _,by rw[Yy,Xr];exact hd⟩ ?_
 rintro⟨i,H1,n1⟩ hI
 have hi:=hI.hi
 have hn:=hI.hn
 have hfr:=hI.fr
 have hm:=hI.hm
 have hk:=hI.hk
 have htw:=hI.tw
 simp only[W6]at hi hn hfr hm hk htw
 by_cases hlt:i<l.length
 ·have hltm:i<(l.map (λx:DSym=>x.nm)).length:=by rw[W6];exact hlt
  have hg:=X1 hlt
  have hgm:(l.map (λx:DSym=>x.nm))[i]=(λx:DSym=>x.nm) l[i]:=Zr ..
  have e:=AL (k:=i) (by omega)
  have htk:(l.map (λx:DSym=>x.nm)).take (i+1)=(l.map (λx:DSym=>x.nm)).take i++[(λx:DSym=>x.nm) l[i]]:=by rw[XP,X1 hltm,hgm];rfl
  have hpl2:(pre++(l.map (λx:DSym=>x.nm)).take i).length=pre.length+i:=by rw[Xk,Xq,W6];omega
  have ew:IntKind.wrap .i64 ((pre.length:Int)+(i:Int))=((pre.length+i:Nat):Int):=by rw[A0 (by omega) (by omega)];omega
  have y1:∀k,(n1+k=id)=False:=λk=>X6 (by omega)
  have y2:∀k,(id=n1+k)=False:=λk=>X6 (by omega)
  have hin:=λq=>Gh (pre:=pre) hltm (by rw[hgm];exact q)
  generalize hx:l[i]=x at hg hgm htk hin
  have hfi:=Dk (pre++(l.map (λx:DSym=>x.nm)).take i) ((λx:DSym=>x.nm) x)
  cases hno:B4 (pre++(l.map (λx:DSym=>x.nm)).take i) ((λx:DSym=>x.nm) x)with
  |some k=>
   have htt:Ai (pre++l.map (λx:DSym=>x.nm))=true:=hin (by
    apply Classical.byContradiction
    intro q
    rw[BR.2 q]at hno;cases hno)
   rw[hno,XG]at hfi
   simp only[eE,eC,eN,Nat.reduceEqDiff,↓reduceIte,Nat.reduceAdd,Nat.reduceLT,xE,W8,Option.isSome_some,isF,W9,X0,W6,X2,X7,X9,lt_T hlt,hg,Tx1_e,s1,Uc,RJ,hm,hfi,DK,KT.is,B8,fr1 hfr,y1,AJ]
   unfold GI
   rw[Xc htt]
   refine⟨rfl,⟨nmO (pre++(l.map (λx:DSym=>x.nm)).take i),?_⟩,?_⟩
   ·rw[AA _ _ _ _ (by omega)];exact hm
   ·exact hk.new hf (by omega)
  |none=>
   rw[hno,Yr]at hfi
   have hms:=Kv hno
   rw[hpl2]at hms
   simp only[eE,eC,eN,Nat.reduceEqDiff,↓reduceIte,Nat.reduceAdd,Nat.reduceLT,Int.reduceEq,xE,YM,W8,Option.isSome_none,W9,X0,W6,X2,X7,X9,lt_T hlt,hg,Tx1_e,s1,Uc,RJ,hm,hfi,DK,KT.is,B8,fr1 hfr,y1,e,ew,hpl2,hms,AJ]
   refine .mk ⟨i+1,hset (hset H1 (n1+3) (.box (ID x).cells)) id (.map (nmEs (pre++(l.map (λx:DSym=>x.nm)).take i++[(λx:DSym=>x.nm) x]) 0) (pre.length+(i+1))),n1+6⟩ rfl ⟨by simp only[W6];omega,by simp only[];omega,?_,?_,?_,?_⟩ (by simp only[];omega)
   ·exact(hfr.hset (m:=n1+6) (by omega) (by omega)).hset (X4 (n1+6)) (show id<n1+6 by omega)
   ·simp only[]
    rw[AC,htk,<-XD,nmO,Xk,hpl2];rfl
   ·exact(hk.new hf (by omega)).set
   ·simp only[]
    rw[htk,<-XD];exact Gi htw (BR.1 hno)
 have hi':i=l.length:=by omega
 subst hi'
 have hta:(l.map (λx:DSym=>x.nm)).take l.length=l.map (λx:DSym=>x.nm):=XR (by rw[W6];omega)
 rw[hta]at hm htw
 simp only[eE,eC,eN,Nat.reduceEqDiff,↓reduceIte,lt_F hlt]
 unfold GI
 rw[htw,X8 (by decide)]
 exact⟨⟨_,rfl,Wk.refl _⟩,hm,hk⟩
def Tx2:Tab:=tadd 208 (s1 dRg any1 λx=>.str ((λx:DReg=>x.nm) x)) tnil
theorem Tx2_ok:AH Tryz.prog Tx2:=AH.tnil.add (q1 λx _=>p208 x)
theorem Tx2_e (a:List AVal) (H:AB):Tx2 208 a H=s1 dRg any1 (λx=>.str ((λx:DReg=>x.nm) x)) a H:=rfl
theorem Rm {H:AB} {n id:Nat} {pre:List Bs} {l:List DReg} {f:Int} (hl:few l) (hpl:pre.length<1000000000) (hf0:f=(pre.length:Int)) (hp:hget H id=some (nmO pre)) (hd:Ai pre=false):
  AO Tryz.prog 207 [eRgs l,.int .i64 f,.fn (.func 208) [] [],.mp id] H n (Bt H n id pre (l.map (λx:DReg=>x.nm))):=by
 subst hf0
 refine Bt.of l207 hp λhf hid=>a207 (AF Tx2_ok (AG ?_))
 have hll:l.length<1000000000:=hl
 simp only[eE,eN,reduceCtorEq,Nat.reduceEqDiff,↓reduceIte,Nat.reduceAdd,W6,c207]
 refine AV (λv:VIx=>⟨[(1,true,.int .i64 pre.length),(2,true,.fn (.func 208) [] []),(3,true,.mp id),(13,true,eRgs l),(14,true,.int .i64 l.length),(15,true,.int .i64 v.i)],v.H,v.n⟩) (IIx H n id pre (l.map (λx:DReg=>x.nm))) (λv=>l.length-v.i)
  ⟨0,H,n⟩ rfl ⟨Xd _,X4 _,hf,by rw[Yy,Xr];exact hp,CP.refl _,by rw[Yy,Xr];exact hd⟩ ?_
 rintro⟨i,H1,n1⟩ hI
 have hi:=hI.hi
 have hn:=hI.hn
 have hfr:=hI.fr
 have hm:=hI.hm
 have hk:=hI.hk
 have htw:=hI.tw
 simp only[W6]at hi hn hfr hm hk htw
 by_cases hlt:i<l.length
 ·have hltm:i<(l.map (λx:DReg=>x.nm)).length:=by rw[W6];exact hlt
  have hg:=X1 hlt
  have hgm:(l.map (λx:DReg=>x.nm))[i]=(λx:DReg=>x.nm) l[i]:=Zr ..
  have e:=AL (k:=i) (by omega)
  have htk:(l.map (λx:DReg=>x.nm)).take (i+1)=(l.map (λx:DReg=>x.nm)).take i++[(λx:DReg=>x.nm) l[i]]:=by rw[XP,X1 hltm,hgm];rfl
  have hpl2:(pre++(l.map (λx:DReg=>x.nm)).take i).length=pre.length+i:=by rw[Xk,Xq,W6];omega
  have ew:IntKind.wrap .i64 ((pre.length:Int)+(i:Int))=((pre.length+i:Nat):Int):=by rw[A0 (by omega) (by omega)];omega
  have y1:∀k,(n1+k=id)=False:=λk=>X6 (by omega)
  have y2:∀k,(id=n1+k)=False:=λk=>X6 (by omega)
  have hin:=λq=>Gh (pre:=pre) hltm (by rw[hgm];exact q)
  generalize hx:l[i]=x at hg hgm htk hin
  have hfi:=Dk (pre++(l.map (λx:DReg=>x.nm)).take i) ((λx:DReg=>x.nm) x)
  cases hno:B4 (pre++(l.map (λx:DReg=>x.nm)).take i) ((λx:DReg=>x.nm) x)with
  |some k=>
   have htt:Ai (pre++l.map (λx:DReg=>x.nm))=true:=hin (by
    apply Classical.byContradiction
    intro q
    rw[BR.2 q]at hno;cases hno)
   rw[hno,XG]at hfi
   simp only[eE,eC,eN,Nat.reduceEqDiff,↓reduceIte,Nat.reduceAdd,Nat.reduceLT,xE,W8,Option.isSome_some,isF,W9,X0,W6,X2,X7,X9,lt_T hlt,hg,Tx2_e,s1,NR,Jm,hm,hfi,DK,KT.is,B8,fr1 hfr,y1,AJ]
   unfold GI
   rw[Xc htt]
   refine⟨rfl,⟨nmO (pre++(l.map (λx:DReg=>x.nm)).take i),?_⟩,?_⟩
   ·rw[AA _ _ _ _ (by omega)];exact hm
   ·exact hk.new hf (by omega)
  |none=>
   rw[hno,Yr]at hfi
   have hms:=Kv hno
   rw[hpl2]at hms
   simp only[eE,eC,eN,Nat.reduceEqDiff,↓reduceIte,Nat.reduceAdd,Nat.reduceLT,Int.reduceEq,xE,YM,W8,Option.isSome_none,W9,X0,W6,X2,X7,X9,lt_T hlt,hg,Tx2_e,s1,NR,Jm,hm,hfi,DK,KT.is,B8,fr1 hfr,y1,e,ew,hpl2,hms,AJ]
   refine .mk ⟨i+1,hset (hset H1 (n1+3) (.box (GT x).cells)) id (.map (nmEs (pre++(l.map (λx:DReg=>x.nm)).take i++[(λx:DReg=>x.nm) x]) 0) (pre.length+(i+1))),n1+6⟩ rfl ⟨by simp only[W6];omega,by simp only[];omega,?_,?_,?_,?_⟩ (by simp only[];omega)
   ·exact(hfr.hset (m:=n1+6) (by omega) (by omega)).hset (X4 (n1+6)) (show id<n1+6 by omega)
   ·simp only[]
    rw[AC,htk,<-XD,nmO,Xk,hpl2];rfl
   ·exact(hk.new hf (by omega)).set
   ·simp only[]
    rw[htk,<-XD];exact Gi htw (BR.1 hno)
 have hi':i=l.length:=by omega
 subst hi'
 have hta:(l.map (λx:DReg=>x.nm)).take l.length=l.map (λx:DReg=>x.nm):=XR (by rw[W6];omega)
 rw[hta]at hm htw
 simp only[eE,eC,eN,Nat.reduceEqDiff,↓reduceIte,lt_F hlt]
 unfold GI
 rw[htw,X8 (by decide)]
 exact⟨⟨_,rfl,Wk.refl _⟩,hm,hk⟩
def Tx3:Tab:=tadd 211 (s1 dS any1 λx=>.str ((λx:Bs=>x) x)) tnil
theorem Tx3_ok:AH Tryz.prog Tx3:=AH.tnil.add (q1 λx _=>p211 x)
theorem Tx3_e (a:List AVal) (H:AB):Tx3 211 a H=s1 dS any1 (λx=>.str ((λx:Bs=>x) x)) a H:=rfl
theorem Uo {H:AB} {n id:Nat} {pre:List Bs} {l:List Bs} {f:Int} (hl:few l) (hpl:pre.length<1000000000) (hf0:f=(pre.length:Int)) (hp:hget H id=some (nmO pre)) (hd:Ai pre=false):
  AO Tryz.prog 209 [eSs l,.int .i64 f,.fn (.func 211) [] [],.mp id] H n (Bt H n id pre (l.map (λx:Bs=>x))):=by
 subst hf0
 refine Bt.of l209 hp λhf hid=>a209 (AF Tx3_ok (AG ?_))
 have hll:l.length<1000000000:=hl
 simp only[eE,eN,reduceCtorEq,Nat.reduceEqDiff,↓reduceIte,Nat.reduceAdd,W6,c209]
 refine AV (λv:VIx=>⟨[(1,true,.int .i64 pre.length),(2,true,.fn (.func 211) [] []),(3,true,.mp id),(13,true,eSs l),(14,true,.int .i64 l.length),(15,true,.int .i64 v.i)],v.H,v.n⟩) (IIx H n id pre (l.map (λx:Bs=>x))) (λv=>l.length-v.i)
  ⟨0,H,n⟩ rfl ⟨Xd _,X4 _,hf,by rw[Yy,Xr];exact hp,CP.refl _,by rw[Yy,Xr];exact hd⟩ ?_
 rintro⟨i,H1,n1⟩ hI
 have hi:=hI.hi
 have hn:=hI.hn
 have hfr:=hI.fr
 have hm:=hI.hm
 have hk:=hI.hk
 have htw:=hI.tw
 simp only[W6]at hi hn hfr hm hk htw
 by_cases hlt:i<l.length
 ·have hltm:i<(l.map (λx:Bs=>x)).length:=by rw[W6];exact hlt
  have hg:=X1 hlt
  have hgm:(l.map (λx:Bs=>x))[i]=(λx:Bs=>x) l[i]:=Zr ..
  have e:=AL (k:=i) (by omega)
  have htk:(l.map (λx:Bs=>x)).take (i+1)=(l.map (λx:Bs=>x)).take i++[(λx:Bs=>x) l[i]]:=by rw[XP,X1 hltm,hgm];rfl
  have hpl2:(pre++(l.map (λx:Bs=>x)).take i).length=pre.length+i:=by rw[Xk,Xq,W6];omega
  have ew:IntKind.wrap .i64 ((pre.length:Int)+(i:Int))=((pre.length+i:Nat):Int):=by rw[A0 (by omega) (by omega)];omega
  have y1:∀k,(n1+k=id)=False:=λk=>X6 (by omega)
  have y2:∀k,(id=n1+k)=False:=λk=>X6 (by omega)
  have hin:=λq=>Gh (pre:=pre) hltm (by rw[hgm];exact q)
  generalize hx:l[i]=x at hg hgm htk hin
  have hfi:=Dk (pre++(l.map (λx:Bs=>x)).take i) ((λx:Bs=>x) x)
  cases hno:B4 (pre++(l.map (λx:Bs=>x)).take i) ((λx:Bs=>x) x)with
  |some k=>
   have htt:Ai (pre++l.map (λx:Bs=>x))=true:=hin (by
    apply Classical.byContradiction
    intro q
    rw[BR.2 q]at hno;cases hno)
   rw[hno,XG]at hfi
   simp only[eE,eC,eN,Nat.reduceEqDiff,↓reduceIte,Nat.reduceAdd,Nat.reduceLT,xE,W8,Option.isSome_some,isF,W9,X0,W6,X2,X7,X9,lt_T hlt,hg,Tx3_e,s1,dS_ok,Ud,hm,hfi,DK,KT.is,B8]
   unfold GI
   rw[Xc htt]
   refine⟨rfl,⟨nmO (pre++(l.map (λx:Bs=>x)).take i),?_⟩,?_⟩
   ·exact hm
   ·exact hk
  |none=>
   rw[hno,Yr]at hfi
   have hms:=Kv hno
   rw[hpl2]at hms
   simp only[eE,eC,eN,Nat.reduceEqDiff,↓reduceIte,Nat.reduceAdd,Nat.reduceLT,Int.reduceEq,xE,YM,W8,Option.isSome_none,W9,X0,W6,X2,X7,X9,lt_T hlt,hg,Tx3_e,s1,dS_ok,Ud,hm,hfi,DK,KT.is,B8,e,ew,hpl2,hms]
   refine .mk ⟨i+1,hset H1 id (.map (nmEs (pre++(l.map (λx:Bs=>x)).take i++[(λx:Bs=>x) x]) 0) (pre.length+(i+1))),n1⟩ rfl ⟨by simp only[W6];omega,by simp only[];omega,?_,?_,?_,?_⟩ (by simp only[];omega)
   ·exact hfr.hset (m:=n1) (X4 _) (by omega)
   ·simp only[]
    rw[AC,htk,<-XD,nmO,Xk,hpl2];rfl
   ·exact hk.set
   ·simp only[]
    rw[htk,<-XD];exact Gi htw (BR.1 hno)
 have hi':i=l.length:=by omega
 subst hi'
 have hta:(l.map (λx:Bs=>x)).take l.length=l.map (λx:Bs=>x):=XR (by rw[W6];omega)
 rw[hta]at hm htw
 simp only[eE,eC,eN,Nat.reduceEqDiff,↓reduceIte,lt_F hlt]
 unfold GI
 rw[htw,X8 (by decide)]
 exact⟨⟨_,rfl,Wk.refl _⟩,hm,hk⟩
def Tx4:Tab:=tadd 213 (s1 dCl any1 λx=>.str ((λx:DClu=>x.nm) x)) tnil
theorem Tx4_ok:AH Tryz.prog Tx4:=AH.tnil.add (q1 λx _=>p213 x)
theorem Tx4_e (a:List AVal) (H:AB):Tx4 213 a H=s1 dCl any1 (λx=>.str ((λx:DClu=>x.nm) x)) a H:=rfl
theorem Rn {H:AB} {n id:Nat} {pre:List Bs} {l:List DClu} {f:Int} (hl:few l) (hpl:pre.length<1000000000) (hf0:f=(pre.length:Int)) (hp:hget H id=some (nmO pre)) (hd:Ai pre=false):
  AO Tryz.prog 212 [eCls l,.int .i64 f,.fn (.func 213) [] [],.mp id] H n (Bt H n id pre (l.map (λx:DClu=>x.nm))):=by
 subst hf0
 refine Bt.of l212 hp λhf hid=>a212 (AF Tx4_ok (AG ?_))
 have hll:l.length<1000000000:=hl
 simp only[eE,eN,reduceCtorEq,Nat.reduceEqDiff,↓reduceIte,Nat.reduceAdd,W6,c212]
 refine AV (λv:VIx=>⟨[(1,true,.int .i64 pre.length),(2,true,.fn (.func 213) [] []),(3,true,.mp id),(13,true,eCls l),(14,true,.int .i64 l.length),(15,true,.int .i64 v.i)],v.H,v.n⟩) (IIx H n id pre (l.map (λx:DClu=>x.nm))) (λv=>l.length-v.i)
  ⟨0,H,n⟩ rfl ⟨Xd _,X4 _,hf,by rw[Yy,Xr];exact hp,CP.refl _,by rw[Yy,Xr];exact hd⟩ ?_
 rintro⟨i,H1,n1⟩ hI
 have hi:=hI.hi
 have hn:=hI.hn
 have hfr:=hI.fr
 have hm:=hI.hm
 have hk:=hI.hk
 have htw:=hI.tw
 simp only[W6]at hi hn hfr hm hk htw
 by_cases hlt:i<l.length
 ·have hltm:i<(l.map (λx:DClu=>x.nm)).length:=by rw[W6];exact hlt
  have hg:=X1 hlt
  have hgm:(l.map (λx:DClu=>x.nm))[i]=(λx:DClu=>x.nm) l[i]:=Zr ..
  have e:=AL (k:=i) (by omega)
  have htk:(l.map (λx:DClu=>x.nm)).take (i+1)=(l.map (λx:DClu=>x.nm)).take i++[(λx:DClu=>x.nm) l[i]]:=by rw[XP,X1 hltm,hgm];rfl
  have hpl2:(pre++(l.map (λx:DClu=>x.nm)).take i).length=pre.length+i:=by rw[Xk,Xq,W6];omega
  have ew:IntKind.wrap .i64 ((pre.length:Int)+(i:Int))=((pre.length+i:Nat):Int):=by rw[A0 (by omega) (by omega)];omega
  have y1:∀k,(n1+k=id)=False:=λk=>X6 (by omega)
  have y2:∀k,(id=n1+k)=False:=λk=>X6 (by omega)
  have hin:=λq=>Gh (pre:=pre) hltm (by rw[hgm];exact q)
  generalize hx:l[i]=x at hg hgm htk hin
  have hfi:=Dk (pre++(l.map (λx:DClu=>x.nm)).take i) ((λx:DClu=>x.nm) x)
  cases hno:B4 (pre++(l.map (λx:DClu=>x.nm)).take i) ((λx:DClu=>x.nm) x)with
  |some k=>
   have htt:Ai (pre++l.map (λx:DClu=>x.nm))=true:=hin (by
    apply Classical.byContradiction
    intro q
    rw[BR.2 q]at hno;cases hno)
   rw[hno,XG]at hfi
   simp only[eE,eC,eN,Nat.reduceEqDiff,↓reduceIte,Nat.reduceAdd,Nat.reduceLT,xE,W8,Option.isSome_some,isF,W9,X0,W6,X2,X7,X9,lt_T hlt,hg,Tx4_e,s1,Ku,Hc,hm,hfi,DK,KT.is,B8,fr1 hfr,y1,AJ]
   unfold GI
   rw[Xc htt]
   refine⟨rfl,⟨nmO (pre++(l.map (λx:DClu=>x.nm)).take i),?_⟩,?_⟩
   ·rw[AA _ _ _ _ (by omega)];exact hm
   ·exact hk.new hf (by omega)
  |none=>
   rw[hno,Yr]at hfi
   have hms:=Kv hno
   rw[hpl2]at hms
   simp only[eE,eC,eN,Nat.reduceEqDiff,↓reduceIte,Nat.reduceAdd,Nat.reduceLT,Int.reduceEq,xE,YM,W8,Option.isSome_none,W9,X0,W6,X2,X7,X9,lt_T hlt,hg,Tx4_e,s1,Ku,Hc,hm,hfi,DK,KT.is,B8,fr1 hfr,y1,e,ew,hpl2,hms,AJ]
   refine .mk ⟨i+1,hset (hset H1 (n1+3) (.box (B0 x).cells)) id (.map (nmEs (pre++(l.map (λx:DClu=>x.nm)).take i++[(λx:DClu=>x.nm) x]) 0) (pre.length+(i+1))),n1+6⟩ rfl ⟨by simp only[W6];omega,by simp only[];omega,?_,?_,?_,?_⟩ (by simp only[];omega)
   ·exact(hfr.hset (m:=n1+6) (by omega) (by omega)).hset (X4 (n1+6)) (show id<n1+6 by omega)
   ·simp only[]
    rw[AC,htk,<-XD,nmO,Xk,hpl2];rfl
   ·exact(hk.new hf (by omega)).set
   ·simp only[]
    rw[htk,<-XD];exact Gi htw (BR.1 hno)
 have hi':i=l.length:=by omega
 subst hi'
 have hta:(l.map (λx:DClu=>x.nm)).take l.length=l.map (λx:DClu=>x.nm):=XR (by rw[W6];omega)
 rw[hta]at hm htw
 simp only[eE,eC,eN,Nat.reduceEqDiff,↓reduceIte,lt_F hlt]
 unfold GI
 rw[htw,X8 (by decide)]
 exact⟨⟨_,rfl,Wk.refl _⟩,hm,hk⟩
def Tx5:Tab:=tadd 217 (s1 dRu any1 λx=>.str ((λx:DRul=>x.nm) x)) tnil
theorem Tx5_ok:AH Tryz.prog Tx5:=AH.tnil.add (q1 λx _=>p217 x)
theorem Tx5_e (a:List AVal) (H:AB):Tx5 217 a H=s1 dRu any1 (λx=>.str ((λx:DRul=>x.nm) x)) a H:=rfl
theorem Ro {H:AB} {n id:Nat} {pre:List Bs} {l:List DRul} {f:Int} (hl:few l) (hpl:pre.length<1000000000) (hf0:f=(pre.length:Int)) (hp:hget H id=some (nmO pre)) (hd:Ai pre=false):
  AO Tryz.prog 216 [eRus l,.int .i64 f,.fn (.func 217) [] [],.mp id] H n (Bt H n id pre (l.map (λx:DRul=>x.nm))):=by
 subst hf0
 refine Bt.of l216 hp λhf hid=>a216 (AF Tx5_ok (AG ?_))
 have hll:l.length<1000000000:=hl
 simp only[eE,eN,reduceCtorEq,Nat.reduceEqDiff,↓reduceIte,Nat.reduceAdd,W6,c216]
 refine AV (λv:VIx=>⟨[(1,true,.int .i64 pre.length),(2,true,.fn (.func 217) [] []),(3,true,.mp id),(13,true,eRus l),(14,true,.int .i64 l.length),(15,true,.int .i64 v.i)],v.H,v.n⟩) (IIx H n id pre (l.map (λx:DRul=>x.nm))) (λv=>l.length-v.i)
  ⟨0,H,n⟩ rfl ⟨Xd _,X4 _,hf,by rw[Yy,Xr];exact hp,CP.refl _,by rw[Yy,Xr];exact hd⟩ ?_
 rintro⟨i,H1,n1⟩ hI
 have hi:=hI.hi
 have hn:=hI.hn
 have hfr:=hI.fr
 have hm:=hI.hm
 have hk:=hI.hk
 have htw:=hI.tw
 simp only[W6]at hi hn hfr hm hk htw
 by_cases hlt:i<l.length
 ·have hltm:i<(l.map (λx:DRul=>x.nm)).length:=by rw[W6];exact hlt
  have hg:=X1 hlt
  have hgm:(l.map (λx:DRul=>x.nm))[i]=(λx:DRul=>x.nm) l[i]:=Zr ..
  have e:=AL (k:=i) (by omega)
  have htk:(l.map (λx:DRul=>x.nm)).take (i+1)=(l.map (λx:DRul=>x.nm)).take i++[(λx:DRul=>x.nm) l[i]]:=by rw[XP,X1 hltm,hgm];rfl
  have hpl2:(pre++(l.map (λx:DRul=>x.nm)).take i).length=pre.length+i:=by rw[Xk,Xq,W6];omega
  have ew:IntKind.wrap .i64 ((pre.length:Int)+(i:Int))=((pre.length+i:Nat):Int):=by rw[A0 (by omega) (by omega)];omega
  have y1:∀k,(n1+k=id)=False:=λk=>X6 (by omega)
  have y2:∀k,(id=n1+k)=False:=λk=>X6 (by omega)
  have hin:=λq=>Gh (pre:=pre) hltm (by rw[hgm];exact q)
  generalize hx:l[i]=x at hg hgm htk hin
  have hfi:=Dk (pre++(l.map (λx:DRul=>x.nm)).take i) ((λx:DRul=>x.nm) x)
  cases hno:B4 (pre++(l.map (λx:DRul=>x.nm)).take i) ((λx:DRul=>x.nm) x)with
  |some k=>
   have htt:Ai (pre++l.map (λx:DRul=>x.nm))=true:=hin (by
    apply Classical.byContradiction
    intro q
    rw[BR.2 q]at hno;cases hno)
   rw[hno,XG]at hfi
   simp only[eE,eC,eN,Nat.reduceEqDiff,↓reduceIte,Nat.reduceAdd,Nat.reduceLT,xE,W8,Option.isSome_some,isF,W9,X0,W6,X2,X7,X9,lt_T hlt,hg,Tx5_e,s1,GE,EP,hm,hfi,DK,KT.is,B8,fr1 hfr,y1,AJ]
   unfold GI
   rw[Xc htt]
   refine⟨rfl,⟨nmO (pre++(l.map (λx:DRul=>x.nm)).take i),?_⟩,?_⟩
   ·rw[AA _ _ _ _ (by omega)];exact hm
   ·exact hk.new hf (by omega)
  |none=>
   rw[hno,Yr]at hfi
   have hms:=Kv hno
   rw[hpl2]at hms
   simp only[eE,eC,eN,Nat.reduceEqDiff,↓reduceIte,Nat.reduceAdd,Nat.reduceLT,Int.reduceEq,xE,YM,W8,Option.isSome_none,W9,X0,W6,X2,X7,X9,lt_T hlt,hg,Tx5_e,s1,GE,EP,hm,hfi,DK,KT.is,B8,fr1 hfr,y1,e,ew,hpl2,hms,AJ]
   refine .mk ⟨i+1,hset (hset H1 (n1+3) (.box (Bn x).cells)) id (.map (nmEs (pre++(l.map (λx:DRul=>x.nm)).take i++[(λx:DRul=>x.nm) x]) 0) (pre.length+(i+1))),n1+6⟩ rfl ⟨by simp only[W6];omega,by simp only[];omega,?_,?_,?_,?_⟩ (by simp only[];omega)
   ·exact(hfr.hset (m:=n1+6) (by omega) (by omega)).hset (X4 (n1+6)) (show id<n1+6 by omega)
   ·simp only[]
    rw[AC,htk,<-XD,nmO,Xk,hpl2];rfl
   ·exact(hk.new hf (by omega)).set
   ·simp only[]
    rw[htk,<-XD];exact Gi htw (BR.1 hno)
 have hi':i=l.length:=by omega
 subst hi'
 have hta:(l.map (λx:DRul=>x.nm)).take l.length=l.map (λx:DRul=>x.nm):=XR (by rw[W6];omega)
 rw[hta]at hm htw
 simp only[eE,eC,eN,Nat.reduceEqDiff,↓reduceIte,lt_F hlt]
 unfold GI
 rw[htw,X8 (by decide)]
 exact⟨⟨_,rfl,Wk.refl _⟩,hm,hk⟩
end Go.AM
namespace Go.AM
open Go.Proofs Go.Lib
def NPost (H:AB) (n:Nat) (r:Option Int):AOut->AB->Nat->Prop:=λo H' n'=>H'=H/\n'=n/\match r with
 |some k=>o= .ret (.int .i64 k)
 |none=>o= .pan (errV 160)
theorem Ju {H:AB} {n id:Nat} {l:List Bs} {s:Bs} (hp:hget H id=some (nmO l)):AO Tryz.prog 215 [.mp id,.str s] H n (NPost H n (B4 l s)):=by
 refine a215 (AF AH.tnil (AG ?_))
 have hf:=Dk l s
 cases hno:B4 l s with
 |some k=>
  rw[hno,XG]at hf
  simp only[eE,eC,eN,reduceCtorEq,Nat.reduceEqDiff,↓reduceIte,Nat.reduceAdd,Nat.reduceLT,X3,xE,W8,Option.isSome_some,X7,X9,c215,hp,hf,DK,KT.is,B8]
  exact⟨rfl,rfl,rfl⟩
 |none=>
  rw[hno,Yr]at hf
  simp only[eE,eC,eN,reduceCtorEq,Nat.reduceEqDiff,↓reduceIte,Nat.reduceAdd,Nat.reduceLT,Xa,xE,YM,W8,Option.isSome_none,isF,X7,X9,c215,hp,hf,DK,KT.is,B8]
  exact⟨rfl,rfl,rfl⟩
theorem or_nat {a b:Nat} (ha:a<65536) (hb:b<65536):Vu .or .i64 (a:Int) (b:Int)=((a|||b:Nat):Int):=by
 have hab:a|||b<65536:=Nat.or_lt_two_pow (n:=16) ha hb
 have e:∀x:Nat,BitVec.ofInt 64 (x:Int)=BitVec.ofNat 64 x:=λx=>by
  apply BitVec.eq_of_toNat_eq
  simp [BitVec.toNat_ofNat]
 show IntKind.wrap .i64 ((BitVec.ofInt 64 (a:Int)|||BitVec.ofInt 64 (b:Int)).toNat:Int)=_
 rw[e,e,BitVec.toNat_or,BitVec.toNat_ofNat,BitVec.toNat_ofNat,Nat.mod_eq_of_lt (by omega),Nat.mod_eq_of_lt (by omega),A0 (by omega) (by omega)]
theorem Up {j:Nat} (h:j<16):IS .shl .i64 1 (j:Int)=((1<<<j:Nat):Int):=by
 have h2:2^j<65536:=Nat.pow_lt_pow_right (by decide) (show j<16 from h)
 show IntKind.wrap .i64 (1*2^(min (j:Int).toNat 64))=_
 rw[Int.one_mul,W9,Nat.min_eq_left (by omega),Nat.shiftLeft_eq,Nat.one_mul]
 have e:((2:Int)^j)=((2^j:Nat):Int):=by rw[Int.natCast_pow];rfl
 rw[e]
 generalize 2^j=p at h2
 exact A0 (by omega) (by omega)
theorem Tt {j:Nat} (h:j<16):1<<<j<65536:=by
 rw[Nat.shiftLeft_eq,Nat.one_mul];exact Nat.pow_lt_pow_right (by decide) (show j<16 from h)
def FE (l:List Bs) (acc:Nat) (ss:List Bs):Option Int:=(FA l ss).map λk=>((acc|||k.toNat:Nat):Int)
theorem Nc (l:List Bs) (acc:Nat):FE l acc []=some (acc:Int):=by simp [FE,FA]
theorem LC {l:List Bs} {acc:Nat} {s:Bs} {r:List Bs}:FE l acc (s::r)=match B4 l s with
  |none=>none
  |some j=>FE l (acc|||1<<<j.toNat) r:=by
 unfold FE
 rw[Iw,B4]
 cases l.findIdx? λx=>decide (x=s)with
 |none=>rfl
 |some i=>
  simp only[XG,W9]
  cases FA l r with
  |none=>rfl
  |some n=>
   simp only[XG,Option.some.injEq]
   congr 1
   show acc|||(Int.ofNat (Nat.lor (1<<<i) n.toNat)).toNat=_
   rw[Nat.or_assoc];rfl
theorem Rp (l ss:List Bs):FE l 0 ss=FA l ss:=by
 unfold FE
 rw[Oi]
 cases Af (λs=>l.findIdx? λx=>decide (x=s)) ss with
 |none=>rfl
 |some is=>simp
theorem Rq {H:AB} {n id sid:Nat} {l ss:List Bs} (hl:l.length<=16) (hss:wide ss) (hs:hget H sid=some (.box [.mp id])) (hp:hget H id=some (nmO l)):AO Tryz.prog 219 [eSs ss,.ptr sid 0] H n (NPost H n (FA l ss)):=by
 refine a219 (AF AH.tnil (AG ?_))
 have hsl:ss.length<1125899906842624:=hss
 rw[<-Rp]
 simp only[eE,eN,reduceCtorEq,Nat.reduceEqDiff,↓reduceIte,Nat.reduceAdd,W6,c219]
 refine AV (λv:Nat×Nat=>⟨[(1,true,.ptr sid 0),(3,true,.int .i64 v.2),(6,true,eSs ss),(7,true,.int .i64 ss.length),(8,true,.int .i64 v.1)],H,n⟩) (λv=>v.1<=ss.length/\v.2<65536/\FE l 0 ss=FE l v.2 (ss.drop v.1)) (λv=>ss.length-v.1) (0,0) rfl ⟨Xd _,by decide,rfl⟩ ?_
 rintro⟨i,acc⟩ ⟨hi,hacc,heq⟩
 simp only at hi hacc heq
 by_cases hlt:i<ss.length
 ·have hg:=X1 hlt
  have e:=AL (k:=i) (by omega)
  rw[Xu hlt,LC]at heq
  generalize ss[i]=s at hg heq
  simp only[eE,eC,eN,Nat.reduceEqDiff,↓reduceIte,W8,W9,X0,W6,X2,lt_T hlt,hg,hs]
  refine(Ju hp).mono λo H' n' hq=>?_
  obtain⟨rfl,rfl,hq⟩:=hq
  cases hno:B4 l s with
  |none=>
   rw[hno]at hq heq
   subst hq
   simp only at heq
   rw[heq]
   simp only[eE,eN,retK]
   exact⟨rfl,rfl,rfl⟩
  |some k=>
   rw[hno]at hq heq
   subst hq
   simp only at heq
   obtain⟨h0,h1⟩:=RE hno
   obtain⟨j,rfl⟩:∃j:Nat,k=j:=⟨k.toNat,by omega⟩
   rw[W9]at heq
   simp only[eE,eN,Nat.reduceEqDiff,↓reduceIte,Int.reduceEq,X0,retK,Up (show j<16 by omega),or_nat hacc (Tt (show j<16 by omega)),e]
   exact .mk (i+1,acc|||1<<<j) rfl ⟨hlt,Nat.or_lt_two_pow (n:=16) hacc (Tt (by omega)),heq⟩ (by simp only[];omega)
 obtain rfl:i=ss.length:=by omega
 rw[Yf,Nc]at heq
 rw[heq]
 simp only[eE,eC,eN,Nat.reduceEqDiff,↓reduceIte,lt_F hlt]
 exact⟨rfl,rfl,rfl⟩
end Go.AM
namespace Go.AM
open Go.Proofs Go.Lib
abbrev Nd:List AVal:=[.str [],.int .i64 0,.int .i64 0,.int .i64 0,.int .i64 0,.sl .nil [],.sl .nil [],.sl .nil [],.sl .nil [],.sl .nil []]
theorem d_rn {H:AB} {n i0 i1:Nat}:C3 Tryz.prog 204 [.ptr i0 0,.ptr i1 0] .nilifc H n (λH' n'=>H'=H/\n'=n):=by
 refine a204 (AF AH.tnil (AG ?_))
 simp only[eE,eC,eN,reduceCtorEq,Nat.reduceEqDiff,↓reduceIte,Nat.reduceAdd,X3,xE,c204]
theorem d_rp {H:AB} {n:Nat} {xs:List AVal} {y:AVal} {p:Int} (h0:hget H 1=some (.box xs)) (hx:xs.length=10) (h1:hget H 2=some (.box [y])):
  C3 Tryz.prog 204 [.ptr 1 0,.ptr 2 0] (errV p) H n (λH' n'=>hget H' 1=some (.box Nd)/\hget H' 2=some (.box [.int .i64 p])):=by
 refine a204 (AF AH.tnil (AG ?_))
 obtain⟨a,b,c,d,e,f,g,h,i,j,rfl⟩:∃a b c d e f g h i j,xs=[a,b,c,d,e,f,g,h,i,j]:=by
  match xs,hx with
  |[a,b,c,d,e,f,g,h,i,j],_=>exact⟨a,b,c,d,e,f,g,h,i,j,rfl⟩
 simp only[eE,eC,eN,reduceCtorEq,Nat.reduceEqDiff,↓reduceIte,Nat.reduceAdd,xE,c204,h0,h1]
end Go.AM
namespace Go.AM
open Go.Proofs Go.Lib
def Es (d:Dcl):AVal:=match resD d with
 | .error e=>.tup [encD dcl0,.int .i64 e]
 | .ok x=>.tup [encD x,.int .i64 0]
abbrev Bu (d:Dcl) (vc vr:AVal):List AVal:=[.str d.nm,.int .i64 d.ver,.int .i64 d.sh,.int .i64 d.w,.int .i64 d.h,eIs d.holes,eSys d.syms,eRgs d.regs,vc,vr]
def RR (d:Dcl):AOut->AB->Nat->Prop:=λo H' n'=>match resD d with
 | .error e=>∃v,o= .ret v/\Wk v (.tup [encD dcl0,.int .i64 e])
 | .ok x=>∃vc vr,o= .ret (.tup [.agg (Bu d vc vr),.int .i64 0])/\LV 6 vc H' (x.clus.map B0)/\LV 12 vr H' (x.ruls.map Bn)/\(∀i a b c e j f g h k,vc= .ref i a b c e->vr= .ref j f g h k->i≠j)
def Tnr:Tab:=tadd 210 (λa _=>match a with
 |[]=>(True,eSs GC)
 |_=>(False,.tup [])) tnil
theorem Tu:AH Tryz.prog Tnr:=AH.tnil.add λargs H n h=>by
 cases args with
 |nil=>exact p210.quiet H n
 |cons _ _=>exact h.elim
theorem Tnr_g (H:AB):Tnr 210 [] H=(True,eSs GC):=rfl
abbrev rsR:List RC:=[.c 2 10 true,.c 3 1 false]
abbrev envR:List (Nat×Bool×AVal):=[(1,true,.ptr 0 0),(2,true,.ptr 1 0),(3,true,.ptr 2 0)]
abbrev argsR:List AVal:=[.ptr 1 0,.ptr 2 0]
def afst:ACode->ACode
 | .seq a _=>a
 |c=>c
def asnd:ACode->ACode
 | .seq _ b=>b
 |c=>c
def LD:Nat->ACode->ACode
 |0,c=>c
 |k+1,c=>LD k (asnd c)
abbrev QR (d:Dcl):AExit->AS->Prop:=postX Tryz.prog 204 argsR rsR envR (RR d)
theorem ten {xs:List AVal} (h:xs.length=10):∃a b c d e f g h i j,xs=[a,b,c,d,e,f,g,h,i,j]:=by
 match xs,h with
 |[a,b,c,d,e,f,g,h,i,j],_=>exact⟨a,b,c,d,e,f,g,h,i,j,rfl⟩
theorem CS {d:Dcl} {H:AB} {m:Nat} {xs:List AVal} {y:AVal} {p:Int} (h1:hget H 1=some (.box xs)) (hx:xs.length=10) (h2:hget H 2=some (.box [y])) (hr:resD d= .error p):QR d (.pan (errV p)) ⟨[],H,m⟩:=by
 refine C3.mono (d_rp h1 hx h2) ?_
 rintro H2 n2 ⟨k1,k2⟩
 unfold RcOf
 simp only[eE,Nat.reduceEqDiff,↓reduceIte,Nat.reduceAdd,BT,k1,k2]
 unfold RR
 rw[hr]
 exact⟨_,rfl,Wk.tup (.cons (Wk.agg (.cons (Wk.refl _) (.cons (Wk.refl _) (.cons (Wk.refl _) (.cons (Wk.refl _) (.cons (Wk.refl _) (.cons (Wk.sl (.inr rfl)) (.cons (Wk.sl (.inr rfl)) (.cons (Wk.sl (.inr rfl)) (.cons (Wk.sl (.inr rfl)) (.cons (Wk.sl (.inr rfl)) .nil))))))))))) (.cons (Wk.refl _) .nil))⟩
theorem O0 {d:Dcl} {env:List (Nat×Bool×AVal)} {H:AB} {m:Nat} {xs:List AVal} {y:AVal} (h1:hget H 1=some (.box xs)) (hx:xs.length=10) (h2:hget H 2=some (.box [y])) (hr:RR d (.ret (.tup [.agg xs,y])) H m):QR d .ret ⟨env,H,m⟩:=by
 refine C3.mono d_rn ?_
 rintro H2 n2 ⟨rfl,rfl⟩
 obtain⟨a,b,c,d,e,f,g,h,i,j,rfl⟩:=ten hx
 unfold RcOf
 simp only[eE,Nat.reduceEqDiff,↓reduceIte,Nat.reduceAdd,BT,h1,h2]
 exact hr
end Go.AM
namespace Go.AM
open Go.Proofs Go.Lib
structure NM (d:Dcl) (vc vr:AVal) (H:AB):Prop where
 h0:hget H 0=some (.box (Bu d vc vr))
 h1:hget H 1=some (.box Nd)
 h2:hget H 2=some (.box [.int .i64 0])
 h5:hget H 5=some (nmO (d.syms.map λx:DSym=>x.nm))
 h7:hget H 7=some (.box [.mp 5])
 h12:hget H 12=some (nmO (GR d))
 h18:hget H 18=some (nmO (d.clus.map λx:DClu=>x.nm))
def notM (i:Nat):Prop:=i≠0/\i≠1/\i≠2/\i≠5/\i≠7/\i≠12/\i≠18
theorem NM.set {d:Dcl} {vc vr:AVal} {H:AB} {i:Nat} {ob:AObj} (h:NM d vc vr H) (hi:notM i):NM d vc vr (hset H i ob):=by
 obtain⟨a,b,c,e,f,g,k⟩:=hi
 exact⟨by rw[AA _ _ _ _ a];exact h.h0,by rw[AA _ _ _ _ b];exact h.h1,by rw[AA _ _ _ _ c];exact h.h2,by rw[AA _ _ _ _ e];exact h.h5,by rw[AA _ _ _ _ f];exact h.h7,by rw[AA _ _ _ _ g];exact h.h12,by rw[AA _ _ _ _ k];exact h.h18⟩
theorem NM.put {d:Dcl} {vc vr vc' vr':AVal} {H:AB} (h:NM d vc vr H):NM d vc' vr' (hset H 0 (.box (Bu d vc' vr'))):=
 ⟨AC ..,by rw[AA _ _ _ _ (by decide)];exact h.h1,by rw[AA _ _ _ _ (by decide)];exact h.h2,by rw[AA _ _ _ _ (by decide)];exact h.h5,by rw[AA _ _ _ _ (by decide)];exact h.h7,by rw[AA _ _ _ _ (by decide)];exact h.h12,by rw[AA _ _ _ _ (by decide)];exact h.h18⟩
theorem NM.ne {d:Dcl} {vc vr:AVal} {H:AB} {id e:Nat} {A:List AVal} (hnm:NM d vc vr H) (ho:hget H id=some (.arr e A)):notM id:=by
 refine⟨?_,?_,?_,?_,?_,?_,?_⟩<;>rintro rfl
 ·rw[hnm.h0]at ho;cases ho
 ·rw[hnm.h1]at ho;cases ho
 ·rw[hnm.h2]at ho;cases ho
 ·rw[hnm.h5]at ho;cases ho
 ·rw[hnm.h7]at ho;cases ho
 ·rw[hnm.h12]at ho;cases ho
 ·rw[hnm.h18]at ho;cases ho
theorem LE {i:Nat} (h:21<=i):notM i:=⟨by omega,by omega,by omega,by omega,by omega,by omega,by omega⟩
theorem Dy {α β:Type} (f:α->Option β) (x:α) (r:List α):Af f (x::r)=(match f x with
  |some y=>(Af f r).map λs=>y::s
  |none=>none):=by
 simp only[Af]
 cases f x with
 |none=>rfl
 |some y=>cases Af f r<;>rfl
structure VRl where
 i:Nat
 dn:List DRul
 H:AB
structure IRl (d:Dcl) (cs:List DClu) (vc vr:AVal) (n:Nat) (v:VRl):Prop where
 hi:v.i<=d.ruls.length
 ln:v.dn.length=v.i
 fr:AN v.H n
 nm:NM d vc vr v.H
 lc:LV 6 vc v.H (cs.map B0)
 lv:LV 12 vr v.H ((v.dn++d.ruls.drop v.i).map Bn)
 eq:Af (BU d) d.ruls=(Af (BU d) (d.ruls.drop v.i)).map λr=>v.dn++r
section
variable {a b c d e f g h i j k l v:AVal}
theorem apR3 (hv:v.cells=[v]):DT (.agg [a,b,c,d,e,f,g,h,i,j,k,l]) 3 1 12 v=(True,.agg [a,b,c,v,e,f,g,h,i,j,k,l]):=by
 rw[D5 (by decide)];simp [splice,hv]
theorem apR6 (hv:v.cells=[v]):DT (.agg [a,b,c,d,e,f,g,h,i,j,k,l]) 6 1 12 v=(True,.agg [a,b,c,d,e,f,v,h,i,j,k,l]):=by
 rw[D5 (by decide)];simp [splice,hv]
theorem apR7 (hv:v.cells=[v]):DT (.agg [a,b,c,d,e,f,g,h,i,j,k,l]) 7 1 12 v=(True,.agg [a,b,c,d,e,f,g,v,i,j,k,l]):=by
 rw[D5 (by decide)];simp [splice,hv]
theorem Rr (hv:v.cells=[v]):DT (.agg [a,b,c,d,e,f,g,h,i,j,k,l]) 11 1 12 v=(True,.agg [a,b,c,d,e,f,g,h,i,j,k,v]):=by
 rw[D5 (by decide)];simp [splice,hv]
end
theorem LV.set {e:Nat} {v:AVal} {H:AB} {l:List AVal} {id:Nat} {ob:AObj} (h:LV e v H l) (hne:∀a b c x,v≠ .ref id a b c x):LV e v (hset H id ob) l:=by
 rcases h with h|⟨h0,i,cap,rest,rfl,ho,hc⟩
 ·exact .inl h
 ·exact .inr ⟨h0,i,cap,rest,rfl,by rw[AA _ _ _ _ (λq=>hne _ _ _ _ (by rw[q]))];exact ho,hc⟩
theorem LV.no {e:Nat} {H:AB} {l:List AVal} {i a b c x:Nat} (h:LV e (.ref i a b c x) H l) (hn:∀e' A,hget H i≠some (.arr e' A)):False:=by
 rcases h with⟨-,t,h,-⟩|⟨-,id,cap,rest,h,ho,-⟩
 ·cases h
 ·cases h;exact hn _ _ ho
theorem Tv (d:Dcl) (hd:FewD d) (h16:¬16<d.syms.length) (ht1:Ai (d.syms.map λx:DSym=>x.nm)=false) (ht2:Ai (GR d)=false) (ht3:Ai (d.clus.map λx:DClu=>x.nm)=false) {cs:List DClu} (hcs:Af (C5 d) d.clus=some cs) (ht4:Ai (d.ruls.map λx:DRul=>x.nm)=false)
  {vc vr:AVal} {H:AB} {n:Nat} (hf:AN H n) (hm:NM d vc vr H) (hvc:LV 6 vc H (cs.map B0)) (hvr:LV 12 vr H (d.ruls.map Bn)) (hdj:∀i a b c e j f g h k,vc= .ref i a b c e->vr= .ref j f g h k->i≠j):
  evK Tryz.prog Tnr (asnd (afst (LD 9 c161))) [.c (asnd (LD 9 c161))] (QR d) ⟨[(1,true,.ptr 0 0),(2,true,.ptr 1 0),(3,true,.ptr 2 0),(5,true,.mp 12),(6,true,.mp 18),(8,true,.fn (.func 219) [] [.ptr 7 0]),(66,true,.int .i64 d.ruls.length),(67,true,.int .i64 0)],H,n⟩:=by
 have hrl:d.ruls.length<1000000000:=hd.ru
 have hbase:∀x,Af (BU d) d.ruls=x->resD d=(match x with|none=>.error 160|some rs=>.ok {d with clus:=cs,ruls:=rs}):=λx hx=>by
  unfold resD
  rw[X8 h16,ht1,ht2,ht3,hcs]
  simp only[Xm,Xy]
  rw[ht4,hx]
  rfl
 simp only[eE,LD,asnd,afst,c161]
 refine AV (λv:VRl=>⟨[(1,true,.ptr 0 0),(2,true,.ptr 1 0),(3,true,.ptr 2 0),(5,true,.mp 12),(6,true,.mp 18),(8,true,.fn (.func 219) [] [.ptr 7 0]),(66,true,.int .i64 d.ruls.length),(67,true,.int .i64 v.i)],v.H,n⟩) (IRl d cs vc vr n) (λv=>d.ruls.length-v.i)
  ⟨0,[],H⟩ rfl ⟨Xd _,rfl,hf,hm,hvc,hvr,by rw[List.drop_zero];cases Af (BU d) d.ruls<;>rfl⟩ ?_
 rintro⟨i,dn,H1⟩ hI
 have hi:=hI.hi
 have hln:=hI.ln
 have hfr:=hI.fr
 have hnm:=hI.nm
 have hlc:=hI.lc
 have hlv:=hI.lv
 have heq:=hI.eq
 clear hI hf hm hvc hvr
 simp only at hi hln hfr hnm hlc hlv heq
 by_cases hlt:i<d.ruls.length
 case neg=>
  obtain rfl:i=d.ruls.length:=by omega
  rw[Yf]at heq hlv
  rw[Xr]at hlv
  have hr:=hbase _ heq
  simp only[Af,XG,Xr]at hr
  simp only[eE,eC,eN,Nat.reduceEqDiff,↓reduceIte,Nat.reduceAdd,lt_F hlt,hnm.h0,Bu,hnm.h1,hnm.h2]
  refine O0 (xs:=Bu d vc vr) (y:=.int .i64 0) ?_ rfl ?_ ?_
  ·simp only[AI];rfl
  ·simp only[AI];rfl
  unfold RR
  rw[hr]
  have hn1:∀a b c x,vc≠ .ref 1 a b c x/\vc≠ .ref 2 a b c x/\vr≠ .ref 1 a b c x/\vr≠ .ref 2 a b c x:=by
   intro a b c x
   refine⟨?_,?_,?_,?_⟩<;>rintro rfl
   ·exact hlc.no (by rw[hnm.h1];simp)
   ·exact hlc.no (by rw[hnm.h2];simp)
   ·exact hlv.no (by rw[hnm.h1];simp)
   ·exact hlv.no (by rw[hnm.h2];simp)
  exact⟨vc,vr,rfl,(hlc.set λa b c x=>(hn1 a b c x).1).set λa b c x=>(hn1 a b c x).2.1,(hlv.set λa b c x=>(hn1 a b c x).2.2.1).set λa b c x=>(hn1 a b c x).2.2.2,hdj⟩
 have hrx:=(hd.rus _ (Xg hlt))
 rw[Xu hlt]at heq hlv
 rw[Dy]at heq
 generalize d.ruls[i]=r at heq hlv hrx
 have hll:((dn++r::d.ruls.drop (i+1)).map Bn).length=d.ruls.length:=by simp;omega
 rcases hlv with⟨h0,-⟩|⟨-,id,cap,rest,hvr,ho,hcr⟩
 ·simp at h0
 rw[hll]at hvr hcr
 subst hvr
 have e:=AL (k:=i) (by omega)
 have hid:id<n:=hfr.lt ho
 have hne:=hnm.ne ho
 have h0:=hnm.h0
 have hgi:((dn++r::d.ruls.drop (i+1)).map Bn++rest)[i]?=some (Bn r):=by
  rw[Xf,XD,Y2 (by simp;omega)]
  simp [hln]
 have hil:i<((dn++r::d.ruls.drop (i+1)).map Bn++rest).length:=by rw[Xk,hll];omega
 have hse:∀r':DRul,((dn++r::d.ruls.drop (i+1)).map Bn++rest).set i (Bn r')=((dn++[r'])++d.ruls.drop (i+1)).map Bn++rest:=λr'=>by
  rw[Xf,XD,List.set_append_right _ _ (by simp;omega)]
  simp [hln]
 generalize hA:(dn++r::d.ruls.drop (i+1)).map Bn++rest=A at ho hgi hil hse
 have hls:∀x,(i<(A.set i x).length)=True:=λx=>W7 (by rw[Y0];exact hil)
 have hgs:∀x,(A.set i x)[i]?=some x:=λx=>List.getElem?_set_self hil
 have hss:∀x y,(A.set i x).set i y=A.set i y:=λx y=>List.set_set ..
 have z0':(id=0)=False:=X6 hne.1
 have z5':(id=5)=False:=X6 hne.2.2.2.1
 have z7':(id=7)=False:=X6 hne.2.2.2.2.1
 have z12':(id=12)=False:=X6 hne.2.2.2.2.2.1
 have z18':(id=18)=False:=X6 hne.2.2.2.2.2.2
 have h7:=hnm.h7
 have h5:=hnm.h5
 have hbad:BU d r=none->resD d= .error 160:=λq=>by
  rw[q]at heq
  exact hbase _ heq
 have hnv:∀ob,NM d vc (.ref id 12 0 d.ruls.length cap) (hset H1 id ob):=λob=>hnm.set hne
 have hvn:∀a b c x,vc≠ .ref id a b c x:=λa b c x q=>hdj _ _ _ _ _ _ _ _ _ _ q rfl rfl
 have fin:∀(F a b c:Int),BU d r=some {r with fam:=F,set:=a,oth:=b,clue:=c}->lpN (λv:VRl=>⟨[(1,true,.ptr 0 0),(2,true,.ptr 1 0),(3,true,.ptr 2 0),(5,true,.mp 12),(6,true,.mp 18),(8,true,.fn (.func 219) [] [.ptr 7 0]),(66,true,.int .i64 d.ruls.length),(67,true,.int .i64 v.i)],v.H,n⟩) (IRl d cs vc (.ref id 12 0 d.ruls.length cap) n) (λv=>d.ruls.length-v.i) ⟨i,dn,H1⟩
   ⟨[(1,true,.ptr 0 0),(2,true,.ptr 1 0),(3,true,.ptr 2 0),(5,true,.mp 12),(6,true,.mp 18),(8,true,.fn (.func 219) [] [.ptr 7 0]),(66,true,.int .i64 d.ruls.length),(67,true,.int .i64 ((i+1:Nat):Int))],hset H1 id (.arr 12 (A.set i (.agg [.str r.nm,.str r.on,.int .i64 r.kind,.int .i64 F,eSs r.ns,eSs r.os,.int .i64 a,.int .i64 b,.int .i64 r.op,.int .i64 r.n,.str r.byN,.int .i64 c]))),n⟩:=λF a b c hrr=>by
  rw[hrr]at heq
  have hse2:=hse {r with fam:=F,set:=a,oth:=b,clue:=c}
  refine .mk ⟨i+1,dn++[{r with fam:=F,set:=a,oth:=b,clue:=c}],hset H1 id (.arr 12 (A.set i (Bn {r with fam:=F,set:=a,oth:=b,clue:=c})))⟩ rfl ⟨hlt,by simp [hln],hfr.hset (X4 _) hid,hnv _,hlc.set hvn,.inr ⟨by simp,id,cap,rest,?_,?_,?_⟩,?_⟩ (by simp only[];omega)
  ·simp only[W6,Xk,Xj,Y8,Yl,hln]
   congr 1;omega
  ·simp only[]
   rw[AC,hse2]
  ·simp only[W6,Xk,Xj,Y8,Yl,hln]
   omega
  ·simp only[]
   rw[heq]
   cases Af (BU d) (d.ruls.drop (i+1))<;>simp
 by_cases hon:r.on=[]
 ·have hb:scmp .neq r.on []=false:=by rw[Dl,hon];rfl
  simp only[eE,eC,eN,eX,reduceCtorEq,Nat.reduceEqDiff,↓reduceIte,Nat.reduceAdd,Nat.reduceLeDiff,Nat.reduceLT,Nat.reduceMod,Nat.reduceSub,Nat.reduceDiv,W8,W9,X0,atN,atK,Hz,lt_T hlt,h0,Bu,ho,hgi,W7 hil,addr,W7 hid,hls,hgs,hss,Bn,Di,apR3,Rr,AJ,hb]
  refine(Rq (by rw[W6];omega) hrx.1 (hnv _).h7 (hnv _).h5).mono λo H' n' hq=>?_
  obtain⟨rfl,rfl,hq⟩:=hq
  cases hs1:FA (d.syms.map λx:DSym=>x.nm) r.ns with
  |none=>
   rw[hs1]at hq
   subst hq
   simp only[eE,eN,EC]
   exact CS (hnv _).h1 rfl (hnv _).h2 (hbad (by unfold BU;rw[Xc hon,hs1]))
  |some a=>
   rw[hs1]at hq
   subst hq
   simp only[eE,eC,eX,Nat.reduceEqDiff,↓reduceIte,Nat.reduceLeDiff,Nat.reduceMod,Nat.reduceSub,Nat.reduceDiv,EC]
   refine(Rq (by rw[W6];omega) hrx.2 (hnv _).h7 (hnv _).h5).mono λo H' n' hq=>?_
   obtain⟨rfl,rfl,hq⟩:=hq
   cases hs2:FA (d.syms.map λx:DSym=>x.nm) r.os with
   |none=>
    rw[hs2]at hq
    subst hq
    simp only[eE,eN,EC]
    exact CS (hnv _).h1 rfl (hnv _).h2 (hbad (by unfold BU;rw[Xc hon,hs1,hs2]))
   |some b=>
    rw[hs2]at hq
    subst hq
    by_cases hby:r.byN=[]
    ·have hb2:scmp .neq r.byN []=false:=by rw[Dl,hby];rfl
     simp only[eE,eC,eN,eX,Nat.reduceEqDiff,↓reduceIte,Nat.reduceAdd,Nat.reduceLeDiff,Int.reduceEq,Nat.reduceSub,Nat.reduceDiv,W8,EC,hb2,Iy,hls,hgs,hss,apR6,apR7,AJ,e]
     exact fin 0 a b (-1) (by unfold BU;rw[Xc hon,hs1,hs2,Xc hby])
    ·have hb2:scmp .neq r.byN []=true:=by rw[Dl,B1 hby];rfl
     simp only[eE,eC,eN,eX,Nat.reduceEqDiff,↓reduceIte,Nat.reduceAdd,Nat.reduceLeDiff,Nat.reduceSub,Nat.reduceDiv,W8,EC,hb2,Iy,hls,hgs,hss,apR6,apR7,AJ]
     refine(Ju (hnv _).h18).mono λo H' n' hq=>?_
     obtain⟨rfl,rfl,hq⟩:=hq
     cases hnb:B4 (d.clus.map λx:DClu=>x.nm) r.byN with
     |none=>
      rw[hnb]at hq
      subst hq
      simp only[eE,eN,retK]
      exact CS (hnv _).h1 rfl (hnv _).h2 (hbad (by unfold BU;rw[Xc hon,hs1,hs2,X8 hby,hnb]))
     |some c=>
      rw[hnb]at hq
      subst hq
      simp only[eE,eN,Nat.reduceEqDiff,↓reduceIte,Int.reduceEq,W8,retK,hls,hgs,hss,Rr,AJ,e]
      exact fin 0 a b c (by unfold BU;rw[Xc hon,hs1,hs2,X8 hby,hnb])
 ·have hb:scmp .neq r.on []=true:=by rw[Dl,B1 hon];rfl
  simp only[eE,eC,eN,Nat.reduceEqDiff,↓reduceIte,Nat.reduceAdd,Nat.reduceLeDiff,W8,W9,X0,lt_T hlt,h0,Bu,ho,hgi,W7 hil,hls,hgs,hss,Bn,Di,apR3,Rr,AJ,hb]
  refine(Ju (hnv _).h12).mono λo H' n' hq=>?_
  obtain⟨rfl,rfl,hq⟩:=hq
  cases hno:B4 (GR d) r.on with
  |none=>
   rw[hno]at hq
   subst hq
   simp only[eE,eN,retK]
   exact CS (hnv _).h1 rfl (hnv _).h2 (hbad (by unfold BU;rw[X8 hon,hno]))
  |some F=>
   rw[hno]at hq
   subst hq
   simp only[eE,eN,eX,reduceCtorEq,Nat.reduceEqDiff,↓reduceIte,Nat.reduceAdd,Nat.reduceLeDiff,Nat.reduceLT,Nat.reduceMod,Nat.reduceSub,Nat.reduceDiv,W8,atN,atK,Hz,retK,addr,W7 hid,hls,hgs,hss,apR3,AJ]
   refine(Rq (by rw[W6];omega) hrx.1 (hnv _).h7 (hnv _).h5).mono λo H' n' hq=>?_
   obtain⟨rfl,rfl,hq⟩:=hq
   cases hs1:FA (d.syms.map λx:DSym=>x.nm) r.ns with
   |none=>
    rw[hs1]at hq
    subst hq
    simp only[eE,eN,EC]
    exact CS (hnv _).h1 rfl (hnv _).h2 (hbad (by unfold BU;rw[X8 hon,hno,hs1]))
   |some a=>
    rw[hs1]at hq
    subst hq
    simp only[eE,eC,eX,Nat.reduceEqDiff,↓reduceIte,Nat.reduceLeDiff,Nat.reduceMod,Nat.reduceSub,Nat.reduceDiv,EC]
    refine(Rq (by rw[W6];omega) hrx.2 (hnv _).h7 (hnv _).h5).mono λo H' n' hq=>?_
    obtain⟨rfl,rfl,hq⟩:=hq
    cases hs2:FA (d.syms.map λx:DSym=>x.nm) r.os with
    |none=>
     rw[hs2]at hq
     subst hq
     simp only[eE,eN,EC]
     exact CS (hnv _).h1 rfl (hnv _).h2 (hbad (by unfold BU;rw[X8 hon,hno,hs1,hs2]))
    |some b=>
     rw[hs2]at hq
     subst hq
     by_cases hby:r.byN=[]
     ·have hb2:scmp .neq r.byN []=false:=by rw[Dl,hby];rfl
      simp only[eE,eC,eN,eX,Nat.reduceEqDiff,↓reduceIte,Nat.reduceAdd,Nat.reduceLeDiff,Int.reduceEq,Nat.reduceSub,Nat.reduceDiv,W8,EC,hb2,Iy,hls,hgs,hss,apR6,apR7,AJ,e]
      exact fin F a b (-1) (by unfold BU;rw[X8 hon,hno,hs1,hs2,Xc hby])
     ·have hb2:scmp .neq r.byN []=true:=by rw[Dl,B1 hby];rfl
      simp only[eE,eC,eN,eX,Nat.reduceEqDiff,↓reduceIte,Nat.reduceAdd,Nat.reduceLeDiff,Nat.reduceSub,Nat.reduceDiv,W8,EC,hb2,Iy,hls,hgs,hss,apR6,apR7,AJ]
      refine(Ju (hnv _).h18).mono λo H' n' hq=>?_
      obtain⟨rfl,rfl,hq⟩:=hq
      cases hnb:B4 (d.clus.map λx:DClu=>x.nm) r.byN with
      |none=>
       rw[hnb]at hq
       subst hq
       simp only[eE,eN,retK]
       exact CS (hnv _).h1 rfl (hnv _).h2 (hbad (by unfold BU;rw[X8 hon,hno,hs1,hs2,X8 hby,hnb]))
      |some c=>
       rw[hnb]at hq
       subst hq
       simp only[eE,eN,Nat.reduceEqDiff,↓reduceIte,Int.reduceEq,W8,retK,hls,hgs,hss,Rr,AJ,e]
       exact fin F a b c (by unfold BU;rw[X8 hon,hno,hs1,hs2,X8 hby,hnb])
end Go.AM
namespace Go.AM
open Go.Proofs Go.Lib
structure VCl where
 i:Nat
 dn:List DClu
 H:AB
structure ICl (d:Dcl) (vc:AVal) (n:Nat) (v:VCl):Prop where
 hi:v.i<=d.clus.length
 ln:v.dn.length=v.i
 fr:AN v.H n
 nm:NM d vc (eRus d.ruls) v.H
 lv:LV 6 vc v.H ((v.dn++d.clus.drop v.i).map B0)
 eq:Af (C5 d) d.clus=(Af (C5 d) (d.clus.drop v.i)).map λr=>v.dn++r
theorem apS2 {a b c d e f v:AVal} (h:v.cells=[v]):DT (.agg [a,b,c,d,e,f]) 2 1 6 v=(True,.agg [a,b,v,d,e,f]):=by
 rw[D5 (by decide)];simp [splice,h]
theorem Tw (d:Dcl) (hd:FewD d) (h16:¬16<d.syms.length) (ht1:Ai (d.syms.map λx:DSym=>x.nm)=false) (ht2:Ai (GR d)=false) (ht3:Ai (d.clus.map λx:DClu=>x.nm)=false)
  {vc:AVal} {H:AB} {n:Nat} {ml:Int} (hml:ml=(d.clus.length:Int)) (hn:21<=n) (hf:AN H n) (hm:NM d vc (eRus d.ruls) H) (hv:LV 6 vc H (d.clus.map B0)):
  evK Tryz.prog Tnr (asnd (afst (LD 5 c161))) [.c (asnd (LD 5 c161))] (QR d) ⟨[(1,true,.ptr 0 0),(2,true,.ptr 1 0),(3,true,.ptr 2 0),(4,true,.ptr 7 0),(5,true,.mp 12),(6,true,.mp 18),(37,true,.int .i64 ml),(38,true,.int .i64 0)],H,n⟩:=by
 subst hml
 have hcl:d.clus.length<1000000000:=hd.cl
 simp only[eE,LD,asnd,afst,c161]
 refine AV (λv:VCl=>⟨[(1,true,.ptr 0 0),(2,true,.ptr 1 0),(3,true,.ptr 2 0),(4,true,.ptr 7 0),(5,true,.mp 12),(6,true,.mp 18),(37,true,.int .i64 d.clus.length),(38,true,.int .i64 v.i)],v.H,n⟩) (ICl d vc n) (λv=>d.clus.length-v.i)
  ⟨0,[],H⟩ rfl ⟨Xd _,rfl,hf,hm,hv,by rw[List.drop_zero];cases Af (C5 d) d.clus<;>rfl⟩ ?_
 rintro⟨i,dn,H1⟩ hI
 have hi:=hI.hi
 have hln:=hI.ln
 have hfr:=hI.fr
 have hnm:=hI.nm
 have hlv:=hI.lv
 have heq:=hI.eq
 simp only at hi hln hfr hnm hlv heq
 by_cases hlt:i<d.clus.length
 ·rw[Xu hlt]at heq hlv
  rw[Dy]at heq
  generalize d.clus[i]=c at heq hlv
  have hll:((dn++c::d.clus.drop (i+1)).map B0).length=d.clus.length:=by simp;omega
  rcases hlv with⟨h0,-⟩|⟨-,id,cap,rest,hvc,ho,hcr⟩
  ·simp at h0
  rw[hll]at hvc hcr
  subst hvc
  have e:=AL (k:=i) (by omega)
  have hid:id<n:=hfr.lt ho
  have h0:=hnm.h0
  have hgi:((dn++c::d.clus.drop (i+1)).map B0++rest)[i]?=some (.agg [.str c.nm,.str c.on,.int .i64 c.fam,.int .i64 c.ty,.int .i64 c.lo,.int .i64 c.hi]):=by
   rw[Xf,XD,Y2 (by simp;omega)]
   simp [hln]
  have hil:(i<((dn++c::d.clus.drop (i+1)).map B0++rest).length)=True:=W7 (by rw[Xk,hll];omega)
  have hse:∀c':DClu,((dn++c::d.clus.drop (i+1)).map B0++rest).set i (B0 c')=((dn++[c'])++d.clus.drop (i+1)).map B0++rest:=λc'=>by
   rw[Xf,XD,List.set_append_right _ _ (by simp;omega)]
   simp [hln]
  have hne:=hnm.ne ho
  generalize hA:(dn++c::d.clus.drop (i+1)).map B0++rest=A at ho hgi hil hse
  simp only[eE,eC,eN,eX,reduceCtorEq,Nat.reduceEqDiff,↓reduceIte,Nat.reduceAdd,Nat.reduceLeDiff,Nat.reduceLT,Nat.reduceMod,Nat.reduceSub,Nat.reduceDiv,W8,W9,X0,atN,atK,Hz,lt_T hlt,h0,Bu,ho,hgi,hil,addr,W7 hid]
  refine(Ju hnm.h12).mono λo H' n' hq=>?_
  obtain⟨rfl,rfl,hq⟩:=hq
  cases hno:B4 (GR d) c.on with
  |none=>
   rw[hno]at hq
   subst hq
   have hrc:C5 d c=none:=by unfold C5;rw[hno];rfl
   rw[hrc]at heq
   have hr:resD d= .error 160:=by unfold resD;rw[X8 h16,ht1,ht2,ht3,heq];rfl
   simp only[eE,eN,EC]
   exact CS hnm.h1 rfl hnm.h2 hr
  |some k=>
   rw[hno]at hq
   subst hq
   have hrc:C5 d c=some {c with fam:=k}:=by unfold C5;rw[hno];rfl
   rw[hrc]at heq
   have hs2:=hse {c with fam:=k}
   simp only[eE,eC,eN,eX,Nat.reduceEqDiff,↓reduceIte,Nat.reduceLeDiff,Int.reduceEq,Nat.reduceSub,Nat.reduceDiv,W8,W9,X0,EC,Iy,ho,hgi,hil,apS2 (v:=.int .i64 k) rfl,e]
   refine⟨by omega,.mk ⟨i+1,dn++[{c with fam:=k}],hset H' id (.arr 6 (A.set i (B0 {c with fam:=k})))⟩ rfl ⟨hlt,by simp [hln],hfr.hset (X4 _) hid,hnm.set hne,.inr ⟨by simp,id,cap,rest,?_,?_,?_⟩,?_⟩ (by simp only[];omega)⟩
   ·simp only[W6,Xk,Xj,Y8,Yl,hln]
    congr 1;omega
   ·simp only[]
    rw[AC,hs2]
   ·simp only[W6,Xk,Xj,Y8,Yl,hln]
    omega
   ·simp only[]
    rw[heq]
    cases Af (C5 d) (d.clus.drop (i+1))<;>simp
 obtain rfl:i=d.clus.length:=by omega
 rw[Yf]at heq hlv
 rw[Xr]at hlv
 have hcs:Af (C5 d) d.clus=some dn:=by rw[heq];simp [Af]
 have h0:=hnm.h0
 have y0:∀k,(n+k=0)=False:=λk=>X6 (by omega)
 simp only[eE,eC,eN,Nat.reduceEqDiff,↓reduceIte,Nat.reduceAdd,xE,lt_F hlt,h0,Bu,fr1 hfr]
 refine(Ro (pre:=[]) hd.ru (by decide) rfl (AC ..) rfl).mono λo H' n' hq=>?_
 unfold Bt at hq
 rw[Xi]at hq
 have hnv:∀a b,NM d vc (eRus d.ruls) (hset (hset H1 (n+2) a) (n+2) b):=λa b=>(hnm.set (LE (by omega))).set (LE (by omega))
 cases ht4:Ai (d.ruls.map λx:DRul=>x.nm)with
 |true=>
  rw[ht4,Xc rfl]at hq
  obtain⟨rfl,rfl,rfl⟩:=hq
  have hr:resD d= .error 161:=by
   unfold resD
   rw[X8 h16,ht1,ht2,ht3,hcs]
   simp only[Xm,Xy]
   rw[ht4];rfl
  simp only[eE,eN,retK]
  exact CS (hnv _ _).h1 rfl (hnv _ _).h2 hr
 |false=>
 rw[ht4,X8 (by decide)]at hq
 obtain⟨rfl,rfl,rfl⟩:=hq
 have hH:=hnv (nmO []) (nmO (d.ruls.map λx:DRul=>x.nm))
 have hlc:LV 6 vc (hset (hset H1 (n+2) (nmO [])) (n+2) (nmO (d.ruls.map λx:DRul=>x.nm))) (dn.map B0):=by
  have hv2:∀a b c x,vc≠ .ref (n+2) a b c x:=by
   rintro a b c x rfl
   exact hlv.no (by rw[hfr _ (by omega)];simp)
  exact(hlv.set hv2).set hv2
 have hf2:AN (hset (hset H1 (n+2) (nmO [])) (n+2) (nmO (d.ruls.map λx:DRul=>x.nm))) (n+4):=(hfr.hset (m:=n+4) (by omega) (by omega)).hset (X4 _) (by omega)
 generalize hset (hset H1 (n+2) (nmO [])) (n+2) (nmO (d.ruls.map λx:DRul=>x.nm))=H2 at hH hlc hf2
 have h02:=hH.h0
 simp only[eE,eN,Nat.reduceEqDiff,↓reduceIte,Nat.reduceAdd,retK,h02,Bu]
 refine(Wi d.ruls hd.ru).mono λo H' n' hq=>?_
 rcases hq with⟨h0',rfl,hn',t,rfl,htk⟩|⟨h0',rfl,cap,rest,rfl,rfl,hcr⟩
 ·have hrl:d.ruls.length=0:=by have:=congrArg List.length h0';simpa using this
  simp only[eE,Nat.reduceEqDiff,↓reduceIte,Nat.reduceAdd,retK,h02,Bu]
  rw[ED]
  simp only[eE,Nat.reduceEqDiff,↓reduceIte]
  rw[ED]
  simp only[eE,Nat.reduceEqDiff,↓reduceIte,Nat.reduceAdd,c0]
  rw[ED]
  have hc0:∀a b c x,vc≠ .ref 0 a b c x:=by
   rintro a b c x rfl
   exact hlc.no (by rw[h02];simp)
  have:=Tv d hd h16 ht1 ht2 ht3 hcs ht4 (vr:=.sl t []) (hf2.hset (id:=0) (m:=n') (by omega) (by omega)) hH.put (hlc.set hc0) (.inl ⟨h0',t,rfl,htk⟩) (λi a b c e j f g h k _ q=>by cases q)
  rw[hrl]at this
  exact this
 ·have y4:∀k,(n+4+k=0)=False:=λk=>X6 (by omega)
  simp only[eE,Nat.reduceEqDiff,↓reduceIte,Nat.reduceAdd,retK,h02,Bu,y0]
  rw[ED]
  simp only[eE,Nat.reduceEqDiff,↓reduceIte]
  rw[ED]
  simp only[eE,Nat.reduceEqDiff,↓reduceIte,Nat.reduceAdd,W6]
  rw[ED]
  have hc0:∀a b c x,vc≠ .ref 0 a b c x:=by
   rintro a b c x rfl
   exact hlc.no (by rw[h02];simp)
  have hc6:∀a b c x,vc≠ .ref (n+6) a b c x:=by
   rintro a b c x rfl
   exact hlc.no (by rw[hf2 _ (by omega)];simp)
  refine Tv d hd h16 ht1 ht2 ht3 hcs ht4 (vr:=.ref (n+6) 12 0 d.ruls.length cap) (((hf2.hset (m:=n+8) (by omega) (by omega)).hset (X4 _) (by omega))) (hH.set (LE (by omega))).put ((hlc.set hc6).set hc0) (.inr ⟨h0',n+6,cap,rest,by rw[W6],?_,hcr⟩) (λi a b c e j f g h k q1 q2=>?_)
  ·rw[AA _ _ _ _ (by omega)];exact AC ..
  ·cases q2
   rintro rfl
   exact hc6 _ _ _ _ q1
end Go.AM
namespace Go.AM
open Go.Proofs Go.Lib
theorem O1 (d:Dcl) (hd:FewD d):AO Tryz.prog 161 [encD d] hnil 0 (RR d):=by
 refine a161 (AF Tu (AG ?_))
 simp only[eE,eN,reduceCtorEq,Nat.reduceEqDiff,↓reduceIte,Nat.reduceAdd,Q3,HG,Qu,AT,encD]
 refine⟨_,_,rfl,AF Tu (AG ?_)⟩
 generalize hE:List.filter (λ(e:Nat×Bool×AVal)=>Nat.blt e.1 4) _=E
 have hE':E=envR:=by rw[<-hE];rfl
 subst hE'
 clear hE
 rw[Xi]
 by_cases h16:16<d.syms.length
 ·have hr:resD d= .error 2:=by unfold resD;rw[Xc h16]
  simp only[eE,eC,eN,reduceCtorEq,Nat.reduceEqDiff,↓reduceIte,Nat.reduceAdd,Nat.reduceLeDiff,W6,c161,W7 (show(16:Int)<(d.syms.length:Int)by omega),AK]
  refine O0 (xs:=Nd) rfl rfl rfl ?_
  unfold RR
  rw[hr]
  exact⟨_,rfl,Wk.tup (.cons (Wk.agg (.cons (Wk.refl _) (.cons (Wk.refl _) (.cons (Wk.refl _) (.cons (Wk.refl _) (.cons (Wk.refl _) (.cons (Wk.sl (.inr rfl)) (.cons (Wk.sl (.inr rfl)) (.cons (Wk.sl (.inr rfl)) (.cons (Wk.sl (.inr rfl)) (.cons (Wk.sl (.inr rfl)) .nil))))))))))) (.cons (Wk.refl _) .nil))⟩
 simp only[eE,eC,eN,reduceCtorEq,Nat.reduceEqDiff,↓reduceIte,Nat.reduceAdd,Nat.reduceLeDiff,xE,W6,c161,X6 (show ¬(16:Int)<(d.syms.length:Int)by omega),AK]
 refine(Rl (pre:=[]) hd.sy (by decide) rfl rfl rfl).mono λo H' n' hq=>?_
 unfold Bt at hq
 rw[Xi]at hq
 cases ht1:Ai (d.syms.map λx:DSym=>x.nm)with
 |true=>
  rw[ht1,Xc rfl]at hq
  obtain⟨rfl,rfl,rfl⟩:=hq
  have hr:resD d= .error 161:=by unfold resD;rw[X8 h16,ht1];rfl
  simp only[eE,eN,retK]
  exact CS (xs:=Nd) rfl rfl rfl hr
 |false=>
 rw[ht1,X8 (by decide)]at hq
 obtain⟨rfl,rfl,rfl⟩:=hq
 simp only[eE,eC,eN,eX,reduceCtorEq,Nat.reduceEqDiff,↓reduceIte,Nat.reduceAdd,Nat.reduceLeDiff,Nat.reduceLT,Nat.reduceMod,Nat.reduceSub,Nat.reduceDiv,xE,retK,Tnr_g,addr]
 refine⟨⟨trivial,DI 0 _⟩,(Uo (pre:=[]) (by decide) (by decide) rfl rfl rfl).mono λo H' n' hq=>?_⟩
 unfold Bt at hq
 rw[Xi,show Ai (GC.map λx:Bs=>x)=false by decide,X8 (by decide)]at hq
 obtain⟨rfl,rfl,rfl⟩:=hq
 simp only[eE,eX,Nat.reduceEqDiff,↓reduceIte,Nat.reduceAdd,Nat.reduceLeDiff,Nat.reduceMod,Nat.reduceSub,Nat.reduceDiv,EC]
 refine(Rm (pre:=GC) hd.rg (by decide) rfl rfl (by decide)).mono λo H' n' hq=>?_
 unfold Bt at hq
 cases ht2:Ai (GR d)with
 |true=>
  rw[show GC++d.regs.map (λx:DReg=>x.nm)=GR d from rfl,ht2,Xc rfl]at hq
  obtain⟨rfl,rfl,rfl⟩:=hq
  have hr:resD d= .error 161:=by unfold resD;rw[X8 h16,ht1,ht2];rfl
  simp only[eE,eN,EC]
  exact CS (xs:=Nd) rfl rfl rfl hr
 |false=>
 rw[show GC++d.regs.map (λx:DReg=>x.nm)=GR d from rfl,ht2,X8 (by decide)]at hq
 obtain⟨rfl,rfl,rfl⟩:=hq
 simp only[eE,eN,eX,reduceCtorEq,Nat.reduceEqDiff,↓reduceIte,Nat.reduceAdd,Nat.reduceLeDiff,Nat.reduceSub,Nat.reduceDiv,xE,EC]
 refine(Rn (pre:=[]) hd.cl (by decide) rfl rfl rfl).mono λo H' n' hq=>?_
 unfold Bt at hq
 rw[Xi]at hq
 cases ht3:Ai (d.clus.map λx:DClu=>x.nm)with
 |true=>
  rw[ht3,Xc rfl]at hq
  obtain⟨rfl,rfl,rfl⟩:=hq
  have hr:resD d= .error 161:=by unfold resD;rw[X8 h16,ht1,ht2,ht3];rfl
  simp only[eE,eN,retK]
  exact CS (xs:=Nd) rfl rfl rfl hr
 |false=>
 rw[ht3,X8 (by decide)]at hq
 obtain⟨rfl,rfl,rfl⟩:=hq
 simp only[eE,eN,reduceCtorEq,Nat.reduceEqDiff,↓reduceIte,Nat.reduceAdd,Nat.reduceLeDiff,retK]
 refine(Wh d.clus hd.cl).mono λo H' n' hq=>?_
 rcases hq with⟨h0,rfl,hn,t,rfl,htk⟩|⟨h0,rfl,cap,rest,rfl,rfl,hcr⟩
 ·have hcl:d.clus.length=0:=by have:=congrArg List.length h0;simpa using this
  simp only[eE,reduceCtorEq,Nat.reduceEqDiff,↓reduceIte,Nat.reduceAdd,Nat.reduceLeDiff,retK]
  rw[ED]
  simp only[eE,Nat.reduceEqDiff,↓reduceIte,Nat.reduceAdd,Nat.reduceLeDiff,c0]
  rw[ED]
  refine Tw d hd h16 ht1 ht2 ht3 (vc:=.sl t []) (by rw[hcl];rfl) hn (λid hid=>?_) (NM.mk (d:=d) (vr:=eRus d.ruls) rfl rfl rfl rfl rfl rfl rfl) (.inl ⟨h0,t,rfl,htk⟩)
  simp only[AI]
  repeat rw[X8 (by omega)]
  rfl
 ·simp only[eE,reduceCtorEq,Nat.reduceEqDiff,↓reduceIte,Nat.reduceAdd,Nat.reduceLeDiff,retK]
  rw[ED]
  simp only[eE,Nat.reduceEqDiff,↓reduceIte,Nat.reduceAdd,Nat.reduceLeDiff,W6]
  rw[ED]
  refine Tw d hd h16 ht1 ht2 ht3 (vc:=.ref 23 6 0 d.clus.length cap) rfl (by omega) (λid hid=>?_) (NM.mk (d:=d) (vr:=eRus d.ruls) rfl rfl rfl rfl rfl rfl rfl) (.inr ⟨h0,23,cap,rest,by rw[W6],rfl,hcr⟩)
  simp only[AI]
  repeat rw[X8 (by omega)]
  rfl
def RS (d:Dcl):AOut->AB->Nat->Prop:=λo H' n'=>match resD d with
 | .error e=>∃v,o= .ret v/\Wk v (.tup [encD dcl0,.int .i64 e])
 | .ok x=>∃vc vr,o= .ret (.tup [.agg (Bu d vc vr),.int .i64 0])/\LF 6 vc H' (x.clus.map B0)/\LV 12 vr H' (x.ruls.map Bn)
def RT (d:Dcl):AOut->AB->Nat->Prop:=λo H' n'=>match resD d with
 | .error e=>∃v,o= .ret v/\Wk v (.tup [encD dcl0,.int .i64 e])
 | .ok x=>∃vc vr,o= .ret (.tup [.agg (Bu d vc vr),.int .i64 0])/\LF 6 vc H' (x.clus.map B0)/\LF 12 vr H' (x.ruls.map Bn)
theorem p161 (d:Dcl) (hd:FewD d):Pur Tryz.prog 161 [encD d] (Es d):=by
 refine .mk ⟨BS 0 d,trivial⟩ (by unfold Es;split<;>exact⟨BS 0 _,trivial,trivial⟩) ?_
 refine AO.out (R:=RT d) (AO.seal (R:=RS d) (AO.seal (R:=RR d) (O1 d hd) ?_) ?_) ?_
 ·intro o H' n' h
  unfold RR at h
  unfold RS
  split at h
  ·rename_i e he
   try rw[he]
   exact .inl h
  ·rename_i x hx
   try rw[hx]
   obtain⟨vc,vr,rfl,h1,h2,h3⟩:=h
   rcases h1 with h1|⟨h0,id,cap,rest,rfl,ho,hc⟩
   ·exact .inl ⟨vc,vr,rfl,.inl h1,h2⟩
   ·refine .inr ⟨id,_,_,ho,_,vr,rfl,.inr ⟨h0,id,cap,rest,rfl,AC ..,hc⟩,h2.set λa b c x=>?_⟩
    rintro rfl
    exact h3 _ _ _ _ _ _ _ _ _ _ rfl rfl rfl
 ·intro o H' n' h
  unfold RS at h
  unfold RT
  split at h
  ·rename_i e he
   try rw[he]
   exact .inl h
  ·rename_i x hx
   try rw[hx]
   obtain⟨vc,vr,rfl,h1,h2⟩:=h
   rcases h2 with h2|⟨h0,id,cap,rest,rfl,ho,hc⟩
   ·exact .inl ⟨vc,vr,rfl,h1,.inl h2⟩
   ·refine .inr ⟨id,_,_,ho,vc,_,rfl,?_,.inr ⟨h0,id,cap,rest,rfl,AC ..,hc⟩⟩
    rcases h1 with h1|⟨q0,i2,c2,r2,rfl,o2,hc2⟩
    ·exact .inl h1
    ·refine .inr ⟨q0,i2,c2,r2,rfl,?_,hc2⟩
     rw[AA _ _ _ _ (by rintro rfl;rw[ho]at o2;cases o2)];exact o2
 ·intro o H' n' h
  unfold RT at h
  unfold Es
  split at h
  ·rename_i e he
   try rw[he]
   obtain⟨v,rfl,hw⟩:=h
   exact⟨.ret v,⟨v,rfl,hw⟩,λg w e _ q=>q⟩
  ·rename_i x hx
   try rw[hx]
   obtain⟨vc,vr,rfl,h1,h2⟩:=h
   refine⟨.ret (.tup [encD x,.int .i64 0]),⟨_,rfl,Wk.refl _⟩,λg w e hR q=>?_⟩
   obtain⟨e1,e2,e3,e4,e5,e6,e7,e8⟩:=NP hx
   cases e with
   |panicked c=>exact q.elim
   |outgrown=>exact q.elim
   |returned y=>
    obtain⟨vs,rfl,y1,r1,q1,q2,q3⟩:=q
    refine⟨vs,rfl,y1,r1,q1,?_,q3⟩
    obtain⟨us,rfl,p1,p2⟩:=q2
    refine⟨us,rfl,?_,p2⟩
    obtain⟨a1,b1,f1,g1,a2,b2,f2,g2,a3,b3,f3,g3,a4,b4,f4,g4,a5,b5,f5,g5,a6,b6,f6,g6,a7,b7,f7,g7,a8,b8,f8,g8,a9,b9,f9,g9,a10,b10,f10,g10,g11⟩:=p1
    rw[<-e1]at g1
    rw[<-e2]at g2
    rw[<-e3]at g3
    rw[<-e4]at g4
    rw[<-e5]at g5
    rw[<-e6]at g6
    rw[<-e7]at g7
    rw[<-e8]at g8
    exact⟨a1,b1,f1,g1,a2,b2,f2,g2,a3,b3,f3,g3,a4,b4,f4,g4,a5,b5,f5,g5,a6,b6,f6,g6,a7,b7,f7,g7,a8,b8,f8,g8,a9,b9,f9,Ix h1 hR g9,a10,b10,f10,Ix h2 hR g10,g11⟩
end Go.AM
namespace Go.AM
open Go.Proofs Go.Lib
abbrev encF (f:FormD):AVal:=.agg [.bool f.on,.bool f.set,.bool f.oth,.bool f.bnd,.bool f.num,.bool f.rdb,.bool f.knw,.int .i64 f.clue]
theorem Jv {k:Int} (h:k<0\/14<=k):Jh k={}:=by
 unfold Jh
 repeat rw[X8 (by omega)]
theorem p267 (k:Int):Pur Tryz.prog 267 [.int .i64 k] (encF (Jh k)):=by
 refine .mk ⟨trivial,trivial⟩ ⟨trivial,trivial,trivial,trivial,trivial,trivial,trivial,trivial,trivial⟩ (a267 (AF AH.tnil (AG ?_)))
 by_cases hk:k<0\/14<=k
 ·have hb:(decide (k<0)||decide (14<=k))=true:=by simpa using hk
  rw[Jv hk]
  simp only[eE,eC,eN,reduceCtorEq,Nat.reduceEqDiff,↓reduceIte,Nat.reduceAdd,Nat.reduceLeDiff,BT,c267,hb]
  exact Wk.refl _
 ·have hb:(decide (k<0)||decide (14<=k))=false:=by simp;omega
  simp only[eE,eC,eN,reduceCtorEq,Nat.reduceEqDiff,↓reduceIte,Nat.reduceAdd,Nat.reduceLeDiff,BT,c267,hb]
  have hk2:k=0\/k=1\/k=2\/k=3\/k=4\/k=5\/k=6\/k=7\/k=8\/k=9\/k=10\/k=11\/k=12\/k=13:=by omega
  rcases hk2 with rfl|rfl|rfl|rfl|rfl|rfl|rfl|rfl|rfl|rfl|rfl|rfl|rfl|rfl<;>exact⟨by decide,by decide,rfl,rfl,Wk.refl _⟩
theorem p252 (c:DClu):Pur Tryz.prog 252 [B0 c] (.bool (GS c)):=by
 refine .mk ⟨FB 0 c,trivial⟩ trivial (a252 (AF AH.tnil (AG ?_)))
 unfold GS
 by_cases h1:c.ty=1
 ·simp only[eE,eC,eN,Nat.reduceEqDiff,↓reduceIte,Nat.reduceAdd,Nat.reduceLeDiff,Int.reduceEq,c252,h1]
 by_cases h2:c.ty=2
 ·simp only[eE,eC,eN,Nat.reduceEqDiff,↓reduceIte,Nat.reduceAdd,Nat.reduceLeDiff,Int.reduceEq,c252,h2]
 by_cases h3:c.ty=3
 ·simp only[eE,eC,eN,Nat.reduceEqDiff,↓reduceIte,Nat.reduceAdd,Nat.reduceLeDiff,Int.reduceEq,c252,h3]
 simp only[eE,eC,eN,Nat.reduceEqDiff,↓reduceIte,Nat.reduceAdd,Nat.reduceLeDiff,c252,h1,h2,h3]
theorem p221 (b:Bool) (e:Int):Pur Tryz.prog 221 [.bool b,.int .i64 e] (.int .i64 (if b=true then 0 else e)):=by
 refine .mk ⟨trivial,trivial,trivial⟩ trivial (a221 (AF AH.tnil (AG ?_)))
 cases b<;>simp only[eE,eC,eN,reduceCtorEq,Nat.reduceEqDiff,↓reduceIte,Nat.reduceAdd,c221]
def Tsh:Tab:=tadd 267 (s1 dI any1 λk=>encF (Jh k)) tnil
theorem Tx:AH Tryz.prog Tsh:=AH.tnil.add (q1 λk _=>p267 k)
theorem Hs (a:List AVal) (H:AB):Tsh 267 a H=s1 dI any1 (λk=>encF (Jh k)) a H:=rfl
theorem Uq (k:Int):(Jh k).rdb=(decide (1<=k)&&decide (k<=11)):=by
 by_cases hk:k<0\/14<=k
 ·rw[Jv hk]
  symm
  simp;omega
 ·have hk2:k=0\/k=1\/k=2\/k=3\/k=4\/k=5\/k=6\/k=7\/k=8\/k=9\/k=10\/k=11\/k=12\/k=13:=by omega
  rcases hk2 with rfl|rfl|rfl|rfl|rfl|rfl|rfl|rfl|rfl|rfl|rfl|rfl|rfl|rfl<;>rfl
theorem p253 (r:DRul):Pur Tryz.prog 253 [Bn r] (.bool (Ji r)):=by
 refine .mk ⟨CG 0 r,trivial⟩ trivial (a253 (AF Tx (AG ?_)))
 simp only[eE,eN,Nat.reduceEqDiff,↓reduceIte,Nat.reduceAdd,Nat.reduceLeDiff,c253,Hs,s1,Cl,BV,encF]
 exact Uq r.kind
abbrev ruE1 (r:DRul) (on set oth:Bool):Bool:=on !=scmp .neq r.on []||set != !decide (r.set=0)||oth != !decide (r.oth=0)|| !on&& !decide (r.fam=0)|| !set&&decide ((0:Int)<(r.ns.length:Int))|| !oth&&decide ((0:Int)<(r.os.length:Int))
abbrev ruE2 (r:DRul) (bnd:Bool):Bool:=bnd !=(decide (1<=r.op)&&decide (r.op<=3))|| !bnd&& !decide (r.op=0)||decide (r.n<0)||decide (65536<r.n)
abbrev ruE3 (r:DRul) (bnd num:Bool):Bool:=!(num||bnd&&scmp .eql r.byN [])&& !decide (r.n=0)
theorem Rs {cl:List DClu} {r:DRul} {on set oth bnd num rdb:Bool} {clue:Int} (hf:Jh r.kind=⟨on,set,oth,bnd,num,rdb,true,clue⟩):
  HX cl r=if ruE1 r on set oth=true then false else if ruE2 r bnd=true then false else if ruE3 r bnd num=true then false else
   if(if(bnd&&scmp .neq r.byN [])=true then 2 else clue)=0 then decide (r.byN=[])&&decide (r.clue= -1)else cluP cl r (if(bnd&&scmp .neq r.byN [])=true then 2 else clue):=by
 unfold HX
 rw[hf]
 have e1:∀(l:List Bs),decide ((0:Int)<(l.length:Int))=decide (0<l.length):=λl=>by
  rw[XV,Xb,Xb];omega
 simp only[ruE1,ruE2,ruE3,Dl,FD,e1,ne_eq,decide_not,Bool.true_eq_false,Xy]
 rfl
theorem p251 (d:Dcl) (r:DRul):Pur Tryz.prog 251 [encD d,Bn r] (.bool (HX d.clus r)):=by
 refine .mk ⟨BS 0 d,CG 0 r,trivial⟩ trivial (a251 (AF Tx (AG ?_)))
 cases hf:(Jh r.kind)with
 |mk on set oth bnd num rdb knw clue=>
 cases knw with
 |false=>
  have hR:HX d.clus r=false:=by unfold HX;rw[hf];rfl
  rw[hR]
  simp only[eE,eC,eN,reduceCtorEq,Nat.reduceEqDiff,↓reduceIte,Nat.reduceAdd,Nat.reduceLeDiff,Xa,c251,Hs,s1,Cl,BV,hf,encF]
 |true=>
 rw[Rs hf]
 cases h1:ruE1 r on set oth with
 |true=>
  rw[Xc rfl]
  simp only[eE,eC,eN,reduceCtorEq,Nat.reduceEqDiff,↓reduceIte,Nat.reduceAdd,Nat.reduceLeDiff,X3,W6,c251,Hs,s1,Cl,BV,hf,encF,h1]
 |false=>
 rw[X8 (by decide)]
 cases h2:ruE2 r bnd with
 |true=>
  rw[Xc rfl]
  simp only[eE,eC,eN,reduceCtorEq,Nat.reduceEqDiff,↓reduceIte,Nat.reduceAdd,Nat.reduceLeDiff,X3,W6,c251,Hs,s1,Cl,BV,hf,encF,h1,h2]
 |false=>
 rw[X8 (by decide)]
 cases h3:ruE3 r bnd num with
 |true=>
  rw[Xc rfl]
  simp only[eE,eC,eN,reduceCtorEq,Nat.reduceEqDiff,↓reduceIte,Nat.reduceAdd,Nat.reduceLeDiff,X3,W6,c251,Hs,s1,Cl,BV,hf,encF,h1,h2,h3]
 |false=>
 rw[X8 (by decide)]
 cases h4:(bnd&&scmp .neq r.byN [])with
 |true=>
  simp only[Yi]
  rw[X8 (by decide)]
  by_cases hc:r.clue<0\/(d.clus.length:Int)<=r.clue
  ·have hcb:(decide (r.clue<0)||decide ((d.clus.length:Int)<=r.clue))=true:=by simpa using hc
   have hP:cluP d.clus r 2=false:=by unfold cluP;rw[Xc hc]
   rw[hP]
   simp only[eE,eC,eN,reduceCtorEq,Nat.reduceEqDiff,↓reduceIte,Nat.reduceAdd,Nat.reduceLeDiff,Int.reduceEq,X3,W6,c251,Hs,s1,Cl,BV,hf,encF,h1,h2,h3,h4,hcb]
  ·have hcb:(decide (r.clue<0)||decide ((d.clus.length:Int)<=r.clue))=false:=by simp;omega
   obtain⟨j,hj⟩:∃j:Nat,r.clue=(j:Int):=⟨r.clue.toNat,by omega⟩
   have hjl:j<d.clus.length:=by omega
   have hg:=X1 hjl
   generalize d.clus[j]=c at hg
   have hP:cluP d.clus r 2=(decide (c.ty=2)&&(decide (2=1)||decide (c.fam=r.fam))):=by
    unfold cluP;(rw[X8 hc,hj,W9,hg])<;>rfl
   rw[hP]
   rw[hj]at hcb
   simp only[eE,eC,eN,reduceCtorEq,Nat.reduceEqDiff,↓reduceIte,Nat.reduceAdd,Nat.reduceLeDiff,Int.reduceEq,X3,W8,W9,X0,W6,X2,c251,Hs,s1,Cl,BV,hf,encF,h1,h2,h3,h4,hj,hcb,lt_T hjl,hg]
 |false=>
  simp only[Xm,Xy]
  by_cases h5:clue=0
  ·rw[Xc h5]
   subst h5
   simp only[eE,eC,eN,reduceCtorEq,Nat.reduceEqDiff,↓reduceIte,Nat.reduceAdd,Nat.reduceLeDiff,X3,W6,c251,Hs,s1,Cl,BV,hf,encF,h1,h2,h3,h4]
   rw[FD]
  ·rw[X8 h5]
   by_cases hc:r.clue<0\/(d.clus.length:Int)<=r.clue
   ·have hcb:(decide (r.clue<0)||decide ((d.clus.length:Int)<=r.clue))=true:=by simpa using hc
    have hP:cluP d.clus r clue=false:=by unfold cluP;rw[Xc hc]
    rw[hP]
    simp only[eE,eC,eN,reduceCtorEq,Nat.reduceEqDiff,↓reduceIte,Nat.reduceAdd,Nat.reduceLeDiff,X3,W6,c251,Hs,s1,Cl,BV,hf,encF,h1,h2,h3,h4,B1 h5,hcb]
   ·have hcb:(decide (r.clue<0)||decide ((d.clus.length:Int)<=r.clue))=false:=by simp;omega
    obtain⟨j,hj⟩:∃j:Nat,r.clue=(j:Int):=⟨r.clue.toNat,by omega⟩
    have hjl:j<d.clus.length:=by omega
    have hg:=X1 hjl
    generalize d.clus[j]=c at hg
    have hP:cluP d.clus r clue=(decide (c.ty=clue)&&(decide (clue=1)||decide (c.fam=r.fam))):=by
     unfold cluP;(rw[X8 hc,hj,W9,hg])<;>rfl
    rw[hP]
    rw[hj]at hcb
    simp only[eE,eC,eN,reduceCtorEq,Nat.reduceEqDiff,↓reduceIte,Nat.reduceAdd,Nat.reduceLeDiff,X3,W8,W9,X0,W6,X2,c251,Hs,s1,Cl,BV,hf,encF,h1,h2,h3,h4,B1 h5,hj,hcb,lt_T hjl,hg]
end Go.AM
namespace Go.AM
open Go.Proofs Go.Lib
def Trd:Tab:=tadd 253 (s1 dRu any1 λr=>.bool (Ji r)) tnil
theorem Trd_ok:AH Tryz.prog Trd:=AH.tnil.add (q1 λr _=>p253 r)
theorem Trd_e (a:List AVal) (H:AB):Trd 253 a H=s1 dRu any1 (λr=>.bool (Ji r)) a H:=rfl
structure VU where
 i:Nat
 tk:Tok
 H:AB
 n:Nat
structure IU (rs:List DRul) (v:VU):Prop where
 hi:v.i<=rs.length
 fr:AN v.H v.n
 hn:2<=v.n
 tok:tkG 1 1 v.H v.tk
 es:v.tk.esz=1\/Bh (rs.take v.i)=[]
theorem Nf (rs:List DRul):(Bh rs).length<=rs.length:=by
 unfold Bh
 rw[W6]
 exact XE (Y3 ..) (by simp)
theorem LG {rs:List DRul} {i:Nat} (h:i<rs.length):Bh (rs.take (i+1))=Bh (rs.take i)++(if Ji rs[i]=true then[]else[(i:Int)]):=by
 rw[XP,X1 h]
 show Bh (rs.take i++[rs[i]])=_
 rw[Oh,Xq,Nat.min_eq_left (by omega)]
theorem p230 (d:Dcl) (hr:few d.ruls):Pur Tryz.prog 230 [encD d] (eIs (Bh d.ruls)):=by
 refine .mk ⟨BS 0 d,trivial⟩ (AW 0 _) (a230 (AF Trd_ok (AG ?_)))
 have hrl:d.ruls.length<1000000000:=hr
 simp only[eE,eN,Nat.reduceEqDiff,↓reduceIte,Nat.reduceAdd,W6,c230]
 refine AV (λv:VU=>⟨[(2,true,.sl v.tk ((Bh (d.ruls.take v.i)).map eI)),(6,true,eRus d.ruls),(7,true,.int .i64 d.ruls.length),(8,true,.int .i64 v.i)],v.H,v.n⟩) (IU d.ruls) (λv=>d.ruls.length-v.i)
  ⟨0,.nil,hset hnil 0 (.box (AK d)),2⟩ rfl ⟨Xd _,AN.nil.hset (m:=2) (Xd 2) (show 0<2 by decide),X4 _,.inl rfl,.inr rfl⟩ ?_
 rintro⟨i,tk,H,n⟩ ⟨hi,hfr,hn,htk,hes⟩
 simp only at hi hfr hn htk hes
 by_cases hlt:i<d.ruls.length
 ·have hg:=X1 hlt
  have e:=AL (k:=i) (by omega)
  have hu:=LG hlt
  have hul:=Nf (d.ruls.take i)
  rw[Xq]at hul
  generalize d.ruls[i]=r at hg hu
  cases hrr:Ji r with
  |true=>
   rw[hrr,Xc rfl,Xr]at hu
   simp only[eE,eC,eN,Nat.reduceEqDiff,↓reduceIte,Nat.reduceAdd,Int.reduceEq,X3,W8,W9,X0,W6,X2,lt_T hlt,hg,fr1 hfr,Trd_e,s1,GE,EP,hrr,e,AJ]
   refine .mk ⟨i+1,tk,hset H (n+3) (.box (Di r)),n+6⟩ ?_ ⟨hlt,hfr.hset (m:=n+6) (by omega) (by omega),by simp only[];omega,htk.set (.inr (.inr (hfr _ (by omega)))),by simp only[hu];exact hes⟩ (by simp only[];omega)
   simp only[hu]
  |false=>
   rw[hrr,X8 (by decide)]at hu
   have gt:tkG 1 1 (hset H (n+3) (.box (Di r))) tk:=htk.set (.inr (.inr (hfr _ (by omega))))
   have gf:AN (hset H (n+3) (.box (Di r))) (n+6):=hfr.hset (m:=n+6) (by omega) (by omega)
   have q1:Bl (hset H (n+3) (.box (Di r))) 1 tk=True:=W7 gt.app
   have q2:((Bh (d.ruls.take i)).length<=35184372088831)=True:=W7 (by omega)
   have q3:Ap ((Bh (d.ruls.take i)).length+1) 8=True:=W7 (AX (by omega) (by decide))
   simp only[eE,eC,eN,reduceCtorEq,Nat.reduceEqDiff,↓reduceIte,Nat.reduceAdd,Nat.reduceLeDiff,Nat.reduceMul,Nat.reduceLT,Int.reduceEq,Xa,W8,W9,X0,W6,X2,lt_T hlt,hg,fr1 hfr,Trd_e,s1,GE,EP,hrr,e,AJ,q1,q2,q3]
   refine .mk ⟨i+1,.own (n+9) 1,hset (AU (hset H (n+3) (.box (Di r))) tk) (n+9) .tok,n+11⟩ ?_ ⟨hlt,(Ah gt gf).hset (m:=n+11) (by omega) (by omega),by simp only[];omega,.inr (.inr ⟨n+9,rfl,by omega,AC ..⟩),.inl rfl⟩ (by simp only[];omega)
   simp only[hu,Xf];rfl
 obtain rfl:i=d.ruls.length:=by omega
 rw[XK]at hes
 simp only[eE,eC,eN,Nat.reduceEqDiff,↓reduceIte,lt_F hlt,XK]
 exact Wk.sl (hes.imp id λq=>by rw[q];rfl)
def Tfm:Tab:=tadd 251 (s2 dD dRu any2 λd r=>.bool (HX d.clus r)) (tadd 252 (s1 dCl any1 λc=>.bool (GS c)) tnil)
theorem Tfm_ok:AH Tryz.prog Tfm:=(AH.tnil.add (q1 λc _=>p252 c)).add (q2 λd r _=>p251 d r)
theorem Tfm_r (a:List AVal) (H:AB):Tfm 251 a H=s2 dD dRu any2 (λd r=>.bool (HX d.clus r)) a H:=rfl
theorem Ur (a:List AVal) (H:AB):Tfm 252 a H=s1 dCl any1 (λc=>.bool (GS c)) a H:=rfl
structure VM2 where
 i:Nat
 es:List (AVal×AVal×Nat)
 c:Nat
 H:AB
 n:Nat
structure IM2 (d:Dcl) (id:Nat) (v:VM2):Prop where
 hi:v.i<=d.ruls.length
 fr:AN v.H v.n
 hn:id<v.n
 h0:hget v.H 0=some (.box (AK d))
 hm:hget v.H id=some (.map v.es v.c)
 ct:MJ (d.ruls.take v.i) v.es
 ok:d.ruls.all (HX d.clus)=(d.ruls.drop v.i).all (HX d.clus)
theorem MJ.nil:MJ [] []:=⟨trivial,λz=>rfl⟩
theorem p228 (d:Dcl) (hd:FewD d):Pur Tryz.prog 228 [encD d] (.bool (CW d)):=by
 refine .mk ⟨BS 0 d,trivial⟩ trivial (a228 (AF Tfm_ok (AG ?_)))
 have hsl:d.syms.length<1000000000:=hd.sy
 have hrl:d.ruls.length<1000000000:=hd.ru
 have hcl:d.clus.length<1000000000:=hd.cl
 simp only[eE,eN,Nat.reduceEqDiff,↓reduceIte,Nat.reduceAdd,Nat.reduceLeDiff,W6,c228]
 refine AV (λv:VF=>⟨[(1,true,.ptr 0 0),(11,true,eSys d.syms),(12,true,.int .i64 d.syms.length),(13,true,.int .i64 v.i)],v.H,v.n⟩) (λv=>v.i<=d.syms.length/\AN v.H v.n/\2<=v.n/\hget v.H 0=some (.box (AK d))/\(d.syms.all λs=>decide (0<=s.v)&&decide (s.v<=99))=((d.syms.drop v.i).all λs=>decide (0<=s.v)&&decide (s.v<=99))) (λv=>d.syms.length-v.i)
  ⟨0,hset hnil 0 (.box (AK d)),2⟩ rfl ⟨Xd _,AN.nil.hset (m:=2) (Xd 2) (show 0<2 by decide),X4 _,rfl,rfl⟩ ?_
 rintro⟨i,H,n⟩ ⟨hi,hfr,hn,h0,hall⟩
 simp only at hi hfr hn h0 hall
 by_cases hlt:i<d.syms.length
 ·have hg:=X1 hlt
  have e:=AL (k:=i) (by omega)
  rw[Xu hlt,Za]at hall
  generalize d.syms[i]=s at hg hall
  by_cases hs:0<=s.v/\s.v<=99
  ·have hb:(decide (s.v<0)||decide (99<s.v))=false:=by simp;omega
   simp only[eE,eC,eN,Nat.reduceEqDiff,↓reduceIte,Nat.reduceAdd,Int.reduceEq,W8,W9,X0,W6,X2,lt_T hlt,hg,fr1 hfr,e,AJ,hb]
   refine .mk ⟨i+1,hset H (n+2) (.box [.str s.nm,.int .i64 s.v]),n+4⟩ rfl ⟨hlt,hfr.hset (m:=n+4) (by omega) (by omega),by simp only[];omega,by simp only[];rw[AA _ _ _ _ (by omega)];exact h0,?_⟩ (by simp only[];omega)
   simp only[]
   rw[hall,Cm hs.1,Cm hs.2];rfl
  ·have hb:(decide (s.v<0)||decide (99<s.v))=true:=by simp;omega
   have hR:CW d=false:=by
    unfold CW
    rw[hall,show(decide (0<=s.v)&&decide (s.v<=99))=false by simp;omega];rfl
   rw[hR]
   simp only[eE,eC,eN,Nat.reduceEqDiff,↓reduceIte,Nat.reduceAdd,W8,W9,X0,W6,X2,lt_T hlt,hg,fr1 hfr,AJ,hb]
 obtain rfl:i=d.syms.length:=by omega
 rw[Yf]at hall
 have y0:(n=0)=False:=X6 (by omega)
 simp only[eE,eC,eN,Nat.reduceEqDiff,↓reduceIte,Nat.reduceAdd,xE,W6,lt_F hlt,h0,fr0 hfr,y0]
 refine AV (λv:VM2=>⟨[(1,true,.ptr 0 0),(5,true,.mp n),(28,true,eRus d.ruls),(29,true,.int .i64 d.ruls.length),(30,true,.int .i64 v.i)],v.H,v.n⟩) (IM2 d n) (λv=>d.ruls.length-v.i)
  ⟨0,[],0,hset H n (.map [] 0),n+2⟩ rfl ⟨Xd _,hfr.hset (m:=n+2) (by omega) (by omega),by simp only[];omega,by simp only[];rw[AA _ _ _ _ (by omega)];exact h0,AC ..,MJ.nil,rfl⟩ ?_
 rintro⟨k,es,c,H1,n1⟩ hI
 have hk:=hI.hi
 have hfr1:=hI.fr
 have hn1:=hI.hn
 have h01:=hI.h0
 have hm:=hI.hm
 have hct:=hI.ct
 have hok:=hI.ok
 simp only at hk hfr1 hn1 h01 hm hct hok
 by_cases hlk:k<d.ruls.length
 ·have hg:=X1 hlk
  have e:=AL (k:=k) (by omega)
  have htk:d.ruls.take (k+1)=d.ruls.take k++[d.ruls[k]]:=by rw[XP,X1 hlk];rfl
  rw[Xu hlk,Za]at hok
  have y1:∀q,(n1+q=n)=False:=λq=>X6 (by omega)
  have y2:∀q,(n=n1+q)=False:=λq=>X6 (by omega)
  have y3:∀q,(n1+q=0)=False:=λq=>X6 (by omega)
  have y4:∀q,(0=n1+q)=False:=λq=>X6 (by omega)
  generalize d.ruls[k]=r at hg hok htk
  cases hr:HX d.clus r with
  |false=>
   have hR:CW d=false:=by
    unfold CW
    rw[hok,hr];simp
   rw[hR]
   simp only[eE,eC,eN,Nat.reduceEqDiff,↓reduceIte,Nat.reduceAdd,Xa,W8,W9,X0,W6,X2,lt_T hlk,hg,Tfm_r,s2,GW,Ds,GE,EP,hr,h01,fr1 hfr1,y3,AJ]
  |true=>
  rw[hr,YO]at hok
  have hcl:=cnt_le (d.ruls.take k) r.clue
  rw[Xq]at hcl
  have ew:=AL (k:=cntZ (d.ruls.take k) r.clue) (by omega)
  have hq:=hct.2 r.clue
  simp only[eE,eC,eN,Nat.reduceEqDiff,↓reduceIte,Nat.reduceAdd,Int.reduceEq,X3,xE,W8,W9,X0,W6,X2,lt_T hlk,hg,Tfm_r,s2,GW,Ds,GE,EP,hr,h01,fr1 hfr1,y1,y3,AJ,hm,hct.1,KT.is,B8,hq,e,ew]
  refine .mk ⟨k+1,mset (.int .i64 r.clue) (.int .i64 ((cntZ (d.ruls.take k) r.clue+1:Nat):Int)) c es,(if(A5 (AVal.int IntKind.i64 r.clue) es).isSome=true then c else c+1),hset (hset H1 (n1+2) (.box (Di r))) n (.map (mset (.int .i64 r.clue) (.int .i64 ((cntZ (d.ruls.take k) r.clue+1:Nat):Int)) c es) (if(A5 (AVal.int IntKind.i64 r.clue) es).isSome=true then c else c+1)),n1+4⟩ rfl
   ⟨hlk,(hfr1.hset (m:=n1+4) (by omega) (by omega)).hset (X4 (n1+4)) (show n<n1+4 by omega),by simp only[];omega,?_,AC ..,by simp only[];rw[htk];exact hct.next,hok⟩ (by simp only[];omega)
  simp only[]
  rw[AA _ _ _ _ (by omega),AA _ _ _ _ (by omega)];exact h01
 obtain rfl:k=d.ruls.length:=by omega
 rw[Yf]at hok
 rw[XK]at hct
 simp only[eE,eC,eN,Nat.reduceEqDiff,↓reduceIte,Nat.reduceAdd,Nat.reduceLeDiff,W6,lt_F hlk,h01]
 refine AV (λv:VF=>⟨[(5,true,.mp n),(45,true,eCls d.clus),(46,true,.int .i64 d.clus.length),(47,true,.int .i64 v.i)],v.H,v.n⟩) (λv=>v.i<=d.clus.length/\AN v.H v.n/\n<v.n/\hget v.H n=some (.map es c)/\∀j (h:j<d.clus.length),j<v.i->IC d.ruls j=1/\GS d.clus[j]=true) (λv=>d.clus.length-v.i)
  ⟨0,H1,n1⟩ rfl ⟨Xd _,hfr1,hn1,hm,λj h q=>absurd q (Yq _)⟩ ?_
 rintro⟨j,H2,n2⟩ ⟨hj,hfr2,hn2,hm2,hal⟩
 simp only at hj hfr2 hn2 hm2 hal
 by_cases hlj:j<d.clus.length
 ·have hg:=X1 hlj
  have e:=AL (k:=j) (by omega)
  have y1:∀q,(n2+q=n)=False:=λq=>X6 (by omega)
  have y2:∀q,(n=n2+q)=False:=λq=>X6 (by omega)
  have hq:=hct.2 (j:Int)
  rw[Tb]at hq
  have hbad:¬(IC d.ruls j=1/\GS d.clus[j]=true)->CW d=false:=λq=>by
   unfold CW
   rw[hall,hok]
   cases q1:((List.range d.clus.length).all λi=>decide (IC d.ruls i=1))with
   |false=>rfl
   |true=>
   cases q2:d.clus.all GS with
   |false=>rfl
   |true=>exact absurd ⟨Yj (Xe.1 q1 j (XT.2 hlj)),Xe.1 q2 _ (Xg hlj)⟩ q
  have hnext:IC d.ruls j=1/\GS d.clus[j]=true->∀q (h:q<d.clus.length),q<j+1->IC d.ruls q=1/\GS d.clus[q]=true:=λz q h hq=>by
   by_cases w:q=j
   ·subst w;exact z
   ·exact hal q h (by omega)
  generalize hx:d.clus[j]=x at hg hbad hnext
  by_cases hmc:IC d.ruls j=1
  ·have hmb:(((IC d.ruls j:Nat):Int)=1)=True:=W7 (by omega)
   cases hc:GS x with
   |false=>
    rw[hbad (by rw[hc];simp)]
    simp only[eE,eC,eN,Nat.reduceEqDiff,↓reduceIte,Nat.reduceAdd,X3,Xa,xE,W8,W9,X0,W6,X2,lt_T hlj,hg,Ur,s1,Ku,Hc,hc,fr1 hfr2,y1,AJ,hm2,hct.1,KT.is,B8,hq,hmb]
   |true=>
    simp only[eE,eC,eN,Nat.reduceEqDiff,↓reduceIte,Nat.reduceAdd,Int.reduceEq,X3,xE,W8,W9,X0,W6,X2,lt_T hlj,hg,Ur,s1,Ku,Hc,hc,fr1 hfr2,y1,AJ,hm2,hct.1,KT.is,B8,hq,e,hmb]
    refine .mk ⟨j+1,hset H2 (n2+3) (.box (B0 x).cells),n2+6⟩ rfl ⟨hlj,hfr2.hset (m:=n2+6) (by omega) (by omega),by simp only[];omega,?_,hnext ⟨hmc,hc⟩⟩ (by simp only[];omega)
    simp only[]
    rw[AA _ _ _ _ (by omega)];exact hm2
  ·have hmb:(((IC d.ruls j:Nat):Int)=1)=False:=X6 (by omega)
   rw[hbad (λq=>hmc q.1)]
   simp only[eE,eC,eN,reduceCtorEq,Nat.reduceEqDiff,↓reduceIte,Nat.reduceAdd,X3,Xa,xE,W8,W9,X0,W6,X2,lt_T hlj,hg,Ur,s1,Ku,Hc,fr1 hfr2,y1,AJ,hm2,hct.1,KT.is,B8,hq,hmb]
 obtain rfl:j=d.clus.length:=by omega
 have hR:CW d=true:=by
  have z2:d.clus.all GS=true:=Xe.2 λq hq=>by
   obtain⟨m,hm,rfl⟩:=Xw.1 hq
   exact(hal m hm hm).2
  unfold CW
  rw[hall,hok,Xe.2 λq hq=>XB (hal q (XT.1 hq) (XT.1 hq)).1,z2]
  rfl
 rw[hR]
 simp only[eE,eC,eN,Nat.reduceEqDiff,↓reduceIte,lt_F hlj]
end Go.AM
namespace Go.AM
open Go.Proofs Go.Lib
abbrev clV (q:Nat):AVal:=.fn (.func 265) [] [.ptr q 0]
abbrev eApp (q c:Nat):List (Nat×Bool×AVal):=[(2,true,.ptr c 0),(4,true,.sl .nil []),(6,true,clV q)]
structure AppF (q c L l':Nat) (H0:AB) (n0:Nat) (qs:List Int) (H:AB) (m:Nat):Prop where
 fr:AN H m
 lc:n0<=c
 cl:c<L
 lm:L<m
 hc:∃lv,hget H c=some (.box [lv])/\LvG eI 1 (L+1) H lv qs
 hL:hget H L=some (.lp ⟨l',.ready,none,13,eApp q c, #[7],EG,EH⟩)
 kp:∀id ob,id<n0->hget H0 id=some ob->hget H id=some ob
theorem y_app {q c L l':Nat} {H0:AB} {n0:Nat} {qs:List Int} {H:AB} {m:Nat} (F:AppF q c L l' H0 n0 qs H m) (x:Int) (hs:qs.length<1000000000) {R:Bool->AB->Nat->Prop}
  (hR:∀H' m',AppF q c L l' H0 n0 (qs++[x]) H' m'->R true H' m'):BO Tryz.prog l' [eI x] H m R:=by
 obtain⟨fr,lc,cl,lm,⟨lv,hc,hlv⟩,hL,kp⟩:=F
 refine UZ hL rfl (AF AH.tnil (AG ?_))
 simp only[eE,eN,Nat.reduceEqDiff,↓reduceIte,Jc,renv,YA,YR,Yk,Z0]
 refine⟨_,hL,rfl,AF AH.tnil (AG ?_)⟩
 have y1:∀k,(L=m+k)=False:=λk=>X6 (by omega)
 have y2:(L=c)=False:=X6 (by omega)
 have y3:(c=L)=False:=X6 (by omega)
 simp only[eE,reduceCtorEq,Nat.reduceEqDiff,↓reduceIte,Nat.reduceLeDiff,Nat.reduceMul,Nat.reduceLT,Jb,hc,y2]
 have g1:∀k,hget (hset H L (.lp ⟨l',.busy,none,13,eApp q c, #[7],EG,EH⟩)) (m+k)=none:=λk=>by rw[AA _ _ _ _ (by omega)];exact fr1 fr k
 refine MK (enc:=eI) (lo:=L+1) (qs:=qs) (z0:=0) ?_ rfl (by decide) rfl rfl (AX (by omega) (by decide)) (g1 3) (by omega) (by omega) ?_
 ·rcases hlv with h|⟨hne,id,rest,h1,h2,h3⟩
  ·exact .inl h
  ·exact .inr ⟨hne,id,rest,h1,h2,by rw[AA _ _ _ _ (by omega)];exact h3⟩
 intro id rest hlo hid
 have hidm:id<m+5:=by
  rcases hid with rfl|⟨Z,h⟩
  ·omega
  ·apply Classical.byContradiction
   intro z
   obtain⟨k,rfl⟩:∃k,id=m+k:=⟨id-m,by omega⟩
   rw[g1]at h;cases h
 have z1:(id=L)=False:=X6 (by omega)
 have z2:(id=c)=False:=X6 (by omega)
 have z3:(L=id)=False:=X6 (by omega)
 have z4:(c=id)=False:=X6 (by omega)
 have hidn:¬id<n0:=by omega
 simp only[eE,eN,Nat.reduceEqDiff,↓reduceIte,EE,z2,y2,hc]
 refine⟨⟨l',.busy,none,13,eApp q c, #[7],EG,EH⟩,by simp only[AI,y3,z1,Xy,Yi],hR _ _ ⟨?_,lc,cl,by simp only[];omega,⟨_,by simp only[AI,y2,Xy,Yi],.inr ⟨by simp,id,rest,rfl,hlo,by simp only[AI,z3,z4,Xy,Yi]⟩⟩,by simp only[AI,Yi],?_⟩⟩
 ·intro j hj
  have hj':m+5<=j:=hj
  simp only[AI];repeat rw[X8 (by omega)]
  exact fr j (by omega)
 ·intro j ob hj h0
  simp only[AI];repeat rw[X8 (by omega)]
  exact kp j ob hj h0
theorem Rt {H:AB} {n q:Nat} {l:List Int} (hf:AN H n) (hq:hget H q=some (.box [eIs l])) (hl:few l):
  AO Tryz.prog 280 [.sl .nil [],clV q] H n λo H' n'=>∃lv,o= .ret lv/\LvG eI 1 (n+3) H' lv l/\AN H' n'/\n<=n'/\∀id ob,id<n->hget H id=some ob->hget H' id=some ob:=by
 have hll:l.length<1000000000:=hl
 have hqn:=hf.lt hq
 refine a280 (AF AH.tnil (AG ?_))
 simp only[eE,eN,reduceCtorEq,Nat.reduceEqDiff,↓reduceIte,Nat.reduceAdd,c280,fr0 hf,Ef]
 intro l'
 generalize hH1:hset (hset H n (.box [.sl .nil []])) (n+2) _=H1
 have hq1:hget H1 q=some (.box [eIs l]):=by
  subst hH1
  simp only[AI];repeat rw[X8 (by omega)]
  exact hq
 have F0:AppF q n (n+2) l' H n [] H1 (n+3):=by
  subst hH1
  refine⟨λj hj=>?_,X4 _,by omega,by omega,⟨.sl .nil [],?_,.inl ⟨rfl,rfl⟩⟩,AC ..,λj ob hj h0=>?_⟩
  ·simp only[AI];repeat rw[X8 (by omega)]
   exact hf j (by omega)
  ·simp only[AI];rw[X8 (by omega),Xc trivial]
  ·simp only[AI];repeat rw[X8 (by omega)]
   exact h0
 clear hH1
 refine a265 (AF AH.tnil (AG ?_))
 simp only[eE,eN,reduceCtorEq,Nat.reduceEqDiff,↓reduceIte,Nat.reduceAdd,W6,c265,hq1]
 refine AV (λv:VF=>⟨[(0,true,.fn (.yield l') [] []),(5,true,eIs l),(6,true,.int .i64 l.length),(7,true,.int .i64 v.i)],v.H,v.n⟩) (λv=>v.i<=l.length/\n+3<=v.n/\AppF q n (n+2) l' H n (l.take v.i) v.H v.n) (λv=>l.length-v.i)
  ⟨0,H1,n+3⟩ rfl ⟨Xd _,X4 _,F0⟩ ?_
 rintro⟨i,H2,m⟩ ⟨hi,hm,F⟩
 simp only at hi hm F
 by_cases hlt:i<l.length
 ·have hg:=X1 hlt
  have e:=AL (k:=i) (by omega)
  have htk:l.take (i+1)=l.take i++[l[i]]:=by rw[XP,X1 hlt];rfl
  generalize l[i]=x at hg htk
  simp only[eE,eC,eN,reduceCtorEq,Nat.reduceEqDiff,↓reduceIte,W8,W9,X0,W6,X2,lt_T hlt,hg]
  refine y_app F x (by rw[Xq];omega) λH' m' F'=>?_
  simp only[eE,eC,eN,reduceCtorEq,Nat.reduceEqDiff,↓reduceIte,Int.reduceEq,X3,yldK,e]
  exact .mk ⟨i+1,H',m'⟩ rfl ⟨hlt,by have:=F'.lm;simp only[];omega,by simp only[];rw[htk];exact F'⟩ (by simp only[];omega)
 obtain rfl:i=l.length:=by omega
 rw[XK]at F
 obtain⟨fr,lc,cl,lm,⟨lv,hc,hlv⟩,hL,kp⟩:=F
 have y1:(n+2=n)=False:=X6 (by omega)
 simp only[eE,eC,eN,reduceCtorEq,Nat.reduceEqDiff,↓reduceIte,lt_F hlt,D6,hL,hc,y1]
 refine⟨lv,rfl,?_,fr.hset (X4 m) (show n+2<m by omega),by omega,λid ob hid h0=>by rw[X8 (by omega)];exact kp id ob hid h0⟩
 rcases hlv with h|⟨hne,id,rest,h1,h2,h3⟩
 ·exact .inl h
 ·exact .inr ⟨hne,id,rest,h1,h2,by rw[AA _ _ _ _ (by omega)];exact h3⟩
theorem t_coll {H:AB} {n q:Nat} {l:List Int} (hf:AN H n) (hq:hget H q=some (.box [eIs l])) (hl:few l):
  AO Tryz.prog 264 [clV q] H n λo H' n'=>∃lv,o= .ret lv/\LvG eI 1 (n+3) H' lv l/\AN H' n'/\n<=n'/\∀id ob,id<n->hget H id=some ob->hget H' id=some ob:=by
 refine a264 (AF AH.tnil (AG ?_))
 simp only[eE,eN,reduceCtorEq,↓reduceIte,c264]
 refine(Rt hf hq hl).mono ?_
 rintro o H' n' ⟨lv,rfl,h1,h2,h3,h4⟩
 simp only[eE,eN,↓reduceIte,retK]
 exact⟨lv,rfl,h1,h2,h3,h4⟩
theorem LH {H:AB} {n:Nat}:AO Tryz.prog 234 [.sl .nil []] H n λo H' n'=>o= .ret (.tup [])/\H'=H/\n'=n:=by
 refine⟨lSort,λg w vs hR hv=>?_⟩
 obtain⟨v,r,rfl,k1,k2⟩:=hv
 have k2':r=[]:=k2
 subst k2'
 have hv:∃p cap,v= .slice p 0 cap:=by
  rcases k1 with⟨-,rfl,-⟩|⟨-,b,o,cap,⟨sp,rfl,hsp⟩,hc,hst,-⟩
  ·exact⟨_,_,rfl⟩
  ·exact⟨_,_,rfl⟩
 obtain⟨p,cap,rfl⟩:=hv
 refine(Tryz.slices_Sort_int_none p cap w).mono ?_
 rintro e w' ⟨rfl,rfl⟩
 exact⟨g,.ret (.tup []),H,n,⟨rfl,rfl,rfl⟩,⟨_,rfl,rfl⟩,hR,X4 _,Trans.refl _ _ _ _⟩
def SrA (ob:List AVal->AObj) (H:AB) (l:List Int):AOut->AB->Nat->Prop:=λo H' n'=>
 B3 H H'/\((l=[]/\o= .ret (.sl .nil []))\/l≠[]/\∃id rest,o= .ret (.ref id 1 0 l.length (l.length+rest.length))/\hget H id=none/\hget H' id=some (ob ((l.mergeSort leI++rest).map eI)))
theorem Cr (l:List Int):(l.mergeSort leI).length=l.length:=List.length_mergeSort ..
theorem t_srtd {H:AB} {n q:Nat} {l:List Int} (hf:AN H n) (hq:hget H q=some (.box [eIs l])) (hl:few l):
  AO Tryz.prog 247 [clV q] H n (QRet H (eIs (l.mergeSort leI))):=by
 have hll:l.length<1000000000:=hl
 refine AO.out (AO.seal (R:=SrA (.arr 1) H l) (R':=SrA (.frz 1) H l) (a247 (AF AH.tnil (AG ?_))) ?_) ?_
 ·simp only[eE,eN,reduceCtorEq,↓reduceIte,c247]
  refine(t_coll hf hq hl).mono ?_
  rintro o H1 n1 ⟨lv,rfl,hlv,hf1,hn1,hk⟩
  simp only[eE,eN,↓reduceIte,retK]
  have hK:B3 H H1:=λid ob h0=>hk id ob (hf.lt h0) h0
  rcases hlv with⟨rfl,rfl⟩|⟨hne,id,rest,rfl,h2,h3⟩
  ·refine LH.mono ?_
   rintro o H2 n2 ⟨rfl,rfl,rfl⟩
   simp only[eE,eN,Nat.reduceEqDiff,↓reduceIte,retK]
   exact⟨hK,.inl ⟨rfl,rfl⟩⟩
  ·refine(NS h3 (by simp) hll).mono ?_
   rintro o H2 n2 ⟨rfl,rfl,rfl⟩
   rw[Zn,List.drop_left]
   simp only[eE,eN,Nat.reduceEqDiff,↓reduceIte,retK]
   refine⟨λi ob h0=>?_,.inr ⟨hne,id,rest,rfl,hf _ (by omega),AC ..⟩⟩
   rw[AA _ _ _ _ (λe=>by subst e;rw[hf _ (by omega)]at h0;cases h0)];exact hK i ob h0
 ·rintro o H' n' ⟨hK,h⟩
  rcases h with h|⟨hne,id,rest,h1,h2,h3⟩
  ·exact .inl ⟨hK,.inl h⟩
  ·refine .inr ⟨id,1,_,h3,λi ob h0=>?_,.inr ⟨hne,id,rest,h1,h2,AC ..⟩⟩
   rw[AA _ _ _ _ (λe=>by subst e;rw[h2]at h0;cases h0)];exact hK i ob h0
 ·rintro o H' n' ⟨hK,h⟩
  refine⟨.ret (eIs (l.mergeSort leI)),⟨⟨_,rfl,Wk.refl _⟩,hK⟩,λg w e hR he=>?_⟩
  have hL:∃lv,o= .ret lv/\LF 1 lv H' ((l.mergeSort leI).map eI):=by
   rcases h with⟨rfl,rfl⟩|⟨hz,id,rest,rfl,h2,h3⟩
   ·exact⟨_,rfl,.inl ⟨by simp,_,rfl,.inl rfl⟩⟩
   ·refine⟨_,rfl,?_⟩
    have hl2:=Cr l
    refine .inr ⟨λq=>hz (by rw[List.map_eq_nil_iff]at q;rw[q]at hl2;exact YL.1 hl2.symm),id,l.length+rest.length,rest.map eI,by rw[W6,hl2],by rw[h3,Xf],by simp [hl2]⟩
  obtain⟨lv,rfl,hL⟩:=hL
  cases e with
  |returned v=>exact Ix hL hR he
  |panicked c=>exact he.elim
  |outgrown=>exact he.elim
theorem t_vals {H:AB} {n:Nat} {l:List Int} (hf:AN H n):AO Tryz.prog 248 [eIs l] H n λo H' n'=>o= .ret (clV n)/\H'=hset H n (.box [eIs l])/\n'=n+2:=by
 refine a248 (AF AH.tnil (AG ?_))
 simp only[eE,eN,Nat.reduceEqDiff,↓reduceIte,c248,fr0 hf]
end Go.AM
namespace Go.AM
open Go.Proofs Go.Lib
abbrev srt (l:List Int):List Int:=l.mergeSort leI
def I3 (ls:List (List Int)) (j:Nat) (x:List Int):Bool:=((ls.take j).map srt).contains (srt x)
theorem Ru {ls:List (List Int)} (hn:∀l∈ls,l.Nodup) {j:Nat} (hj:j<ls.length) (h:I3 ls j ls[j]=true):Bz ls=true:=by
 unfold I3 at h
 rw[Y4,Xx]at h
 obtain⟨y,hy,e⟩:=h
 obtain⟨b,hb,rfl⟩:=Xw.1 hy
 rw[Xq]at hb
 rw[List.getElem_take]at e
 refine Jk.2 ⟨j,b,hj,by omega,by omega,?_⟩
 rw[Iu (hn _ (Xg _)) (hn _ (Xg _)),Xb]
 exact e.symm
theorem O2 {ls:List (List Int)} (hn:∀l∈ls,l.Nodup) (h:∀j (hj:j<ls.length),I3 ls j ls[j]=false):Bz ls=false:=by
 cases q:Bz ls with
 |false=>rfl
 |true=>
  obtain⟨a,b,ha,hb,hab,h2⟩:=Jk.1 q
  rw[Iu (hn _ (Xg _)) (hn _ (Xg _)),Xb]at h2
  have:=h a ha
  unfold I3 at this
  rw[<-Bool.not_eq_true,Y4,Xx]at this
  exact absurd ⟨ls[b],Xw.2 ⟨b,by rw[Xq];omega,by rw[List.getElem_take]⟩,h2.symm⟩ this
def Rv (o:Option AObj):Prop:=∃x:List Int,few x/\o=some (.box [eIs x])
def MX:Option AObj->List Int
 |some (.box [.sl _ L])=>L.map toI
 |_=>[]
theorem Et {x:List Int} (h:few x):Rv (some (.box [eIs x]))=True:=W7 ⟨x,h,rfl⟩
theorem Cy (x:List Int):MX (some (.box [eIs x]))=x:=As x
def sSr:List AVal->AB->Prop×AVal:=λa H=>match a with
 |[.fn (.func f) [] [.ptr q 0]]=>(f=265/\Rv (hget H q),eIs (srt (MX (hget H q))))
 |_=>(False,.tup [])
theorem qSr:∀args H n,(sSr args H).1->Ab Tryz.prog 247 args H n (sSr args H).2:=by
 intro args H n hh
 unfold sSr at hh⊢
 split at hh
 ·rename_i f q
  obtain⟨rfl,x,hx,h0⟩:=hh
  simp only[h0,Cy]
  exact Ab.of l247 (AW n _) λhf=>t_srtd hf h0 hx
 ·exact hh.elim
def sR1:List AVal->AB->Prop×AVal:=λa H=>match a with
 |[y,.ptr q 0]=>(dIs.ok y/\wide (dIs.dec y)/\Rv (hget H q),.bool (decide (MX (hget H q)=dIs.dec y)))
 |_=>(False,.tup [])
def Teq:Tab:=tadd 121 (s2 dIs dIs (λ_ b=>wide b) (λa b=>.bool (decide (a=b)))) tnil
theorem Teq_ok:AH Tryz.prog Teq:=AH.tnil.add (q2 p121)
theorem Teq_e (a:List AVal) (H:AB):Teq 121 a H=s2 dIs dIs (λ_ b=>wide b) (λa b=>.bool (decide (a=b))) a H:=rfl
theorem qR1:∀args H n,(sR1 args H).1->Ab Tryz.prog 250 args H n (sR1 args H).2:=by
 intro args H n hh
 unfold sR1 at hh⊢
 split at hh
 ·rename_i y q
  obtain⟨h1,h2,x,hx,h0⟩:=hh
  simp only[h0,Cy]
  refine Ab.of l250 trivial λhf=>a250 (AF Teq_ok (AG ?_))
  simp only[eE,eN,reduceCtorEq,Nat.reduceEqDiff,↓reduceIte,Nat.reduceAdd,c250,h0,Teq_e,s2,Az,At,W7 h1,W7 h2]
  exact λ_ _ h=>h
 ·exact hh.elim
abbrev clR (q:Nat):AVal:=.fn (.func 250) [] [.ptr q 0]
def Tr1:Tab:=tadd 250 sR1 tnil
theorem Tr1_ok:AH Tryz.prog Tr1:=AH.tnil.add qR1
theorem Tr1_e (a:List AVal) (H:AB):Tr1 250 a H=sR1 a H:=rfl
def idxL (met:List (List Int)) (x:List Int):Int:=match met.findIdx? (λy=>decide (x=y))with
 |some k=>(k:Int)
 |none=>-1
theorem q_ifLi {H:AB} {n q:Nat} {met:List (List Int)} {x:List Int} (hm:CH met) (hx:few x) (h0:hget H q=some (.box [eIs x])):Ab Tryz.prog 266 [eLl met,clR q] H n (.int .i64 (idxL met x)):=by
 refine Ab.of l266 trivial λhf=>a266 (AF Tr1_ok (AG ?_))
 have hml:met.length<1000000000:=hm.1
 simp only[eE,eN,reduceCtorEq,Nat.reduceEqDiff,↓reduceIte,Nat.reduceAdd,W6,c266]
 refine AV (λi:Nat=>⟨[(0,true,eLl met),(1,true,clR q),(7,true,.int .i64 met.length),(8,true,.int .i64 i)],H,n⟩) (λi=>i<=met.length/\∀j (h:j<met.length),j<i->¬x=met[j]) (λi=>met.length-i)
  0 rfl ⟨Xd _,λj _ h=>absurd h (Yq _)⟩ ?_
 rintro i ⟨hi,hb⟩
 by_cases hlt:i<met.length
 ·have hg:=X1 hlt
  have e:=AL (k:=i) (by omega)
  have hyf:=hm.2 _ (Xg hlt)
  generalize hy:met[i]=y at hg hyf
  by_cases hxy:x=y
  ·have hR:idxL met x=i:=by
    unfold idxL
    rw[Xs.2 ⟨hlt,by simpa [hy]using hxy,λj hj=>by simpa using hb j (by omega) hj⟩]
   rw[hR]
   simp only[eE,eC,eN,reduceCtorEq,Nat.reduceEqDiff,↓reduceIte,W8,W9,X0,W6,X2,lt_T hlt,hg,Tr1_e,sR1,h0,Et hx,Cy,Az,At,W7 hyf,Cm hxy]
   exact λ_ _ h=>h
  ·simp only[eE,eC,eN,reduceCtorEq,Nat.reduceEqDiff,↓reduceIte,Int.reduceEq,W8,W9,X0,W6,X2,lt_T hlt,hg,e,Tr1_e,sR1,h0,Et hx,Cy,Az,At,W7 hyf,B1 hxy]
   refine .mk (i+1) rfl ⟨hlt,λj hj h=>?_⟩ (by omega)
   by_cases z:j=i
   ·subst z;rw[hy];exact hxy
   ·exact hb j hj (by omega)
 obtain rfl:i=met.length:=by omega
 have hR:idxL met x= -1:=by
  unfold idxL
  rw[XY.2 λy hy=>by
   obtain⟨j,hj,rfl⟩:=Xw.1 hy
   simpa using hb j hj hj]
 rw[hR]
 simp only[eE,eC,eN,reduceCtorEq,Nat.reduceEqDiff,↓reduceIte,lt_F hlt]
 exact λ_ _ h=>h
theorem idx_in (met:List (List Int)) (x:List Int):decide (0<=idxL met x)=met.contains x:=by
 rw[XV,Xb,Y4]
 unfold idxL
 cases h:met.findIdx? (λy=>decide (x=y))with
 |none=>
  rw[XY]at h
  constructor
  ·intro q;simp at q
  ·intro q;have:=h x q;simp at this
 |some k=>
  obtain⟨h1,h2,-⟩:=Xs.1 h
  constructor
  ·intro _
   have:=Yj h2
   rw[this];exact Xg _
  ·intro _;simp
def sIf (f:List (List Int)->List Int->AVal):List AVal->AB->Prop×AVal:=λa H=>match a with
 |[y,.fn (.func g) [] [.ptr q 0]]=>(dLl.ok y/\CH (dLl.dec y)/\g=250/\Rv (hget H q),f (dLl.dec y) (MX (hget H q)))
 |_=>(False,.tup [])
theorem q_sIf {f:List (List Int)->List Int->AVal} {fid:FuncId} (h:∀{H:AB} {n q:Nat} {met:List (List Int)} {x:List Int},CH met->few x->hget H q=some (.box [eIs x])->Ab Tryz.prog fid [eLl met,clR q] H n (f met x)):∀args H n,(sIf f args H).1->Ab Tryz.prog fid args H n (sIf f args H).2:=by
 intro args H n hh
 unfold sIf at hh⊢
 split at hh
 ·rename_i y g q
  obtain⟨h1,h2,rfl,x,hx,h0⟩:=hh
  simp only[h0,Cy]
  refine AO.args (h (n:=n) h2 hx h0) ?_
  rintro g vs ⟨v,r,rfl,k1,k2⟩
  exact⟨v,_,rfl,dLl.wk _ h1 _ _ k1,k2⟩
 ·exact hh.elim
abbrev fIf (met:List (List Int)) (x:List Int):AVal:=.int .i64 (idxL met x)
abbrev fCf (met:List (List Int)) (x:List Int):AVal:=.bool (met.contains x)
def Tr2:Tab:=tadd 266 (sIf fIf) tnil
theorem Tr2_ok:AH Tryz.prog Tr2:=AH.tnil.add (q_sIf λh1 h2 h3=>q_ifLi h1 h2 h3)
theorem Tr2_e (a:List AVal) (H:AB):Tr2 266 a H=sIf fIf a H:=rfl
theorem O3 {t:Tok} {l:List (List Int)} (ht:t.esz=1\/l=[]):dLl.ok (.sl t (l.map eIs))=True:=Hd DJ ht
theorem MY {t:Tok} (l:List (List Int)):dLl.dec (.sl t (l.map eIs))=l:=FC DJ
theorem q_cfLi {H:AB} {n q:Nat} {met:List (List Int)} {x:List Int} (hm:CH met) (hx:few x) (h0:hget H q=some (.box [eIs x])):Ab Tryz.prog 249 [eLl met,clR q] H n (fCf met x):=by
 refine Ab.of l249 trivial λhf=>a249 (AF Tr2_ok (AG ?_))
 simp only[eE,eN,reduceCtorEq,Nat.reduceEqDiff,↓reduceIte,Nat.reduceAdd,c249,Tr2_e,sIf,h0,Et hx,Cy,FZ,Dm,W7 hm,idx_in]
 exact λ_ _ h=>h
def Trg:Tab:=tadd 166 (s2 dGd dLl (λg l=>Al g.sh g.w g.h g.holes=some g.cells/\few g.holes/\CH l) λg l=>rgsV g.cells l) (tadd 249 (sIf fCf) (tadd 247 sSr tnil))
theorem Trg_ok:AH Tryz.prog Trg:=((AH.tnil.add qSr).add (q_sIf λh1 h2 h3=>q_cfLi h1 h2 h3)).add (q2 λg l h=>p166 g l h.1 h.2.1 h.2.2)
theorem Trg_g (a:List AVal) (H:AB):Trg 166 a H=s2 dGd dLl (λg l=>Al g.sh g.w g.h g.holes=some g.cells/\few g.holes/\CH l) (λg l=>rgsV g.cells l) a H:=rfl
theorem Trg_c (a:List AVal) (H:AB):Trg 249 a H=sIf fCf a H:=rfl
theorem Trg_s (a:List AVal) (H:AB):Trg 247 a H=sSr a H:=rfl
structure VRm where
 j:Nat
 tk:Tok
 H:AB
 n:Nat
structure IRm (g:Grd) (r:DReg) (v:VRm):Prop where
 hj:v.j<=r.ls.length
 fr:AN v.H v.n
 hn:3<=v.n
 h1:hget v.H 1=some (.box (AE g.sh g.w g.h g.holes g.cells))
 tok:tkG 1 2 v.H v.tk
 es:v.tk.esz=1\/(r.ls.take v.j).map srt=[]
 no:∀k (hk:k<r.ls.length),k<v.j->I3 r.ls k r.ls[k]=false
theorem p226 (d:Dcl) (g:Grd) (hd:FewD d) (hG:Al g.sh g.w g.h g.holes=some g.cells) (hh:few g.holes):Pur Tryz.prog 226 [encD d,DL g] (.int .i64 (Dh g.cells d.regs)):=by
 refine .mk ⟨BS 0 d,Bp 0 ..,trivial⟩ trivial (a226 (AF Trg_ok (AG ?_)))
 have hrl:d.regs.length<1000000000:=hd.rg
 simp only[eE,eN,reduceCtorEq,Nat.reduceEqDiff,↓reduceIte,Nat.reduceAdd,Nat.reduceLeDiff,W6,c226]
 refine AV (λv:VF=>⟨[(3,true,.ptr 1 0),(14,true,eRgs d.regs),(15,true,.int .i64 d.regs.length),(16,true,.int .i64 v.i)],v.H,v.n⟩) (λv=>v.i<=d.regs.length/\AN v.H v.n/\3<=v.n/\hget v.H 1=some (.box (AE g.sh g.w g.h g.holes g.cells))/\Dh g.cells d.regs=Dh g.cells (d.regs.drop v.i)) (λv=>d.regs.length-v.i)
  ⟨0,hset (hset hnil 0 (.box (AK d))) 1 (.box (AE g.sh g.w g.h g.holes g.cells)),3⟩ rfl ⟨Xd _,(AN.nil.hset (m:=3) (Xd 3) (show 0<3 by decide)).hset (X4 3) (show 1<3 by decide),X4 _,rfl,rfl⟩ ?_
 rintro⟨i,H,n⟩ ⟨hi,hfr,hn,h1,heq⟩
 simp only at hi hfr hn h1 heq
 by_cases hlt:i<d.regs.length
 case neg=>
  obtain rfl:i=d.regs.length:=by omega
  rw[Yf]at heq
  rw[heq]
  simp only[eE,eC,eN,Nat.reduceEqDiff,↓reduceIte,lt_F hlt]
  rfl
 have hg:=X1 hlt
 have e:=AL (k:=i) (by omega)
 have hrf:Kw d.regs[i]:=hd.rgs _ (Xg hlt)
 rw[RG _ _ _ hlt]at heq
 generalize d.regs[i]=r at hg hrf heq
 have y1:∀q,(n+q=1)=False:=λq=>X6 (by omega)
 have hc:=W7 (⟨hG,hh,hrf⟩:Al g.sh g.w g.h g.holes=some g.cells/\few g.holes/\CH r.ls)
 by_cases hb:(decide (r.ls.length<=64)&&r.ls.all (EK g.cells))=true
 case neg=>
  have hv:rgsV g.cells r.ls= .tup [eLl [],.int .i64 130]:=X8 hb
  have hE:regE g.cells r=130:=Xc (by simpa using hb)
  rw[hE,X8 (by decide)]at heq
  rw[heq]
  simp only[eE,eC,eN,Nat.reduceEqDiff,↓reduceIte,Nat.reduceAdd,Nat.reduceLT,Int.reduceEq,Xa,W8,W9,X0,W6,X2,X7,X9,lt_T hlt,hg,fr1 hfr,h1,y1,Trg_g,s2,RO,Kz,FZ,Dm,hc,hv]
 have hv:rgsV g.cells r.ls= .tup [eLl (r.ls.map (B5 g.cells)),.int .i64 0]:=Xc hb
 obtain⟨hb1,hb2⟩:=(X5 _ _).mp hb
 have hb1:=Yj hb1
 have hnd:∀l∈r.ls,l.Nodup:=λl hl=>(GD (Xe.1 hb2 l hl)).1
 have hregE:regE g.cells r=if Bz r.ls=true then 161 else 0:=by unfold regE;rw[hb,X8 (by decide)]
 simp only[eE,eC,eN,Nat.reduceEqDiff,↓reduceIte,Nat.reduceAdd,Nat.reduceLT,X3,W8,W9,X0,W6,X2,X7,X9,lt_T hlt,hg,fr1 hfr,h1,y1,Trg_g,s2,RO,Kz,FZ,Dm,hc,hv,AJ]
 refine AV (λv:VRm=>⟨[(3,true,.ptr 1 0),(9,true,.sl v.tk (((r.ls.take v.j).map srt).map eIs)),(14,true,eRgs d.regs),(15,true,.int .i64 d.regs.length),(16,true,.int .i64 i),(31,true,eLl r.ls),(32,true,.int .i64 r.ls.length),(33,true,.int .i64 v.j)],v.H,v.n⟩) (IRm g r) (λv=>r.ls.length-v.j)
  ⟨0,.nil,hset H (n+2) (.box [.str r.nm,eLl r.ls]),n+4⟩ rfl ⟨Xd _,hfr.hset (m:=n+4) (by omega) (by omega),by simp only[];omega,by simp only[];rw[AA _ _ _ _ (by omega)];exact h1,.inl rfl,.inr rfl,λk _ h=>absurd h (Yq _)⟩ ?_
 rintro⟨j,tk,H1,n1⟩ hI
 have hj:=hI.hj
 have hf1:=hI.fr
 have hn1:=hI.hn
 have h11:=hI.h1
 have htk:=hI.tok
 have hes:=hI.es
 have hno:=hI.no
 simp only at hj hf1 hn1 h11 htk hes hno
 by_cases hlj:j<r.ls.length
 ·have hgj:=X1 hlj
  have ej:=AL (k:=j) (by omega)
  have hlf:few r.ls[j]:=by
   obtain⟨q1,-,q3⟩:=GD (Xe.1 hb2 _ (Xg hlj))
   have h1:=MN q1 q3
   have h2:=(BI hG).2.1
   show r.ls[j].length<_
   omega
  have hmt:=map_take (f:=srt) hlj
  have hhit:=λq=>Ru hnd hlj q
  have hnx:I3 r.ls j r.ls[j]=false->∀k (hk:k<r.ls.length),k<j+1->I3 r.ls k r.ls[k]=false:=λq k hk h=>by
   by_cases z:k=j
   ·subst z;exact q
   ·exact hno k hk (by omega)
  generalize r.ls[j]=l at hgj hlf hmt hhit hnx
  have hmf:CH ((r.ls.take j).map srt):=⟨show((r.ls.take j).map srt).length<_ by rw[W6,Xq];omega,λx hx=>by
   obtain⟨y,hy,rfl⟩:=Xx.1 hx
   show(srt y).length<_
   rw[Cr];exact hrf.2 _ (Zp hy)⟩
  have hsf:few (srt l):=show(srt l).length<_ by rw[Cr];exact hlf
  have z1:∀q,(n1+q=1)=False:=λq=>X6 (by omega)
  have hmb:((r.ls.take j).map srt).contains (srt l)=I3 r.ls j l:=rfl
  simp only[eE,eC,eN,Nat.reduceEqDiff,↓reduceIte,W8,W9,X0,W6,X2,lt_T hlj,hgj]
  refine(t_vals (n:=n1+5) λj hj=>hf1 j (by omega)).mono ?_
  rintro o H2 n2 ⟨rfl,rfl,rfl⟩
  cases hb3:I3 r.ls j l with
  |true=>
   rw[hregE,hhit hb3,Xc rfl,X8 (by decide)]at heq
   rw[heq]
   simp only[eE,eC,eN,reduceCtorEq,Nat.reduceEqDiff,↓reduceIte,Nat.reduceAdd,retK,Trg_s,sSr,Et hlf,Cy,fr1 hf1,Trg_c,sIf,Et hsf,O3 hes,MY,W7 hmf,hmb,hb3,AJ]
  |false=>
   have gt:tkG 1 2 (hset (hset H1 (n1+5) (.box [eIs l])) (n1+3) (.box [eIs (srt l)])) tk:=(htk.set (.inr (.inr (fr1 hf1 5)))).set (.inr (.inr (by rw[AA _ _ _ _ (by omega)];exact fr1 hf1 3)))
   have gf:AN (hset (hset H1 (n1+5) (.box [eIs l])) (n1+3) (.box [eIs (srt l)])) (n1+12):=(hf1.hset (m:=n1+12) (by omega) (by omega)).hset (m:=n1+12) (by omega) (by omega)
   have q1:Bl (hset (hset H1 (n1+5) (.box [eIs l])) (n1+3) (.box [eIs (srt l)])) 1 tk=True:=W7 gt.app
   have q2:((r.ls.take j).length<=35184372088831)=True:=W7 (by rw[Xq];omega)
   have q3:Ap ((r.ls.take j).length+1) 24=True:=W7 (AX (by rw[Xq];omega) (by decide))
   simp only[eE,eC,eN,reduceCtorEq,Nat.reduceEqDiff,↓reduceIte,Nat.reduceAdd,Nat.reduceLeDiff,Nat.reduceMul,Nat.reduceLT,Int.reduceEq,W6,retK,Trg_s,sSr,Et hlf,Cy,fr1 hf1,Trg_c,sIf,Et hsf,O3 hes,MY,W7 hmf,hmb,hb3,AJ,q2,q3,q1,ej]
   refine .mk ⟨j+1,.own (n1+10) 1,hset (AU (hset (hset H1 (n1+5) (.box [eIs l])) (n1+3) (.box [eIs (srt l)])) tk) (n1+10) .tok,n1+12⟩ ?_ ⟨hlj,(Ah gt gf).hset (X4 _) (show n1+10<n1+12 by omega),by simp only[];omega,?_,.inr (.inr ⟨n1+10,rfl,by omega,AC ..⟩),.inl rfl,hnx hb3⟩ (by simp only[];omega)
   ·simp only[hmt,Xf];rfl
   ·simp only[]
    rw[AA _ _ _ _ (by omega),Ad gt (.inl (by omega)),AA _ _ _ _ (by omega),AA _ _ _ _ (by omega)]
    exact h11
 obtain rfl:j=r.ls.length:=by omega
 rw[hregE,O2 hnd λj hj=>hno j hj hj]at heq
 simp only[eE,eC,eN,Nat.reduceEqDiff,↓reduceIte,Int.reduceEq,lt_F hlj,e]
 exact .mk ⟨i+1,H1,n1⟩ rfl ⟨hlt,hf1,hn1,h11,heq⟩ (by simp only[];omega)
end Go.AM
namespace Go.AM
open Go.Proofs Go.Lib
def whn (b:Bool) (e:Int):Int:=if b=true then 0 else e
def Ng (d:Dcl):Int:=whn (limD d) 2
def LI (d:Dcl):Int:=match resD d with
 | .error e=>e
 | .ok x=>whn (decide (x=d)) 170
def Nh (d:Dcl):Int:=whn (decide (1<=d.ver)&&decide (d.ver<=255)) 170
def Ni (d:Dcl):Int:=match Al d.sh d.w d.h d.holes with
 |some _=>0
 |none=>130
def Nj (d:Dcl):Int:=whn (CW d) 170
def O4 (d:Dcl):Int:=whn (decide (Bh d.ruls=[])) 171
theorem Fj {d:Dcl} {e:Int} (h:resD d= .error e):e≠0:=by
 unfold resD at h
 rintro rfl
 repeat' split at h
 all_goals simp at h
def dB:Dc Bool:=⟨.bool,toB,λv=>match v with| .bool _=>True|_=>False,λv h=>by
 cases v<;>first|exact Wk.refl _|exact h.elim⟩
theorem O5 (b:Bool):dB.ok (.bool b)=True:=rfl
theorem Jw (b:Bool):dB.dec (.bool b)=b:=rfl
def Tst:Tab:=tadd 221 (s2 dB dI any2 λb e=>.int .i64 (whn b e)) (tadd 161 (s1 dD FewD Es) (tadd 122 (s2 dD dD (λ_ b=>FewD b) λa b=>.bool (decide (a=b))) (tadd 228 (s1 dD FewD λd=>.bool (CW d)) (tadd 230 (s1 dD FewD λd=>eIs (Bh d.ruls)) (tadd 226 (s2 dD dGd (λd g=>FewD d/\Al g.sh g.w g.h g.holes=some g.cells/\few g.holes) λd g=>.int .i64 (Dh g.cells d.regs)) tnil)))))
theorem IF:AH Tryz.prog Tst:=(((((AH.tnil.add (q2 λd g h=>p226 d g h.1 h.2.1 h.2.2)).add (q1 λd h=>p230 d h.ru)).add (q1 λd h=>p228 d h)).add (q2 λa b h=>p122 a b h)).add (q1 λd h=>p161 d h)).add (q2 λb e _=>p221 b e)
theorem O6 (a:List AVal) (H:AB):Tst 221 a H=s2 dB dI any2 (λb e=>.int .i64 (whn b e)) a H:=rfl
theorem Tst_n (a:List AVal) (H:AB):Tst 161 a H=s1 dD FewD Es a H:=rfl
theorem Tst_s (a:List AVal) (H:AB):Tst 122 a H=s2 dD dD (λ_ b=>FewD b) (λa b=>.bool (decide (a=b))) a H:=rfl
theorem Tst_f (a:List AVal) (H:AB):Tst 228 a H=s1 dD FewD (λd=>.bool (CW d)) a H:=rfl
theorem Tst_u (a:List AVal) (H:AB):Tst 230 a H=s1 dD FewD (λd=>eIs (Bh d.ruls)) a H:=rfl
theorem Tst_r (a:List AVal) (H:AB):Tst 226 a H=s2 dD dGd (λd g=>FewD d/\Al g.sh g.w g.h g.holes=some g.cells/\few g.holes) (λd g=>.int .i64 (Dh g.cells d.regs)) a H:=rfl
theorem Ty {H:AB} {n i:Nat} (hf:AN H n) (hi:n<=i) (a b:AObj):B3 H (hset (hset H i a) i b):=λid ob h=>by
 have:=hf.lt h
 rw[AA _ _ _ _ (by omega),AA _ _ _ _ (by omega)];exact h
theorem Rw (d:Dcl):(decide ((0:Int)<d.syms.length)&&decide ((d.syms.length:Int)<=16)&&decide ((d.regs.length:Int)<=4)&&decide ((d.clus.length:Int)<=4)&&decide ((d.ruls.length:Int)<=16))=limD d:=by
 rw[XV];simp [limD];omega
theorem Us (l:List Int):decide ((l.length:Int)=0)=decide (l=[]):=by
 cases l<;>simp;omega
variable {d:Dcl} {H:AB} {n q:Nat}
theorem u1 (hd:FewD d) (h0:hget H q=some (.box (AK d))):Ab Tryz.prog 220 [.ptr q 0] H n (.int .i64 (Ng d)):=by
 refine Ab.of l220 trivial λhf=>a220 (AF IF (AG ?_))
 simp only[eE,eC,eN,reduceCtorEq,Nat.reduceEqDiff,↓reduceIte,Nat.reduceAdd,Nat.reduceLeDiff,W6,c220,h0,O6,s2,O5,Jw,Cl,BV,Rw]
 exact⟨rfl,λ_ _ h=>h⟩
theorem u2 (hd:FewD d) (h0:hget H q=some (.box (AK d))):Ab Tryz.prog 222 [.ptr q 0] H n (.int .i64 (LI d)):=by
 refine Ab.of l222 trivial λhf=>a222 (AF IF (AG ?_))
 have hq:=hf.lt h0
 have y1:∀k,(n+k=q)=False:=λk=>X6 (by omega)
 unfold LI
 cases hr:resD d with
 |error e=>
  have hv:Es d= .tup [encD dcl0,.int .i64 e]:=by unfold Es;rw[hr]
  have he:(e=0)=False:=X6 (Fj hr)
  simp only[eE,eC,eN,reduceCtorEq,Nat.reduceEqDiff,↓reduceIte,Nat.reduceAdd,Nat.reduceLT,Xa,W8,X7,X9,c222,h0,Tst_n,s1,GW,Ds,W7 hd,hv,fr1 hf,he]
  exact Ty hf (by omega) _ _
 |ok x=>
  have hv:Es d= .tup [encD x,.int .i64 0]:=by unfold Es;rw[hr]
  simp only[eE,eC,eN,reduceCtorEq,Nat.reduceEqDiff,↓reduceIte,Nat.reduceAdd,Nat.reduceLT,X3,W8,X7,X9,c222,h0,Tst_n,Tst_s,O6,s1,s2,GW,Ds,W7 hd,hv,fr1 hf,y1,O5,Jw,Cl,BV]
  exact Ty hf (by omega) _ _
theorem u3 (h0:hget H q=some (.box (AK d))):Ab Tryz.prog 223 [.ptr q 0] H n (.int .i64 (Nh d)):=by
 refine Ab.of l223 trivial λhf=>a223 (AF IF (AG ?_))
 simp only[eE,eC,eN,reduceCtorEq,Nat.reduceEqDiff,↓reduceIte,Nat.reduceAdd,Nat.reduceLeDiff,c223,h0,O6,s2,O5,Jw,Cl,BV]
 exact⟨rfl,λ_ _ h=>h⟩
theorem u6 (hd:FewD d) (h0:hget H q=some (.box (AK d))):Ab Tryz.prog 227 [.ptr q 0] H n (.int .i64 (Nj d)):=by
 refine Ab.of l227 trivial λhf=>a227 (AF IF (AG ?_))
 simp only[eE,eN,reduceCtorEq,↓reduceIte,Nat.reduceAdd,c227,h0,O6,Tst_f,s1,s2,O5,Jw,Cl,BV,GW,Ds,W7 hd]
 exact⟨rfl,λ_ _ h=>h⟩
theorem u7 (hd:FewD d) (h0:hget H q=some (.box (AK d))):Ab Tryz.prog 229 [.ptr q 0] H n (.int .i64 (O4 d)):=by
 refine Ab.of l229 trivial λhf=>a229 (AF IF (AG ?_))
 simp only[eE,eN,reduceCtorEq,↓reduceIte,Nat.reduceAdd,W6,c229,h0,O6,Tst_u,s1,s2,O5,Jw,Cl,BV,GW,Ds,W7 hd,Us]
 exact⟨rfl,λ_ _ h=>h⟩
theorem u5 {g:Grd} {q':Nat} (hd:FewD d) (hG:Al g.sh g.w g.h g.holes=some g.cells) (hh:few g.holes) (h0:hget H q=some (.box (AK d))) (h1:hget H q'=some (.box (AE g.sh g.w g.h g.holes g.cells))):Ab Tryz.prog 225 [.ptr q 0,.ptr q' 0] H n (.int .i64 (Dh g.cells d.regs)):=by
 refine Ab.of l225 trivial λhf=>a225 (AF IF (AG ?_))
 simp only[eE,eN,reduceCtorEq,Nat.reduceEqDiff,↓reduceIte,Nat.reduceAdd,c225,h0,h1,Tst_r,s2,RO,Kz,GW,Ds,W7 hd,hG,W7 hh]
 exact λ_ _ h=>h
abbrev gr0:List AVal:=[.int .i64 0,.int .i64 0,.int .i64 0,.sl .nil [],.sl .nil []]
def Tmc:Tab:=tadd 163 (λa H=>match a with
 |[.int .i64 sh,.int .i64 w,.int .i64 h,x]=>(dIs.ok x/\few (dIs.dec x),CI sh w h (dIs.dec x))
 |_=>(False,.tup [])) tnil
theorem Tmc_ok:AH Tryz.prog Tmc:=AH.tnil.add Uk
theorem Tmc_m (sh w h:Int) (x:AVal) (H:AB):Tmc 163 [.int .i64 sh,.int .i64 w,.int .i64 h,x] H=(dIs.ok x/\few (dIs.dec x),CI sh w h (dIs.dec x)):=rfl
theorem u4 {q':Nat} (hne:q≠q') (hh:few d.holes) (h0:hget H q=some (.box (AK d))) (h1:hget H q'=some (.box gr0)):
  AO Tryz.prog 224 [.ptr q 0,.ptr q' 0] H n λo H' n'=>o= .ret (.int .i64 (Ni d))/\n'=n/\∃cs,H'=hset H q' (.box cs)/\∀cells,Al d.sh d.w d.h d.holes=some cells->cs=AE d.sh d.w d.h d.holes cells:=by
 refine a224 (AF Tmc_ok (AG ?_))
 unfold Ni
 cases hc:Al d.sh d.w d.h d.holes with
 |none=>
  have hv:CI d.sh d.w d.h d.holes= .tup [encG 0 0 0 [] [],.int .i64 130]:=by unfold CI;rw[hc]
  simp only[eE,eN,reduceCtorEq,Nat.reduceEqDiff,↓reduceIte,Nat.reduceAdd,Nat.reduceLeDiff,Nat.reduceLT,W8,X7,X9,c224,h0,h1,Tmc_m,Az,At,W7 hh,hv]
  exact⟨_,rfl⟩
 |some cells=>
  have hv:CI d.sh d.w d.h d.holes= .tup [encG d.sh d.w d.h d.holes cells,.int .i64 0]:=by unfold CI;rw[hc]
  simp only[eE,eN,reduceCtorEq,Nat.reduceEqDiff,↓reduceIte,Nat.reduceAdd,Nat.reduceLeDiff,Nat.reduceLT,W8,X7,X9,c224,h0,h1,Tmc_m,Az,At,W7 hh,hv]
  exact⟨_,rfl,λc h=>by cases h;rfl⟩
end Go.AM
namespace Go.AM
open Go.Proofs Go.Lib
theorem O7 (d:Dcl):chkD d=if Ng d≠0 then Ng d else if LI d≠0 then LI d else if Nh d≠0 then Nh d else match Al d.sh d.w d.h d.holes with
  |none=>130
  |some cells=>if Dh cells d.regs≠0 then Dh cells d.regs else if Nj d≠0 then Nj d else O4 d:=by
 unfold chkD Ng LI Nh Nj O4
 cases limD d with
 |false=>rfl
 |true=>
 cases hr:resD d with
 |error e=>simp [whn,Fj hr]
 |ok x=>
 by_cases hx:x=d
 ·by_cases hv:d.ver<1\/255<d.ver
  ·have:(decide (1<=d.ver)&&decide (d.ver<=255))=false:=by simp;omega
   simp [whn,hx,hv,this]
  ·have:(decide (1<=d.ver)&&decide (d.ver<=255))=true:=by simp;omega
   cases hc:Al d.sh d.w d.h d.holes with
   |none=>simp [whn,hx,hv,this]
   |some cells=>
    cases CW d<;>by_cases hu:Bh d.ruls=[]<;>simp [whn,hx,hv,this,hu]
 ·simp [whn,hx]
abbrev stA:List AVal:=[.fn (.func 220) [] [.ptr 0 0],.fn (.func 222) [] [.ptr 0 0],.fn (.func 223) [] [.ptr 0 0],.fn (.func 224) [] [.ptr 0 0,.ptr 2 0],.fn (.func 225) [] [.ptr 0 0,.ptr 2 0],.fn (.func 227) [] [.ptr 0 0],.fn (.func 229) [] [.ptr 0 0]]
structure IChk (d:Dcl) (v:VF):Prop where
 hi:v.i<=7
 h0:hget v.H 0=some (.box (AK d))
 z1:0<v.i->Ng d=0
 z2:1<v.i->LI d=0
 z3:2<v.i->Nh d=0
 g0:v.i<=3->hget v.H 2=some (.box gr0)
 z4:3<v.i->∃cells,Al d.sh d.w d.h d.holes=some cells/\hget v.H 2=some (.box (AE d.sh d.w d.h d.holes cells))/\(4<v.i->Dh cells d.regs=0)
 z6:5<v.i->Nj d=0
 z7:6<v.i->O4 d=0
theorem p162 (d:Dcl) (hd:FewD d):Pur Tryz.prog 162 [encD d] (.int .i64 (chkD d)):=by
 refine .mk ⟨BS 0 d,trivial⟩ trivial (a162 (AF AH.tnil (AG ?_)))
 simp only[eE,eN,reduceCtorEq,Nat.reduceEqDiff,↓reduceIte,Nat.reduceAdd,Nat.reduceLeDiff,Nat.reduceMul,Nat.reduceLT,c162]
 have h7:((7:Nat):Int)=7:=rfl
 refine AV (λv:VF=>⟨[(14,true,.sl (.exact 1) stA),(15,true,.int .i64 7),(16,true,.int .i64 v.i)],v.H,v.n⟩) (IChk d) (λv=>7-v.i)
  ⟨0,hset (hset hnil 0 (.box (AK d))) 2 (.box gr0),3⟩ rfl ⟨Xd _,rfl,λh=>absurd h (Yq _),λh=>absurd h (Yq _),λh=>absurd h (Yq _),λ_=>rfl,λh=>absurd h (Yq _),λh=>absurd h (Yq _),λh=>absurd h (Yq _)⟩ ?_
 rintro⟨i,H,n⟩ hI
 obtain⟨hi,h0,z1,z2,z3,g0,z4,z6,z7⟩:=hI
 simp only at hi h0 z1 z2 z3 g0 z4 z6 z7
 have hS:=O7 d
 by_cases hlt:i<7
 case neg=>
  obtain⟨cells,hc,-,hr⟩:=z4 (by omega)
  have hlF:((i:Int)<7)=False:=X6 (by omega)
  simp only[z1 (by omega),z2 (by omega),z3 (by omega),hc,hr (by omega),z6 (by omega),z7 (by omega),ne_eq,YT,Xy]at hS
  rw[hS]
  simp only[eE,eC,eN,Nat.reduceEqDiff,↓reduceIte,hlF]
 have hlT:((i:Int)<7)=True:=W7 (by omega)
 have hlN:((i:Int)<((7:Nat):Int))=True:=hlT
 have e:=AL (k:=i) (by omega)
 have h8:i=0\/i=1\/i=2\/i=3\/i=4\/i=5\/i=6:=by omega
 rcases h8 with h8|h8|h8|h8|h8|h8|h8
 ·have hg:stA[i]?=some (.fn (.func 220) [] [.ptr 0 0]):=by rw[h8];rfl
  have hl7:i<stA.length:=hlt
  simp only[eE,eC,eN,Nat.reduceEqDiff,↓reduceIte,Nat.reduceAdd,W8,W9,X0,hlT,hlN,hg]
  refine(u1 hd h0).mono ?_
  rintro o H' n' ⟨rfl,rfl,rfl⟩
  by_cases hz:Ng d=0
  ·rw[hz]
   simp only[eE,eC,eN,Nat.reduceEqDiff,↓reduceIte,Int.reduceEq,X3,retK,e]
   exact .mk ⟨i+1,H',n'⟩ rfl ⟨hlt,h0,λ_=>hz,λh=>absurd h (by simp only[];omega),λh=>absurd h (by simp only[];omega),λ_=>g0 (by omega),λh=>absurd h (by simp only[];omega),λh=>absurd h (by simp only[];omega),λh=>absurd h (by simp only[];omega)⟩ (by simp only[];omega)
  ·rw[Xc hz]at hS
   rw[hS]
   simp only[eE,eC,eN,Nat.reduceEqDiff,↓reduceIte,Xa,retK,X6 hz]
 ·have hg:stA[i]?=some (.fn (.func 222) [] [.ptr 0 0]):=by rw[h8];rfl
  have hl7:i<stA.length:=hlt
  simp only[eE,eC,eN,Nat.reduceEqDiff,↓reduceIte,Nat.reduceAdd,W8,W9,X0,hlT,hlN,hg]
  refine(u2 hd h0).mono ?_
  rintro o H' n' ⟨rfl,rfl,rfl⟩
  simp only[z1 (by omega),ne_eq,YT,Xy]at hS
  by_cases hz:LI d=0
  ·rw[hz]
   simp only[eE,eC,eN,Nat.reduceEqDiff,↓reduceIte,Int.reduceEq,X3,retK,e]
   exact .mk ⟨i+1,H',n'⟩ rfl ⟨hlt,h0,λ_=>z1 (by omega),λ_=>hz,λh=>absurd h (by simp only[];omega),λ_=>g0 (by omega),λh=>absurd h (by simp only[];omega),λh=>absurd h (by simp only[];omega),λh=>absurd h (by simp only[];omega)⟩ (by simp only[];omega)
  ·rw[Xc hz]at hS
   rw[hS]
   simp only[eE,eC,eN,Nat.reduceEqDiff,↓reduceIte,Xa,retK,X6 hz]
 ·have hg:stA[i]?=some (.fn (.func 223) [] [.ptr 0 0]):=by rw[h8];rfl
  have hl7:i<stA.length:=hlt
  simp only[eE,eC,eN,Nat.reduceEqDiff,↓reduceIte,Nat.reduceAdd,W8,W9,X0,hlT,hlN,hg]
  refine(u3 h0).mono ?_
  rintro o H' n' ⟨rfl,rfl,rfl⟩
  simp only[z1 (by omega),z2 (by omega),ne_eq,YT,Xy]at hS
  by_cases hz:Nh d=0
  ·rw[hz]
   simp only[eE,eC,eN,Nat.reduceEqDiff,↓reduceIte,Int.reduceEq,X3,retK,e]
   exact .mk ⟨i+1,H',n'⟩ rfl ⟨hlt,h0,λ_=>z1 (by omega),λ_=>z2 (by omega),λ_=>hz,λ_=>g0 (by omega),λh=>absurd h (by simp only[];omega),λh=>absurd h (by simp only[];omega),λh=>absurd h (by simp only[];omega)⟩ (by simp only[];omega)
  ·rw[Xc hz]at hS
   rw[hS]
   simp only[eE,eC,eN,Nat.reduceEqDiff,↓reduceIte,Xa,retK,X6 hz]
 ·have hg:stA[i]?=some (.fn (.func 224) [] [.ptr 0 0,.ptr 2 0]):=by rw[h8];rfl
  have hl7:i<stA.length:=hlt
  simp only[eE,eC,eN,Nat.reduceEqDiff,↓reduceIte,Nat.reduceAdd,W8,W9,X0,hlT,hlN,hg]
  refine(u4 (by decide) hd.ho h0 (g0 (by omega))).mono ?_
  rintro o H' n' ⟨rfl,rfl,cs,rfl,hcs⟩
  have h0':hget (hset H 2 (.box cs)) 0=some (.box (AK d)):=by rw[AA _ _ _ _ (by decide)];exact h0
  simp only[z1 (by omega),z2 (by omega),z3 (by omega),ne_eq,YT,Xy]at hS
  cases hc:Al d.sh d.w d.h d.holes with
  |none=>
   have hs4:Ni d=130:=by unfold Ni;rw[hc]
   rw[hc]at hS
   rw[hS,hs4]
   simp only[eE,eC,eN,Nat.reduceEqDiff,↓reduceIte,Int.reduceEq,Xa,retK]
  |some cells=>
   have hs4:Ni d=0:=by unfold Ni;rw[hc]
   rw[hs4]
   simp only[eE,eC,eN,Nat.reduceEqDiff,↓reduceIte,Int.reduceEq,X3,retK,e]
   refine .mk ⟨i+1,hset H 2 (.box cs),n'⟩ rfl ⟨hlt,h0',λ_=>z1 (by omega),λ_=>z2 (by omega),λ_=>z3 (by omega),λh=>absurd h (by simp only[];omega),λ_=>⟨cells,hc,by simp only[];rw[AC,hcs cells hc],λh=>absurd h (by simp only[];omega)⟩,λh=>absurd h (by simp only[];omega),λh=>absurd h (by simp only[];omega)⟩ (by simp only[];omega)
 ·have hg:stA[i]?=some (.fn (.func 225) [] [.ptr 0 0,.ptr 2 0]):=by rw[h8];rfl
  have hl7:i<stA.length:=hlt
  obtain⟨cells,hc,hg2,hr⟩:=z4 (by omega)
  simp only[eE,eC,eN,Nat.reduceEqDiff,↓reduceIte,Nat.reduceAdd,W8,W9,X0,hlT,hlN,hg]
  refine(u5 (g:=⟨d.sh,d.w,d.h,d.holes,cells⟩) hd hc hd.ho h0 hg2).mono ?_
  rintro o H' n' ⟨rfl,rfl,rfl⟩
  simp only[z1 (by omega),z2 (by omega),z3 (by omega),hc,ne_eq,YT,Xy]at hS
  by_cases hz:Dh cells d.regs=0
  ·rw[hz]
   simp only[eE,eC,eN,Nat.reduceEqDiff,↓reduceIte,Int.reduceEq,X3,retK,e]
   exact .mk ⟨i+1,H',n'⟩ rfl ⟨hlt,h0,λ_=>z1 (by omega),λ_=>z2 (by omega),λ_=>z3 (by omega),λh=>absurd h (by simp only[];omega),λ_=>⟨cells,hc,hg2,λ_=>hz⟩,λh=>absurd h (by simp only[];omega),λh=>absurd h (by simp only[];omega)⟩ (by simp only[];omega)
  ·rw[Xc hz]at hS
   rw[hS]
   simp only[eE,eC,eN,Nat.reduceEqDiff,↓reduceIte,Xa,retK,X6 hz]
 ·have hg:stA[i]?=some (.fn (.func 227) [] [.ptr 0 0]):=by rw[h8];rfl
  have hl7:i<stA.length:=hlt
  obtain⟨cells,hc,hg2,hr⟩:=z4 (by omega)
  simp only[eE,eC,eN,Nat.reduceEqDiff,↓reduceIte,Nat.reduceAdd,W8,W9,X0,hlT,hlN,hg]
  refine(u6 hd h0).mono ?_
  rintro o H' n' ⟨rfl,rfl,rfl⟩
  simp only[z1 (by omega),z2 (by omega),z3 (by omega),hc,hr (by omega),ne_eq,YT,Xy]at hS
  by_cases hz:Nj d=0
  ·rw[hz]
   simp only[eE,eC,eN,Nat.reduceEqDiff,↓reduceIte,Int.reduceEq,X3,retK,e]
   exact .mk ⟨i+1,H',n'⟩ rfl ⟨hlt,h0,λ_=>z1 (by omega),λ_=>z2 (by omega),λ_=>z3 (by omega),λh=>absurd h (by simp only[];omega),λ_=>⟨cells,hc,hg2,λ_=>hr (by omega)⟩,λ_=>hz,λh=>absurd h (by simp only[];omega)⟩ (by simp only[];omega)
  ·rw[Xc hz]at hS
   rw[hS]
   simp only[eE,eC,eN,Nat.reduceEqDiff,↓reduceIte,Xa,retK,X6 hz]
 ·have hg:stA[i]?=some (.fn (.func 229) [] [.ptr 0 0]):=by rw[h8];rfl
  have hl7:i<stA.length:=hlt
  obtain⟨cells,hc,hg2,hr⟩:=z4 (by omega)
  simp only[eE,eC,eN,Nat.reduceEqDiff,↓reduceIte,Nat.reduceAdd,W8,W9,X0,hlT,hlN,hg]
  refine(u7 hd h0).mono ?_
  rintro o H' n' ⟨rfl,rfl,rfl⟩
  simp only[z1 (by omega),z2 (by omega),z3 (by omega),hc,hr (by omega),z6 (by omega),ne_eq,YT,Xy]at hS
  by_cases hz:O4 d=0
  ·rw[hz]
   simp only[eE,eC,eN,Nat.reduceEqDiff,↓reduceIte,Int.reduceEq,X3,retK,e]
   exact .mk ⟨i+1,H',n'⟩ rfl ⟨hlt,h0,λ_=>z1 (by omega),λ_=>z2 (by omega),λ_=>z3 (by omega),λh=>absurd h (by simp only[];omega),λ_=>⟨cells,hc,hg2,λ_=>hr (by omega)⟩,λ_=>z6 (by omega),λ_=>hz⟩ (by simp only[];omega)
  ·rw[hS]
   simp only[eE,eC,eN,Nat.reduceEqDiff,↓reduceIte,Xa,retK,X6 hz]
end Go.AM
namespace Go.AM
open Go.Proofs Go.Lib
structure Knd where
 d:Dcl
 g:Grd
 nb:List (List Int)
 ls:List (List (List Int))
 deriving DecidableEq
def BA (x:Dcl) (cells:List Int):Grd:=⟨x.sh,x.w,x.h,x.holes,cells⟩
def Ut (x:Dcl) (cells:List Int):Knd:=
 ⟨x,BA x cells,nbsS x.sh (AQ x.sh x.w cells),((List.range 8).map λf=>famS x.sh x.w x.h (AQ x.sh x.w cells) f)++x.regs.map λr=>r.ls.map (B5 cells)⟩
def Dp (d:Dcl):Except Int Knd:=match resD d with
 | .error e=>.error e
 | .ok x=>if chkD x≠0 then .error (chkD x)else match Al x.sh x.w x.h x.holes with
  |none=>.error 130
  |some cells=>.ok (Ut x cells)
def IG (k:Knd):Bool:=match Dp k.d with
 | .ok x=>decide (k=x)
 | .error _=>false
def Aj (k:Knd):Int:=if IG k then 0 else 180
theorem MZ {k:Knd} (h:IG k=true):Dp k.d= .ok k:=by
 unfold IG at h
 split at h
 ·rename_i x hx
  rw[hx];have:=Yj h;rw[this]
 ·cases h
theorem Rx {x:Dcl} (h:chkD x=0):∃cells,Al x.sh x.w x.h x.holes=some cells:=by
 unfold chkD at h
 split at h
 ·cases h
 ·split at h
  ·rename_i e he
   have:=Fj he
   exact absurd h this
  ·split at h
   ·cases h
   ·split at h
    ·cases h
    ·split at h
     ·cases h
     ·rename_i cells hc;exact⟨cells,hc⟩
theorem I4 {d:Dcl} {k:Knd} (h:Dp d= .ok k):∃x cells,resD d= .ok x/\chkD x=0/\Al x.sh x.w x.h x.holes=some cells/\k=Ut x cells:=by
 unfold Dp at h
 split at h
 ·cases h
 ·rename_i x hx
  split at h
  ·cases h
  ·rename_i hc
   split at h
   ·cases h
   ·rename_i cells hg
    cases h
    exact⟨x,cells,hx,Classical.byContradiction λz=>hc z,hg,rfl⟩
end Go.AM
namespace Go.AM
open Go.Proofs Go.Lib
structure IUr (d:Dcl) (v:VU):Prop where
 hi:v.i<=d.ruls.length
 fr:AN v.H v.n
 hn:2<=v.n
 h0:hget v.H 0=some (.box (AK d))
 tok:tkG 1 1 v.H v.tk
 es:v.tk.esz=1\/Bh (d.ruls.take v.i)=[]
end Go.AM
