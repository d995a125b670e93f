/-
  Names: each name's number put into a map; two elements with one name end the work · Names: a name's number, sets of symb.
  Conditions: none beyond those of its parts.
-/
import Derived.Test.YtncahiacfdihpaaGreatDoorB9
import Derived.Test.YtncahiacfdihpaaGreatDoorB6
import Derived.Test.YtncahiacfdihpaaGreatDoorB8

set_option maxRecDepth 20000
set_option linter.all false
namespace Go.AM
open Go.Proofs Go.Lib
abbrev errV(n:Int):AVal:=.ifc 39 (.int .i64 n)
abbrev nmO(l:List Bs):AObj:=.map (nmEs l 0) l.length
def Bd(H:AB)(n id:Nat)(pre ns:List Bs):AOut->AB->Nat->Prop:=λo H' n'=>
 if Ac (pre++ns)=true then o= .pan (errV 161)/\H'=hset H id .dead/\n'=n else o= .ret (.mp id)/\H'=hset H id (nmO (pre++ns))/\n'=n
def Ff(H:AB)(id:Nat)(pre ns:List Bs):AOut->AB->Nat->Prop:=λo H' n'=>
 if Ac (pre++ns)=true then o= .pan (errV 161)/\(∃ob,hget H' id=some ob)/\BS id H H' else(∃v,o= .ret v/\Wk v (.mp id))/\hget H' id=some (nmO (pre++ns))/\BS id H H'
theorem Nt(n:Nat)(l:List Bs):(nmO l).under n:=by
 suffices h:∀(i n c:Nat),(AObj.map (nmEs l i) c).under n from h 0 n l.length
 induction l with
 |nil=>intro i n c;trivial
 |cons x r ih=>intro i n c;exact⟨trivial,trivial,ih (i+1) n c⟩
theorem I5{H H':AB}{n id:Nat}{ob ob1:AObj}(hf:AN H n)(hid:id<n)(h1:hget H' id=some ob1)(hw:OWk ob1 ob)(hu:ob.under n)(h2:BS id H H'):Ei n H H' (hset H id ob):=by
 refine⟨λi o ho=>?_,λi hi=>?_⟩
 ·rw[AD]at ho
  by_cases e:id=i
  ·subst e
   rw[Vk rfl]at ho
   cases ho
   exact⟨hid,⟨_,h1,hw⟩,.inl hu⟩
  ·rw[Vb e]at ho
   exact⟨hf.lt ho,⟨o,h2 i o (Ne.symm e) ho,OWk.refl _⟩,.inr ho⟩
 ·rw[AD]
  split
  ·exact λh=>by cases h
  ·exact hi
theorem QV(ob:AObj):OWk ob .dead:=⟨λ_ _ _ _=>trivial,λh=>by cases h⟩
theorem Bd.of{fid:FuncId}{args:List AVal}{H:AB}{n id:Nat}{pre ns:List Bs}(hc:AV Tryz.prog fid)(hp:hget H id=some (nmO pre))(h:AN H n->id<n->AI Tryz.prog fid args H n (Ff H id pre ns)):AI Tryz.prog fid args H n (Bd H n id pre ns):=by
 refine AI.fresh hc λhf=>?_
 have hid:=hf.lt hp
 refine AI.forget (h hf hid) ?_
 intro o H' n' q
 unfold Ff at q
 by_cases ht:Ac (pre++ns)=true
 ·rw[Vk ht]at q
  obtain⟨rfl,⟨ob,h1⟩,h2⟩:=q
  exact⟨.pan (errV 161),hset H id .dead,by unfold Bd;rw[Vk ht];exact⟨rfl,rfl,rfl⟩,I5 hf hid h1 (QV _) trivial h2,Wk.refl _,trivial⟩
 ·rw[Vb ht]at q
  obtain⟨⟨v,rfl,hw⟩,h1,h2⟩:=q
  exact⟨.ret (.mp id),hset H id (nmO (pre++ns)),by unfold Bd;rw[Vb ht];exact⟨rfl,rfl,rfl⟩,I5 hf hid h1 (OWk.refl _) (Nt n _) h2,hw,hid⟩
structure VIx where
 i:Nat
 H:AB
 n:Nat
structure IIx(H:AB)(n id:Nat)(pre ns:List Bs)(v:VIx):Prop where
 hi:v.i<=ns.length
 hn:n<=v.n
 fr:AN v.H v.n
 hm:hget v.H id=some (nmO (pre++ns.take v.i))
 hk:BS id H v.H
 tw:Ac (pre++ns.take v.i)=false
theorem F6{pre ns:List Bs}{i:Nat}(h:i<ns.length)(hin:ns[i]∈pre++ns.take i):Ac (pre++ns)=true:=by
 have e:pre++ns=(pre++ns.take i)++ns[i]::ns.drop (i+1):=by
  rw[VG,<-VO h,List.take_append_drop]
 rw[e];exact SD hin
theorem F7{l:List Bs}{s:Bs}(h:Ac l=false)(hs:s∉l):Ac (l++[s])=false:=P2.2 ⟨h,hs⟩
theorem p193(x:DSym):Pur Tryz.prog 193 [HJ x] (.str x.nm):=by
 refine .mk ⟨Gw 0 x,trivial⟩ trivial (a193 (AE AH.tnil (AF ?_)))
 simp only[eE,eN,Nat.reduceEqDiff,↓reduceIte,Nat.reduceAdd,Nat.reduceLeDiff,c193]
theorem p195(x:DReg):Pur Tryz.prog 195 [Ft x] (.str x.nm):=by
 refine .mk ⟨DS 0 x,trivial⟩ trivial (a195 (AE AH.tnil (AF ?_)))
 simp only[eE,eN,Nat.reduceEqDiff,↓reduceIte,Nat.reduceAdd,Nat.reduceLeDiff,c195]
theorem p200(x:DClu):Pur Tryz.prog 200 [Bn x] (.str x.nm):=by
 refine .mk ⟨Ed 0 x,trivial⟩ trivial (a200 (AE AH.tnil (AF ?_)))
 simp only[eE,eN,Nat.reduceEqDiff,↓reduceIte,Nat.reduceAdd,Nat.reduceLeDiff,c200]
theorem p204(x:DRul):Pur Tryz.prog 204 [BX x] (.str x.nm):=by
 refine .mk ⟨B4 0 x,trivial⟩ trivial (a204 (AE AH.tnil (AF ?_)))
 simp only[eE,eN,Nat.reduceEqDiff,↓reduceIte,Nat.reduceAdd,Nat.reduceLeDiff,c204]
theorem p198(x:Bs):Pur Tryz.prog 198 [.str x] (.str x):=by
 refine .mk ⟨trivial,trivial⟩ trivial (a198 (AE AH.tnil (AF ?_)))
 simp only[eE,eN,reduceCtorEq,↓reduceIte,c198]
theorem p197:Pur Tryz.prog 197 [] (eSs FZ):=by
 refine .mk trivial (C8 0 _) (a197 (AE AH.tnil (AF ?_)))
 simp only[eE,eN,↓reduceIte,Nat.reduceLeDiff,Nat.reduceMul,Nat.reduceLT,c197]
 exact Wk.sl (.inl rfl)
def Tx1:Tab:=tadd 193 (s1 dSy any1 λx=>.str ((λx:DSym=>x.nm) x)) tnil
theorem Tx1_ok:AH Tryz.prog Tx1:=AH.tnil.add (q1 λx _=>p193 x)
theorem Tx1_e(a:List AVal)(H:AB):Tx1 193 a H=s1 dSy any1 (λx=>.str ((λx:DSym=>x.nm) x)) a H:=rfl
theorem QW{H:AB}{n id:Nat}{pre:List Bs}{l:List DSym}{f:Int}(hl:few l)(hpl:pre.length<1000000000)(hf0:f=(pre.length:Int))(hp:hget H id=some (nmO pre))(hd:Ac pre=false):
  AI Tryz.prog 192 [eSys l,.int .i64 f,.fn (.func 193) [] [],.mp id] H n (Bd H n id pre (l.map (λx:DSym=>x.nm))):=by
 subst hf0
 refine Bd.of l192 hp λhf hid=>a192 (AE Tx1_ok (AF ?_))
 have hll:l.length<1000000000:=hl
 simp only[eE,eN,reduceCtorEq,Nat.reduceEqDiff,↓reduceIte,Nat.reduceAdd,V0,c192]
 refine AU (λv:VIx=>⟨[(1,true,.int .i64 pre.length),(2,true,.fn (.func 193) [] []),(3,true,.mp id),(13,true,eSys l),(14,true,.int .i64 l.length),(15,true,.int .i64 v.i)],v.H,v.n⟩) (IIx H n id pre (l.map (λx:DSym=>x.nm))) (λv=>l.length-v.i)
  ⟨0,H,n⟩ rfl ⟨Vi _,V9 _,hf,by rw[WB,Vy];exact hp,BS.refl _,by rw[WB,Vy];exact hd⟩ ?_
 rintro⟨i,H1,n1⟩ hI
 have hi:=hI.hi
 have hn:=hI.hn
 have hfr:=hI.fr
 have hm:=hI.hm
 have hk:=hI.hk
 have htw:=hI.tw
 simp only[V0]at hi hn hfr hm hk htw
 by_cases hlt:i<l.length
 ·have hltm:i<(l.map (λx:DSym=>x.nm)).length:=by rw[V0];exact hlt
  have hg:=V5 hlt
  have hgm:(l.map (λx:DSym=>x.nm))[i]=(λx:DSym=>x.nm) l[i]:=Xr ..
  have e:=AJ (k:=i) (by omega)
  have htk:(l.map (λx:DSym=>x.nm)).take (i+1)=(l.map (λx:DSym=>x.nm)).take i++[(λx:DSym=>x.nm) l[i]]:=by rw[VX,V5 hltm,hgm];rfl
  have hpl2:(pre++(l.map (λx:DSym=>x.nm)).take i).length=pre.length+i:=by rw[Vm,Vt,V0];omega
  have ew:IntKind.wrap .i64 ((pre.length:Int)+(i:Int))=((pre.length+i:Nat):Int):=by rw[Aq (by omega) (by omega)];omega
  have y1:∀k,(n1+k=id)=False:=λk=>Vd (by omega)
  have y2:∀k,(id=n1+k)=False:=λk=>Vd (by omega)
  have hin:=λq=>F6 (pre:=pre) hltm (by rw[hgm];exact q)
  generalize hx:l[i]=x at hg hgm htk hin
  have hfi:=DT (pre++(l.map (λx:DSym=>x.nm)).take i) ((λx:DSym=>x.nm) x)
  cases hno:Br (pre++(l.map (λx:DSym=>x.nm)).take i) ((λx:DSym=>x.nm) x)with
  |some k=>
   have htt:Ac (pre++l.map (λx:DSym=>x.nm))=true:=hin (by
    apply Classical.byContradiction
    intro q
    rw[BF.2 q]at hno;cases hno)
   rw[hno,VL]at hfi
   simp only[eE,eC,eN,Nat.reduceEqDiff,↓reduceIte,Nat.reduceAdd,Nat.reduceLT,xE,V1,Option.isSome_some,isF,V2,V4,V0,V6,Va,Vc,lt_T hlt,hg,Tx1_e,s1,S4,P8,hm,hfi,DB,KT.is,By,fr1 hfr,y1,AK]
   unfold Ff
   rw[Vk htt]
   refine⟨rfl,⟨nmO (pre++(l.map (λx:DSym=>x.nm)).take i),?_⟩,?_⟩
   ·rw[AA _ _ _ _ (by omega)];exact hm
   ·exact hk.new hf (by omega)
  |none=>
   rw[hno,WH]at hfi
   have hms:=KA hno
   rw[hpl2]at hms
   simp only[eE,eC,eN,Nat.reduceEqDiff,↓reduceIte,Nat.reduceAdd,Nat.reduceLT,Int.reduceEq,xE,WL,V1,Option.isSome_none,V2,V4,V0,V6,Va,Vc,lt_T hlt,hg,Tx1_e,s1,S4,P8,hm,hfi,DB,KT.is,By,fr1 hfr,y1,e,ew,hpl2,hms,AK]
   refine .mk ⟨i+1,hset (hset H1 (n1+3) (.box (HJ x).cells)) id (.map (nmEs (pre++(l.map (λx:DSym=>x.nm)).take i++[(λx:DSym=>x.nm) x]) 0) (pre.length+(i+1))),n1+6⟩ rfl ⟨by simp only[V0];omega,by simp only[];omega,?_,?_,?_,?_⟩ (by simp only[];omega)
   ·exact(hfr.hset (m:=n1+6) (by omega) (by omega)).hset (V9 (n1+6)) (show id<n1+6 by omega)
   ·simp only[]
    rw[AC,htk,<-VG,nmO,Vm,hpl2];rfl
   ·exact(hk.new hf (by omega)).set
   ·simp only[]
    rw[htk,<-VG];exact F7 htw (BF.1 hno)
 have hi':i=l.length:=by omega
 subst hi'
 have hta:(l.map (λx:DSym=>x.nm)).take l.length=l.map (λx:DSym=>x.nm):=VZ (by rw[V0];omega)
 rw[hta]at hm htw
 simp only[eE,eC,eN,Nat.reduceEqDiff,↓reduceIte,lt_F hlt]
 unfold Ff
 rw[htw,Vb (by decide)]
 exact⟨⟨_,rfl,Wk.refl _⟩,hm,hk⟩
def Tx2:Tab:=tadd 195 (s1 dRg any1 λx=>.str ((λx:DReg=>x.nm) x)) tnil
theorem Tx2_ok:AH Tryz.prog Tx2:=AH.tnil.add (q1 λx _=>p195 x)
theorem Tx2_e(a:List AVal)(H:AB):Tx2 195 a H=s1 dRg any1 (λx=>.str ((λx:DReg=>x.nm) x)) a H:=rfl
theorem QX{H:AB}{n id:Nat}{pre:List Bs}{l:List DReg}{f:Int}(hl:few l)(hpl:pre.length<1000000000)(hf0:f=(pre.length:Int))(hp:hget H id=some (nmO pre))(hd:Ac pre=false):
  AI Tryz.prog 194 [eRgs l,.int .i64 f,.fn (.func 195) [] [],.mp id] H n (Bd H n id pre (l.map (λx:DReg=>x.nm))):=by
 subst hf0
 refine Bd.of l194 hp λhf hid=>a194 (AE Tx2_ok (AF ?_))
 have hll:l.length<1000000000:=hl
 simp only[eE,eN,reduceCtorEq,Nat.reduceEqDiff,↓reduceIte,Nat.reduceAdd,V0,c194]
 refine AU (λv:VIx=>⟨[(1,true,.int .i64 pre.length),(2,true,.fn (.func 195) [] []),(3,true,.mp id),(13,true,eRgs l),(14,true,.int .i64 l.length),(15,true,.int .i64 v.i)],v.H,v.n⟩) (IIx H n id pre (l.map (λx:DReg=>x.nm))) (λv=>l.length-v.i)
  ⟨0,H,n⟩ rfl ⟨Vi _,V9 _,hf,by rw[WB,Vy];exact hp,BS.refl _,by rw[WB,Vy];exact hd⟩ ?_
 rintro⟨i,H1,n1⟩ hI
 have hi:=hI.hi
 have hn:=hI.hn
 have hfr:=hI.fr
 have hm:=hI.hm
 have hk:=hI.hk
 have htw:=hI.tw
 simp only[V0]at hi hn hfr hm hk htw
 by_cases hlt:i<l.length
 ·have hltm:i<(l.map (λx:DReg=>x.nm)).length:=by rw[V0];exact hlt
  have hg:=V5 hlt
  have hgm:(l.map (λx:DReg=>x.nm))[i]=(λx:DReg=>x.nm) l[i]:=Xr ..
  have e:=AJ (k:=i) (by omega)
  have htk:(l.map (λx:DReg=>x.nm)).take (i+1)=(l.map (λx:DReg=>x.nm)).take i++[(λx:DReg=>x.nm) l[i]]:=by rw[VX,V5 hltm,hgm];rfl
  have hpl2:(pre++(l.map (λx:DReg=>x.nm)).take i).length=pre.length+i:=by rw[Vm,Vt,V0];omega
  have ew:IntKind.wrap .i64 ((pre.length:Int)+(i:Int))=((pre.length+i:Nat):Int):=by rw[Aq (by omega) (by omega)];omega
  have y1:∀k,(n1+k=id)=False:=λk=>Vd (by omega)
  have y2:∀k,(id=n1+k)=False:=λk=>Vd (by omega)
  have hin:=λq=>F6 (pre:=pre) hltm (by rw[hgm];exact q)
  generalize hx:l[i]=x at hg hgm htk hin
  have hfi:=DT (pre++(l.map (λx:DReg=>x.nm)).take i) ((λx:DReg=>x.nm) x)
  cases hno:Br (pre++(l.map (λx:DReg=>x.nm)).take i) ((λx:DReg=>x.nm) x)with
  |some k=>
   have htt:Ac (pre++l.map (λx:DReg=>x.nm))=true:=hin (by
    apply Classical.byContradiction
    intro q
    rw[BF.2 q]at hno;cases hno)
   rw[hno,VL]at hfi
   simp only[eE,eC,eN,Nat.reduceEqDiff,↓reduceIte,Nat.reduceAdd,Nat.reduceLT,xE,V1,Option.isSome_some,isF,V2,V4,V0,V6,Va,Vc,lt_T hlt,hg,Tx2_e,s1,MV,I0,hm,hfi,DB,KT.is,By,fr1 hfr,y1,AK]
   unfold Ff
   rw[Vk htt]
   refine⟨rfl,⟨nmO (pre++(l.map (λx:DReg=>x.nm)).take i),?_⟩,?_⟩
   ·rw[AA _ _ _ _ (by omega)];exact hm
   ·exact hk.new hf (by omega)
  |none=>
   rw[hno,WH]at hfi
   have hms:=KA hno
   rw[hpl2]at hms
   simp only[eE,eC,eN,Nat.reduceEqDiff,↓reduceIte,Nat.reduceAdd,Nat.reduceLT,Int.reduceEq,xE,WL,V1,Option.isSome_none,V2,V4,V0,V6,Va,Vc,lt_T hlt,hg,Tx2_e,s1,MV,I0,hm,hfi,DB,KT.is,By,fr1 hfr,y1,e,ew,hpl2,hms,AK]
   refine .mk ⟨i+1,hset (hset H1 (n1+3) (.box (Ft x).cells)) id (.map (nmEs (pre++(l.map (λx:DReg=>x.nm)).take i++[(λx:DReg=>x.nm) x]) 0) (pre.length+(i+1))),n1+6⟩ rfl ⟨by simp only[V0];omega,by simp only[];omega,?_,?_,?_,?_⟩ (by simp only[];omega)
   ·exact(hfr.hset (m:=n1+6) (by omega) (by omega)).hset (V9 (n1+6)) (show id<n1+6 by omega)
   ·simp only[]
    rw[AC,htk,<-VG,nmO,Vm,hpl2];rfl
   ·exact(hk.new hf (by omega)).set
   ·simp only[]
    rw[htk,<-VG];exact F7 htw (BF.1 hno)
 have hi':i=l.length:=by omega
 subst hi'
 have hta:(l.map (λx:DReg=>x.nm)).take l.length=l.map (λx:DReg=>x.nm):=VZ (by rw[V0];omega)
 rw[hta]at hm htw
 simp only[eE,eC,eN,Nat.reduceEqDiff,↓reduceIte,lt_F hlt]
 unfold Ff
 rw[htw,Vb (by decide)]
 exact⟨⟨_,rfl,Wk.refl _⟩,hm,hk⟩
def Tx3:Tab:=tadd 198 (s1 dS any1 λx=>.str ((λx:Bs=>x) x)) tnil
theorem Tx3_ok:AH Tryz.prog Tx3:=AH.tnil.add (q1 λx _=>p198 x)
theorem Tx3_e(a:List AVal)(H:AB):Tx3 198 a H=s1 dS any1 (λx=>.str ((λx:Bs=>x) x)) a H:=rfl
theorem TH{H:AB}{n id:Nat}{pre:List Bs}{l:List Bs}{f:Int}(hl:few l)(hpl:pre.length<1000000000)(hf0:f=(pre.length:Int))(hp:hget H id=some (nmO pre))(hd:Ac pre=false):
  AI Tryz.prog 196 [eSs l,.int .i64 f,.fn (.func 198) [] [],.mp id] H n (Bd H n id pre (l.map (λx:Bs=>x))):=by
 subst hf0
 refine Bd.of l196 hp λhf hid=>a196 (AE Tx3_ok (AF ?_))
 have hll:l.length<1000000000:=hl
 simp only[eE,eN,reduceCtorEq,Nat.reduceEqDiff,↓reduceIte,Nat.reduceAdd,V0,c196]
 refine AU (λv:VIx=>⟨[(1,true,.int .i64 pre.length),(2,true,.fn (.func 198) [] []),(3,true,.mp id),(13,true,eSs l),(14,true,.int .i64 l.length),(15,true,.int .i64 v.i)],v.H,v.n⟩) (IIx H n id pre (l.map (λx:Bs=>x))) (λv=>l.length-v.i)
  ⟨0,H,n⟩ rfl ⟨Vi _,V9 _,hf,by rw[WB,Vy];exact hp,BS.refl _,by rw[WB,Vy];exact hd⟩ ?_
 rintro⟨i,H1,n1⟩ hI
 have hi:=hI.hi
 have hn:=hI.hn
 have hfr:=hI.fr
 have hm:=hI.hm
 have hk:=hI.hk
 have htw:=hI.tw
 simp only[V0]at hi hn hfr hm hk htw
 by_cases hlt:i<l.length
 ·have hltm:i<(l.map (λx:Bs=>x)).length:=by rw[V0];exact hlt
  have hg:=V5 hlt
  have hgm:(l.map (λx:Bs=>x))[i]=(λx:Bs=>x) l[i]:=Xr ..
  have e:=AJ (k:=i) (by omega)
  have htk:(l.map (λx:Bs=>x)).take (i+1)=(l.map (λx:Bs=>x)).take i++[(λx:Bs=>x) l[i]]:=by rw[VX,V5 hltm,hgm];rfl
  have hpl2:(pre++(l.map (λx:Bs=>x)).take i).length=pre.length+i:=by rw[Vm,Vt,V0];omega
  have ew:IntKind.wrap .i64 ((pre.length:Int)+(i:Int))=((pre.length+i:Nat):Int):=by rw[Aq (by omega) (by omega)];omega
  have y1:∀k,(n1+k=id)=False:=λk=>Vd (by omega)
  have y2:∀k,(id=n1+k)=False:=λk=>Vd (by omega)
  have hin:=λq=>F6 (pre:=pre) hltm (by rw[hgm];exact q)
  generalize hx:l[i]=x at hg hgm htk hin
  have hfi:=DT (pre++(l.map (λx:Bs=>x)).take i) ((λx:Bs=>x) x)
  cases hno:Br (pre++(l.map (λx:Bs=>x)).take i) ((λx:Bs=>x) x)with
  |some k=>
   have htt:Ac (pre++l.map (λx:Bs=>x))=true:=hin (by
    apply Classical.byContradiction
    intro q
    rw[BF.2 q]at hno;cases hno)
   rw[hno,VL]at hfi
   simp only[eE,eC,eN,Nat.reduceEqDiff,↓reduceIte,Nat.reduceAdd,Nat.reduceLT,xE,V1,Option.isSome_some,isF,V2,V4,V0,V6,Va,Vc,lt_T hlt,hg,Tx3_e,s1,dS_ok,S5,hm,hfi,DB,KT.is,By]
   unfold Ff
   rw[Vk htt]
   refine⟨rfl,⟨nmO (pre++(l.map (λx:Bs=>x)).take i),?_⟩,?_⟩
   ·exact hm
   ·exact hk
  |none=>
   rw[hno,WH]at hfi
   have hms:=KA hno
   rw[hpl2]at hms
   simp only[eE,eC,eN,Nat.reduceEqDiff,↓reduceIte,Nat.reduceAdd,Nat.reduceLT,Int.reduceEq,xE,WL,V1,Option.isSome_none,V2,V4,V0,V6,Va,Vc,lt_T hlt,hg,Tx3_e,s1,dS_ok,S5,hm,hfi,DB,KT.is,By,e,ew,hpl2,hms]
   refine .mk ⟨i+1,hset H1 id (.map (nmEs (pre++(l.map (λx:Bs=>x)).take i++[(λx:Bs=>x) x]) 0) (pre.length+(i+1))),n1⟩ rfl ⟨by simp only[V0];omega,by simp only[];omega,?_,?_,?_,?_⟩ (by simp only[];omega)
   ·exact hfr.hset (m:=n1) (V9 _) (by omega)
   ·simp only[]
    rw[AC,htk,<-VG,nmO,Vm,hpl2];rfl
   ·exact hk.set
   ·simp only[]
    rw[htk,<-VG];exact F7 htw (BF.1 hno)
 have hi':i=l.length:=by omega
 subst hi'
 have hta:(l.map (λx:Bs=>x)).take l.length=l.map (λx:Bs=>x):=VZ (by rw[V0];omega)
 rw[hta]at hm htw
 simp only[eE,eC,eN,Nat.reduceEqDiff,↓reduceIte,lt_F hlt]
 unfold Ff
 rw[htw,Vb (by decide)]
 exact⟨⟨_,rfl,Wk.refl _⟩,hm,hk⟩
def Tx4:Tab:=tadd 200 (s1 dCl any1 λx=>.str ((λx:DClu=>x.nm) x)) tnil
theorem Tx4_ok:AH Tryz.prog Tx4:=AH.tnil.add (q1 λx _=>p200 x)
theorem Tx4_e(a:List AVal)(H:AB):Tx4 200 a H=s1 dCl any1 (λx=>.str ((λx:DClu=>x.nm) x)) a H:=rfl
theorem QY{H:AB}{n id:Nat}{pre:List Bs}{l:List DClu}{f:Int}(hl:few l)(hpl:pre.length<1000000000)(hf0:f=(pre.length:Int))(hp:hget H id=some (nmO pre))(hd:Ac pre=false):
  AI Tryz.prog 199 [eCls l,.int .i64 f,.fn (.func 200) [] [],.mp id] H n (Bd H n id pre (l.map (λx:DClu=>x.nm))):=by
 subst hf0
 refine Bd.of l199 hp λhf hid=>a199 (AE Tx4_ok (AF ?_))
 have hll:l.length<1000000000:=hl
 simp only[eE,eN,reduceCtorEq,Nat.reduceEqDiff,↓reduceIte,Nat.reduceAdd,V0,c199]
 refine AU (λv:VIx=>⟨[(1,true,.int .i64 pre.length),(2,true,.fn (.func 200) [] []),(3,true,.mp id),(13,true,eCls l),(14,true,.int .i64 l.length),(15,true,.int .i64 v.i)],v.H,v.n⟩) (IIx H n id pre (l.map (λx:DClu=>x.nm))) (λv=>l.length-v.i)
  ⟨0,H,n⟩ rfl ⟨Vi _,V9 _,hf,by rw[WB,Vy];exact hp,BS.refl _,by rw[WB,Vy];exact hd⟩ ?_
 rintro⟨i,H1,n1⟩ hI
 have hi:=hI.hi
 have hn:=hI.hn
 have hfr:=hI.fr
 have hm:=hI.hm
 have hk:=hI.hk
 have htw:=hI.tw
 simp only[V0]at hi hn hfr hm hk htw
 by_cases hlt:i<l.length
 ·have hltm:i<(l.map (λx:DClu=>x.nm)).length:=by rw[V0];exact hlt
  have hg:=V5 hlt
  have hgm:(l.map (λx:DClu=>x.nm))[i]=(λx:DClu=>x.nm) l[i]:=Xr ..
  have e:=AJ (k:=i) (by omega)
  have htk:(l.map (λx:DClu=>x.nm)).take (i+1)=(l.map (λx:DClu=>x.nm)).take i++[(λx:DClu=>x.nm) l[i]]:=by rw[VX,V5 hltm,hgm];rfl
  have hpl2:(pre++(l.map (λx:DClu=>x.nm)).take i).length=pre.length+i:=by rw[Vm,Vt,V0];omega
  have ew:IntKind.wrap .i64 ((pre.length:Int)+(i:Int))=((pre.length+i:Nat):Int):=by rw[Aq (by omega) (by omega)];omega
  have y1:∀k,(n1+k=id)=False:=λk=>Vd (by omega)
  have y2:∀k,(id=n1+k)=False:=λk=>Vd (by omega)
  have hin:=λq=>F6 (pre:=pre) hltm (by rw[hgm];exact q)
  generalize hx:l[i]=x at hg hgm htk hin
  have hfi:=DT (pre++(l.map (λx:DClu=>x.nm)).take i) ((λx:DClu=>x.nm) x)
  cases hno:Br (pre++(l.map (λx:DClu=>x.nm)).take i) ((λx:DClu=>x.nm) x)with
  |some k=>
   have htt:Ac (pre++l.map (λx:DClu=>x.nm))=true:=hin (by
    apply Classical.byContradiction
    intro q
    rw[BF.2 q]at hno;cases hno)
   rw[hno,VL]at hfi
   simp only[eE,eC,eN,Nat.reduceEqDiff,↓reduceIte,Nat.reduceAdd,Nat.reduceLT,xE,V1,Option.isSome_some,isF,V2,V4,V0,V6,Va,Vc,lt_T hlt,hg,Tx4_e,s1,J9,Gx,hm,hfi,DB,KT.is,By,fr1 hfr,y1,AK]
   unfold Ff
   rw[Vk htt]
   refine⟨rfl,⟨nmO (pre++(l.map (λx:DClu=>x.nm)).take i),?_⟩,?_⟩
   ·rw[AA _ _ _ _ (by omega)];exact hm
   ·exact hk.new hf (by omega)
  |none=>
   rw[hno,WH]at hfi
   have hms:=KA hno
   rw[hpl2]at hms
   simp only[eE,eC,eN,Nat.reduceEqDiff,↓reduceIte,Nat.reduceAdd,Nat.reduceLT,Int.reduceEq,xE,WL,V1,Option.isSome_none,V2,V4,V0,V6,Va,Vc,lt_T hlt,hg,Tx4_e,s1,J9,Gx,hm,hfi,DB,KT.is,By,fr1 hfr,y1,e,ew,hpl2,hms,AK]
   refine .mk ⟨i+1,hset (hset H1 (n1+3) (.box (Bn x).cells)) id (.map (nmEs (pre++(l.map (λx:DClu=>x.nm)).take i++[(λx:DClu=>x.nm) x]) 0) (pre.length+(i+1))),n1+6⟩ rfl ⟨by simp only[V0];omega,by simp only[];omega,?_,?_,?_,?_⟩ (by simp only[];omega)
   ·exact(hfr.hset (m:=n1+6) (by omega) (by omega)).hset (V9 (n1+6)) (show id<n1+6 by omega)
   ·simp only[]
    rw[AC,htk,<-VG,nmO,Vm,hpl2];rfl
   ·exact(hk.new hf (by omega)).set
   ·simp only[]
    rw[htk,<-VG];exact F7 htw (BF.1 hno)
 have hi':i=l.length:=by omega
 subst hi'
 have hta:(l.map (λx:DClu=>x.nm)).take l.length=l.map (λx:DClu=>x.nm):=VZ (by rw[V0];omega)
 rw[hta]at hm htw
 simp only[eE,eC,eN,Nat.reduceEqDiff,↓reduceIte,lt_F hlt]
 unfold Ff
 rw[htw,Vb (by decide)]
 exact⟨⟨_,rfl,Wk.refl _⟩,hm,hk⟩
def Tx5:Tab:=tadd 204 (s1 dRu any1 λx=>.str ((λx:DRul=>x.nm) x)) tnil
theorem Tx5_ok:AH Tryz.prog Tx5:=AH.tnil.add (q1 λx _=>p204 x)
theorem Tx5_e(a:List AVal)(H:AB):Tx5 204 a H=s1 dRu any1 (λx=>.str ((λx:DRul=>x.nm) x)) a H:=rfl
theorem QZ{H:AB}{n id:Nat}{pre:List Bs}{l:List DRul}{f:Int}(hl:few l)(hpl:pre.length<1000000000)(hf0:f=(pre.length:Int))(hp:hget H id=some (nmO pre))(hd:Ac pre=false):
  AI Tryz.prog 203 [eRus l,.int .i64 f,.fn (.func 204) [] [],.mp id] H n (Bd H n id pre (l.map (λx:DRul=>x.nm))):=by
 subst hf0
 refine Bd.of l203 hp λhf hid=>a203 (AE Tx5_ok (AF ?_))
 have hll:l.length<1000000000:=hl
 simp only[eE,eN,reduceCtorEq,Nat.reduceEqDiff,↓reduceIte,Nat.reduceAdd,V0,c203]
 refine AU (λv:VIx=>⟨[(1,true,.int .i64 pre.length),(2,true,.fn (.func 204) [] []),(3,true,.mp id),(13,true,eRus l),(14,true,.int .i64 l.length),(15,true,.int .i64 v.i)],v.H,v.n⟩) (IIx H n id pre (l.map (λx:DRul=>x.nm))) (λv=>l.length-v.i)
  ⟨0,H,n⟩ rfl ⟨Vi _,V9 _,hf,by rw[WB,Vy];exact hp,BS.refl _,by rw[WB,Vy];exact hd⟩ ?_
 rintro⟨i,H1,n1⟩ hI
 have hi:=hI.hi
 have hn:=hI.hn
 have hfr:=hI.fr
 have hm:=hI.hm
 have hk:=hI.hk
 have htw:=hI.tw
 simp only[V0]at hi hn hfr hm hk htw
 by_cases hlt:i<l.length
 ·have hltm:i<(l.map (λx:DRul=>x.nm)).length:=by rw[V0];exact hlt
  have hg:=V5 hlt
  have hgm:(l.map (λx:DRul=>x.nm))[i]=(λx:DRul=>x.nm) l[i]:=Xr ..
  have e:=AJ (k:=i) (by omega)
  have htk:(l.map (λx:DRul=>x.nm)).take (i+1)=(l.map (λx:DRul=>x.nm)).take i++[(λx:DRul=>x.nm) l[i]]:=by rw[VX,V5 hltm,hgm];rfl
  have hpl2:(pre++(l.map (λx:DRul=>x.nm)).take i).length=pre.length+i:=by rw[Vm,Vt,V0];omega
  have ew:IntKind.wrap .i64 ((pre.length:Int)+(i:Int))=((pre.length+i:Nat):Int):=by rw[Aq (by omega) (by omega)];omega
  have y1:∀k,(n1+k=id)=False:=λk=>Vd (by omega)
  have y2:∀k,(id=n1+k)=False:=λk=>Vd (by omega)
  have hin:=λq=>F6 (pre:=pre) hltm (by rw[hgm];exact q)
  generalize hx:l[i]=x at hg hgm htk hin
  have hfi:=DT (pre++(l.map (λx:DRul=>x.nm)).take i) ((λx:DRul=>x.nm) x)
  cases hno:Br (pre++(l.map (λx:DRul=>x.nm)).take i) ((λx:DRul=>x.nm) x)with
  |some k=>
   have htt:Ac (pre++l.map (λx:DRul=>x.nm))=true:=hin (by
    apply Classical.byContradiction
    intro q
    rw[BF.2 q]at hno;cases hno)
   rw[hno,VL]at hfi
   simp only[eE,eC,eN,Nat.reduceEqDiff,↓reduceIte,Nat.reduceAdd,Nat.reduceLT,xE,V1,Option.isSome_some,isF,V2,V4,V0,V6,Va,Vc,lt_T hlt,hg,Tx5_e,s1,Fc,Dx,hm,hfi,DB,KT.is,By,fr1 hfr,y1,AK]
   unfold Ff
   rw[Vk htt]
   refine⟨rfl,⟨nmO (pre++(l.map (λx:DRul=>x.nm)).take i),?_⟩,?_⟩
   ·rw[AA _ _ _ _ (by omega)];exact hm
   ·exact hk.new hf (by omega)
  |none=>
   rw[hno,WH]at hfi
   have hms:=KA hno
   rw[hpl2]at hms
   simp only[eE,eC,eN,Nat.reduceEqDiff,↓reduceIte,Nat.reduceAdd,Nat.reduceLT,Int.reduceEq,xE,WL,V1,Option.isSome_none,V2,V4,V0,V6,Va,Vc,lt_T hlt,hg,Tx5_e,s1,Fc,Dx,hm,hfi,DB,KT.is,By,fr1 hfr,y1,e,ew,hpl2,hms,AK]
   refine .mk ⟨i+1,hset (hset H1 (n1+3) (.box (BX x).cells)) id (.map (nmEs (pre++(l.map (λx:DRul=>x.nm)).take i++[(λx:DRul=>x.nm) x]) 0) (pre.length+(i+1))),n1+6⟩ rfl ⟨by simp only[V0];omega,by simp only[];omega,?_,?_,?_,?_⟩ (by simp only[];omega)
   ·exact(hfr.hset (m:=n1+6) (by omega) (by omega)).hset (V9 (n1+6)) (show id<n1+6 by omega)
   ·simp only[]
    rw[AC,htk,<-VG,nmO,Vm,hpl2];rfl
   ·exact(hk.new hf (by omega)).set
   ·simp only[]
    rw[htk,<-VG];exact F7 htw (BF.1 hno)
 have hi':i=l.length:=by omega
 subst hi'
 have hta:(l.map (λx:DRul=>x.nm)).take l.length=l.map (λx:DRul=>x.nm):=VZ (by rw[V0];omega)
 rw[hta]at hm htw
 simp only[eE,eC,eN,Nat.reduceEqDiff,↓reduceIte,lt_F hlt]
 unfold Ff
 rw[htw,Vb (by decide)]
 exact⟨⟨_,rfl,Wk.refl _⟩,hm,hk⟩
end Go.AM
namespace Go.AM
open Go.Proofs Go.Lib
def NPost(H:AB)(n:Nat)(r:Option Int):AOut->AB->Nat->Prop:=λo H' n'=>H'=H/\n'=n/\match r with
 |some k=>o= .ret (.int .i64 k)
 |none=>o= .pan (errV 160)
theorem I6{H:AB}{n id:Nat}{l:List Bs}{s:Bs}(hp:hget H id=some (nmO l)):AI Tryz.prog 202 [.mp id,.str s] H n (NPost H n (Br l s)):=by
 refine a202 (AE AH.tnil (AF ?_))
 have hf:=DT l s
 cases hno:Br l s with
 |some k=>
  rw[hno,VL]at hf
  simp only[eE,eC,eN,reduceCtorEq,Nat.reduceEqDiff,↓reduceIte,Nat.reduceAdd,Nat.reduceLT,V8,xE,V1,Option.isSome_some,Va,Vc,c202,hp,hf,DB,KT.is,By]
  exact⟨rfl,rfl,rfl⟩
 |none=>
  rw[hno,WH]at hf
  simp only[eE,eC,eN,reduceCtorEq,Nat.reduceEqDiff,↓reduceIte,Nat.reduceAdd,Nat.reduceLT,Ve,xE,WL,V1,Option.isSome_none,isF,Va,Vc,c202,hp,hf,DB,KT.is,By]
  exact⟨rfl,rfl,rfl⟩
theorem or_nat{a b:Nat}(ha:a<65536)(hb:b<65536):T7 .or .i64 (a:Int) (b:Int)=((a|||b:Nat):Int):=by
 have hab:a|||b<65536:=Nat.or_lt_two_pow (n:=16) ha hb
 have e:∀x:Nat,BitVec.ofInt 64 (x:Int)=BitVec.ofNat 64 x:=λx=>by
  apply BitVec.eq_of_toNat_eq
  simp [BitVec.toNat_ofNat]
 show IntKind.wrap .i64 ((BitVec.ofInt 64 (a:Int)|||BitVec.ofInt 64 (b:Int)).toNat:Int)=_
 rw[e,e,BitVec.toNat_or,BitVec.toNat_ofNat,BitVec.toNat_ofNat,Nat.mod_eq_of_lt (by omega),Nat.mod_eq_of_lt (by omega),Aq (by omega) (by omega)]
theorem TI{j:Nat}(h:j<16):HV .shl .i64 1 (j:Int)=((1<<<j:Nat):Int):=by
 have h2:2^j<65536:=Nat.pow_lt_pow_right (by decide) (show j<16 from h)
 show IntKind.wrap .i64 (1*2^(min (j:Int).toNat 64))=_
 rw[Int.one_mul,V2,Xu (by omega),Nat.shiftLeft_eq,Nat.one_mul]
 have e:((2:Int)^j)=((2^j:Nat):Int):=by rw[Int.natCast_pow];rfl
 rw[e]
 generalize 2^j=p at h2
 exact Aq (by omega) (by omega)
theorem SU{j:Nat}(h:j<16):1<<<j<65536:=by
 rw[Nat.shiftLeft_eq,Nat.one_mul];exact Nat.pow_lt_pow_right (by decide) (show j<16 from h)
def Eg(l:List Bs)(acc:Nat)(ss:List Bs):Option Int:=(Ec l ss).map λk=>((acc|||k.toNat:Nat):Int)
theorem Mi(l:List Bs)(acc:Nat):Eg l acc []=some (acc:Int):=by simp [Eg,Ec]
theorem KN{l:List Bs}{acc:Nat}{s:Bs}{r:List Bs}:Eg l acc (s::r)=match Br l s with
  |none=>none
  |some j=>Eg l (acc|||1<<<j.toNat) r:=by
 unfold Eg
 rw[Hx,Br]
 cases l.findIdx? λx=>decide (x=s)with
 |none=>rfl
 |some i=>
  simp only[VL,V2]
  cases Ec l r with
  |none=>rfl
  |some n=>
   simp only[VL,Option.some.injEq]
   congr 1
   show acc|||(Int.ofNat (Nat.lor (1<<<i) n.toNat)).toNat=_
   rw[Nat.or_assoc];rfl
theorem Qa(l ss:List Bs):Eg l 0 ss=Ec l ss:=by
 unfold Eg
 rw[Nj]
 cases Ab (λs=>l.findIdx? λx=>decide (x=s)) ss with
 |none=>rfl
 |some is=>simp
theorem Qb{H:AB}{n id sid:Nat}{l ss:List Bs}(hl:l.length<=16)(hss:wide ss)(hs:hget H sid=some (.box [.mp id]))(hp:hget H id=some (nmO l)):AI Tryz.prog 206 [eSs ss,.ptr sid 0] H n (NPost H n (Ec l ss)):=by
 refine a206 (AE AH.tnil (AF ?_))
 have hsl:ss.length<1125899906842624:=hss
 rw[<-Qa]
 simp only[eE,eN,reduceCtorEq,Nat.reduceEqDiff,↓reduceIte,Nat.reduceAdd,V0,c206]
 refine AU (λv:Nat×Nat=>⟨[(1,true,.ptr sid 0),(3,true,.int .i64 v.2),(6,true,eSs ss),(7,true,.int .i64 ss.length),(8,true,.int .i64 v.1)],H,n⟩) (λv=>v.1<=ss.length/\v.2<65536/\Eg l 0 ss=Eg l v.2 (ss.drop v.1)) (λv=>ss.length-v.1) (0,0) rfl ⟨Vi _,by decide,rfl⟩ ?_
 rintro⟨i,acc⟩ ⟨hi,hacc,heq⟩
 simp only at hi hacc heq
 by_cases hlt:i<ss.length
 ·have hg:=V5 hlt
  have e:=AJ (k:=i) (by omega)
  rw[VO hlt,KN]at heq
  generalize ss[i]=s at hg heq
  simp only[eE,eC,eN,Nat.reduceEqDiff,↓reduceIte,V1,V2,V4,V0,V6,lt_T hlt,hg,hs]
  refine(I6 hp).mono λo H' n' hq=>?_
  obtain⟨rfl,rfl,hq⟩:=hq
  cases hno:Br l s with
  |none=>
   rw[hno]at hq heq
   subst hq
   simp only at heq
   rw[heq]
   simp only[eE,eN,retK]
   exact⟨rfl,rfl,rfl⟩
  |some k=>
   rw[hno]at hq heq
   subst hq
   simp only at heq
   obtain⟨h0,h1⟩:=P3 hno
   obtain⟨j,rfl⟩:∃j:Nat,k=j:=⟨k.toNat,by omega⟩
   rw[V2]at heq
   simp only[eE,eN,Nat.reduceEqDiff,↓reduceIte,Int.reduceEq,V4,retK,TI (show j<16 by omega),or_nat hacc (SU (show j<16 by omega)),e]
   exact .mk (i+1,acc|||1<<<j) rfl ⟨hlt,Nat.or_lt_two_pow (n:=16) hacc (SU (by omega)),heq⟩ (by simp only[];omega)
 obtain rfl:i=ss.length:=by omega
 rw[Wx,Mi]at heq
 rw[heq]
 simp only[eE,eC,eN,Nat.reduceEqDiff,↓reduceIte,lt_F hlt]
 exact⟨rfl,rfl,rfl⟩
end Go.AM
namespace Go.AM
open Go.Proofs Go.Lib
abbrev Mj:List AVal:=[.str [],.int .i64 0,.int .i64 0,.int .i64 0,.int .i64 0,.sl .nil [],.sl .nil [],.sl .nil [],.sl .nil [],.sl .nil []]
theorem d_rn{H:AB}{n i0 i1:Nat}:Bv Tryz.prog 191 [.ptr i0 0,.ptr i1 0] .nilifc H n (λH' n'=>H'=H/\n'=n):=by
 refine a191 (AE AH.tnil (AF ?_))
 simp only[eE,eC,eN,reduceCtorEq,Nat.reduceEqDiff,↓reduceIte,Nat.reduceAdd,V8,xE,c191]
theorem d_rp{H:AB}{n:Nat}{xs:List AVal}{y:AVal}{p:Int}(h0:hget H 1=some (.box xs))(hx:xs.length=10)(h1:hget H 2=some (.box [y])):
  Bv Tryz.prog 191 [.ptr 1 0,.ptr 2 0] (errV p) H n (λH' n'=>hget H' 1=some (.box Mj)/\hget H' 2=some (.box [.int .i64 p])):=by
 refine a191 (AE AH.tnil (AF ?_))
 obtain⟨a,b,c,d,e,f,g,h,i,j,rfl⟩:∃a b c d e f g h i j,xs=[a,b,c,d,e,f,g,h,i,j]:=by
  match xs,hx with
  |[a,b,c,d,e,f,g,h,i,j],_=>exact⟨a,b,c,d,e,f,g,h,i,j,rfl⟩
 simp only[eE,eC,eN,reduceCtorEq,Nat.reduceEqDiff,↓reduceIte,Nat.reduceAdd,xE,c191,h0,h1]
end Go.AM
namespace Go.AM
open Go.Proofs Go.Lib
def EN(d:Dcl):AVal:=match resD d with
 | .error e=>.tup [encD dcl0,.int .i64 e]
 | .ok x=>.tup [encD x,.int .i64 0]
abbrev Be(d:Dcl)(vc vr:AVal):List AVal:=[.str d.nm,.int .i64 d.ver,.int .i64 d.sh,.int .i64 d.w,.int .i64 d.h,eIs d.holes,eSys d.syms,eRgs d.regs,vc,vr]
def RR(d:Dcl):AOut->AB->Nat->Prop:=λo H' n'=>match resD d with
 | .error e=>∃v,o= .ret v/\Wk v (.tup [encD dcl0,.int .i64 e])
 | .ok x=>∃vc vr,o= .ret (.tup [.agg (Be d vc vr),.int .i64 0])/\LV 6 vc H' (x.clus.map Bn)/\LV 12 vr H' (x.ruls.map BX)/\(∀i a b c e j f g h k,vc= .ref i a b c e->vr= .ref j f g h k->i≠j)
def Tnr:Tab:=tadd 197 (λa _=>match a with
 |[]=>(True,eSs FZ)
 |_=>(False,.tup [])) tnil
theorem SV:AH Tryz.prog Tnr:=AH.tnil.add λargs H n h=>by
 cases args with
 |nil=>exact p197.quiet H n
 |cons _ _=>exact h.elim
theorem Tnr_g(H:AB):Tnr 197 [] H=(True,eSs FZ):=rfl
abbrev rsR:List RC:=[.c 2 10 true,.c 3 1 false]
abbrev envR:List (Nat×Bool×AVal):=[(1,true,.ptr 0 0),(2,true,.ptr 1 0),(3,true,.ptr 2 0)]
abbrev argsR:List AVal:=[.ptr 1 0,.ptr 2 0]
def afst:ACode->ACode
 | .seq a _=>a
 |c=>c
def asnd:ACode->ACode
 | .seq _ b=>b
 |c=>c
def KO:Nat->ACode->ACode
 |0,c=>c
 |k+1,c=>KO k (asnd c)
abbrev QR(d:Dcl):AExit->AS->Prop:=Ro Tryz.prog 191 argsR rsR envR (RR d)
theorem ten{xs:List AVal}(h:xs.length=10):∃a b c d e f g h i j,xs=[a,b,c,d,e,f,g,h,i,j]:=by
 match xs,h with
 |[a,b,c,d,e,f,g,h,i,j],_=>exact⟨a,b,c,d,e,f,g,h,i,j,rfl⟩
theorem CC{d:Dcl}{H:AB}{m:Nat}{xs:List AVal}{y:AVal}{p:Int}(h1:hget H 1=some (.box xs))(hx:xs.length=10)(h2:hget H 2=some (.box [y]))(hr:resD d= .error p):QR d (.pan (errV p)) ⟨[],H,m⟩:=by
 refine Bv.mono (d_rp h1 hx h2) ?_
 rintro H2 n2 ⟨k1,k2⟩
 unfold RcOf
 simp only[eE,Nat.reduceEqDiff,↓reduceIte,Nat.reduceAdd,CN,k1,k2]
 unfold RR
 rw[hr]
 exact⟨_,rfl,Wk.tup (.cons (Wk.agg (.cons (Wk.refl _) (.cons (Wk.refl _) (.cons (Wk.refl _) (.cons (Wk.refl _) (.cons (Wk.refl _) (.cons (Wk.sl (.inr rfl)) (.cons (Wk.sl (.inr rfl)) (.cons (Wk.sl (.inr rfl)) (.cons (Wk.sl (.inr rfl)) (.cons (Wk.sl (.inr rfl)) .nil))))))))))) (.cons (Wk.refl _) .nil))⟩
theorem Nu{d:Dcl}{env:List (Nat×Bool×AVal)}{H:AB}{m:Nat}{xs:List AVal}{y:AVal}(h1:hget H 1=some (.box xs))(hx:xs.length=10)(h2:hget H 2=some (.box [y]))(hr:RR d (.ret (.tup [.agg xs,y])) H m):QR d .ret ⟨env,H,m⟩:=by
 refine Bv.mono d_rn ?_
 rintro H2 n2 ⟨rfl,rfl⟩
 obtain⟨a,b,c,d,e,f,g,h,i,j,rfl⟩:=ten hx
 unfold RcOf
 simp only[eE,Nat.reduceEqDiff,↓reduceIte,Nat.reduceAdd,CN,h1,h2]
 exact hr
end Go.AM
namespace Go.AM
open Go.Proofs Go.Lib
structure NM(d:Dcl)(vc vr:AVal)(H:AB):Prop where
 h0:hget H 0=some (.box (Be d vc vr))
 h1:hget H 1=some (.box Mj)
 h2:hget H 2=some (.box [.int .i64 0])
 h5:hget H 5=some (nmO (d.syms.map λx:DSym=>x.nm))
 h7:hget H 7=some (.box [.mp 5])
 h12:hget H 12=some (nmO (Fp d))
 h18:hget H 18=some (nmO (d.clus.map λx:DClu=>x.nm))
def notM(i:Nat):Prop:=i≠0/\i≠1/\i≠2/\i≠5/\i≠7/\i≠12/\i≠18
theorem NM.set{d:Dcl}{vc vr:AVal}{H:AB}{i:Nat}{ob:AObj}(h:NM d vc vr H)(hi:notM i):NM d vc vr (hset H i ob):=by
 obtain⟨a,b,c,e,f,g,k⟩:=hi
 exact⟨by rw[AA _ _ _ _ a];exact h.h0,by rw[AA _ _ _ _ b];exact h.h1,by rw[AA _ _ _ _ c];exact h.h2,by rw[AA _ _ _ _ e];exact h.h5,by rw[AA _ _ _ _ f];exact h.h7,by rw[AA _ _ _ _ g];exact h.h12,by rw[AA _ _ _ _ k];exact h.h18⟩
theorem NM.put{d:Dcl}{vc vr vc' vr':AVal}{H:AB}(h:NM d vc vr H):NM d vc' vr' (hset H 0 (.box (Be d vc' vr'))):=
 ⟨AC ..,by rw[AA _ _ _ _ (by decide)];exact h.h1,by rw[AA _ _ _ _ (by decide)];exact h.h2,by rw[AA _ _ _ _ (by decide)];exact h.h5,by rw[AA _ _ _ _ (by decide)];exact h.h7,by rw[AA _ _ _ _ (by decide)];exact h.h12,by rw[AA _ _ _ _ (by decide)];exact h.h18⟩
theorem NM.ne{d:Dcl}{vc vr:AVal}{H:AB}{id e:Nat}{A:List AVal}(hnm:NM d vc vr H)(ho:hget H id=some (.arr e A)):notM id:=by
 refine⟨?_,?_,?_,?_,?_,?_,?_⟩<;>rintro rfl
 ·rw[hnm.h0]at ho;cases ho
 ·rw[hnm.h1]at ho;cases ho
 ·rw[hnm.h2]at ho;cases ho
 ·rw[hnm.h5]at ho;cases ho
 ·rw[hnm.h7]at ho;cases ho
 ·rw[hnm.h12]at ho;cases ho
 ·rw[hnm.h18]at ho;cases ho
theorem KP{i:Nat}(h:21<=i):notM i:=⟨by omega,by omega,by omega,by omega,by omega,by omega,by omega⟩
theorem Dd{α β:Type}(f:α->Option β)(x:α)(r:List α):Ab f (x::r)=(match f x with
  |some y=>(Ab f r).map λs=>y::s
  |none=>none):=by
 simp only[Ab]
 cases f x with
 |none=>rfl
 |some y=>cases Ab f r<;>rfl
structure VRl where
 i:Nat
 dn:List DRul
 H:AB
structure IRl(d:Dcl)(cs:List DClu)(vc vr:AVal)(n:Nat)(v:VRl):Prop where
 hi:v.i<=d.ruls.length
 ln:v.dn.length=v.i
 fr:AN v.H n
 nm:NM d vc vr v.H
 lc:LV 6 vc v.H (cs.map Bn)
 lv:LV 12 vr v.H ((v.dn++d.ruls.drop v.i).map BX)
 eq:Ab (BG d) d.ruls=(Ab (BG d) (d.ruls.drop v.i)).map λr=>v.dn++r
section
variable {a b c d e f g h i j k l v:AVal}
theorem apR3(hv:v.cells=[v]):Cg (.agg [a,b,c,d,e,f,g,h,i,j,k,l]) 3 1 12 v=(True,.agg [a,b,c,v,e,f,g,h,i,j,k,l]):=by
 rw[Dh (by decide)];simp [splice,hv]
theorem apR6(hv:v.cells=[v]):Cg (.agg [a,b,c,d,e,f,g,h,i,j,k,l]) 6 1 12 v=(True,.agg [a,b,c,d,e,f,v,h,i,j,k,l]):=by
 rw[Dh (by decide)];simp [splice,hv]
theorem apR7(hv:v.cells=[v]):Cg (.agg [a,b,c,d,e,f,g,h,i,j,k,l]) 7 1 12 v=(True,.agg [a,b,c,d,e,f,g,v,i,j,k,l]):=by
 rw[Dh (by decide)];simp [splice,hv]
theorem Qd(hv:v.cells=[v]):Cg (.agg [a,b,c,d,e,f,g,h,i,j,k,l]) 11 1 12 v=(True,.agg [a,b,c,d,e,f,g,h,i,j,k,v]):=by
 rw[Dh (by decide)];simp [splice,hv]
end
theorem LV.set{e:Nat}{v:AVal}{H:AB}{l:List AVal}{id:Nat}{ob:AObj}(h:LV e v H l)(hne:∀a b c x,v≠ .ref id a b c x):LV e v (hset H id ob) l:=by
 rcases h with h|⟨h0,i,cap,rest,rfl,ho,hc⟩
 ·exact .inl h
 ·exact .inr ⟨h0,i,cap,rest,rfl,by rw[AA _ _ _ _ (λq=>hne _ _ _ _ (by rw[q]))];exact ho,hc⟩
theorem LV.no{e:Nat}{H:AB}{l:List AVal}{i a b c x:Nat}(h:LV e (.ref i a b c x) H l)(hn:∀e' A,hget H i≠some (.arr e' A)):False:=by
 rcases h with⟨-,t,h,-⟩|⟨-,id,cap,rest,h,ho,-⟩
 ·cases h
 ·cases h;exact hn _ _ ho
theorem SW(d:Dcl)(hd:FewD d)(h16:¬16<d.syms.length)(ht1:Ac (d.syms.map λx:DSym=>x.nm)=false)(ht2:Ac (Fp d)=false)(ht3:Ac (d.clus.map λx:DClu=>x.nm)=false){cs:List DClu}(hcs:Ab (Cs d) d.clus=some cs)(ht4:Ac (d.ruls.map λx:DRul=>x.nm)=false)
  {vc vr:AVal} {H:AB} {n:Nat} (hf:AN H n) (hm:NM d vc vr H) (hvc:LV 6 vc H (cs.map Bn)) (hvr:LV 12 vr H (d.ruls.map BX)) (hdj:∀i a b c e j f g h k,vc= .ref i a b c e->vr= .ref j f g h k->i≠j):
  evK Tryz.prog Tnr (asnd (afst (KO 9 c145))) [.c (asnd (KO 9 c145))] (QR d) ⟨[(1,true,.ptr 0 0),(2,true,.ptr 1 0),(3,true,.ptr 2 0),(5,true,.mp 12),(6,true,.mp 18),(8,true,.fn (.func 206) [] [.ptr 7 0]),(66,true,.int .i64 d.ruls.length),(67,true,.int .i64 0)],H,n⟩:=by
 have hrl:d.ruls.length<1000000000:=hd.ru
 have hbase:∀x,Ab (BG d) d.ruls=x->resD d=(match x with|none=>.error 160|some rs=>.ok {d with clus:=cs,ruls:=rs}):=λx hx=>by
  unfold resD
  rw[Vb h16,ht1,ht2,ht3,hcs]
  simp only[Vo,Vv]
  rw[ht4,hx]
  rfl
 simp only[eE,KO,asnd,afst,c145]
 refine AU (λv:VRl=>⟨[(1,true,.ptr 0 0),(2,true,.ptr 1 0),(3,true,.ptr 2 0),(5,true,.mp 12),(6,true,.mp 18),(8,true,.fn (.func 206) [] [.ptr 7 0]),(66,true,.int .i64 d.ruls.length),(67,true,.int .i64 v.i)],v.H,n⟩) (IRl d cs vc vr n) (λv=>d.ruls.length-v.i)
  ⟨0,[],H⟩ rfl ⟨Vi _,rfl,hf,hm,hvc,hvr,by rw[List.drop_zero];cases Ab (BG d) d.ruls<;>rfl⟩ ?_
 rintro⟨i,dn,H1⟩ hI
 have hi:=hI.hi
 have hln:=hI.ln
 have hfr:=hI.fr
 have hnm:=hI.nm
 have hlc:=hI.lc
 have hlv:=hI.lv
 have heq:=hI.eq
 clear hI hf hm hvc hvr
 simp only at hi hln hfr hnm hlc hlv heq
 by_cases hlt:i<d.ruls.length
 case neg=>
  obtain rfl:i=d.ruls.length:=by omega
  rw[Wx]at heq hlv
  rw[Vy]at hlv
  have hr:=hbase _ heq
  simp only[Ab,VL,Vy]at hr
  simp only[eE,eC,eN,Nat.reduceEqDiff,↓reduceIte,Nat.reduceAdd,lt_F hlt,hnm.h0,Be,hnm.h1,hnm.h2]
  refine Nu (xs:=Be d vc vr) (y:=.int .i64 0) ?_ rfl ?_ ?_
  ·simp only[AD];rfl
  ·simp only[AD];rfl
  unfold RR
  rw[hr]
  have hn1:∀a b c x,vc≠ .ref 1 a b c x/\vc≠ .ref 2 a b c x/\vr≠ .ref 1 a b c x/\vr≠ .ref 2 a b c x:=by
   intro a b c x
   refine⟨?_,?_,?_,?_⟩<;>rintro rfl
   ·exact hlc.no (by rw[hnm.h1];simp)
   ·exact hlc.no (by rw[hnm.h2];simp)
   ·exact hlv.no (by rw[hnm.h1];simp)
   ·exact hlv.no (by rw[hnm.h2];simp)
  exact⟨vc,vr,rfl,(hlc.set λa b c x=>(hn1 a b c x).1).set λa b c x=>(hn1 a b c x).2.1,(hlv.set λa b c x=>(hn1 a b c x).2.2.1).set λa b c x=>(hn1 a b c x).2.2.2,hdj⟩
 have hrx:=(hd.rus _ (Vn hlt))
 rw[VO hlt]at heq hlv
 rw[Dd]at heq
 generalize d.ruls[i]=r at heq hlv hrx
 have hll:((dn++r::d.ruls.drop (i+1)).map BX).length=d.ruls.length:=by simp;omega
 rcases hlv with⟨h0,-⟩|⟨-,id,cap,rest,hvr,ho,hcr⟩
 ·simp at h0
 rw[hll]at hvr hcr
 subst hvr
 have e:=AJ (k:=i) (by omega)
 have hid:id<n:=hfr.lt ho
 have hne:=hnm.ne ho
 have h0:=hnm.h0
 have hgi:((dn++r::d.ruls.drop (i+1)).map BX++rest)[i]?=some (BX r):=by
  rw[Vl,VG,W4 (by simp;omega)]
  simp [hln]
 have hil:i<((dn++r::d.ruls.drop (i+1)).map BX++rest).length:=by rw[Vm,hll];omega
 have hse:∀r':DRul,((dn++r::d.ruls.drop (i+1)).map BX++rest).set i (BX r')=((dn++[r'])++d.ruls.drop (i+1)).map BX++rest:=λr'=>by
  rw[Vl,VG,List.set_append_right _ _ (by simp;omega)]
  simp [hln]
 generalize hA:(dn++r::d.ruls.drop (i+1)).map BX++rest=A at ho hgi hil hse
 have hls:∀x,(i<(A.set i x).length)=True:=λx=>V3 (by rw[WI];exact hil)
 have hgs:∀x,(A.set i x)[i]?=some x:=λx=>List.getElem?_set_self hil
 have hss:∀x y,(A.set i x).set i y=A.set i y:=λx y=>List.set_set ..
 have z0':(id=0)=False:=Vd hne.1
 have z5':(id=5)=False:=Vd hne.2.2.2.1
 have z7':(id=7)=False:=Vd hne.2.2.2.2.1
 have z12':(id=12)=False:=Vd hne.2.2.2.2.2.1
 have z18':(id=18)=False:=Vd hne.2.2.2.2.2.2
 have h7:=hnm.h7
 have h5:=hnm.h5
 have hbad:BG d r=none->resD d= .error 160:=λq=>by
  rw[q]at heq
  exact hbase _ heq
 have hnv:∀ob,NM d vc (.ref id 12 0 d.ruls.length cap) (hset H1 id ob):=λob=>hnm.set hne
 have hvn:∀a b c x,vc≠ .ref id a b c x:=λa b c x q=>hdj _ _ _ _ _ _ _ _ _ _ q rfl rfl
 have fin:∀(F a b c:Int),BG d r=some {r with fam:=F,set:=a,oth:=b,clue:=c}->lpN (λv:VRl=>⟨[(1,true,.ptr 0 0),(2,true,.ptr 1 0),(3,true,.ptr 2 0),(5,true,.mp 12),(6,true,.mp 18),(8,true,.fn (.func 206) [] [.ptr 7 0]),(66,true,.int .i64 d.ruls.length),(67,true,.int .i64 v.i)],v.H,n⟩) (IRl d cs vc (.ref id 12 0 d.ruls.length cap) n) (λv=>d.ruls.length-v.i) ⟨i,dn,H1⟩
   ⟨[(1,true,.ptr 0 0),(2,true,.ptr 1 0),(3,true,.ptr 2 0),(5,true,.mp 12),(6,true,.mp 18),(8,true,.fn (.func 206) [] [.ptr 7 0]),(66,true,.int .i64 d.ruls.length),(67,true,.int .i64 ((i+1:Nat):Int))],hset H1 id (.arr 12 (A.set i (.agg [.str r.nm,.str r.on,.int .i64 r.kind,.int .i64 F,eSs r.ns,eSs r.os,.int .i64 a,.int .i64 b,.int .i64 r.op,.int .i64 r.n,.str r.byN,.int .i64 c]))),n⟩:=λF a b c hrr=>by
  rw[hrr]at heq
  have hse2:=hse {r with fam:=F,set:=a,oth:=b,clue:=c}
  refine .mk ⟨i+1,dn++[{r with fam:=F,set:=a,oth:=b,clue:=c}],hset H1 id (.arr 12 (A.set i (BX {r with fam:=F,set:=a,oth:=b,clue:=c})))⟩ rfl ⟨hlt,by simp [hln],hfr.hset (V9 _) hid,hnv _,hlc.set hvn,.inr ⟨by simp,id,cap,rest,?_,?_,?_⟩,?_⟩ (by simp only[];omega)
  ·simp only[V0,Vm,Vq,W8,Wf,hln]
   congr 1;omega
  ·simp only[]
   rw[AC,hse2]
  ·simp only[V0,Vm,Vq,W8,Wf,hln]
   omega
  ·simp only[]
   rw[heq]
   cases Ab (BG d) (d.ruls.drop (i+1))<;>simp
 by_cases hon:r.on=[]
 ·have hb:scmp .neq r.on []=false:=by rw[DU,hon];rfl
  simp only[eE,eC,eN,eX,reduceCtorEq,Nat.reduceEqDiff,↓reduceIte,Nat.reduceAdd,Nat.reduceLeDiff,Nat.reduceLT,Nat.reduceMod,Nat.reduceSub,Nat.reduceDiv,V1,V2,V4,atN,atK,E9,lt_T hlt,h0,Be,ho,hgi,V3 hil,addr,V3 hid,hls,hgs,hss,BX,DR,apR3,Qd,AK,hb]
  refine(Qb (by rw[V0];omega) hrx.1 (hnv _).h7 (hnv _).h5).mono λo H' n' hq=>?_
  obtain⟨rfl,rfl,hq⟩:=hq
  cases hs1:Ec (d.syms.map λx:DSym=>x.nm) r.ns with
  |none=>
   rw[hs1]at hq
   subst hq
   simp only[eE,eN,Do]
   exact CC (hnv _).h1 rfl (hnv _).h2 (hbad (by unfold BG;rw[Vk hon,hs1]))
  |some a=>
   rw[hs1]at hq
   subst hq
   simp only[eE,eC,eX,Nat.reduceEqDiff,↓reduceIte,Nat.reduceLeDiff,Nat.reduceMod,Nat.reduceSub,Nat.reduceDiv,Do]
   refine(Qb (by rw[V0];omega) hrx.2 (hnv _).h7 (hnv _).h5).mono λo H' n' hq=>?_
   obtain⟨rfl,rfl,hq⟩:=hq
   cases hs2:Ec (d.syms.map λx:DSym=>x.nm) r.os with
   |none=>
    rw[hs2]at hq
    subst hq
    simp only[eE,eN,Do]
    exact CC (hnv _).h1 rfl (hnv _).h2 (hbad (by unfold BG;rw[Vk hon,hs1,hs2]))
   |some b=>
    rw[hs2]at hq
    subst hq
    by_cases hby:r.byN=[]
    ·have hb2:scmp .neq r.byN []=false:=by rw[DU,hby];rfl
     simp only[eE,eC,eN,eX,Nat.reduceEqDiff,↓reduceIte,Nat.reduceAdd,Nat.reduceLeDiff,Int.reduceEq,Nat.reduceSub,Nat.reduceDiv,V1,Do,hb2,Hz,hls,hgs,hss,apR6,apR7,AK,e]
     exact fin 0 a b (-1) (by unfold BG;rw[Vk hon,hs1,hs2,Vk hby])
    ·have hb2:scmp .neq r.byN []=true:=by rw[DU,Bu hby];rfl
     simp only[eE,eC,eN,eX,Nat.reduceEqDiff,↓reduceIte,Nat.reduceAdd,Nat.reduceLeDiff,Nat.reduceSub,Nat.reduceDiv,V1,Do,hb2,Hz,hls,hgs,hss,apR6,apR7,AK]
     refine(I6 (hnv _).h18).mono λo H' n' hq=>?_
     obtain⟨rfl,rfl,hq⟩:=hq
     cases hnb:Br (d.clus.map λx:DClu=>x.nm) r.byN with
     |none=>
      rw[hnb]at hq
      subst hq
      simp only[eE,eN,retK]
      exact CC (hnv _).h1 rfl (hnv _).h2 (hbad (by unfold BG;rw[Vk hon,hs1,hs2,Vb hby,hnb]))
     |some c=>
      rw[hnb]at hq
      subst hq
      simp only[eE,eN,Nat.reduceEqDiff,↓reduceIte,Int.reduceEq,V1,retK,hls,hgs,hss,Qd,AK,e]
      exact fin 0 a b c (by unfold BG;rw[Vk hon,hs1,hs2,Vb hby,hnb])
 ·have hb:scmp .neq r.on []=true:=by rw[DU,Bu hon];rfl
  simp only[eE,eC,eN,Nat.reduceEqDiff,↓reduceIte,Nat.reduceAdd,Nat.reduceLeDiff,V1,V2,V4,lt_T hlt,h0,Be,ho,hgi,V3 hil,hls,hgs,hss,BX,DR,apR3,Qd,AK,hb]
  refine(I6 (hnv _).h12).mono λo H' n' hq=>?_
  obtain⟨rfl,rfl,hq⟩:=hq
  cases hno:Br (Fp d) r.on with
  |none=>
   rw[hno]at hq
   subst hq
   simp only[eE,eN,retK]
   exact CC (hnv _).h1 rfl (hnv _).h2 (hbad (by unfold BG;rw[Vb hon,hno]))
  |some F=>
   rw[hno]at hq
   subst hq
   simp only[eE,eN,eX,reduceCtorEq,Nat.reduceEqDiff,↓reduceIte,Nat.reduceAdd,Nat.reduceLeDiff,Nat.reduceLT,Nat.reduceMod,Nat.reduceSub,Nat.reduceDiv,V1,atN,atK,E9,retK,addr,V3 hid,hls,hgs,hss,apR3,AK]
   refine(Qb (by rw[V0];omega) hrx.1 (hnv _).h7 (hnv _).h5).mono λo H' n' hq=>?_
   obtain⟨rfl,rfl,hq⟩:=hq
   cases hs1:Ec (d.syms.map λx:DSym=>x.nm) r.ns with
   |none=>
    rw[hs1]at hq
    subst hq
    simp only[eE,eN,Do]
    exact CC (hnv _).h1 rfl (hnv _).h2 (hbad (by unfold BG;rw[Vb hon,hno,hs1]))
   |some a=>
    rw[hs1]at hq
    subst hq
    simp only[eE,eC,eX,Nat.reduceEqDiff,↓reduceIte,Nat.reduceLeDiff,Nat.reduceMod,Nat.reduceSub,Nat.reduceDiv,Do]
    refine(Qb (by rw[V0];omega) hrx.2 (hnv _).h7 (hnv _).h5).mono λo H' n' hq=>?_
    obtain⟨rfl,rfl,hq⟩:=hq
    cases hs2:Ec (d.syms.map λx:DSym=>x.nm) r.os with
    |none=>
     rw[hs2]at hq
     subst hq
     simp only[eE,eN,Do]
     exact CC (hnv _).h1 rfl (hnv _).h2 (hbad (by unfold BG;rw[Vb hon,hno,hs1,hs2]))
    |some b=>
     rw[hs2]at hq
     subst hq
     by_cases hby:r.byN=[]
     ·have hb2:scmp .neq r.byN []=false:=by rw[DU,hby];rfl
      simp only[eE,eC,eN,eX,Nat.reduceEqDiff,↓reduceIte,Nat.reduceAdd,Nat.reduceLeDiff,Int.reduceEq,Nat.reduceSub,Nat.reduceDiv,V1,Do,hb2,Hz,hls,hgs,hss,apR6,apR7,AK,e]
      exact fin F a b (-1) (by unfold BG;rw[Vb hon,hno,hs1,hs2,Vk hby])
     ·have hb2:scmp .neq r.byN []=true:=by rw[DU,Bu hby];rfl
      simp only[eE,eC,eN,eX,Nat.reduceEqDiff,↓reduceIte,Nat.reduceAdd,Nat.reduceLeDiff,Nat.reduceSub,Nat.reduceDiv,V1,Do,hb2,Hz,hls,hgs,hss,apR6,apR7,AK]
      refine(I6 (hnv _).h18).mono λo H' n' hq=>?_
      obtain⟨rfl,rfl,hq⟩:=hq
      cases hnb:Br (d.clus.map λx:DClu=>x.nm) r.byN with
      |none=>
       rw[hnb]at hq
       subst hq
       simp only[eE,eN,retK]
       exact CC (hnv _).h1 rfl (hnv _).h2 (hbad (by unfold BG;rw[Vb hon,hno,hs1,hs2,Vb hby,hnb]))
      |some c=>
       rw[hnb]at hq
       subst hq
       simp only[eE,eN,Nat.reduceEqDiff,↓reduceIte,Int.reduceEq,V1,retK,hls,hgs,hss,Qd,AK,e]
       exact fin F a b c (by unfold BG;rw[Vb hon,hno,hs1,hs2,Vb hby,hnb])
end Go.AM
namespace Go.AM
open Go.Proofs Go.Lib
structure VCl where
 i:Nat
 dn:List DClu
 H:AB
structure ICl(d:Dcl)(vc:AVal)(n:Nat)(v:VCl):Prop where
 hi:v.i<=d.clus.length
 ln:v.dn.length=v.i
 fr:AN v.H n
 nm:NM d vc (eRus d.ruls) v.H
 lv:LV 6 vc v.H ((v.dn++d.clus.drop v.i).map Bn)
 eq:Ab (Cs d) d.clus=(Ab (Cs d) (d.clus.drop v.i)).map λr=>v.dn++r
theorem apS2{a b c d e f v:AVal}(h:v.cells=[v]):Cg (.agg [a,b,c,d,e,f]) 2 1 6 v=(True,.agg [a,b,v,d,e,f]):=by
 rw[Dh (by decide)];simp [splice,h]
theorem SX(d:Dcl)(hd:FewD d)(h16:¬16<d.syms.length)(ht1:Ac (d.syms.map λx:DSym=>x.nm)=false)(ht2:Ac (Fp d)=false)(ht3:Ac (d.clus.map λx:DClu=>x.nm)=false)
  {vc:AVal} {H:AB} {n:Nat} {ml:Int} (hml:ml=(d.clus.length:Int)) (hn:21<=n) (hf:AN H n) (hm:NM d vc (eRus d.ruls) H) (hv:LV 6 vc H (d.clus.map Bn)):
  evK Tryz.prog Tnr (asnd (afst (KO 5 c145))) [.c (asnd (KO 5 c145))] (QR d) ⟨[(1,true,.ptr 0 0),(2,true,.ptr 1 0),(3,true,.ptr 2 0),(4,true,.ptr 7 0),(5,true,.mp 12),(6,true,.mp 18),(37,true,.int .i64 ml),(38,true,.int .i64 0)],H,n⟩:=by
 subst hml
 have hcl:d.clus.length<1000000000:=hd.cl
 simp only[eE,KO,asnd,afst,c145]
 refine AU (λv:VCl=>⟨[(1,true,.ptr 0 0),(2,true,.ptr 1 0),(3,true,.ptr 2 0),(4,true,.ptr 7 0),(5,true,.mp 12),(6,true,.mp 18),(37,true,.int .i64 d.clus.length),(38,true,.int .i64 v.i)],v.H,n⟩) (ICl d vc n) (λv=>d.clus.length-v.i)
  ⟨0,[],H⟩ rfl ⟨Vi _,rfl,hf,hm,hv,by rw[List.drop_zero];cases Ab (Cs d) d.clus<;>rfl⟩ ?_
 rintro⟨i,dn,H1⟩ hI
 have hi:=hI.hi
 have hln:=hI.ln
 have hfr:=hI.fr
 have hnm:=hI.nm
 have hlv:=hI.lv
 have heq:=hI.eq
 simp only at hi hln hfr hnm hlv heq
 by_cases hlt:i<d.clus.length
 ·rw[VO hlt]at heq hlv
  rw[Dd]at heq
  generalize d.clus[i]=c at heq hlv
  have hll:((dn++c::d.clus.drop (i+1)).map Bn).length=d.clus.length:=by simp;omega
  rcases hlv with⟨h0,-⟩|⟨-,id,cap,rest,hvc,ho,hcr⟩
  ·simp at h0
  rw[hll]at hvc hcr
  subst hvc
  have e:=AJ (k:=i) (by omega)
  have hid:id<n:=hfr.lt ho
  have h0:=hnm.h0
  have hgi:((dn++c::d.clus.drop (i+1)).map Bn++rest)[i]?=some (.agg [.str c.nm,.str c.on,.int .i64 c.fam,.int .i64 c.ty,.int .i64 c.lo,.int .i64 c.hi]):=by
   rw[Vl,VG,W4 (by simp;omega)]
   simp [hln]
  have hil:(i<((dn++c::d.clus.drop (i+1)).map Bn++rest).length)=True:=V3 (by rw[Vm,hll];omega)
  have hse:∀c':DClu,((dn++c::d.clus.drop (i+1)).map Bn++rest).set i (Bn c')=((dn++[c'])++d.clus.drop (i+1)).map Bn++rest:=λc'=>by
   rw[Vl,VG,List.set_append_right _ _ (by simp;omega)]
   simp [hln]
  have hne:=hnm.ne ho
  generalize hA:(dn++c::d.clus.drop (i+1)).map Bn++rest=A at ho hgi hil hse
  simp only[eE,eC,eN,eX,reduceCtorEq,Nat.reduceEqDiff,↓reduceIte,Nat.reduceAdd,Nat.reduceLeDiff,Nat.reduceLT,Nat.reduceMod,Nat.reduceSub,Nat.reduceDiv,V1,V2,V4,atN,atK,E9,lt_T hlt,h0,Be,ho,hgi,hil,addr,V3 hid]
  refine(I6 hnm.h12).mono λo H' n' hq=>?_
  obtain⟨rfl,rfl,hq⟩:=hq
  cases hno:Br (Fp d) c.on with
  |none=>
   rw[hno]at hq
   subst hq
   have hrc:Cs d c=none:=by unfold Cs;rw[hno];rfl
   rw[hrc]at heq
   have hr:resD d= .error 160:=by unfold resD;rw[Vb h16,ht1,ht2,ht3,heq];rfl
   simp only[eE,eN,Do]
   exact CC hnm.h1 rfl hnm.h2 hr
  |some k=>
   rw[hno]at hq
   subst hq
   have hrc:Cs d c=some {c with fam:=k}:=by unfold Cs;rw[hno];rfl
   rw[hrc]at heq
   have hs2:=hse {c with fam:=k}
   simp only[eE,eC,eN,eX,Nat.reduceEqDiff,↓reduceIte,Nat.reduceLeDiff,Int.reduceEq,Nat.reduceSub,Nat.reduceDiv,V1,V2,V4,Do,Hz,ho,hgi,hil,apS2 (v:=.int .i64 k) rfl,e]
   refine⟨by omega,.mk ⟨i+1,dn++[{c with fam:=k}],hset H' id (.arr 6 (A.set i (Bn {c with fam:=k})))⟩ rfl ⟨hlt,by simp [hln],hfr.hset (V9 _) hid,hnm.set hne,.inr ⟨by simp,id,cap,rest,?_,?_,?_⟩,?_⟩ (by simp only[];omega)⟩
   ·simp only[V0,Vm,Vq,W8,Wf,hln]
    congr 1;omega
   ·simp only[]
    rw[AC,hs2]
   ·simp only[V0,Vm,Vq,W8,Wf,hln]
    omega
   ·simp only[]
    rw[heq]
    cases Ab (Cs d) (d.clus.drop (i+1))<;>simp
 obtain rfl:i=d.clus.length:=by omega
 rw[Wx]at heq hlv
 rw[Vy]at hlv
 have hcs:Ab (Cs d) d.clus=some dn:=by rw[heq];simp [Ab]
 have h0:=hnm.h0
 have y0:∀k,(n+k=0)=False:=λk=>Vd (by omega)
 simp only[eE,eC,eN,Nat.reduceEqDiff,↓reduceIte,Nat.reduceAdd,xE,lt_F hlt,h0,Be,fr1 hfr]
 refine(QZ (pre:=[]) hd.ru (by decide) rfl (AC ..) rfl).mono λo H' n' hq=>?_
 unfold Bd at hq
 rw[Vw]at hq
 have hnv:∀a b,NM d vc (eRus d.ruls) (hset (hset H1 (n+2) a) (n+2) b):=λa b=>(hnm.set (KP (by omega))).set (KP (by omega))
 cases ht4:Ac (d.ruls.map λx:DRul=>x.nm)with
 |true=>
  rw[ht4,Vk rfl]at hq
  obtain⟨rfl,rfl,rfl⟩:=hq
  have hr:resD d= .error 161:=by
   unfold resD
   rw[Vb h16,ht1,ht2,ht3,hcs]
   simp only[Vo,Vv]
   rw[ht4];rfl
  simp only[eE,eN,retK]
  exact CC (hnv _ _).h1 rfl (hnv _ _).h2 hr
 |false=>
 rw[ht4,Vb (by decide)]at hq
 obtain⟨rfl,rfl,rfl⟩:=hq
 have hH:=hnv (nmO []) (nmO (d.ruls.map λx:DRul=>x.nm))
 have hlc:LV 6 vc (hset (hset H1 (n+2) (nmO [])) (n+2) (nmO (d.ruls.map λx:DRul=>x.nm))) (dn.map Bn):=by
  have hv2:∀a b c x,vc≠ .ref (n+2) a b c x:=by
   rintro a b c x rfl
   exact hlv.no (by rw[hfr _ (by omega)];simp)
  exact(hlv.set hv2).set hv2
 have hf2:AN (hset (hset H1 (n+2) (nmO [])) (n+2) (nmO (d.ruls.map λx:DRul=>x.nm))) (n+4):=(hfr.hset (m:=n+4) (by omega) (by omega)).hset (V9 _) (by omega)
 generalize hset (hset H1 (n+2) (nmO [])) (n+2) (nmO (d.ruls.map λx:DRul=>x.nm))=H2 at hH hlc hf2
 have h02:=hH.h0
 simp only[eE,eN,Nat.reduceEqDiff,↓reduceIte,Nat.reduceAdd,retK,h02,Be]
 refine(Us d.ruls hd.ru).mono λo H' n' hq=>?_
 rcases hq with⟨h0',rfl,hn',t,rfl,htk⟩|⟨h0',rfl,cap,rest,rfl,rfl,hcr⟩
 ·have hrl:d.ruls.length=0:=by have:=congrArg List.length h0';simpa using this
  simp only[eE,Nat.reduceEqDiff,↓reduceIte,Nat.reduceAdd,retK,h02,Be]
  rw[Dp]
  simp only[eE,Nat.reduceEqDiff,↓reduceIte]
  rw[Dp]
  simp only[eE,Nat.reduceEqDiff,↓reduceIte,Nat.reduceAdd,c0]
  rw[Dp]
  have hc0:∀a b c x,vc≠ .ref 0 a b c x:=by
   rintro a b c x rfl
   exact hlc.no (by rw[h02];simp)
  have:=SW d hd h16 ht1 ht2 ht3 hcs ht4 (vr:=.sl t []) (hf2.hset (id:=0) (m:=n') (by omega) (by omega)) hH.put (hlc.set hc0) (.inl ⟨h0',t,rfl,htk⟩) (λi a b c e j f g h k _ q=>by cases q)
  rw[hrl]at this
  exact this
 ·have y4:∀k,(n+4+k=0)=False:=λk=>Vd (by omega)
  simp only[eE,Nat.reduceEqDiff,↓reduceIte,Nat.reduceAdd,retK,h02,Be,y0]
  rw[Dp]
  simp only[eE,Nat.reduceEqDiff,↓reduceIte]
  rw[Dp]
  simp only[eE,Nat.reduceEqDiff,↓reduceIte,Nat.reduceAdd,V0]
  rw[Dp]
  have hc0:∀a b c x,vc≠ .ref 0 a b c x:=by
   rintro a b c x rfl
   exact hlc.no (by rw[h02];simp)
  have hc6:∀a b c x,vc≠ .ref (n+6) a b c x:=by
   rintro a b c x rfl
   exact hlc.no (by rw[hf2 _ (by omega)];simp)
  refine SW d hd h16 ht1 ht2 ht3 hcs ht4 (vr:=.ref (n+6) 12 0 d.ruls.length cap) (((hf2.hset (m:=n+8) (by omega) (by omega)).hset (V9 _) (by omega))) (hH.set (KP (by omega))).put ((hlc.set hc6).set hc0) (.inr ⟨h0',n+6,cap,rest,by rw[V0],?_,hcr⟩) (λi a b c e j f g h k q1 q2=>?_)
  ·rw[AA _ _ _ _ (by omega)];exact AC ..
  ·cases q2
   rintro rfl
   exact hc6 _ _ _ _ q1
end Go.AM
namespace Go.AM
open Go.Proofs Go.Lib
theorem Nv(d:Dcl)(hd:FewD d):AI Tryz.prog 145 [encD d] hnil 0 (RR d):=by
 refine a145 (AE SV (AF ?_))
 simp only[eE,eN,reduceCtorEq,Nat.reduceEqDiff,↓reduceIte,Nat.reduceAdd,Pu,Dn,Jw,AQ,encD]
 refine⟨_,_,rfl,AE SV (AF ?_)⟩
 generalize hE:List.filter (λ(e:Nat×Bool×AVal)=>Nat.blt e.1 4) _=E
 have hE':E=envR:=by rw[<-hE];rfl
 subst hE'
 clear hE
 rw[Vw]
 by_cases h16:16<d.syms.length
 ·have hr:resD d= .error 2:=by unfold resD;rw[Vk h16]
  simp only[eE,eC,eN,reduceCtorEq,Nat.reduceEqDiff,↓reduceIte,Nat.reduceAdd,Nat.reduceLeDiff,V0,c145,V3 (show(16:Int)<(d.syms.length:Int)by omega),AO]
  refine Nu (xs:=Mj) rfl rfl rfl ?_
  unfold RR
  rw[hr]
  exact⟨_,rfl,Wk.tup (.cons (Wk.agg (.cons (Wk.refl _) (.cons (Wk.refl _) (.cons (Wk.refl _) (.cons (Wk.refl _) (.cons (Wk.refl _) (.cons (Wk.sl (.inr rfl)) (.cons (Wk.sl (.inr rfl)) (.cons (Wk.sl (.inr rfl)) (.cons (Wk.sl (.inr rfl)) (.cons (Wk.sl (.inr rfl)) .nil))))))))))) (.cons (Wk.refl _) .nil))⟩
 simp only[eE,eC,eN,reduceCtorEq,Nat.reduceEqDiff,↓reduceIte,Nat.reduceAdd,Nat.reduceLeDiff,xE,V0,c145,Vd (show ¬(16:Int)<(d.syms.length:Int)by omega),AO]
 refine(QW (pre:=[]) hd.sy (by decide) rfl rfl rfl).mono λo H' n' hq=>?_
 unfold Bd at hq
 rw[Vw]at hq
 cases ht1:Ac (d.syms.map λx:DSym=>x.nm)with
 |true=>
  rw[ht1,Vk rfl]at hq
  obtain⟨rfl,rfl,rfl⟩:=hq
  have hr:resD d= .error 161:=by unfold resD;rw[Vb h16,ht1];rfl
  simp only[eE,eN,retK]
  exact CC (xs:=Mj) rfl rfl rfl hr
 |false=>
 rw[ht1,Vb (by decide)]at hq
 obtain⟨rfl,rfl,rfl⟩:=hq
 simp only[eE,eC,eN,eX,reduceCtorEq,Nat.reduceEqDiff,↓reduceIte,Nat.reduceAdd,Nat.reduceLeDiff,Nat.reduceLT,Nat.reduceMod,Nat.reduceSub,Nat.reduceDiv,xE,retK,Tnr_g,addr]
 refine⟨⟨trivial,C8 0 _⟩,(TH (pre:=[]) (by decide) (by decide) rfl rfl rfl).mono λo H' n' hq=>?_⟩
 unfold Bd at hq
 rw[Vw,show Ac (FZ.map λx:Bs=>x)=false by decide,Vb (by decide)]at hq
 obtain⟨rfl,rfl,rfl⟩:=hq
 simp only[eE,eX,Nat.reduceEqDiff,↓reduceIte,Nat.reduceAdd,Nat.reduceLeDiff,Nat.reduceMod,Nat.reduceSub,Nat.reduceDiv,Do]
 refine(QX (pre:=FZ) hd.rg (by decide) rfl rfl (by decide)).mono λo H' n' hq=>?_
 unfold Bd at hq
 cases ht2:Ac (Fp d)with
 |true=>
  rw[show FZ++d.regs.map (λx:DReg=>x.nm)=Fp d from rfl,ht2,Vk rfl]at hq
  obtain⟨rfl,rfl,rfl⟩:=hq
  have hr:resD d= .error 161:=by unfold resD;rw[Vb h16,ht1,ht2];rfl
  simp only[eE,eN,Do]
  exact CC (xs:=Mj) rfl rfl rfl hr
 |false=>
 rw[show FZ++d.regs.map (λx:DReg=>x.nm)=Fp d from rfl,ht2,Vb (by decide)]at hq
 obtain⟨rfl,rfl,rfl⟩:=hq
 simp only[eE,eN,eX,reduceCtorEq,Nat.reduceEqDiff,↓reduceIte,Nat.reduceAdd,Nat.reduceLeDiff,Nat.reduceSub,Nat.reduceDiv,xE,Do]
 refine(QY (pre:=[]) hd.cl (by decide) rfl rfl rfl).mono λo H' n' hq=>?_
 unfold Bd at hq
 rw[Vw]at hq
 cases ht3:Ac (d.clus.map λx:DClu=>x.nm)with
 |true=>
  rw[ht3,Vk rfl]at hq
  obtain⟨rfl,rfl,rfl⟩:=hq
  have hr:resD d= .error 161:=by unfold resD;rw[Vb h16,ht1,ht2,ht3];rfl
  simp only[eE,eN,retK]
  exact CC (xs:=Mj) rfl rfl rfl hr
 |false=>
 rw[ht3,Vb (by decide)]at hq
 obtain⟨rfl,rfl,rfl⟩:=hq
 simp only[eE,eN,reduceCtorEq,Nat.reduceEqDiff,↓reduceIte,Nat.reduceAdd,Nat.reduceLeDiff,retK]
 refine(Ur d.clus hd.cl).mono λo H' n' hq=>?_
 rcases hq with⟨h0,rfl,hn,t,rfl,htk⟩|⟨h0,rfl,cap,rest,rfl,rfl,hcr⟩
 ·have hcl:d.clus.length=0:=by have:=congrArg List.length h0;simpa using this
  simp only[eE,reduceCtorEq,Nat.reduceEqDiff,↓reduceIte,Nat.reduceAdd,Nat.reduceLeDiff,retK]
  rw[Dp]
  simp only[eE,Nat.reduceEqDiff,↓reduceIte,Nat.reduceAdd,Nat.reduceLeDiff,c0]
  rw[Dp]
  refine SX d hd h16 ht1 ht2 ht3 (vc:=.sl t []) (by rw[hcl];rfl) hn (λid hid=>?_) (NM.mk (d:=d) (vr:=eRus d.ruls) rfl rfl rfl rfl rfl rfl rfl) (.inl ⟨h0,t,rfl,htk⟩)
  simp only[AD]
  repeat rw[Vb (by omega)]
  rfl
 ·simp only[eE,reduceCtorEq,Nat.reduceEqDiff,↓reduceIte,Nat.reduceAdd,Nat.reduceLeDiff,retK]
  rw[Dp]
  simp only[eE,Nat.reduceEqDiff,↓reduceIte,Nat.reduceAdd,Nat.reduceLeDiff,V0]
  rw[Dp]
  refine SX d hd h16 ht1 ht2 ht3 (vc:=.ref 23 6 0 d.clus.length cap) rfl (by omega) (λid hid=>?_) (NM.mk (d:=d) (vr:=eRus d.ruls) rfl rfl rfl rfl rfl rfl rfl) (.inr ⟨h0,23,cap,rest,by rw[V0],rfl,hcr⟩)
  simp only[AD]
  repeat rw[Vb (by omega)]
  rfl
def RS(d:Dcl):AOut->AB->Nat->Prop:=λo H' n'=>match resD d with
 | .error e=>∃v,o= .ret v/\Wk v (.tup [encD dcl0,.int .i64 e])
 | .ok x=>∃vc vr,o= .ret (.tup [.agg (Be d vc vr),.int .i64 0])/\LF 6 vc H' (x.clus.map Bn)/\LV 12 vr H' (x.ruls.map BX)
def RT(d:Dcl):AOut->AB->Nat->Prop:=λo H' n'=>match resD d with
 | .error e=>∃v,o= .ret v/\Wk v (.tup [encD dcl0,.int .i64 e])
 | .ok x=>∃vc vr,o= .ret (.tup [.agg (Be d vc vr),.int .i64 0])/\LF 6 vc H' (x.clus.map Bn)/\LF 12 vr H' (x.ruls.map BX)
theorem p145(d:Dcl)(hd:FewD d):Pur Tryz.prog 145 [encD d] (EN d):=by
 refine .mk ⟨A9 0 d,trivial⟩ (by unfold EN;split<;>exact⟨A9 0 _,trivial,trivial⟩) ?_
 refine AI.out (R:=RT d) (AI.seal (R:=RS d) (AI.seal (R:=RR d) (Nv d hd) ?_) ?_) ?_
 ·intro o H' n' h
  unfold RR at h
  unfold RS
  split at h
  ·rename_i e he
   try rw[he]
   exact .inl h
  ·rename_i x hx
   try rw[hx]
   obtain⟨vc,vr,rfl,h1,h2,h3⟩:=h
   rcases h1 with h1|⟨h0,id,cap,rest,rfl,ho,hc⟩
   ·exact .inl ⟨vc,vr,rfl,.inl h1,h2⟩
   ·refine .inr ⟨id,_,_,ho,_,vr,rfl,.inr ⟨h0,id,cap,rest,rfl,AC ..,hc⟩,h2.set λa b c x=>?_⟩
    rintro rfl
    exact h3 _ _ _ _ _ _ _ _ _ _ rfl rfl rfl
 ·intro o H' n' h
  unfold RS at h
  unfold RT
  split at h
  ·rename_i e he
   try rw[he]
   exact .inl h
  ·rename_i x hx
   try rw[hx]
   obtain⟨vc,vr,rfl,h1,h2⟩:=h
   rcases h2 with h2|⟨h0,id,cap,rest,rfl,ho,hc⟩
   ·exact .inl ⟨vc,vr,rfl,h1,.inl h2⟩
   ·refine .inr ⟨id,_,_,ho,vc,_,rfl,?_,.inr ⟨h0,id,cap,rest,rfl,AC ..,hc⟩⟩
    rcases h1 with h1|⟨q0,i2,c2,r2,rfl,o2,hc2⟩
    ·exact .inl h1
    ·refine .inr ⟨q0,i2,c2,r2,rfl,?_,hc2⟩
     rw[AA _ _ _ _ (by rintro rfl;rw[ho]at o2;cases o2)];exact o2
 ·intro o H' n' h
  unfold RT at h
  unfold EN
  split at h
  ·rename_i e he
   try rw[he]
   obtain⟨v,rfl,hw⟩:=h
   exact⟨.ret v,⟨v,rfl,hw⟩,λg w e _ q=>q⟩
  ·rename_i x hx
   try rw[hx]
   obtain⟨vc,vr,rfl,h1,h2⟩:=h
   refine⟨.ret (.tup [encD x,.int .i64 0]),⟨_,rfl,Wk.refl _⟩,λg w e hR q=>?_⟩
   obtain⟨e1,e2,e3,e4,e5,e6,e7,e8⟩:=MT hx
   cases e with
   |panicked c=>exact q.elim
   |outgrown=>exact q.elim
   |returned y=>
    obtain⟨vs,rfl,y1,r1,q1,q2,q3⟩:=q
    refine⟨vs,rfl,y1,r1,q1,?_,q3⟩
    obtain⟨us,rfl,p1,p2⟩:=q2
    refine⟨us,rfl,?_,p2⟩
    obtain⟨a1,b1,f1,g1,a2,b2,f2,g2,a3,b3,f3,g3,a4,b4,f4,g4,a5,b5,f5,g5,a6,b6,f6,g6,a7,b7,f7,g7,a8,b8,f8,g8,a9,b9,f9,g9,a10,b10,f10,g10,g11⟩:=p1
    rw[<-e1]at g1
    rw[<-e2]at g2
    rw[<-e3]at g3
    rw[<-e4]at g4
    rw[<-e5]at g5
    rw[<-e6]at g6
    rw[<-e7]at g7
    rw[<-e8]at g8
    exact⟨a1,b1,f1,g1,a2,b2,f2,g2,a3,b3,f3,g3,a4,b4,f4,g4,a5,b5,f5,g5,a6,b6,f6,g6,a7,b7,f7,g7,a8,b8,f8,g8,a9,b9,f9,Hy h1 hR g9,a10,b10,f10,Hy h2 hR g10,g11⟩
end Go.AM
namespace Go.AM
open Go.Proofs Go.Lib
abbrev encF(f:FormD):AVal:=.agg [.bool f.on,.bool f.set,.bool f.oth,.bool f.bnd,.bool f.num,.bool f.rdb,.bool f.knw,.int .i64 f.clue]
theorem I7{k:Int}(h:k<0\/14<=k):Iv k={}:=by
 unfold Iv
 repeat rw[Vb (by omega)]
theorem p280(k:Int):Pur Tryz.prog 280 [.int .i64 k] (encF (Iv k)):=by
 refine .mk ⟨trivial,trivial⟩ ⟨trivial,trivial,trivial,trivial,trivial,trivial,trivial,trivial,trivial⟩ (a280 (AE AH.tnil (AF ?_)))
 by_cases hk:k<0\/14<=k
 ·have hb:(decide (k<0)||decide (14<=k))=true:=by simpa using hk
  rw[I7 hk]
  simp only[eE,eC,eN,reduceCtorEq,Nat.reduceEqDiff,↓reduceIte,Nat.reduceAdd,Nat.reduceLeDiff,CN,c280,hb]
  exact Wk.refl _
 ·have hb:(decide (k<0)||decide (14<=k))=false:=by simp;omega
  simp only[eE,eC,eN,reduceCtorEq,Nat.reduceEqDiff,↓reduceIte,Nat.reduceAdd,Nat.reduceLeDiff,CN,c280,hb]
  have hk2:k=0\/k=1\/k=2\/k=3\/k=4\/k=5\/k=6\/k=7\/k=8\/k=9\/k=10\/k=11\/k=12\/k=13:=by omega
  rcases hk2 with rfl|rfl|rfl|rfl|rfl|rfl|rfl|rfl|rfl|rfl|rfl|rfl|rfl|rfl<;>exact⟨by decide,by decide,rfl,rfl,Wk.refl _⟩
theorem p247(c:DClu):Pur Tryz.prog 247 [Bn c] (.bool (Fq c)):=by
 refine .mk ⟨Ed 0 c,trivial⟩ trivial (a247 (AE AH.tnil (AF ?_)))
 unfold Fq
 by_cases h1:c.ty=1
 ·simp only[eE,eC,eN,Nat.reduceEqDiff,↓reduceIte,Nat.reduceAdd,Nat.reduceLeDiff,Int.reduceEq,c247,h1]
 by_cases h2:c.ty=2
 ·simp only[eE,eC,eN,Nat.reduceEqDiff,↓reduceIte,Nat.reduceAdd,Nat.reduceLeDiff,Int.reduceEq,c247,h2]
 by_cases h3:c.ty=3
 ·simp only[eE,eC,eN,Nat.reduceEqDiff,↓reduceIte,Nat.reduceAdd,Nat.reduceLeDiff,Int.reduceEq,c247,h3]
 simp only[eE,eC,eN,Nat.reduceEqDiff,↓reduceIte,Nat.reduceAdd,Nat.reduceLeDiff,c247,h1,h2,h3]
theorem p208(b:Bool)(e:Int):Pur Tryz.prog 208 [.bool b,.int .i64 e] (.int .i64 (if b=true then 0 else e)):=by
 refine .mk ⟨trivial,trivial,trivial⟩ trivial (a208 (AE AH.tnil (AF ?_)))
 cases b<;>simp only[eE,eC,eN,reduceCtorEq,Nat.reduceEqDiff,↓reduceIte,Nat.reduceAdd,c208]
def Tsh:Tab:=tadd 280 (s1 dI any1 λk=>encF (Iv k)) tnil
theorem SY:AH Tryz.prog Tsh:=AH.tnil.add (q1 λk _=>p280 k)
theorem G8(a:List AVal)(H:AB):Tsh 280 a H=s1 dI any1 (λk=>encF (Iv k)) a H:=rfl
theorem TJ(k:Int):(Iv k).rdb=(decide (1<=k)&&decide (k<=11)):=by
 by_cases hk:k<0\/14<=k
 ·rw[I7 hk]
  symm
  simp;omega
 ·have hk2:k=0\/k=1\/k=2\/k=3\/k=4\/k=5\/k=6\/k=7\/k=8\/k=9\/k=10\/k=11\/k=12\/k=13:=by omega
  rcases hk2 with rfl|rfl|rfl|rfl|rfl|rfl|rfl|rfl|rfl|rfl|rfl|rfl|rfl|rfl<;>rfl
theorem p248(r:DRul):Pur Tryz.prog 248 [BX r] (.bool (Iw r)):=by
 refine .mk ⟨B4 0 r,trivial⟩ trivial (a248 (AE SY (AF ?_)))
 simp only[eE,eN,Nat.reduceEqDiff,↓reduceIte,Nat.reduceAdd,Nat.reduceLeDiff,c248,G8,s1,CP,BH,encF]
 exact TJ r.kind
abbrev ruE1(r:DRul)(on set oth:Bool):Bool:=on !=scmp .neq r.on []||set != !decide (r.set=0)||oth != !decide (r.oth=0)|| !on&& !decide (r.fam=0)|| !set&&decide ((0:Int)<(r.ns.length:Int))|| !oth&&decide ((0:Int)<(r.os.length:Int))
abbrev ruE2(r:DRul)(bnd:Bool):Bool:=bnd !=(decide (1<=r.op)&&decide (r.op<=3))|| !bnd&& !decide (r.op=0)||decide (r.n<0)||decide (65536<r.n)
abbrev ruE3(r:DRul)(bnd num:Bool):Bool:=!(num||bnd&&scmp .eql r.byN [])&& !decide (r.n=0)
theorem Qe{cl:List DClu}{r:DRul}{on set oth bnd num rdb:Bool}{clue:Int}(hf:Iv r.kind=⟨on,set,oth,bnd,num,rdb,true,clue⟩):
  Gu cl r=if ruE1 r on set oth=true then false else if ruE2 r bnd=true then false else if ruE3 r bnd num=true then false else
   if(if(bnd&&scmp .neq r.byN [])=true then 2 else clue)=0 then decide (r.byN=[])&&decide (r.clue= -1)else cluP cl r (if(bnd&&scmp .neq r.byN [])=true then 2 else clue):=by
 unfold Gu
 rw[hf]
 have e1:∀(l:List Bs),decide ((0:Int)<(l.length:Int))=decide (0<l.length):=λl=>by
  rw[VS,Vf,Vf];omega
 simp only[ruE1,ruE2,ruE3,DU,Ef,e1,ne_eq,decide_not,Bool.true_eq_false,Vv]
 rfl
theorem p246(d:Dcl)(r:DRul):Pur Tryz.prog 246 [encD d,BX r] (.bool (Gu d.clus r)):=by
 refine .mk ⟨A9 0 d,B4 0 r,trivial⟩ trivial (a246 (AE SY (AF ?_)))
 cases hf:(Iv r.kind)with
 |mk on set oth bnd num rdb knw clue=>
 cases knw with
 |false=>
  have hR:Gu d.clus r=false:=by unfold Gu;rw[hf];rfl
  rw[hR]
  simp only[eE,eC,eN,reduceCtorEq,Nat.reduceEqDiff,↓reduceIte,Nat.reduceAdd,Nat.reduceLeDiff,Ve,c246,G8,s1,CP,BH,hf,encF]
 |true=>
 rw[Qe hf]
 cases h1:ruE1 r on set oth with
 |true=>
  rw[Vk rfl]
  simp only[eE,eC,eN,reduceCtorEq,Nat.reduceEqDiff,↓reduceIte,Nat.reduceAdd,Nat.reduceLeDiff,V8,V0,c246,G8,s1,CP,BH,hf,encF,h1]
 |false=>
 rw[Vb (by decide)]
 cases h2:ruE2 r bnd with
 |true=>
  rw[Vk rfl]
  simp only[eE,eC,eN,reduceCtorEq,Nat.reduceEqDiff,↓reduceIte,Nat.reduceAdd,Nat.reduceLeDiff,V8,V0,c246,G8,s1,CP,BH,hf,encF,h1,h2]
 |false=>
 rw[Vb (by decide)]
 cases h3:ruE3 r bnd num with
 |true=>
  rw[Vk rfl]
  simp only[eE,eC,eN,reduceCtorEq,Nat.reduceEqDiff,↓reduceIte,Nat.reduceAdd,Nat.reduceLeDiff,V8,V0,c246,G8,s1,CP,BH,hf,encF,h1,h2,h3]
 |false=>
 rw[Vb (by decide)]
 cases h4:(bnd&&scmp .neq r.byN [])with
 |true=>
  simp only[Wd]
  rw[Vb (by decide)]
  by_cases hc:r.clue<0\/(d.clus.length:Int)<=r.clue
  ·have hcb:(decide (r.clue<0)||decide ((d.clus.length:Int)<=r.clue))=true:=by simpa using hc
   have hP:cluP d.clus r 2=false:=by unfold cluP;rw[Vk hc]
   rw[hP]
   simp only[eE,eC,eN,reduceCtorEq,Nat.reduceEqDiff,↓reduceIte,Nat.reduceAdd,Nat.reduceLeDiff,Int.reduceEq,V8,V0,c246,G8,s1,CP,BH,hf,encF,h1,h2,h3,h4,hcb]
  ·have hcb:(decide (r.clue<0)||decide ((d.clus.length:Int)<=r.clue))=false:=by simp;omega
   obtain⟨j,hj⟩:∃j:Nat,r.clue=(j:Int):=⟨r.clue.toNat,by omega⟩
   have hjl:j<d.clus.length:=by omega
   have hg:=V5 hjl
   generalize d.clus[j]=c at hg
   have hP:cluP d.clus r 2=(decide (c.ty=2)&&(decide (2=1)||decide (c.fam=r.fam))):=by
    unfold cluP;(rw[Vb hc,hj,V2,hg])<;>rfl
   rw[hP]
   rw[hj]at hcb
   simp only[eE,eC,eN,reduceCtorEq,Nat.reduceEqDiff,↓reduceIte,Nat.reduceAdd,Nat.reduceLeDiff,Int.reduceEq,V8,V1,V2,V4,V0,V6,c246,G8,s1,CP,BH,hf,encF,h1,h2,h3,h4,hj,hcb,lt_T hjl,hg]
 |false=>
  simp only[Vo,Vv]
  by_cases h5:clue=0
  ·rw[Vk h5]
   subst h5
   simp only[eE,eC,eN,reduceCtorEq,Nat.reduceEqDiff,↓reduceIte,Nat.reduceAdd,Nat.reduceLeDiff,V8,V0,c246,G8,s1,CP,BH,hf,encF,h1,h2,h3,h4]
   rw[Ef]
  ·rw[Vb h5]
   by_cases hc:r.clue<0\/(d.clus.length:Int)<=r.clue
   ·have hcb:(decide (r.clue<0)||decide ((d.clus.length:Int)<=r.clue))=true:=by simpa using hc
    have hP:cluP d.clus r clue=false:=by unfold cluP;rw[Vk hc]
    rw[hP]
    simp only[eE,eC,eN,reduceCtorEq,Nat.reduceEqDiff,↓reduceIte,Nat.reduceAdd,Nat.reduceLeDiff,V8,V0,c246,G8,s1,CP,BH,hf,encF,h1,h2,h3,h4,Bu h5,hcb]
   ·have hcb:(decide (r.clue<0)||decide ((d.clus.length:Int)<=r.clue))=false:=by simp;omega
    obtain⟨j,hj⟩:∃j:Nat,r.clue=(j:Int):=⟨r.clue.toNat,by omega⟩
    have hjl:j<d.clus.length:=by omega
    have hg:=V5 hjl
    generalize d.clus[j]=c at hg
    have hP:cluP d.clus r clue=(decide (c.ty=clue)&&(decide (clue=1)||decide (c.fam=r.fam))):=by
     unfold cluP;(rw[Vb hc,hj,V2,hg])<;>rfl
    rw[hP]
    rw[hj]at hcb
    simp only[eE,eC,eN,reduceCtorEq,Nat.reduceEqDiff,↓reduceIte,Nat.reduceAdd,Nat.reduceLeDiff,V8,V1,V2,V4,V0,V6,c246,G8,s1,CP,BH,hf,encF,h1,h2,h3,h4,Bu h5,hj,hcb,lt_T hjl,hg]
end Go.AM
namespace Go.AM
open Go.Proofs Go.Lib
def Trd:Tab:=tadd 248 (s1 dRu any1 λr=>.bool (Iw r)) tnil
theorem Trd_ok:AH Tryz.prog Trd:=AH.tnil.add (q1 λr _=>p248 r)
theorem Trd_e(a:List AVal)(H:AB):Trd 248 a H=s1 dRu any1 (λr=>.bool (Iw r)) a H:=rfl
structure VU where
 i:Nat
 tk:Tok
 H:AB
 n:Nat
structure IU(rs:List DRul)(v:VU):Prop where
 hi:v.i<=rs.length
 fr:AN v.H v.n
 hn:2<=v.n
 tok:tkG 1 1 v.H v.tk
 es:v.tk.esz=1\/BT (rs.take v.i)=[]
theorem Mk(rs:List DRul):(BT rs).length<=rs.length:=by
 unfold BT
 rw[V0]
 exact W1 (Wm ..) (by simp)
theorem KQ{rs:List DRul}{i:Nat}(h:i<rs.length):BT (rs.take (i+1))=BT (rs.take i)++(if Iw rs[i]=true then[]else[(i:Int)]):=by
 rw[VX,V5 h]
 show BT (rs.take i++[rs[i]])=_
 rw[Ni,Vt,Xu (by omega)]
theorem p217(d:Dcl)(hr:few d.ruls):Pur Tryz.prog 217 [encD d] (eIs (BT d.ruls)):=by
 refine .mk ⟨A9 0 d,trivial⟩ (Aa 0 _) (a217 (AE Trd_ok (AF ?_)))
 have hrl:d.ruls.length<1000000000:=hr
 simp only[eE,eN,Nat.reduceEqDiff,↓reduceIte,Nat.reduceAdd,V0,c217]
 refine AU (λv:VU=>⟨[(2,true,.sl v.tk ((BT (d.ruls.take v.i)).map eI)),(6,true,eRus d.ruls),(7,true,.int .i64 d.ruls.length),(8,true,.int .i64 v.i)],v.H,v.n⟩) (IU d.ruls) (λv=>d.ruls.length-v.i)
  ⟨0,.nil,hset hnil 0 (.box (AO d)),2⟩ rfl ⟨Vi _,AN.nil.hset (m:=2) (Vi 2) (show 0<2 by decide),V9 _,.inl rfl,.inr rfl⟩ ?_
 rintro⟨i,tk,H,n⟩ ⟨hi,hfr,hn,htk,hes⟩
 simp only at hi hfr hn htk hes
 by_cases hlt:i<d.ruls.length
 ·have hg:=V5 hlt
  have e:=AJ (k:=i) (by omega)
  have hu:=KQ hlt
  have hul:=Mk (d.ruls.take i)
  rw[Vt]at hul
  generalize d.ruls[i]=r at hg hu
  cases hrr:Iw r with
  |true=>
   rw[hrr,Vk rfl,Vy]at hu
   simp only[eE,eC,eN,Nat.reduceEqDiff,↓reduceIte,Nat.reduceAdd,Int.reduceEq,V8,V1,V2,V4,V0,V6,lt_T hlt,hg,fr1 hfr,Trd_e,s1,Fc,Dx,hrr,e,AK]
   refine .mk ⟨i+1,tk,hset H (n+3) (.box (DR r)),n+6⟩ ?_ ⟨hlt,hfr.hset (m:=n+6) (by omega) (by omega),by simp only[];omega,htk.set (.inr (.inr (hfr _ (by omega)))),by simp only[hu];exact hes⟩ (by simp only[];omega)
   simp only[hu]
  |false=>
   rw[hrr,Vb (by decide)]at hu
   have gt:tkG 1 1 (hset H (n+3) (.box (DR r))) tk:=htk.set (.inr (.inr (hfr _ (by omega))))
   have gf:AN (hset H (n+3) (.box (DR r))) (n+6):=hfr.hset (m:=n+6) (by omega) (by omega)
   have q1:Bh (hset H (n+3) (.box (DR r))) 1 tk=True:=V3 gt.app
   have q2:((BT (d.ruls.take i)).length<=35184372088831)=True:=V3 (by omega)
   have q3:Al ((BT (d.ruls.take i)).length+1) 8=True:=V3 (AX (by omega) (by decide))
   simp only[eE,eC,eN,reduceCtorEq,Nat.reduceEqDiff,↓reduceIte,Nat.reduceAdd,Nat.reduceLeDiff,Nat.reduceMul,Nat.reduceLT,Int.reduceEq,Ve,V1,V2,V4,V0,V6,lt_T hlt,hg,fr1 hfr,Trd_e,s1,Fc,Dx,hrr,e,AK,q1,q2,q3]
   refine .mk ⟨i+1,.own (n+9) 1,hset (AW (hset H (n+3) (.box (DR r))) tk) (n+9) .tok,n+11⟩ ?_ ⟨hlt,(Ak gt gf).hset (m:=n+11) (by omega) (by omega),by simp only[];omega,.inr (.inr ⟨n+9,rfl,by omega,AC ..⟩),.inl rfl⟩ (by simp only[];omega)
   simp only[hu,Vl];rfl
 obtain rfl:i=d.ruls.length:=by omega
 rw[VQ]at hes
 simp only[eE,eC,eN,Nat.reduceEqDiff,↓reduceIte,lt_F hlt,VQ]
 exact Wk.sl (hes.imp id λq=>by rw[q];rfl)
def Tfm:Tab:=tadd 246 (s2 dD dRu any2 λd r=>.bool (Gu d.clus r)) (tadd 247 (s1 dCl any1 λc=>.bool (Fq c)) tnil)
theorem Tfm_ok:AH Tryz.prog Tfm:=(AH.tnil.add (q1 λc _=>p247 c)).add (q2 λd r _=>p246 d r)
theorem Tfm_r(a:List AVal)(H:AB):Tfm 246 a H=s2 dD dRu any2 (λd r=>.bool (Gu d.clus r)) a H:=rfl
theorem TK(a:List AVal)(H:AB):Tfm 247 a H=s1 dCl any1 (λc=>.bool (Fq c)) a H:=rfl
structure VM2 where
 i:Nat
 es:List (AVal×AVal×Nat)
 c:Nat
 H:AB
 n:Nat
structure IM2(d:Dcl)(id:Nat)(v:VM2):Prop where
 hi:v.i<=d.ruls.length
 fr:AN v.H v.n
 hn:id<v.n
 h0:hget v.H 0=some (.box (AO d))
 hm:hget v.H id=some (.map v.es v.c)
 ct:LQ (d.ruls.take v.i) v.es
 ok:d.ruls.all (Gu d.clus)=(d.ruls.drop v.i).all (Gu d.clus)
theorem LQ.nil:LQ [] []:=⟨trivial,λz=>rfl⟩
theorem p215(d:Dcl)(hd:FewD d):Pur Tryz.prog 215 [encD d] (.bool (CF d)):=by
 refine .mk ⟨A9 0 d,trivial⟩ trivial (a215 (AE Tfm_ok (AF ?_)))
 have hsl:d.syms.length<1000000000:=hd.sy
 have hrl:d.ruls.length<1000000000:=hd.ru
 have hcl:d.clus.length<1000000000:=hd.cl
 simp only[eE,eN,Nat.reduceEqDiff,↓reduceIte,Nat.reduceAdd,Nat.reduceLeDiff,V0,c215]
 refine AU (λv:VF=>⟨[(1,true,.ptr 0 0),(11,true,eSys d.syms),(12,true,.int .i64 d.syms.length),(13,true,.int .i64 v.i)],v.H,v.n⟩) (λv=>v.i<=d.syms.length/\AN v.H v.n/\2<=v.n/\hget v.H 0=some (.box (AO d))/\(d.syms.all λs=>decide (0<=s.v)&&decide (s.v<=99))=((d.syms.drop v.i).all λs=>decide (0<=s.v)&&decide (s.v<=99))) (λv=>d.syms.length-v.i)
  ⟨0,hset hnil 0 (.box (AO d)),2⟩ rfl ⟨Vi _,AN.nil.hset (m:=2) (Vi 2) (show 0<2 by decide),V9 _,rfl,rfl⟩ ?_
 rintro⟨i,H,n⟩ ⟨hi,hfr,hn,h0,hall⟩
 simp only at hi hfr hn h0 hall
 by_cases hlt:i<d.syms.length
 ·have hg:=V5 hlt
  have e:=AJ (k:=i) (by omega)
  rw[VO hlt,Xt]at hall
  generalize d.syms[i]=s at hg hall
  by_cases hs:0<=s.v/\s.v<=99
  ·have hb:(decide (s.v<0)||decide (99<s.v))=false:=by simp;omega
   simp only[eE,eC,eN,Nat.reduceEqDiff,↓reduceIte,Nat.reduceAdd,Int.reduceEq,V1,V2,V4,V0,V6,lt_T hlt,hg,fr1 hfr,e,AK,hb]
   refine .mk ⟨i+1,hset H (n+2) (.box [.str s.nm,.int .i64 s.v]),n+4⟩ rfl ⟨hlt,hfr.hset (m:=n+4) (by omega) (by omega),by simp only[];omega,by simp only[];rw[AA _ _ _ _ (by omega)];exact h0,?_⟩ (by simp only[];omega)
   simp only[]
   rw[hall,CQ hs.1,CQ hs.2];rfl
  ·have hb:(decide (s.v<0)||decide (99<s.v))=true:=by simp;omega
   have hR:CF d=false:=by
    unfold CF
    rw[hall,show(decide (0<=s.v)&&decide (s.v<=99))=false by simp;omega];rfl
   rw[hR]
   simp only[eE,eC,eN,Nat.reduceEqDiff,↓reduceIte,Nat.reduceAdd,V1,V2,V4,V0,V6,lt_T hlt,hg,fr1 hfr,AK,hb]
 obtain rfl:i=d.syms.length:=by omega
 rw[Wx]at hall
 have y0:(n=0)=False:=Vd (by omega)
 simp only[eE,eC,eN,Nat.reduceEqDiff,↓reduceIte,Nat.reduceAdd,xE,V0,lt_F hlt,h0,fr0 hfr,y0]
 refine AU (λv:VM2=>⟨[(1,true,.ptr 0 0),(5,true,.mp n),(28,true,eRus d.ruls),(29,true,.int .i64 d.ruls.length),(30,true,.int .i64 v.i)],v.H,v.n⟩) (IM2 d n) (λv=>d.ruls.length-v.i)
  ⟨0,[],0,hset H n (.map [] 0),n+2⟩ rfl ⟨Vi _,hfr.hset (m:=n+2) (by omega) (by omega),by simp only[];omega,by simp only[];rw[AA _ _ _ _ (by omega)];exact h0,AC ..,LQ.nil,rfl⟩ ?_
 rintro⟨k,es,c,H1,n1⟩ hI
 have hk:=hI.hi
 have hfr1:=hI.fr
 have hn1:=hI.hn
 have h01:=hI.h0
 have hm:=hI.hm
 have hct:=hI.ct
 have hok:=hI.ok
 simp only at hk hfr1 hn1 h01 hm hct hok
 by_cases hlk:k<d.ruls.length
 ·have hg:=V5 hlk
  have e:=AJ (k:=k) (by omega)
  have htk:d.ruls.take (k+1)=d.ruls.take k++[d.ruls[k]]:=by rw[VX,V5 hlk];rfl
  rw[VO hlk,Xt]at hok
  have y1:∀q,(n1+q=n)=False:=λq=>Vd (by omega)
  have y2:∀q,(n=n1+q)=False:=λq=>Vd (by omega)
  have y3:∀q,(n1+q=0)=False:=λq=>Vd (by omega)
  have y4:∀q,(0=n1+q)=False:=λq=>Vd (by omega)
  generalize d.ruls[k]=r at hg hok htk
  cases hr:Gu d.clus r with
  |false=>
   have hR:CF d=false:=by
    unfold CF
    rw[hok,hr];simp
   rw[hR]
   simp only[eE,eC,eN,Nat.reduceEqDiff,↓reduceIte,Nat.reduceAdd,Ve,V1,V2,V4,V0,V6,lt_T hlk,hg,Tfm_r,s2,FF,DA,Fc,Dx,hr,h01,fr1 hfr1,y3,AK]
  |true=>
  rw[hr,WU]at hok
  have hcl:=cnt_le (d.ruls.take k) r.clue
  rw[Vt]at hcl
  have ew:=AJ (k:=cntZ (d.ruls.take k) r.clue) (by omega)
  have hq:=hct.2 r.clue
  simp only[eE,eC,eN,Nat.reduceEqDiff,↓reduceIte,Nat.reduceAdd,Int.reduceEq,V8,xE,V1,V2,V4,V0,V6,lt_T hlk,hg,Tfm_r,s2,FF,DA,Fc,Dx,hr,h01,fr1 hfr1,y1,y3,AK,hm,hct.1,KT.is,By,hq,e,ew]
  refine .mk ⟨k+1,mset (.int .i64 r.clue) (.int .i64 ((cntZ (d.ruls.take k) r.clue+1:Nat):Int)) c es,(if(Aw (AVal.int IntKind.i64 r.clue) es).isSome=true then c else c+1),hset (hset H1 (n1+2) (.box (DR r))) n (.map (mset (.int .i64 r.clue) (.int .i64 ((cntZ (d.ruls.take k) r.clue+1:Nat):Int)) c es) (if(Aw (AVal.int IntKind.i64 r.clue) es).isSome=true then c else c+1)),n1+4⟩ rfl
   ⟨hlk,(hfr1.hset (m:=n1+4) (by omega) (by omega)).hset (V9 (n1+4)) (show n<n1+4 by omega),by simp only[];omega,?_,AC ..,by simp only[];rw[htk];exact hct.next,hok⟩ (by simp only[];omega)
  simp only[]
  rw[AA _ _ _ _ (by omega),AA _ _ _ _ (by omega)];exact h01
 obtain rfl:k=d.ruls.length:=by omega
 rw[Wx]at hok
 rw[VQ]at hct
 simp only[eE,eC,eN,Nat.reduceEqDiff,↓reduceIte,Nat.reduceAdd,Nat.reduceLeDiff,V0,lt_F hlk,h01]
 refine AU (λv:VF=>⟨[(5,true,.mp n),(45,true,eCls d.clus),(46,true,.int .i64 d.clus.length),(47,true,.int .i64 v.i)],v.H,v.n⟩) (λv=>v.i<=d.clus.length/\AN v.H v.n/\n<v.n/\hget v.H n=some (.map es c)/\∀j (h:j<d.clus.length),j<v.i->HI d.ruls j=1/\Fq d.clus[j]=true) (λv=>d.clus.length-v.i)
  ⟨0,H1,n1⟩ rfl ⟨Vi _,hfr1,hn1,hm,λj h q=>absurd q (Wq _)⟩ ?_
 rintro⟨j,H2,n2⟩ ⟨hj,hfr2,hn2,hm2,hal⟩
 simp only at hj hfr2 hn2 hm2 hal
 by_cases hlj:j<d.clus.length
 ·have hg:=V5 hlj
  have e:=AJ (k:=j) (by omega)
  have y1:∀q,(n2+q=n)=False:=λq=>Vd (by omega)
  have y2:∀q,(n=n2+q)=False:=λq=>Vd (by omega)
  have hq:=hct.2 (j:Int)
  rw[SE]at hq
  have hbad:¬(HI d.ruls j=1/\Fq d.clus[j]=true)->CF d=false:=λq=>by
   unfold CF
   rw[hall,hok]
   cases q1:((List.range d.clus.length).all λi=>decide (HI d.ruls i=1))with
   |false=>rfl
   |true=>
   cases q2:d.clus.all Fq with
   |false=>rfl
   |true=>exact absurd ⟨VH (Vj.1 q1 j (Wa.2 hlj)),Vj.1 q2 _ (Vn hlj)⟩ q
  have hnext:HI d.ruls j=1/\Fq d.clus[j]=true->∀q (h:q<d.clus.length),q<j+1->HI d.ruls q=1/\Fq d.clus[q]=true:=λz q h hq=>by
   by_cases w:q=j
   ·subst w;exact z
   ·exact hal q h (by omega)
  generalize hx:d.clus[j]=x at hg hbad hnext
  by_cases hmc:HI d.ruls j=1
  ·have hmb:(((HI d.ruls j:Nat):Int)=1)=True:=V3 (by omega)
   cases hc:Fq x with
   |false=>
    rw[hbad (by rw[hc];simp)]
    simp only[eE,eC,eN,Nat.reduceEqDiff,↓reduceIte,Nat.reduceAdd,V8,Ve,xE,V1,V2,V4,V0,V6,lt_T hlj,hg,TK,s1,J9,Gx,hc,fr1 hfr2,y1,AK,hm2,hct.1,KT.is,By,hq,hmb]
   |true=>
    simp only[eE,eC,eN,Nat.reduceEqDiff,↓reduceIte,Nat.reduceAdd,Int.reduceEq,V8,xE,V1,V2,V4,V0,V6,lt_T hlj,hg,TK,s1,J9,Gx,hc,fr1 hfr2,y1,AK,hm2,hct.1,KT.is,By,hq,e,hmb]
    refine .mk ⟨j+1,hset H2 (n2+3) (.box (Bn x).cells),n2+6⟩ rfl ⟨hlj,hfr2.hset (m:=n2+6) (by omega) (by omega),by simp only[];omega,?_,hnext ⟨hmc,hc⟩⟩ (by simp only[];omega)
    simp only[]
    rw[AA _ _ _ _ (by omega)];exact hm2
  ·have hmb:(((HI d.ruls j:Nat):Int)=1)=False:=Vd (by omega)
   rw[hbad (λq=>hmc q.1)]
   simp only[eE,eC,eN,reduceCtorEq,Nat.reduceEqDiff,↓reduceIte,Nat.reduceAdd,V8,Ve,xE,V1,V2,V4,V0,V6,lt_T hlj,hg,TK,s1,J9,Gx,fr1 hfr2,y1,AK,hm2,hct.1,KT.is,By,hq,hmb]
 obtain rfl:j=d.clus.length:=by omega
 have hR:CF d=true:=by
  have z2:d.clus.all Fq=true:=Vj.2 λq hq=>by
   obtain⟨m,hm,rfl⟩:=VI.1 hq
   exact(hal m hm hm).2
  unfold CF
  rw[hall,hok,Vj.2 λq hq=>VJ (hal q (Wa.1 hq) (Wa.1 hq)).1,z2]
  rfl
 rw[hR]
 simp only[eE,eC,eN,Nat.reduceEqDiff,↓reduceIte,lt_F hlj]
end Go.AM
namespace Go.AM
open Go.Proofs Go.Lib
abbrev clV(q:Nat):AVal:=.fn (.func 278) [] [.ptr q 0]
abbrev eApp(q c:Nat):List (Nat×Bool×AVal):=[(2,true,.ptr c 0),(4,true,.sl .nil []),(6,true,clV q)]
structure AppF(q c L l':Nat)(H0:AB)(n0:Nat)(qs:List Int)(H:AB)(m:Nat):Prop where
 fr:AN H m
 lc:n0<=c
 cl:c<L
 lm:L<m
 hc:∃lv,hget H c=some (.box [lv])/\LvG eI 1 (L+1) H lv qs
 hL:hget H L=some (.lp ⟨l',.ready,none,13,eApp q c, #[7],Dr,Ds⟩)
 kp:∀id ob,id<n0->hget H0 id=some ob->hget H id=some ob
theorem y_app{q c L l':Nat}{H0:AB}{n0:Nat}{qs:List Int}{H:AB}{m:Nat}(F:AppF q c L l' H0 n0 qs H m)(x:Int)(hs:qs.length<1000000000){R:Bool->AB->Nat->Prop}
  (hR:∀H' m',AppF q c L l' H0 n0 (qs++[x]) H' m'->R true H' m'):BK Tryz.prog l' [eI x] H m R:=by
 obtain⟨fr,lc,cl,lm,⟨lv,hc,hlv⟩,hL,kp⟩:=F
 refine S1 hL rfl (AE AH.tnil (AF ?_))
 simp only[eE,eN,Nat.reduceEqDiff,↓reduceIte,Ir,renv,WS,WW,Wg,Xa]
 refine⟨_,hL,rfl,AE AH.tnil (AF ?_)⟩
 have y1:∀k,(L=m+k)=False:=λk=>Vd (by omega)
 have y2:(L=c)=False:=Vd (by omega)
 have y3:(c=L)=False:=Vd (by omega)
 simp only[eE,reduceCtorEq,Nat.reduceEqDiff,↓reduceIte,Nat.reduceLeDiff,Nat.reduceMul,Nat.reduceLT,Iq,hc,y2]
 have g1:∀k,hget (hset H L (.lp ⟨l',.busy,none,13,eApp q c, #[7],Dr,Ds⟩)) (m+k)=none:=λk=>by rw[AA _ _ _ _ (by omega)];exact fr1 fr k
 refine LR (enc:=eI) (lo:=L+1) (qs:=qs) (z0:=0) ?_ rfl (by decide) rfl rfl (AX (by omega) (by decide)) (g1 3) (by omega) (by omega) ?_
 ·rcases hlv with h|⟨hne,id,rest,h1,h2,h3⟩
  ·exact .inl h
  ·exact .inr ⟨hne,id,rest,h1,h2,by rw[AA _ _ _ _ (by omega)];exact h3⟩
 intro id rest hlo hid
 have hidm:id<m+5:=by
  rcases hid with rfl|⟨Z,h⟩
  ·omega
  ·apply Classical.byContradiction
   intro z
   obtain⟨k,rfl⟩:∃k,id=m+k:=⟨id-m,by omega⟩
   rw[g1]at h;cases h
 have z1:(id=L)=False:=Vd (by omega)
 have z2:(id=c)=False:=Vd (by omega)
 have z3:(L=id)=False:=Vd (by omega)
 have z4:(c=id)=False:=Vd (by omega)
 have hidn:¬id<n0:=by omega
 simp only[eE,eN,Nat.reduceEqDiff,↓reduceIte,DY,z2,y2,hc]
 refine⟨⟨l',.busy,none,13,eApp q c, #[7],Dr,Ds⟩,by simp only[AD,y3,z1,Vv,Wd],hR _ _ ⟨?_,lc,cl,by simp only[];omega,⟨_,by simp only[AD,y2,Vv,Wd],.inr ⟨by simp,id,rest,rfl,hlo,by simp only[AD,z3,z4,Vv,Wd]⟩⟩,by simp only[AD,Wd],?_⟩⟩
 ·intro j hj
  have hj':m+5<=j:=hj
  simp only[AD];repeat rw[Vb (by omega)]
  exact fr j (by omega)
 ·intro j ob hj h0
  simp only[AD];repeat rw[Vb (by omega)]
  exact kp j ob hj h0
theorem Qf{H:AB}{n q:Nat}{l:List Int}(hf:AN H n)(hq:hget H q=some (.box [eIs l]))(hl:few l):
  AI Tryz.prog 303 [.sl .nil [],clV q] H n λo H' n'=>∃lv,o= .ret lv/\LvG eI 1 (n+3) H' lv l/\AN H' n'/\n<=n'/\∀id ob,id<n->hget H id=some ob->hget H' id=some ob:=by
 have hll:l.length<1000000000:=hl
 have hqn:=hf.lt hq
 refine a303 (AE AH.tnil (AF ?_))
 simp only[eE,eN,reduceCtorEq,Nat.reduceEqDiff,↓reduceIte,Nat.reduceAdd,c303,fr0 hf,ES]
 intro l'
 generalize hH1:hset (hset H n (.box [.sl .nil []])) (n+2) _=H1
 have hq1:hget H1 q=some (.box [eIs l]):=by
  subst hH1
  simp only[AD];repeat rw[Vb (by omega)]
  exact hq
 have F0:AppF q n (n+2) l' H n [] H1 (n+3):=by
  subst hH1
  refine⟨λj hj=>?_,V9 _,by omega,by omega,⟨.sl .nil [],?_,.inl ⟨rfl,rfl⟩⟩,AC ..,λj ob hj h0=>?_⟩
  ·simp only[AD];repeat rw[Vb (by omega)]
   exact hf j (by omega)
  ·simp only[AD];rw[Vb (by omega),Vk trivial]
  ·simp only[AD];repeat rw[Vb (by omega)]
   exact h0
 clear hH1
 refine a278 (AE AH.tnil (AF ?_))
 simp only[eE,eN,reduceCtorEq,Nat.reduceEqDiff,↓reduceIte,Nat.reduceAdd,V0,c278,hq1]
 refine AU (λv:VF=>⟨[(0,true,.fn (.yield l') [] []),(5,true,eIs l),(6,true,.int .i64 l.length),(7,true,.int .i64 v.i)],v.H,v.n⟩) (λv=>v.i<=l.length/\n+3<=v.n/\AppF q n (n+2) l' H n (l.take v.i) v.H v.n) (λv=>l.length-v.i)
  ⟨0,H1,n+3⟩ rfl ⟨Vi _,V9 _,F0⟩ ?_
 rintro⟨i,H2,m⟩ ⟨hi,hm,F⟩
 simp only at hi hm F
 by_cases hlt:i<l.length
 ·have hg:=V5 hlt
  have e:=AJ (k:=i) (by omega)
  have htk:l.take (i+1)=l.take i++[l[i]]:=by rw[VX,V5 hlt];rfl
  generalize l[i]=x at hg htk
  simp only[eE,eC,eN,reduceCtorEq,Nat.reduceEqDiff,↓reduceIte,V1,V2,V4,V0,V6,lt_T hlt,hg]
  refine y_app F x (by rw[Vt];omega) λH' m' F'=>?_
  simp only[eE,eC,eN,reduceCtorEq,Nat.reduceEqDiff,↓reduceIte,Int.reduceEq,V8,yldK,e]
  exact .mk ⟨i+1,H',m'⟩ rfl ⟨hlt,by have:=F'.lm;simp only[];omega,by simp only[];rw[htk];exact F'⟩ (by simp only[];omega)
 obtain rfl:i=l.length:=by omega
 rw[VQ]at F
 obtain⟨fr,lc,cl,lm,⟨lv,hc,hlv⟩,hL,kp⟩:=F
 have y1:(n+2=n)=False:=Vd (by omega)
 simp only[eE,eC,eN,reduceCtorEq,Nat.reduceEqDiff,↓reduceIte,lt_F hlt,ER,hL,hc,y1]
 refine⟨lv,rfl,?_,fr.hset (V9 m) (show n+2<m by omega),by omega,λid ob hid h0=>by rw[Vb (by omega)];exact kp id ob hid h0⟩
 rcases hlv with h|⟨hne,id,rest,h1,h2,h3⟩
 ·exact .inl h
 ·exact .inr ⟨hne,id,rest,h1,h2,by rw[AA _ _ _ _ (by omega)];exact h3⟩
theorem t_coll{H:AB}{n q:Nat}{l:List Int}(hf:AN H n)(hq:hget H q=some (.box [eIs l]))(hl:few l):
  AI Tryz.prog 277 [clV q] H n λo H' n'=>∃lv,o= .ret lv/\LvG eI 1 (n+3) H' lv l/\AN H' n'/\n<=n'/\∀id ob,id<n->hget H id=some ob->hget H' id=some ob:=by
 refine a277 (AE AH.tnil (AF ?_))
 simp only[eE,eN,reduceCtorEq,↓reduceIte,c277]
 refine(Qf hf hq hl).mono ?_
 rintro o H' n' ⟨lv,rfl,h1,h2,h3,h4⟩
 simp only[eE,eN,↓reduceIte,retK]
 exact⟨lv,rfl,h1,h2,h3,h4⟩
theorem KR{H:AB}{n:Nat}:AI Tryz.prog 221 [.sl .nil []] H n λo H' n'=>o= .ret (.tup [])/\H'=H/\n'=n:=by
 refine⟨lSort,λg w vs hR hv=>?_⟩
 obtain⟨v,r,rfl,k1,k2⟩:=hv
 have k2':r=[]:=k2
 subst k2'
 have hv:∃p cap,v= .slice p 0 cap:=by
  rcases k1 with⟨-,rfl,-⟩|⟨-,b,o,cap,⟨sp,rfl,hsp⟩,hc,hst,-⟩
  ·exact⟨_,_,rfl⟩
  ·exact⟨_,_,rfl⟩
 obtain⟨p,cap,rfl⟩:=hv
 refine(Tryz.slices_Sort_int_none p cap w).mono ?_
 rintro e w' ⟨rfl,rfl⟩
 exact⟨g,.ret (.tup []),H,n,⟨rfl,rfl,rfl⟩,⟨_,rfl,rfl⟩,hR,V9 _,Trans.refl _ _ _ _⟩
def SrA(ob:List AVal->AObj)(H:AB)(l:List Int):AOut->AB->Nat->Prop:=λo H' n'=>
 BR H H'/\((l=[]/\o= .ret (.sl .nil []))\/l≠[]/\∃id rest,o= .ret (.ref id 1 0 l.length (l.length+rest.length))/\hget H id=none/\hget H' id=some (ob ((l.mergeSort leI++rest).map eI)))
theorem CW(l:List Int):(l.mergeSort leI).length=l.length:=List.length_mergeSort ..
theorem t_srtd{H:AB}{n q:Nat}{l:List Int}(hf:AN H n)(hq:hget H q=some (.box [eIs l]))(hl:few l):
  AI Tryz.prog 242 [clV q] H n (QRet H (eIs (l.mergeSort leI))):=by
 have hll:l.length<1000000000:=hl
 refine AI.out (AI.seal (R:=SrA (.arr 1) H l) (R':=SrA (.frz 1) H l) (a242 (AE AH.tnil (AF ?_))) ?_) ?_
 ·simp only[eE,eN,reduceCtorEq,↓reduceIte,c242]
  refine(t_coll hf hq hl).mono ?_
  rintro o H1 n1 ⟨lv,rfl,hlv,hf1,hn1,hk⟩
  simp only[eE,eN,↓reduceIte,retK]
  have hK:BR H H1:=λid ob h0=>hk id ob (hf.lt h0) h0
  rcases hlv with⟨rfl,rfl⟩|⟨hne,id,rest,rfl,h2,h3⟩
  ·refine KR.mono ?_
   rintro o H2 n2 ⟨rfl,rfl,rfl⟩
   simp only[eE,eN,Nat.reduceEqDiff,↓reduceIte,retK]
   exact⟨hK,.inl ⟨rfl,rfl⟩⟩
  ·refine(MW h3 (by simp) hll).mono ?_
   rintro o H2 n2 ⟨rfl,rfl,rfl⟩
   rw[Xn,List.drop_left]
   simp only[eE,eN,Nat.reduceEqDiff,↓reduceIte,retK]
   refine⟨λi ob h0=>?_,.inr ⟨hne,id,rest,rfl,hf _ (by omega),AC ..⟩⟩
   rw[AA _ _ _ _ (λe=>by subst e;rw[hf _ (by omega)]at h0;cases h0)];exact hK i ob h0
 ·rintro o H' n' ⟨hK,h⟩
  rcases h with h|⟨hne,id,rest,h1,h2,h3⟩
  ·exact .inl ⟨hK,.inl h⟩
  ·refine .inr ⟨id,1,_,h3,λi ob h0=>?_,.inr ⟨hne,id,rest,h1,h2,AC ..⟩⟩
   rw[AA _ _ _ _ (λe=>by subst e;rw[h2]at h0;cases h0)];exact hK i ob h0
 ·rintro o H' n' ⟨hK,h⟩
  refine⟨.ret (eIs (l.mergeSort leI)),⟨⟨_,rfl,Wk.refl _⟩,hK⟩,λg w e hR he=>?_⟩
  have hL:∃lv,o= .ret lv/\LF 1 lv H' ((l.mergeSort leI).map eI):=by
   rcases h with⟨rfl,rfl⟩|⟨hz,id,rest,rfl,h2,h3⟩
   ·exact⟨_,rfl,.inl ⟨by simp,_,rfl,.inl rfl⟩⟩
   ·refine⟨_,rfl,?_⟩
    have hl2:=CW l
    refine .inr ⟨λq=>hz (by rw[List.map_eq_nil_iff]at q;rw[q]at hl2;exact WA.1 hl2.symm),id,l.length+rest.length,rest.map eI,by rw[V0,hl2],by rw[h3,Vl],by simp [hl2]⟩
  obtain⟨lv,rfl,hL⟩:=hL
  cases e with
  |returned v=>exact Hy hL hR he
  |panicked c=>exact he.elim
  |outgrown=>exact he.elim
theorem t_vals{H:AB}{n:Nat}{l:List Int}(hf:AN H n):AI Tryz.prog 243 [eIs l] H n λo H' n'=>o= .ret (clV n)/\H'=hset H n (.box [eIs l])/\n'=n+2:=by
 refine a243 (AE AH.tnil (AF ?_))
 simp only[eE,eN,Nat.reduceEqDiff,↓reduceIte,c243,fr0 hf]
end Go.AM
namespace Go.AM
open Go.Proofs Go.Lib
abbrev srt(l:List Int):List Int:=l.mergeSort leI
def IG(ls:List (List Int))(j:Nat)(x:List Int):Bool:=((ls.take j).map srt).contains (srt x)
theorem Qg{ls:List (List Int)}(hn:∀l∈ls,l.Nodup){j:Nat}(hj:j<ls.length)(h:IG ls j ls[j]=true):Bm ls=true:=by
 unfold IG at h
 rw[Wh,W2]at h
 obtain⟨y,hy,e⟩:=h
 obtain⟨b,hb,rfl⟩:=VI.1 hy
 rw[Vt]at hb
 rw[List.getElem_take]at e
 refine Iy.2 ⟨j,b,hj,by omega,by omega,?_⟩
 rw[Hv (hn _ (Vn _)) (hn _ (Vn _)),Vf]
 exact e.symm
theorem Nw{ls:List (List Int)}(hn:∀l∈ls,l.Nodup)(h:∀j (hj:j<ls.length),IG ls j ls[j]=false):Bm ls=false:=by
 cases q:Bm ls with
 |false=>rfl
 |true=>
  obtain⟨a,b,ha,hb,hab,h2⟩:=Iy.1 q
  rw[Hv (hn _ (Vn _)) (hn _ (Vn _)),Vf]at h2
  have:=h a ha
  unfold IG at this
  rw[<-Bool.not_eq_true,Wh,W2]at this
  exact absurd ⟨ls[b],VI.2 ⟨b,by rw[Vt];omega,by rw[List.getElem_take]⟩,h2.symm⟩ this
def Qh(o:Option AObj):Prop:=∃x:List Int,few x/\o=some (.box [eIs x])
def LZ:Option AObj->List Int
 |some (.box [.sl _ L])=>L.map toI
 |_=>[]
theorem EO{x:List Int}(h:few x):Qh (some (.box [eIs x]))=True:=V3 ⟨x,h,rfl⟩
theorem Cj(x:List Int):LZ (some (.box [eIs x]))=x:=A0 x
def sSr:List AVal->AB->Prop×AVal:=λa H=>match a with
 |[.fn (.func f) [] [.ptr q 0]]=>(f=278/\Qh (hget H q),eIs (srt (LZ (hget H q))))
 |_=>(False,.tup [])
theorem qSr:∀args H n,(sSr args H).1->AZ Tryz.prog 242 args H n (sSr args H).2:=by
 intro args H n hh
 unfold sSr at hh⊢
 split at hh
 ·rename_i f q
  obtain⟨rfl,x,hx,h0⟩:=hh
  simp only[h0,Cj]
  exact AZ.of l242 (Aa n _) λhf=>t_srtd hf h0 hx
 ·exact hh.elim
def sR1:List AVal->AB->Prop×AVal:=λa H=>match a with
 |[y,.ptr q 0]=>(dIs.ok y/\wide (dIs.dec y)/\Qh (hget H q),.bool (decide (LZ (hget H q)=dIs.dec y)))
 |_=>(False,.tup [])
def Teq:Tab:=tadd 103 (s2 dIs dIs (λ_ b=>wide b) (λa b=>.bool (decide (a=b)))) tnil
theorem Teq_ok:AH Tryz.prog Teq:=AH.tnil.add (q2 p103)
theorem Teq_e(a:List AVal)(H:AB):Teq 103 a H=s2 dIs dIs (λ_ b=>wide b) (λa b=>.bool (decide (a=b))) a H:=rfl
theorem qR1:∀args H n,(sR1 args H).1->AZ Tryz.prog 245 args H n (sR1 args H).2:=by
 intro args H n hh
 unfold sR1 at hh⊢
 split at hh
 ·rename_i y q
  obtain⟨h1,h2,x,hx,h0⟩:=hh
  simp only[h0,Cj]
  refine AZ.of l245 trivial λhf=>a245 (AE Teq_ok (AF ?_))
  simp only[eE,eN,reduceCtorEq,Nat.reduceEqDiff,↓reduceIte,Nat.reduceAdd,c245,h0,Teq_e,s2,BD,At,V3 h1,V3 h2]
  exact λ_ _ h=>h
 ·exact hh.elim
abbrev clR(q:Nat):AVal:=.fn (.func 245) [] [.ptr q 0]
def Tr1:Tab:=tadd 245 sR1 tnil
theorem Tr1_ok:AH Tryz.prog Tr1:=AH.tnil.add qR1
theorem Tr1_e(a:List AVal)(H:AB):Tr1 245 a H=sR1 a H:=rfl
def idxL(met:List (List Int))(x:List Int):Int:=match met.findIdx? (λy=>decide (x=y))with
 |some k=>(k:Int)
 |none=>-1
theorem q_ifLi{H:AB}{n q:Nat}{met:List (List Int)}{x:List Int}(hm:Bo met)(hx:few x)(h0:hget H q=some (.box [eIs x])):AZ Tryz.prog 279 [eLl met,clR q] H n (.int .i64 (idxL met x)):=by
 refine AZ.of l279 trivial λhf=>a279 (AE Tr1_ok (AF ?_))
 have hml:met.length<1000000000:=hm.1
 simp only[eE,eN,reduceCtorEq,Nat.reduceEqDiff,↓reduceIte,Nat.reduceAdd,V0,c279]
 refine AU (λi:Nat=>⟨[(0,true,eLl met),(1,true,clR q),(7,true,.int .i64 met.length),(8,true,.int .i64 i)],H,n⟩) (λi=>i<=met.length/\∀j (h:j<met.length),j<i->¬x=met[j]) (λi=>met.length-i)
  0 rfl ⟨Vi _,λj _ h=>absurd h (Wq _)⟩ ?_
 rintro i ⟨hi,hb⟩
 by_cases hlt:i<met.length
 ·have hg:=V5 hlt
  have e:=AJ (k:=i) (by omega)
  have hyf:=hm.2 _ (Vn hlt)
  generalize hy:met[i]=y at hg hyf
  by_cases hxy:x=y
  ·have hR:idxL met x=i:=by
    unfold idxL
    rw[Wn.2 ⟨hlt,by simpa [hy]using hxy,λj hj=>by simpa using hb j (by omega) hj⟩]
   rw[hR]
   simp only[eE,eC,eN,reduceCtorEq,Nat.reduceEqDiff,↓reduceIte,V1,V2,V4,V0,V6,lt_T hlt,hg,Tr1_e,sR1,h0,EO hx,Cj,BD,At,V3 hyf,CQ hxy]
   exact λ_ _ h=>h
  ·simp only[eE,eC,eN,reduceCtorEq,Nat.reduceEqDiff,↓reduceIte,Int.reduceEq,V1,V2,V4,V0,V6,lt_T hlt,hg,e,Tr1_e,sR1,h0,EO hx,Cj,BD,At,V3 hyf,Bu hxy]
   refine .mk (i+1) rfl ⟨hlt,λj hj h=>?_⟩ (by omega)
   by_cases z:j=i
   ·subst z;rw[hy];exact hxy
   ·exact hb j hj (by omega)
 obtain rfl:i=met.length:=by omega
 have hR:idxL met x= -1:=by
  unfold idxL
  rw[X3.2 λy hy=>by
   obtain⟨j,hj,rfl⟩:=VI.1 hy
   simpa using hb j hj hj]
 rw[hR]
 simp only[eE,eC,eN,reduceCtorEq,Nat.reduceEqDiff,↓reduceIte,lt_F hlt]
 exact λ_ _ h=>h
theorem idx_in(met:List (List Int))(x:List Int):decide (0<=idxL met x)=met.contains x:=by
 rw[VS,Vf,Wh]
 unfold idxL
 cases h:met.findIdx? (λy=>decide (x=y))with
 |none=>
  rw[X3]at h
  constructor
  ·intro q;simp at q
  ·intro q;have:=h x q;simp at this
 |some k=>
  obtain⟨h1,h2,-⟩:=Wn.1 h
  constructor
  ·intro _
   have:=VH h2
   rw[this];exact Vn _
  ·intro _;simp
def sIf(f:List (List Int)->List Int->AVal):List AVal->AB->Prop×AVal:=λa H=>match a with
 |[y,.fn (.func g) [] [.ptr q 0]]=>(dLl.ok y/\Bo (dLl.dec y)/\g=245/\Qh (hget H q),f (dLl.dec y) (LZ (hget H q)))
 |_=>(False,.tup [])
theorem q_sIf{f:List (List Int)->List Int->AVal}{fid:FuncId}(h:∀{H:AB} {n q:Nat} {met:List (List Int)} {x:List Int},Bo met->few x->hget H q=some (.box [eIs x])->AZ Tryz.prog fid [eLl met,clR q] H n (f met x)):∀args H n,(sIf f args H).1->AZ Tryz.prog fid args H n (sIf f args H).2:=by
 intro args H n hh
 unfold sIf at hh⊢
 split at hh
 ·rename_i y g q
  obtain⟨h1,h2,rfl,x,hx,h0⟩:=hh
  simp only[h0,Cj]
  refine AI.args (h (n:=n) h2 hx h0) ?_
  rintro g vs ⟨v,r,rfl,k1,k2⟩
  exact⟨v,_,rfl,dLl.wk _ h1 _ _ k1,k2⟩
 ·exact hh.elim
abbrev fIf(met:List (List Int))(x:List Int):AVal:=.int .i64 (idxL met x)
abbrev fCf(met:List (List Int))(x:List Int):AVal:=.bool (met.contains x)
def Tr2:Tab:=tadd 279 (sIf fIf) tnil
theorem Tr2_ok:AH Tryz.prog Tr2:=AH.tnil.add (q_sIf λh1 h2 h3=>q_ifLi h1 h2 h3)
theorem Tr2_e(a:List AVal)(H:AB):Tr2 279 a H=sIf fIf a H:=rfl
theorem Nx{t:Tok}{l:List (List Int)}(ht:t.esz=1\/l=[]):dLl.ok (.sl t (l.map eIs))=True:=Gy C9 ht
theorem La{t:Tok}(l:List (List Int)):dLl.dec (.sl t (l.map eIs))=l:=Ee C9
theorem q_cfLi{H:AB}{n q:Nat}{met:List (List Int)}{x:List Int}(hm:Bo met)(hx:few x)(h0:hget H q=some (.box [eIs x])):AZ Tryz.prog 244 [eLl met,clR q] H n (fCf met x):=by
 refine AZ.of l244 trivial λhf=>a244 (AE Tr2_ok (AF ?_))
 simp only[eE,eN,reduceCtorEq,Nat.reduceEqDiff,↓reduceIte,Nat.reduceAdd,c244,Tr2_e,sIf,h0,EO hx,Cj,Dy,Cf,V3 hm,idx_in]
 exact λ_ _ h=>h
def Trg:Tab:=tadd 150 (s2 dGd dLl (λg l=>Ad g.sh g.w g.h g.holes=some g.cells/\few g.holes/\Bo l) λg l=>rgsV g.cells l) (tadd 244 (sIf fCf) (tadd 242 sSr tnil))
theorem Trg_ok:AH Tryz.prog Trg:=((AH.tnil.add qSr).add (q_sIf λh1 h2 h3=>q_cfLi h1 h2 h3)).add (q2 λg l h=>p150 g l h.1 h.2.1 h.2.2)
theorem Trg_g(a:List AVal)(H:AB):Trg 150 a H=s2 dGd dLl (λg l=>Ad g.sh g.w g.h g.holes=some g.cells/\few g.holes/\Bo l) (λg l=>rgsV g.cells l) a H:=rfl
theorem Trg_c(a:List AVal)(H:AB):Trg 244 a H=sIf fCf a H:=rfl
theorem Trg_s(a:List AVal)(H:AB):Trg 242 a H=sSr a H:=rfl
structure VRm where
 j:Nat
 tk:Tok
 H:AB
 n:Nat
structure IRm(g:Grd)(r:DReg)(v:VRm):Prop where
 hj:v.j<=r.ls.length
 fr:AN v.H v.n
 hn:3<=v.n
 h1:hget v.H 1=some (.box (AG g.sh g.w g.h g.holes g.cells))
 tok:tkG 1 2 v.H v.tk
 es:v.tk.esz=1\/(r.ls.take v.j).map srt=[]
 no:∀k (hk:k<r.ls.length),k<v.j->IG r.ls k r.ls[k]=false
theorem p213(d:Dcl)(g:Grd)(hd:FewD d)(hG:Ad g.sh g.w g.h g.holes=some g.cells)(hh:few g.holes):Pur Tryz.prog 213 [encD d,DC g] (.int .i64 (DQ g.cells d.regs)):=by
 refine .mk ⟨A9 0 d,BZ 0 ..,trivial⟩ trivial (a213 (AE Trg_ok (AF ?_)))
 have hrl:d.regs.length<1000000000:=hd.rg
 simp only[eE,eN,reduceCtorEq,Nat.reduceEqDiff,↓reduceIte,Nat.reduceAdd,Nat.reduceLeDiff,V0,c213]
 refine AU (λv:VF=>⟨[(3,true,.ptr 1 0),(14,true,eRgs d.regs),(15,true,.int .i64 d.regs.length),(16,true,.int .i64 v.i)],v.H,v.n⟩) (λv=>v.i<=d.regs.length/\AN v.H v.n/\3<=v.n/\hget v.H 1=some (.box (AG g.sh g.w g.h g.holes g.cells))/\DQ g.cells d.regs=DQ g.cells (d.regs.drop v.i)) (λv=>d.regs.length-v.i)
  ⟨0,hset (hset hnil 0 (.box (AO d))) 1 (.box (AG g.sh g.w g.h g.holes g.cells)),3⟩ rfl ⟨Vi _,(AN.nil.hset (m:=3) (Vi 3) (show 0<3 by decide)).hset (V9 3) (show 1<3 by decide),V9 _,rfl,rfl⟩ ?_
 rintro⟨i,H,n⟩ ⟨hi,hfr,hn,h1,heq⟩
 simp only at hi hfr hn h1 heq
 by_cases hlt:i<d.regs.length
 case neg=>
  obtain rfl:i=d.regs.length:=by omega
  rw[Wx]at heq
  rw[heq]
  simp only[eE,eC,eN,Nat.reduceEqDiff,↓reduceIte,lt_F hlt]
  rfl
 have hg:=V5 hlt
 have e:=AJ (k:=i) (by omega)
 have hrf:KB d.regs[i]:=hd.rgs _ (Vn hlt)
 rw[P5 _ _ _ hlt]at heq
 generalize d.regs[i]=r at hg hrf heq
 have y1:∀q,(n+q=1)=False:=λq=>Vd (by omega)
 have hc:=V3 (⟨hG,hh,hrf⟩:Ad g.sh g.w g.h g.holes=some g.cells/\few g.holes/\Bo r.ls)
 by_cases hb:(decide (r.ls.length<=64)&&r.ls.all (Dt g.cells))=true
 case neg=>
  have hv:rgsV g.cells r.ls= .tup [eLl [],.int .i64 130]:=Vb hb
  have hE:regE g.cells r=130:=Vk (by simpa using hb)
  rw[hE,Vb (by decide)]at heq
  rw[heq]
  simp only[eE,eC,eN,Nat.reduceEqDiff,↓reduceIte,Nat.reduceAdd,Nat.reduceLT,Int.reduceEq,Ve,V1,V2,V4,V0,V6,Va,Vc,lt_T hlt,hg,fr1 hfr,h1,y1,Trg_g,s2,QD,KD,Dy,Cf,hc,hv]
 have hv:rgsV g.cells r.ls= .tup [eLl (r.ls.map (Bt g.cells)),.int .i64 0]:=Vk hb
 obtain⟨hb1,hb2⟩:=(V7 _ _).mp hb
 have hb1:=VH hb1
 have hnd:∀l∈r.ls,l.Nodup:=λl hl=>(Fa (Vj.1 hb2 l hl)).1
 have hregE:regE g.cells r=if Bm r.ls=true then 161 else 0:=by unfold regE;rw[hb,Vb (by decide)]
 simp only[eE,eC,eN,Nat.reduceEqDiff,↓reduceIte,Nat.reduceAdd,Nat.reduceLT,V8,V1,V2,V4,V0,V6,Va,Vc,lt_T hlt,hg,fr1 hfr,h1,y1,Trg_g,s2,QD,KD,Dy,Cf,hc,hv,AK]
 refine AU (λv:VRm=>⟨[(3,true,.ptr 1 0),(9,true,.sl v.tk (((r.ls.take v.j).map srt).map eIs)),(14,true,eRgs d.regs),(15,true,.int .i64 d.regs.length),(16,true,.int .i64 i),(31,true,eLl r.ls),(32,true,.int .i64 r.ls.length),(33,true,.int .i64 v.j)],v.H,v.n⟩) (IRm g r) (λv=>r.ls.length-v.j)
  ⟨0,.nil,hset H (n+2) (.box [.str r.nm,eLl r.ls]),n+4⟩ rfl ⟨Vi _,hfr.hset (m:=n+4) (by omega) (by omega),by simp only[];omega,by simp only[];rw[AA _ _ _ _ (by omega)];exact h1,.inl rfl,.inr rfl,λk _ h=>absurd h (Wq _)⟩ ?_
 rintro⟨j,tk,H1,n1⟩ hI
 have hj:=hI.hj
 have hf1:=hI.fr
 have hn1:=hI.hn
 have h11:=hI.h1
 have htk:=hI.tok
 have hes:=hI.es
 have hno:=hI.no
 simp only at hj hf1 hn1 h11 htk hes hno
 by_cases hlj:j<r.ls.length
 ·have hgj:=V5 hlj
  have ej:=AJ (k:=j) (by omega)
  have hlf:few r.ls[j]:=by
   obtain⟨q1,-,q3⟩:=Fa (Vj.1 hb2 _ (Vn hlj))
   have h1:=LU q1 q3
   have h2:=(A8 hG).2.1
   show r.ls[j].length<_
   omega
  have hmt:=map_take (f:=srt) hlj
  have hhit:=λq=>Qg hnd hlj q
  have hnx:IG r.ls j r.ls[j]=false->∀k (hk:k<r.ls.length),k<j+1->IG r.ls k r.ls[k]=false:=λq k hk h=>by
   by_cases z:k=j
   ·subst z;exact q
   ·exact hno k hk (by omega)
  generalize r.ls[j]=l at hgj hlf hmt hhit hnx
  have hmf:Bo ((r.ls.take j).map srt):=⟨show((r.ls.take j).map srt).length<_ by rw[V0,Vt];omega,λx hx=>by
   obtain⟨y,hy,rfl⟩:=W2.1 hx
   show(srt y).length<_
   rw[CW];exact hrf.2 _ (Xe hy)⟩
  have hsf:few (srt l):=show(srt l).length<_ by rw[CW];exact hlf
  have z1:∀q,(n1+q=1)=False:=λq=>Vd (by omega)
  have hmb:((r.ls.take j).map srt).contains (srt l)=IG r.ls j l:=rfl
  simp only[eE,eC,eN,Nat.reduceEqDiff,↓reduceIte,V1,V2,V4,V0,V6,lt_T hlj,hgj]
  refine(t_vals (n:=n1+5) λj hj=>hf1 j (by omega)).mono ?_
  rintro o H2 n2 ⟨rfl,rfl,rfl⟩
  cases hb3:IG r.ls j l with
  |true=>
   rw[hregE,hhit hb3,Vk rfl,Vb (by decide)]at heq
   rw[heq]
   simp only[eE,eC,eN,reduceCtorEq,Nat.reduceEqDiff,↓reduceIte,Nat.reduceAdd,retK,Trg_s,sSr,EO hlf,Cj,fr1 hf1,Trg_c,sIf,EO hsf,Nx hes,La,V3 hmf,hmb,hb3,AK]
  |false=>
   have gt:tkG 1 2 (hset (hset H1 (n1+5) (.box [eIs l])) (n1+3) (.box [eIs (srt l)])) tk:=(htk.set (.inr (.inr (fr1 hf1 5)))).set (.inr (.inr (by rw[AA _ _ _ _ (by omega)];exact fr1 hf1 3)))
   have gf:AN (hset (hset H1 (n1+5) (.box [eIs l])) (n1+3) (.box [eIs (srt l)])) (n1+12):=(hf1.hset (m:=n1+12) (by omega) (by omega)).hset (m:=n1+12) (by omega) (by omega)
   have q1:Bh (hset (hset H1 (n1+5) (.box [eIs l])) (n1+3) (.box [eIs (srt l)])) 1 tk=True:=V3 gt.app
   have q2:((r.ls.take j).length<=35184372088831)=True:=V3 (by rw[Vt];omega)
   have q3:Al ((r.ls.take j).length+1) 24=True:=V3 (AX (by rw[Vt];omega) (by decide))
   simp only[eE,eC,eN,reduceCtorEq,Nat.reduceEqDiff,↓reduceIte,Nat.reduceAdd,Nat.reduceLeDiff,Nat.reduceMul,Nat.reduceLT,Int.reduceEq,V0,retK,Trg_s,sSr,EO hlf,Cj,fr1 hf1,Trg_c,sIf,EO hsf,Nx hes,La,V3 hmf,hmb,hb3,AK,q2,q3,q1,ej]
   refine .mk ⟨j+1,.own (n1+10) 1,hset (AW (hset (hset H1 (n1+5) (.box [eIs l])) (n1+3) (.box [eIs (srt l)])) tk) (n1+10) .tok,n1+12⟩ ?_ ⟨hlj,(Ak gt gf).hset (V9 _) (show n1+10<n1+12 by omega),by simp only[];omega,?_,.inr (.inr ⟨n1+10,rfl,by omega,AC ..⟩),.inl rfl,hnx hb3⟩ (by simp only[];omega)
   ·simp only[hmt,Vl];rfl
   ·simp only[]
    rw[AA _ _ _ _ (by omega),Ai gt (.inl (by omega)),AA _ _ _ _ (by omega),AA _ _ _ _ (by omega)]
    exact h11
 obtain rfl:j=r.ls.length:=by omega
 rw[hregE,Nw hnd λj hj=>hno j hj hj]at heq
 simp only[eE,eC,eN,Nat.reduceEqDiff,↓reduceIte,Int.reduceEq,lt_F hlj,e]
 exact .mk ⟨i+1,H1,n1⟩ rfl ⟨hlt,hf1,hn1,h11,heq⟩ (by simp only[];omega)
end Go.AM
namespace Go.AM
open Go.Proofs Go.Lib
def whn(b:Bool)(e:Int):Int:=if b=true then 0 else e
def Ml(d:Dcl):Int:=whn (limD d) 2
def KS(d:Dcl):Int:=match resD d with
 | .error e=>e
 | .ok x=>whn (decide (x=d)) 170
def Mm(d:Dcl):Int:=whn (decide (1<=d.ver)&&decide (d.ver<=255)) 170
def Mn(d:Dcl):Int:=match Ad d.sh d.w d.h d.holes with
 |some _=>0
 |none=>130
def Mo(d:Dcl):Int:=whn (CF d) 170
def Ny(d:Dcl):Int:=whn (decide (BT d.ruls=[])) 171
theorem E5{d:Dcl}{e:Int}(h:resD d= .error e):e≠0:=by
 unfold resD at h
 rintro rfl
 repeat' split at h
 all_goals simp at h
def dB:Dc Bool:=⟨.bool,toB,λv=>match v with| .bool _=>True|_=>False,λv h=>by
 cases v<;>first|exact Wk.refl _|exact h.elim⟩
theorem Nz(b:Bool):dB.ok (.bool b)=True:=rfl
theorem I8(b:Bool):dB.dec (.bool b)=b:=rfl
def Tst:Tab:=tadd 208 (s2 dB dI any2 λb e=>.int .i64 (whn b e)) (tadd 145 (s1 dD FewD EN) (tadd 104 (s2 dD dD (λ_ b=>FewD b) λa b=>.bool (decide (a=b))) (tadd 215 (s1 dD FewD λd=>.bool (CF d)) (tadd 217 (s1 dD FewD λd=>eIs (BT d.ruls)) (tadd 213 (s2 dD dGd (λd g=>FewD d/\Ad g.sh g.w g.h g.holes=some g.cells/\few g.holes) λd g=>.int .i64 (DQ g.cells d.regs)) tnil)))))
theorem HK:AH Tryz.prog Tst:=(((((AH.tnil.add (q2 λd g h=>p213 d g h.1 h.2.1 h.2.2)).add (q1 λd h=>p217 d h.ru)).add (q1 λd h=>p215 d h)).add (q2 λa b h=>p104 a b h)).add (q1 λd h=>p145 d h)).add (q2 λb e _=>p208 b e)
theorem N0(a:List AVal)(H:AB):Tst 208 a H=s2 dB dI any2 (λb e=>.int .i64 (whn b e)) a H:=rfl
theorem Tst_n(a:List AVal)(H:AB):Tst 145 a H=s1 dD FewD EN a H:=rfl
theorem Tst_s(a:List AVal)(H:AB):Tst 104 a H=s2 dD dD (λ_ b=>FewD b) (λa b=>.bool (decide (a=b))) a H:=rfl
theorem Tst_f(a:List AVal)(H:AB):Tst 215 a H=s1 dD FewD (λd=>.bool (CF d)) a H:=rfl
theorem Tst_u(a:List AVal)(H:AB):Tst 217 a H=s1 dD FewD (λd=>eIs (BT d.ruls)) a H:=rfl
theorem Tst_r(a:List AVal)(H:AB):Tst 213 a H=s2 dD dGd (λd g=>FewD d/\Ad g.sh g.w g.h g.holes=some g.cells/\few g.holes) (λd g=>.int .i64 (DQ g.cells d.regs)) a H:=rfl
theorem SZ{H:AB}{n i:Nat}(hf:AN H n)(hi:n<=i)(a b:AObj):BR H (hset (hset H i a) i b):=λid ob h=>by
 have:=hf.lt h
 rw[AA _ _ _ _ (by omega),AA _ _ _ _ (by omega)];exact h
theorem Qi(d:Dcl):(decide ((0:Int)<d.syms.length)&&decide ((d.syms.length:Int)<=16)&&decide ((d.regs.length:Int)<=4)&&decide ((d.clus.length:Int)<=4)&&decide ((d.ruls.length:Int)<=16))=limD d:=by
 rw[VS];simp [limD];omega
theorem TL(l:List Int):decide ((l.length:Int)=0)=decide (l=[]):=by
 cases l<;>simp;omega
variable {d:Dcl} {H:AB} {n q:Nat}
theorem u1(hd:FewD d)(h0:hget H q=some (.box (AO d))):AZ Tryz.prog 207 [.ptr q 0] H n (.int .i64 (Ml d)):=by
 refine AZ.of l207 trivial λhf=>a207 (AE HK (AF ?_))
 simp only[eE,eC,eN,reduceCtorEq,Nat.reduceEqDiff,↓reduceIte,Nat.reduceAdd,Nat.reduceLeDiff,V0,c207,h0,N0,s2,Nz,I8,CP,BH,Qi]
 exact⟨rfl,λ_ _ h=>h⟩
theorem u2(hd:FewD d)(h0:hget H q=some (.box (AO d))):AZ Tryz.prog 209 [.ptr q 0] H n (.int .i64 (KS d)):=by
 refine AZ.of l209 trivial λhf=>a209 (AE HK (AF ?_))
 have hq:=hf.lt h0
 have y1:∀k,(n+k=q)=False:=λk=>Vd (by omega)
 unfold KS
 cases hr:resD d with
 |error e=>
  have hv:EN d= .tup [encD dcl0,.int .i64 e]:=by unfold EN;rw[hr]
  have he:(e=0)=False:=Vd (E5 hr)
  simp only[eE,eC,eN,reduceCtorEq,Nat.reduceEqDiff,↓reduceIte,Nat.reduceAdd,Nat.reduceLT,Ve,V1,Va,Vc,c209,h0,Tst_n,s1,FF,DA,V3 hd,hv,fr1 hf,he]
  exact SZ hf (by omega) _ _
 |ok x=>
  have hv:EN d= .tup [encD x,.int .i64 0]:=by unfold EN;rw[hr]
  simp only[eE,eC,eN,reduceCtorEq,Nat.reduceEqDiff,↓reduceIte,Nat.reduceAdd,Nat.reduceLT,V8,V1,Va,Vc,c209,h0,Tst_n,Tst_s,N0,s1,s2,FF,DA,V3 hd,hv,fr1 hf,y1,Nz,I8,CP,BH]
  exact SZ hf (by omega) _ _
theorem u3(h0:hget H q=some (.box (AO d))):AZ Tryz.prog 210 [.ptr q 0] H n (.int .i64 (Mm d)):=by
 refine AZ.of l210 trivial λhf=>a210 (AE HK (AF ?_))
 simp only[eE,eC,eN,reduceCtorEq,Nat.reduceEqDiff,↓reduceIte,Nat.reduceAdd,Nat.reduceLeDiff,c210,h0,N0,s2,Nz,I8,CP,BH]
 exact⟨rfl,λ_ _ h=>h⟩
theorem u6(hd:FewD d)(h0:hget H q=some (.box (AO d))):AZ Tryz.prog 214 [.ptr q 0] H n (.int .i64 (Mo d)):=by
 refine AZ.of l214 trivial λhf=>a214 (AE HK (AF ?_))
 simp only[eE,eN,reduceCtorEq,↓reduceIte,Nat.reduceAdd,c214,h0,N0,Tst_f,s1,s2,Nz,I8,CP,BH,FF,DA,V3 hd]
 exact⟨rfl,λ_ _ h=>h⟩
theorem u7(hd:FewD d)(h0:hget H q=some (.box (AO d))):AZ Tryz.prog 216 [.ptr q 0] H n (.int .i64 (Ny d)):=by
 refine AZ.of l216 trivial λhf=>a216 (AE HK (AF ?_))
 simp only[eE,eN,reduceCtorEq,↓reduceIte,Nat.reduceAdd,V0,c216,h0,N0,Tst_u,s1,s2,Nz,I8,CP,BH,FF,DA,V3 hd,TL]
 exact⟨rfl,λ_ _ h=>h⟩
theorem u5{g:Grd}{q':Nat}(hd:FewD d)(hG:Ad g.sh g.w g.h g.holes=some g.cells)(hh:few g.holes)(h0:hget H q=some (.box (AO d)))(h1:hget H q'=some (.box (AG g.sh g.w g.h g.holes g.cells))):AZ Tryz.prog 212 [.ptr q 0,.ptr q' 0] H n (.int .i64 (DQ g.cells d.regs)):=by
 refine AZ.of l212 trivial λhf=>a212 (AE HK (AF ?_))
 simp only[eE,eN,reduceCtorEq,Nat.reduceEqDiff,↓reduceIte,Nat.reduceAdd,c212,h0,h1,Tst_r,s2,QD,KD,FF,DA,V3 hd,hG,V3 hh]
 exact λ_ _ h=>h
abbrev gr0:List AVal:=[.int .i64 0,.int .i64 0,.int .i64 0,.sl .nil [],.sl .nil []]
def Tmc:Tab:=tadd 147 (λa H=>match a with
 |[.int .i64 sh,.int .i64 w,.int .i64 h,x]=>(dIs.ok x/\few (dIs.dec x),B5 sh w h (dIs.dec x))
 |_=>(False,.tup [])) tnil
theorem Tmc_ok:AH Tryz.prog Tmc:=AH.tnil.add TC
theorem Tmc_m(sh w h:Int)(x:AVal)(H:AB):Tmc 147 [.int .i64 sh,.int .i64 w,.int .i64 h,x] H=(dIs.ok x/\few (dIs.dec x),B5 sh w h (dIs.dec x)):=rfl
theorem u4{q':Nat}(hne:q≠q')(hh:few d.holes)(h0:hget H q=some (.box (AO d)))(h1:hget H q'=some (.box gr0)):
  AI Tryz.prog 211 [.ptr q 0,.ptr q' 0] H n λo H' n'=>o= .ret (.int .i64 (Mn d))/\n'=n/\∃cs,H'=hset H q' (.box cs)/\∀cells,Ad d.sh d.w d.h d.holes=some cells->cs=AG d.sh d.w d.h d.holes cells:=by
 refine a211 (AE Tmc_ok (AF ?_))
 unfold Mn
 cases hc:Ad d.sh d.w d.h d.holes with
 |none=>
  have hv:B5 d.sh d.w d.h d.holes= .tup [encG 0 0 0 [] [],.int .i64 130]:=by unfold B5;rw[hc]
  simp only[eE,eN,reduceCtorEq,Nat.reduceEqDiff,↓reduceIte,Nat.reduceAdd,Nat.reduceLeDiff,Nat.reduceLT,V1,Va,Vc,c211,h0,h1,Tmc_m,BD,At,V3 hh,hv]
  exact⟨_,rfl⟩
 |some cells=>
  have hv:B5 d.sh d.w d.h d.holes= .tup [encG d.sh d.w d.h d.holes cells,.int .i64 0]:=by unfold B5;rw[hc]
  simp only[eE,eN,reduceCtorEq,Nat.reduceEqDiff,↓reduceIte,Nat.reduceAdd,Nat.reduceLeDiff,Nat.reduceLT,V1,Va,Vc,c211,h0,h1,Tmc_m,BD,At,V3 hh,hv]
  exact⟨_,rfl,λc h=>by cases h;rfl⟩
end Go.AM
namespace Go.AM
open Go.Proofs Go.Lib
theorem N2(d:Dcl):chkD d=if Ml d≠0 then Ml d else if KS d≠0 then KS d else if Mm d≠0 then Mm d else match Ad d.sh d.w d.h d.holes with
  |none=>130
  |some cells=>if DQ cells d.regs≠0 then DQ cells d.regs else if Mo d≠0 then Mo d else Ny d:=by
 unfold chkD Ml KS Mm Mo Ny
 cases limD d with
 |false=>rfl
 |true=>
 cases hr:resD d with
 |error e=>simp [whn,E5 hr]
 |ok x=>
 by_cases hx:x=d
 ·by_cases hv:d.ver<1\/255<d.ver
  ·have:(decide (1<=d.ver)&&decide (d.ver<=255))=false:=by simp;omega
   simp [whn,hx,hv,this]
  ·have:(decide (1<=d.ver)&&decide (d.ver<=255))=true:=by simp;omega
   cases hc:Ad d.sh d.w d.h d.holes with
   |none=>simp [whn,hx,hv,this]
   |some cells=>
    cases CF d<;>by_cases hu:BT d.ruls=[]<;>simp [whn,hx,hv,this,hu]
 ·simp [whn,hx]
abbrev stA:List AVal:=[.fn (.func 207) [] [.ptr 0 0],.fn (.func 209) [] [.ptr 0 0],.fn (.func 210) [] [.ptr 0 0],.fn (.func 211) [] [.ptr 0 0,.ptr 2 0],.fn (.func 212) [] [.ptr 0 0,.ptr 2 0],.fn (.func 214) [] [.ptr 0 0],.fn (.func 216) [] [.ptr 0 0]]
structure IChk(d:Dcl)(v:VF):Prop where
 hi:v.i<=7
 h0:hget v.H 0=some (.box (AO d))
 z1:0<v.i->Ml d=0
 z2:1<v.i->KS d=0
 z3:2<v.i->Mm d=0
 g0:v.i<=3->hget v.H 2=some (.box gr0)
 z4:3<v.i->∃cells,Ad d.sh d.w d.h d.holes=some cells/\hget v.H 2=some (.box (AG d.sh d.w d.h d.holes cells))/\(4<v.i->DQ cells d.regs=0)
 z6:5<v.i->Mo d=0
 z7:6<v.i->Ny d=0
theorem p146(d:Dcl)(hd:FewD d):Pur Tryz.prog 146 [encD d] (.int .i64 (chkD d)):=by
 refine .mk ⟨A9 0 d,trivial⟩ trivial (a146 (AE AH.tnil (AF ?_)))
 simp only[eE,eN,reduceCtorEq,Nat.reduceEqDiff,↓reduceIte,Nat.reduceAdd,Nat.reduceLeDiff,Nat.reduceMul,Nat.reduceLT,c146]
 have h7:((7:Nat):Int)=7:=rfl
 refine AU (λv:VF=>⟨[(14,true,.sl (.exact 1) stA),(15,true,.int .i64 7),(16,true,.int .i64 v.i)],v.H,v.n⟩) (IChk d) (λv=>7-v.i)
  ⟨0,hset (hset hnil 0 (.box (AO d))) 2 (.box gr0),3⟩ rfl ⟨Vi _,rfl,λh=>absurd h (Wq _),λh=>absurd h (Wq _),λh=>absurd h (Wq _),λ_=>rfl,λh=>absurd h (Wq _),λh=>absurd h (Wq _),λh=>absurd h (Wq _)⟩ ?_
 rintro⟨i,H,n⟩ hI
 obtain⟨hi,h0,z1,z2,z3,g0,z4,z6,z7⟩:=hI
 simp only at hi h0 z1 z2 z3 g0 z4 z6 z7
 have hS:=N2 d
 by_cases hlt:i<7
 case neg=>
  obtain⟨cells,hc,-,hr⟩:=z4 (by omega)
  have hlF:((i:Int)<7)=False:=Vd (by omega)
  simp only[z1 (by omega),z2 (by omega),z3 (by omega),hc,hr (by omega),z6 (by omega),z7 (by omega),ne_eq,WO,Vv]at hS
  rw[hS]
  simp only[eE,eC,eN,Nat.reduceEqDiff,↓reduceIte,hlF]
 have hlT:((i:Int)<7)=True:=V3 (by omega)
 have hlN:((i:Int)<((7:Nat):Int))=True:=hlT
 have e:=AJ (k:=i) (by omega)
 have h8:i=0\/i=1\/i=2\/i=3\/i=4\/i=5\/i=6:=by omega
 rcases h8 with h8|h8|h8|h8|h8|h8|h8
 ·have hg:stA[i]?=some (.fn (.func 207) [] [.ptr 0 0]):=by rw[h8];rfl
  have hl7:i<stA.length:=hlt
  simp only[eE,eC,eN,Nat.reduceEqDiff,↓reduceIte,Nat.reduceAdd,V1,V2,V4,hlT,hlN,hg]
  refine(u1 hd h0).mono ?_
  rintro o H' n' ⟨rfl,rfl,rfl⟩
  by_cases hz:Ml d=0
  ·rw[hz]
   simp only[eE,eC,eN,Nat.reduceEqDiff,↓reduceIte,Int.reduceEq,V8,retK,e]
   exact .mk ⟨i+1,H',n'⟩ rfl ⟨hlt,h0,λ_=>hz,λh=>absurd h (by simp only[];omega),λh=>absurd h (by simp only[];omega),λ_=>g0 (by omega),λh=>absurd h (by simp only[];omega),λh=>absurd h (by simp only[];omega),λh=>absurd h (by simp only[];omega)⟩ (by simp only[];omega)
  ·rw[Vk hz]at hS
   rw[hS]
   simp only[eE,eC,eN,Nat.reduceEqDiff,↓reduceIte,Ve,retK,Vd hz]
 ·have hg:stA[i]?=some (.fn (.func 209) [] [.ptr 0 0]):=by rw[h8];rfl
  have hl7:i<stA.length:=hlt
  simp only[eE,eC,eN,Nat.reduceEqDiff,↓reduceIte,Nat.reduceAdd,V1,V2,V4,hlT,hlN,hg]
  refine(u2 hd h0).mono ?_
  rintro o H' n' ⟨rfl,rfl,rfl⟩
  simp only[z1 (by omega),ne_eq,WO,Vv]at hS
  by_cases hz:KS d=0
  ·rw[hz]
   simp only[eE,eC,eN,Nat.reduceEqDiff,↓reduceIte,Int.reduceEq,V8,retK,e]
   exact .mk ⟨i+1,H',n'⟩ rfl ⟨hlt,h0,λ_=>z1 (by omega),λ_=>hz,λh=>absurd h (by simp only[];omega),λ_=>g0 (by omega),λh=>absurd h (by simp only[];omega),λh=>absurd h (by simp only[];omega),λh=>absurd h (by simp only[];omega)⟩ (by simp only[];omega)
  ·rw[Vk hz]at hS
   rw[hS]
   simp only[eE,eC,eN,Nat.reduceEqDiff,↓reduceIte,Ve,retK,Vd hz]
 ·have hg:stA[i]?=some (.fn (.func 210) [] [.ptr 0 0]):=by rw[h8];rfl
  have hl7:i<stA.length:=hlt
  simp only[eE,eC,eN,Nat.reduceEqDiff,↓reduceIte,Nat.reduceAdd,V1,V2,V4,hlT,hlN,hg]
  refine(u3 h0).mono ?_
  rintro o H' n' ⟨rfl,rfl,rfl⟩
  simp only[z1 (by omega),z2 (by omega),ne_eq,WO,Vv]at hS
  by_cases hz:Mm d=0
  ·rw[hz]
   simp only[eE,eC,eN,Nat.reduceEqDiff,↓reduceIte,Int.reduceEq,V8,retK,e]
   exact .mk ⟨i+1,H',n'⟩ rfl ⟨hlt,h0,λ_=>z1 (by omega),λ_=>z2 (by omega),λ_=>hz,λ_=>g0 (by omega),λh=>absurd h (by simp only[];omega),λh=>absurd h (by simp only[];omega),λh=>absurd h (by simp only[];omega)⟩ (by simp only[];omega)
  ·rw[Vk hz]at hS
   rw[hS]
   simp only[eE,eC,eN,Nat.reduceEqDiff,↓reduceIte,Ve,retK,Vd hz]
 ·have hg:stA[i]?=some (.fn (.func 211) [] [.ptr 0 0,.ptr 2 0]):=by rw[h8];rfl
  have hl7:i<stA.length:=hlt
  simp only[eE,eC,eN,Nat.reduceEqDiff,↓reduceIte,Nat.reduceAdd,V1,V2,V4,hlT,hlN,hg]
  refine(u4 (by decide) hd.ho h0 (g0 (by omega))).mono ?_
  rintro o H' n' ⟨rfl,rfl,cs,rfl,hcs⟩
  have h0':hget (hset H 2 (.box cs)) 0=some (.box (AO d)):=by rw[AA _ _ _ _ (by decide)];exact h0
  simp only[z1 (by omega),z2 (by omega),z3 (by omega),ne_eq,WO,Vv]at hS
  cases hc:Ad d.sh d.w d.h d.holes with
  |none=>
   have hs4:Mn d=130:=by unfold Mn;rw[hc]
   rw[hc]at hS
   rw[hS,hs4]
   simp only[eE,eC,eN,Nat.reduceEqDiff,↓reduceIte,Int.reduceEq,Ve,retK]
  |some cells=>
   have hs4:Mn d=0:=by unfold Mn;rw[hc]
   rw[hs4]
   simp only[eE,eC,eN,Nat.reduceEqDiff,↓reduceIte,Int.reduceEq,V8,retK,e]
   refine .mk ⟨i+1,hset H 2 (.box cs),n'⟩ rfl ⟨hlt,h0',λ_=>z1 (by omega),λ_=>z2 (by omega),λ_=>z3 (by omega),λh=>absurd h (by simp only[];omega),λ_=>⟨cells,hc,by simp only[];rw[AC,hcs cells hc],λh=>absurd h (by simp only[];omega)⟩,λh=>absurd h (by simp only[];omega),λh=>absurd h (by simp only[];omega)⟩ (by simp only[];omega)
 ·have hg:stA[i]?=some (.fn (.func 212) [] [.ptr 0 0,.ptr 2 0]):=by rw[h8];rfl
  have hl7:i<stA.length:=hlt
  obtain⟨cells,hc,hg2,hr⟩:=z4 (by omega)
  simp only[eE,eC,eN,Nat.reduceEqDiff,↓reduceIte,Nat.reduceAdd,V1,V2,V4,hlT,hlN,hg]
  refine(u5 (g:=⟨d.sh,d.w,d.h,d.holes,cells⟩) hd hc hd.ho h0 hg2).mono ?_
  rintro o H' n' ⟨rfl,rfl,rfl⟩
  simp only[z1 (by omega),z2 (by omega),z3 (by omega),hc,ne_eq,WO,Vv]at hS
  by_cases hz:DQ cells d.regs=0
  ·rw[hz]
   simp only[eE,eC,eN,Nat.reduceEqDiff,↓reduceIte,Int.reduceEq,V8,retK,e]
   exact .mk ⟨i+1,H',n'⟩ rfl ⟨hlt,h0,λ_=>z1 (by omega),λ_=>z2 (by omega),λ_=>z3 (by omega),λh=>absurd h (by simp only[];omega),λ_=>⟨cells,hc,hg2,λ_=>hz⟩,λh=>absurd h (by simp only[];omega),λh=>absurd h (by simp only[];omega)⟩ (by simp only[];omega)
  ·rw[Vk hz]at hS
   rw[hS]
   simp only[eE,eC,eN,Nat.reduceEqDiff,↓reduceIte,Ve,retK,Vd hz]
 ·have hg:stA[i]?=some (.fn (.func 214) [] [.ptr 0 0]):=by rw[h8];rfl
  have hl7:i<stA.length:=hlt
  obtain⟨cells,hc,hg2,hr⟩:=z4 (by omega)
  simp only[eE,eC,eN,Nat.reduceEqDiff,↓reduceIte,Nat.reduceAdd,V1,V2,V4,hlT,hlN,hg]
  refine(u6 hd h0).mono ?_
  rintro o H' n' ⟨rfl,rfl,rfl⟩
  simp only[z1 (by omega),z2 (by omega),z3 (by omega),hc,hr (by omega),ne_eq,WO,Vv]at hS
  by_cases hz:Mo d=0
  ·rw[hz]
   simp only[eE,eC,eN,Nat.reduceEqDiff,↓reduceIte,Int.reduceEq,V8,retK,e]
   exact .mk ⟨i+1,H',n'⟩ rfl ⟨hlt,h0,λ_=>z1 (by omega),λ_=>z2 (by omega),λ_=>z3 (by omega),λh=>absurd h (by simp only[];omega),λ_=>⟨cells,hc,hg2,λ_=>hr (by omega)⟩,λ_=>hz,λh=>absurd h (by simp only[];omega)⟩ (by simp only[];omega)
  ·rw[Vk hz]at hS
   rw[hS]
   simp only[eE,eC,eN,Nat.reduceEqDiff,↓reduceIte,Ve,retK,Vd hz]
 ·have hg:stA[i]?=some (.fn (.func 216) [] [.ptr 0 0]):=by rw[h8];rfl
  have hl7:i<stA.length:=hlt
  obtain⟨cells,hc,hg2,hr⟩:=z4 (by omega)
  simp only[eE,eC,eN,Nat.reduceEqDiff,↓reduceIte,Nat.reduceAdd,V1,V2,V4,hlT,hlN,hg]
  refine(u7 hd h0).mono ?_
  rintro o H' n' ⟨rfl,rfl,rfl⟩
  simp only[z1 (by omega),z2 (by omega),z3 (by omega),hc,hr (by omega),z6 (by omega),ne_eq,WO,Vv]at hS
  by_cases hz:Ny d=0
  ·rw[hz]
   simp only[eE,eC,eN,Nat.reduceEqDiff,↓reduceIte,Int.reduceEq,V8,retK,e]
   exact .mk ⟨i+1,H',n'⟩ rfl ⟨hlt,h0,λ_=>z1 (by omega),λ_=>z2 (by omega),λ_=>z3 (by omega),λh=>absurd h (by simp only[];omega),λ_=>⟨cells,hc,hg2,λ_=>hr (by omega)⟩,λ_=>z6 (by omega),λ_=>hz⟩ (by simp only[];omega)
  ·rw[hS]
   simp only[eE,eC,eN,Nat.reduceEqDiff,↓reduceIte,Ve,retK,Vd hz]
end Go.AM
namespace Go.AM
open Go.Proofs Go.Lib
structure Knd where
 d:Dcl
 g:Grd
 nb:List (List Int)
 ls:List (List (List Int))
 deriving DecidableEq
def A2(x:Dcl)(cells:List Int):Grd:=⟨x.sh,x.w,x.h,x.holes,cells⟩
def TM(x:Dcl)(cells:List Int):Knd:=
 ⟨x,A2 x cells,nbsS x.sh (AP x.sh x.w cells),((List.range 8).map λf=>famS x.sh x.w x.h (AP x.sh x.w cells) f)++x.regs.map λr=>r.ls.map (Bt cells)⟩
def DV(d:Dcl):Except Int Knd:=match resD d with
 | .error e=>.error e
 | .ok x=>if chkD x≠0 then .error (chkD x)else match Ad x.sh x.w x.h x.holes with
  |none=>.error 130
  |some cells=>.ok (TM x cells)
def HL(k:Knd):Bool:=match DV k.d with
 | .ok x=>decide (k=x)
 | .error _=>false
def Bf(k:Knd):Int:=if HL k then 0 else 180
theorem Lb{k:Knd}(h:HL k=true):DV k.d= .ok k:=by grind [HL]
theorem Qj{x:Dcl}(h:chkD x=0):∃cells,Ad x.sh x.w x.h x.holes=some cells:=by
 unfold chkD at h
 split at h
 ·cases h
 ·split at h
  ·rename_i e he
   have:=E5 he
   exact absurd h this
  ·grind
theorem IH{d:Dcl}{k:Knd}(h:DV d= .ok k):∃x cells,resD d= .ok x/\chkD x=0/\Ad x.sh x.w x.h x.holes=some cells/\k=TM x cells:=by grind [DV]
end Go.AM
namespace Go.AM
open Go.Proofs Go.Lib
structure IUr(d:Dcl)(v:VU):Prop where
 hi:v.i<=d.ruls.length
 fr:AN v.H v.n
 hn:2<=v.n
 h0:hget v.H 0=some (.box (AO d))
 tok:tkG 1 1 v.H v.tk
 es:v.tk.esz=1\/BT (d.ruls.take v.i)=[]
end Go.AM
