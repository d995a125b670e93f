/-
  Names: each name's number put into a map; two elements with one name end the work · Names: a name's number, sets of symb.
  Conditions: none beyond those of its parts.
-/
import Derived.Test.YtncahiacfdihpaaGreatDoorB9
import Derived.Test.YtncahiacfdihpaaGreatDoorB6
import Derived.Test.YtncahiacfdihpaaGreatDoorB8

set_option maxRecDepth 20000
set_option linter.all false
namespace Go.AM
open Go.Proofs Go.Lib
abbrev errV(n:Int):AVal:=.ifc 39 (.int .i64 n)
abbrev nmO(l:List Bs):AObj:=.map (nmEs l 0) l.length
def Bi(H:AB)(n id:Nat)(pre ns:List Bs):AOut->AB->Nat->Prop:=λo H' n'=>
 if Ac (pre++ns)=true then o= .pan (errV 161)/\H'=hset H id .dead/\n'=n else o= .ret (.mp id)/\H'=hset H id (nmO (pre++ns))/\n'=n
def Fq(H:AB)(id:Nat)(pre ns:List Bs):AOut->AB->Nat->Prop:=λo H' n'=>
 if Ac (pre++ns)=true then o= .pan (errV 161)/\(∃ob,hget H' id=some ob)/\BW id H H' else(∃v,o= .ret v/\Wk v (.mp id))/\hget H' id=some (nmO (pre++ns))/\BW id H H'
theorem Ny(n:Nat)(l:List Bs):(nmO l).under n:=by
 suffices h:∀(i n c:Nat),(AObj.map (nmEs l i) c).under n from h 0 n l.length
 induction l with
 |nil=>intro i n c;trivial
 |cons x r ih=>intro i n c;exact⟨trivial,trivial,ih (i+1) n c⟩
theorem I8{H H':AB}{n id:Nat}{ob ob1:AObj}(hf:AN H n)(hid:id<n)(h1:hget H' id=some ob1)(hw:OWk ob1 ob)(hu:ob.under n)(h2:BW id H H'):Es n H H' (hset H id ob):=by
 refine⟨λi o ho=>?_,λi hi=>?_⟩
 ·rw[AD]at ho
  by_cases e:id=i
  ·subst e
   rw[Vk rfl]at ho
   cases ho
   exact⟨hid,⟨_,h1,hw⟩,.inl hu⟩
  ·rw[Vc e]at ho
   exact⟨hf.lt ho,⟨o,h2 i o (Ne.symm e) ho,OWk.refl _⟩,.inr ho⟩
 ·rw[AD]
  split
  ·exact λh=>by cases h
  ·exact hi
theorem Qa(ob:AObj):OWk ob .dead:=⟨λ_ _ _ _=>trivial,λh=>by cases h⟩
theorem Bi.of{fid:FuncId}{args:List AVal}{H:AB}{n id:Nat}{pre ns:List Bs}(hc:AW Tryz.prog fid)(hp:hget H id=some (nmO pre))(h:AN H n->id<n->AK Tryz.prog fid args H n (Fq H id pre ns)):AK Tryz.prog fid args H n (Bi H n id pre ns):=by
 refine AK.fresh hc λhf=>?_
 have hid:=hf.lt hp
 refine AK.forget (h hf hid) ?_
 intro o H' n' q
 unfold Fq at q
 by_cases ht:Ac (pre++ns)=true
 ·rw[Vk ht]at q
  obtain⟨rfl,⟨ob,h1⟩,h2⟩:=q
  exact⟨.pan (errV 161),hset H id .dead,by unfold Bi;rw[Vk ht];exact⟨rfl,rfl,rfl⟩,I8 hf hid h1 (Qa _) trivial h2,Wk.refl _,trivial⟩
 ·rw[Vc ht]at q
  obtain⟨⟨v,rfl,hw⟩,h1,h2⟩:=q
  exact⟨.ret (.mp id),hset H id (nmO (pre++ns)),by unfold Bi;rw[Vc ht];exact⟨rfl,rfl,rfl⟩,I8 hf hid h1 (OWk.refl _) (Ny n _) h2,hw,hid⟩
structure VIx where
 i:Nat
 H:AB
 n:Nat
structure IIx(H:AB)(n id:Nat)(pre ns:List Bs)(v:VIx):Prop where
 hi:v.i<=ns.length
 hn:n<=v.n
 fr:AN v.H v.n
 hm:hget v.H id=some (nmO (pre++ns.take v.i))
 hk:BW id H v.H
 tw:Ac (pre++ns.take v.i)=false
theorem GF{pre ns:List Bs}{i:Nat}(h:i<ns.length)(hin:ns[i]∈pre++ns.take i):Ac (pre++ns)=true:=by
 have e:pre++ns=(pre++ns.take i)++ns[i]::ns.drop (i+1):=by
  rw[VO,<-VS h,List.take_append_drop]
 rw[e];exact SG hin
theorem GG{l:List Bs}{s:Bs}(h:Ac l=false)(hs:s∉l):Ac (l++[s])=false:=P5.2 ⟨h,hs⟩
theorem p193(x:DSym):Pur Tryz.prog 193 [HO x] (.str x.nm):=by
 refine .mk ⟨G1 0 x,trivial⟩ trivial (a193 (AE AH.tnil (AF ?_)))
 simp only[eE,eN,Nat.reduceEqDiff,↓reduceIte,Nat.reduceAdd,Nat.reduceLeDiff,c193]
theorem p195(x:DReg):Pur Tryz.prog 195 [F5 x] (.str x.nm):=by
 refine .mk ⟨DS 0 x,trivial⟩ trivial (a195 (AE AH.tnil (AF ?_)))
 simp only[eE,eN,Nat.reduceEqDiff,↓reduceIte,Nat.reduceAdd,Nat.reduceLeDiff,c195]
theorem p200(x:DClu):Pur Tryz.prog 200 [Bo x] (.str x.nm):=by
 refine .mk ⟨Em 0 x,trivial⟩ trivial (a200 (AE AH.tnil (AF ?_)))
 simp only[eE,eN,Nat.reduceEqDiff,↓reduceIte,Nat.reduceAdd,Nat.reduceLeDiff,c200]
theorem p204(x:DRul):Pur Tryz.prog 204 [Bc x] (.str x.nm):=by
 refine .mk ⟨B6 0 x,trivial⟩ trivial (a204 (AE AH.tnil (AF ?_)))
 simp only[eE,eN,Nat.reduceEqDiff,↓reduceIte,Nat.reduceAdd,Nat.reduceLeDiff,c204]
theorem p198(x:Bs):Pur Tryz.prog 198 [.str x] (.str x):=by
 refine .mk ⟨trivial,trivial⟩ trivial (a198 (AE AH.tnil (AF ?_)))
 simp only[eE,eN,reduceCtorEq,↓reduceIte,c198]
theorem p197:Pur Tryz.prog 197 [] (eSs Fi):=by
 refine .mk trivial (C8 0 _) (a197 (AE AH.tnil (AF ?_)))
 simp only[eE,eN,↓reduceIte,Nat.reduceLeDiff,Nat.reduceMul,Nat.reduceLT,c197]
 exact Wk.sl (.inl rfl)
def Tx1:Tab:=tadd 193 (s1 dSy any1 λx=>.str ((λx:DSym=>x.nm) x)) tnil
theorem Tx1_ok:AH Tryz.prog Tx1:=AH.tnil.add (q1 λx _=>p193 x)
theorem Tx1_e(a:List AVal)(H:AB):Tx1 193 a H=s1 dSy any1 (λx=>.str ((λx:DSym=>x.nm) x)) a H:=rfl
theorem Qb{H:AB}{n id:Nat}{pre:List Bs}{l:List DSym}{f:Int}(hl:few l)(hpl:pre.length<1000000000)(hf0:f=(pre.length:Int))(hp:hget H id=some (nmO pre))(hd:Ac pre=false):
  AK Tryz.prog 192 [eSys l,.int .i64 f,.fn (.func 193) [] [],.mp id] H n (Bi H n id pre (l.map (λx:DSym=>x.nm))):=by
 subst hf0
 refine Bi.of l192 hp λhf hid=>a192 (AE Tx1_ok (AF ?_))
 have hll:l.length<1000000000:=hl
 simp only[eE,eN,reduceCtorEq,Nat.reduceEqDiff,↓reduceIte,Nat.reduceAdd,V0,c192]
 refine AU (λv:VIx=>⟨[(1,true,.int .i64 pre.length),(2,true,.fn (.func 193) [] []),(3,true,.mp id),(13,true,eSys l),(14,true,.int .i64 l.length),(15,true,.int .i64 v.i)],v.H,v.n⟩) (IIx H n id pre (l.map (λx:DSym=>x.nm))) (λv=>l.length-v.i)
  ⟨0,H,n⟩ rfl ⟨Vi _,Va _,hf,by rw[WH,Vz];exact hp,BW.refl _,by rw[WH,Vz];exact hd⟩ ?_
 rintro⟨i,H1,n1⟩ hI
 have hi:=hI.hi
 have hn:=hI.hn
 have hfr:=hI.fr
 have hm:=hI.hm
 have hk:=hI.hk
 have htw:=hI.tw
 simp only[V0]at hi hn hfr hm hk htw
 by_cases hlt:i<l.length
 ·have hltm:i<(l.map (λx:DSym=>x.nm)).length:=by rw[V0];exact hlt
  have hg:=V5 hlt
  have hgm:(l.map (λx:DSym=>x.nm))[i]=(λx:DSym=>x.nm) l[i]:=Xy ..
  have e:=AJ (k:=i) (by omega)
  have htk:(l.map (λx:DSym=>x.nm)).take (i+1)=(l.map (λx:DSym=>x.nm)).take i++[(λx:DSym=>x.nm) l[i]]:=by rw[W2,V5 hltm,hgm];rfl
  have hpl2:(pre++(l.map (λx:DSym=>x.nm)).take i).length=pre.length+i:=by rw[Vn,Vu,V0];omega
  have ew:IntKind.wrap .i64 ((pre.length:Int)+(i:Int))=((pre.length+i:Nat):Int):=by rw[Aw (by omega) (by omega)];omega
  have y1:∀k,(n1+k=id)=False:=λk=>Ve (by omega)
  have y2:∀k,(id=n1+k)=False:=λk=>Ve (by omega)
  have hin:=λq=>GF (pre:=pre) hltm (by rw[hgm];exact q)
  generalize hx:l[i]=x at hg hgm htk hin
  have hfi:=DT (pre++(l.map (λx:DSym=>x.nm)).take i) ((λx:DSym=>x.nm) x)
  cases hno:Bt (pre++(l.map (λx:DSym=>x.nm)).take i) ((λx:DSym=>x.nm) x)with
  |some k=>
   have htt:Ac (pre++l.map (λx:DSym=>x.nm))=true:=hin (by
    apply Classical.byContradiction
    intro q
    rw[BG.2 q]at hno;cases hno)
   rw[hno,VR]at hfi
   simp only[eE,eC,eN,Nat.reduceEqDiff,↓reduceIte,Nat.reduceAdd,Nat.reduceLT,xE,V1,Option.isSome_some,isF,V2,V4,V0,V6,V9,Vb,lt_T hlt,hg,Tx1_e,s1,S9,QB,hm,hfi,DB,KT.is,Bz,fr1 hfr,y1,AI]
   unfold Fq
   rw[Vk htt]
   refine⟨rfl,⟨nmO (pre++(l.map (λx:DSym=>x.nm)).take i),?_⟩,?_⟩
   ·rw[AA _ _ _ _ (by omega)];exact hm
   ·exact hk.new hf (by omega)
  |none=>
   rw[hno,WN]at hfi
   have hms:=J7 hno
   rw[hpl2]at hms
   simp only[eE,eC,eN,Nat.reduceEqDiff,↓reduceIte,Nat.reduceAdd,Nat.reduceLT,Int.reduceEq,xE,WS,V1,Option.isSome_none,V2,V4,V0,V6,V9,Vb,lt_T hlt,hg,Tx1_e,s1,S9,QB,hm,hfi,DB,KT.is,Bz,fr1 hfr,y1,e,ew,hpl2,hms,AI]
   refine .mk ⟨i+1,hset (hset H1 (n1+3) (.box (HO x).cells)) id (.map (nmEs (pre++(l.map (λx:DSym=>x.nm)).take i++[(λx:DSym=>x.nm) x]) 0) (pre.length+(i+1))),n1+6⟩ rfl ⟨by simp only[V0];omega,by simp only[];omega,?_,?_,?_,?_⟩ (by simp only[];omega)
   ·exact(hfr.hset (m:=n1+6) (by omega) (by omega)).hset (Va (n1+6)) (show id<n1+6 by omega)
   ·simp only[]
    rw[AC,htk,<-VO,nmO,Vn,hpl2];rfl
   ·exact(hk.new hf (by omega)).set
   ·simp only[]
    rw[htk,<-VO];exact GG htw (BG.1 hno)
 have hi':i=l.length:=by omega
 subst hi'
 have hta:(l.map (λx:DSym=>x.nm)).take l.length=l.map (λx:DSym=>x.nm):=Wa (by rw[V0];omega)
 rw[hta]at hm htw
 simp only[eE,eC,eN,Nat.reduceEqDiff,↓reduceIte,lt_F hlt]
 unfold Fq
 rw[htw,Vc (by decide)]
 exact⟨⟨_,rfl,Wk.refl _⟩,hm,hk⟩
def Tx2:Tab:=tadd 195 (s1 dRg any1 λx=>.str ((λx:DReg=>x.nm) x)) tnil
theorem Tx2_ok:AH Tryz.prog Tx2:=AH.tnil.add (q1 λx _=>p195 x)
theorem Tx2_e(a:List AVal)(H:AB):Tx2 195 a H=s1 dRg any1 (λx=>.str ((λx:DReg=>x.nm) x)) a H:=rfl
theorem Qd{H:AB}{n id:Nat}{pre:List Bs}{l:List DReg}{f:Int}(hl:few l)(hpl:pre.length<1000000000)(hf0:f=(pre.length:Int))(hp:hget H id=some (nmO pre))(hd:Ac pre=false):
  AK Tryz.prog 194 [eRgs l,.int .i64 f,.fn (.func 195) [] [],.mp id] H n (Bi H n id pre (l.map (λx:DReg=>x.nm))):=by
 subst hf0
 refine Bi.of l194 hp λhf hid=>a194 (AE Tx2_ok (AF ?_))
 have hll:l.length<1000000000:=hl
 simp only[eE,eN,reduceCtorEq,Nat.reduceEqDiff,↓reduceIte,Nat.reduceAdd,V0,c194]
 refine AU (λv:VIx=>⟨[(1,true,.int .i64 pre.length),(2,true,.fn (.func 195) [] []),(3,true,.mp id),(13,true,eRgs l),(14,true,.int .i64 l.length),(15,true,.int .i64 v.i)],v.H,v.n⟩) (IIx H n id pre (l.map (λx:DReg=>x.nm))) (λv=>l.length-v.i)
  ⟨0,H,n⟩ rfl ⟨Vi _,Va _,hf,by rw[WH,Vz];exact hp,BW.refl _,by rw[WH,Vz];exact hd⟩ ?_
 rintro⟨i,H1,n1⟩ hI
 have hi:=hI.hi
 have hn:=hI.hn
 have hfr:=hI.fr
 have hm:=hI.hm
 have hk:=hI.hk
 have htw:=hI.tw
 simp only[V0]at hi hn hfr hm hk htw
 by_cases hlt:i<l.length
 ·have hltm:i<(l.map (λx:DReg=>x.nm)).length:=by rw[V0];exact hlt
  have hg:=V5 hlt
  have hgm:(l.map (λx:DReg=>x.nm))[i]=(λx:DReg=>x.nm) l[i]:=Xy ..
  have e:=AJ (k:=i) (by omega)
  have htk:(l.map (λx:DReg=>x.nm)).take (i+1)=(l.map (λx:DReg=>x.nm)).take i++[(λx:DReg=>x.nm) l[i]]:=by rw[W2,V5 hltm,hgm];rfl
  have hpl2:(pre++(l.map (λx:DReg=>x.nm)).take i).length=pre.length+i:=by rw[Vn,Vu,V0];omega
  have ew:IntKind.wrap .i64 ((pre.length:Int)+(i:Int))=((pre.length+i:Nat):Int):=by rw[Aw (by omega) (by omega)];omega
  have y1:∀k,(n1+k=id)=False:=λk=>Ve (by omega)
  have y2:∀k,(id=n1+k)=False:=λk=>Ve (by omega)
  have hin:=λq=>GF (pre:=pre) hltm (by rw[hgm];exact q)
  generalize hx:l[i]=x at hg hgm htk hin
  have hfi:=DT (pre++(l.map (λx:DReg=>x.nm)).take i) ((λx:DReg=>x.nm) x)
  cases hno:Bt (pre++(l.map (λx:DReg=>x.nm)).take i) ((λx:DReg=>x.nm) x)with
  |some k=>
   have htt:Ac (pre++l.map (λx:DReg=>x.nm))=true:=hin (by
    apply Classical.byContradiction
    intro q
    rw[BG.2 q]at hno;cases hno)
   rw[hno,VR]at hfi
   simp only[eE,eC,eN,Nat.reduceEqDiff,↓reduceIte,Nat.reduceAdd,Nat.reduceLT,xE,V1,Option.isSome_some,isF,V2,V4,V0,V6,V9,Vb,lt_T hlt,hg,Tx2_e,s1,MS,I3,hm,hfi,DB,KT.is,Bz,fr1 hfr,y1,AI]
   unfold Fq
   rw[Vk htt]
   refine⟨rfl,⟨nmO (pre++(l.map (λx:DReg=>x.nm)).take i),?_⟩,?_⟩
   ·rw[AA _ _ _ _ (by omega)];exact hm
   ·exact hk.new hf (by omega)
  |none=>
   rw[hno,WN]at hfi
   have hms:=J7 hno
   rw[hpl2]at hms
   simp only[eE,eC,eN,Nat.reduceEqDiff,↓reduceIte,Nat.reduceAdd,Nat.reduceLT,Int.reduceEq,xE,WS,V1,Option.isSome_none,V2,V4,V0,V6,V9,Vb,lt_T hlt,hg,Tx2_e,s1,MS,I3,hm,hfi,DB,KT.is,Bz,fr1 hfr,y1,e,ew,hpl2,hms,AI]
   refine .mk ⟨i+1,hset (hset H1 (n1+3) (.box (F5 x).cells)) id (.map (nmEs (pre++(l.map (λx:DReg=>x.nm)).take i++[(λx:DReg=>x.nm) x]) 0) (pre.length+(i+1))),n1+6⟩ rfl ⟨by simp only[V0];omega,by simp only[];omega,?_,?_,?_,?_⟩ (by simp only[];omega)
   ·exact(hfr.hset (m:=n1+6) (by omega) (by omega)).hset (Va (n1+6)) (show id<n1+6 by omega)
   ·simp only[]
    rw[AC,htk,<-VO,nmO,Vn,hpl2];rfl
   ·exact(hk.new hf (by omega)).set
   ·simp only[]
    rw[htk,<-VO];exact GG htw (BG.1 hno)
 have hi':i=l.length:=by omega
 subst hi'
 have hta:(l.map (λx:DReg=>x.nm)).take l.length=l.map (λx:DReg=>x.nm):=Wa (by rw[V0];omega)
 rw[hta]at hm htw
 simp only[eE,eC,eN,Nat.reduceEqDiff,↓reduceIte,lt_F hlt]
 unfold Fq
 rw[htw,Vc (by decide)]
 exact⟨⟨_,rfl,Wk.refl _⟩,hm,hk⟩
def Tx3:Tab:=tadd 198 (s1 dS any1 λx=>.str ((λx:Bs=>x) x)) tnil
theorem Tx3_ok:AH Tryz.prog Tx3:=AH.tnil.add (q1 λx _=>p198 x)
theorem Tx3_e(a:List AVal)(H:AB):Tx3 198 a H=s1 dS any1 (λx=>.str ((λx:Bs=>x) x)) a H:=rfl
theorem TK{H:AB}{n id:Nat}{pre:List Bs}{l:List Bs}{f:Int}(hl:few l)(hpl:pre.length<1000000000)(hf0:f=(pre.length:Int))(hp:hget H id=some (nmO pre))(hd:Ac pre=false):
  AK Tryz.prog 196 [eSs l,.int .i64 f,.fn (.func 198) [] [],.mp id] H n (Bi H n id pre (l.map (λx:Bs=>x))):=by
 subst hf0
 refine Bi.of l196 hp λhf hid=>a196 (AE Tx3_ok (AF ?_))
 have hll:l.length<1000000000:=hl
 simp only[eE,eN,reduceCtorEq,Nat.reduceEqDiff,↓reduceIte,Nat.reduceAdd,V0,c196]
 refine AU (λv:VIx=>⟨[(1,true,.int .i64 pre.length),(2,true,.fn (.func 198) [] []),(3,true,.mp id),(13,true,eSs l),(14,true,.int .i64 l.length),(15,true,.int .i64 v.i)],v.H,v.n⟩) (IIx H n id pre (l.map (λx:Bs=>x))) (λv=>l.length-v.i)
  ⟨0,H,n⟩ rfl ⟨Vi _,Va _,hf,by rw[WH,Vz];exact hp,BW.refl _,by rw[WH,Vz];exact hd⟩ ?_
 rintro⟨i,H1,n1⟩ hI
 have hi:=hI.hi
 have hn:=hI.hn
 have hfr:=hI.fr
 have hm:=hI.hm
 have hk:=hI.hk
 have htw:=hI.tw
 simp only[V0]at hi hn hfr hm hk htw
 by_cases hlt:i<l.length
 ·have hltm:i<(l.map (λx:Bs=>x)).length:=by rw[V0];exact hlt
  have hg:=V5 hlt
  have hgm:(l.map (λx:Bs=>x))[i]=(λx:Bs=>x) l[i]:=Xy ..
  have e:=AJ (k:=i) (by omega)
  have htk:(l.map (λx:Bs=>x)).take (i+1)=(l.map (λx:Bs=>x)).take i++[(λx:Bs=>x) l[i]]:=by rw[W2,V5 hltm,hgm];rfl
  have hpl2:(pre++(l.map (λx:Bs=>x)).take i).length=pre.length+i:=by rw[Vn,Vu,V0];omega
  have ew:IntKind.wrap .i64 ((pre.length:Int)+(i:Int))=((pre.length+i:Nat):Int):=by rw[Aw (by omega) (by omega)];omega
  have y1:∀k,(n1+k=id)=False:=λk=>Ve (by omega)
  have y2:∀k,(id=n1+k)=False:=λk=>Ve (by omega)
  have hin:=λq=>GF (pre:=pre) hltm (by rw[hgm];exact q)
  generalize hx:l[i]=x at hg hgm htk hin
  have hfi:=DT (pre++(l.map (λx:Bs=>x)).take i) ((λx:Bs=>x) x)
  cases hno:Bt (pre++(l.map (λx:Bs=>x)).take i) ((λx:Bs=>x) x)with
  |some k=>
   have htt:Ac (pre++l.map (λx:Bs=>x))=true:=hin (by
    apply Classical.byContradiction
    intro q
    rw[BG.2 q]at hno;cases hno)
   rw[hno,VR]at hfi
   simp only[eE,eC,eN,Nat.reduceEqDiff,↓reduceIte,Nat.reduceAdd,Nat.reduceLT,xE,V1,Option.isSome_some,isF,V2,V4,V0,V6,V9,Vb,lt_T hlt,hg,Tx3_e,s1,dS_ok,TA,hm,hfi,DB,KT.is,Bz]
   unfold Fq
   rw[Vk htt]
   refine⟨rfl,⟨nmO (pre++(l.map (λx:Bs=>x)).take i),?_⟩,?_⟩
   ·exact hm
   ·exact hk
  |none=>
   rw[hno,WN]at hfi
   have hms:=J7 hno
   rw[hpl2]at hms
   simp only[eE,eC,eN,Nat.reduceEqDiff,↓reduceIte,Nat.reduceAdd,Nat.reduceLT,Int.reduceEq,xE,WS,V1,Option.isSome_none,V2,V4,V0,V6,V9,Vb,lt_T hlt,hg,Tx3_e,s1,dS_ok,TA,hm,hfi,DB,KT.is,Bz,e,ew,hpl2,hms]
   refine .mk ⟨i+1,hset H1 id (.map (nmEs (pre++(l.map (λx:Bs=>x)).take i++[(λx:Bs=>x) x]) 0) (pre.length+(i+1))),n1⟩ rfl ⟨by simp only[V0];omega,by simp only[];omega,?_,?_,?_,?_⟩ (by simp only[];omega)
   ·exact hfr.hset (m:=n1) (Va _) (by omega)
   ·simp only[]
    rw[AC,htk,<-VO,nmO,Vn,hpl2];rfl
   ·exact hk.set
   ·simp only[]
    rw[htk,<-VO];exact GG htw (BG.1 hno)
 have hi':i=l.length:=by omega
 subst hi'
 have hta:(l.map (λx:Bs=>x)).take l.length=l.map (λx:Bs=>x):=Wa (by rw[V0];omega)
 rw[hta]at hm htw
 simp only[eE,eC,eN,Nat.reduceEqDiff,↓reduceIte,lt_F hlt]
 unfold Fq
 rw[htw,Vc (by decide)]
 exact⟨⟨_,rfl,Wk.refl _⟩,hm,hk⟩
def Tx4:Tab:=tadd 200 (s1 dCl any1 λx=>.str ((λx:DClu=>x.nm) x)) tnil
theorem Tx4_ok:AH Tryz.prog Tx4:=AH.tnil.add (q1 λx _=>p200 x)
theorem Tx4_e(a:List AVal)(H:AB):Tx4 200 a H=s1 dCl any1 (λx=>.str ((λx:DClu=>x.nm) x)) a H:=rfl
theorem Qe{H:AB}{n id:Nat}{pre:List Bs}{l:List DClu}{f:Int}(hl:few l)(hpl:pre.length<1000000000)(hf0:f=(pre.length:Int))(hp:hget H id=some (nmO pre))(hd:Ac pre=false):
  AK Tryz.prog 199 [eCls l,.int .i64 f,.fn (.func 200) [] [],.mp id] H n (Bi H n id pre (l.map (λx:DClu=>x.nm))):=by
 subst hf0
 refine Bi.of l199 hp λhf hid=>a199 (AE Tx4_ok (AF ?_))
 have hll:l.length<1000000000:=hl
 simp only[eE,eN,reduceCtorEq,Nat.reduceEqDiff,↓reduceIte,Nat.reduceAdd,V0,c199]
 refine AU (λv:VIx=>⟨[(1,true,.int .i64 pre.length),(2,true,.fn (.func 200) [] []),(3,true,.mp id),(13,true,eCls l),(14,true,.int .i64 l.length),(15,true,.int .i64 v.i)],v.H,v.n⟩) (IIx H n id pre (l.map (λx:DClu=>x.nm))) (λv=>l.length-v.i)
  ⟨0,H,n⟩ rfl ⟨Vi _,Va _,hf,by rw[WH,Vz];exact hp,BW.refl _,by rw[WH,Vz];exact hd⟩ ?_
 rintro⟨i,H1,n1⟩ hI
 have hi:=hI.hi
 have hn:=hI.hn
 have hfr:=hI.fr
 have hm:=hI.hm
 have hk:=hI.hk
 have htw:=hI.tw
 simp only[V0]at hi hn hfr hm hk htw
 by_cases hlt:i<l.length
 ·have hltm:i<(l.map (λx:DClu=>x.nm)).length:=by rw[V0];exact hlt
  have hg:=V5 hlt
  have hgm:(l.map (λx:DClu=>x.nm))[i]=(λx:DClu=>x.nm) l[i]:=Xy ..
  have e:=AJ (k:=i) (by omega)
  have htk:(l.map (λx:DClu=>x.nm)).take (i+1)=(l.map (λx:DClu=>x.nm)).take i++[(λx:DClu=>x.nm) l[i]]:=by rw[W2,V5 hltm,hgm];rfl
  have hpl2:(pre++(l.map (λx:DClu=>x.nm)).take i).length=pre.length+i:=by rw[Vn,Vu,V0];omega
  have ew:IntKind.wrap .i64 ((pre.length:Int)+(i:Int))=((pre.length+i:Nat):Int):=by rw[Aw (by omega) (by omega)];omega
  have y1:∀k,(n1+k=id)=False:=λk=>Ve (by omega)
  have y2:∀k,(id=n1+k)=False:=λk=>Ve (by omega)
  have hin:=λq=>GF (pre:=pre) hltm (by rw[hgm];exact q)
  generalize hx:l[i]=x at hg hgm htk hin
  have hfi:=DT (pre++(l.map (λx:DClu=>x.nm)).take i) ((λx:DClu=>x.nm) x)
  cases hno:Bt (pre++(l.map (λx:DClu=>x.nm)).take i) ((λx:DClu=>x.nm) x)with
  |some k=>
   have htt:Ac (pre++l.map (λx:DClu=>x.nm))=true:=hin (by
    apply Classical.byContradiction
    intro q
    rw[BG.2 q]at hno;cases hno)
   rw[hno,VR]at hfi
   simp only[eE,eC,eN,Nat.reduceEqDiff,↓reduceIte,Nat.reduceAdd,Nat.reduceLT,xE,V1,Option.isSome_some,isF,V2,V4,V0,V6,V9,Vb,lt_T hlt,hg,Tx4_e,s1,J6,G2,hm,hfi,DB,KT.is,Bz,fr1 hfr,y1,AI]
   unfold Fq
   rw[Vk htt]
   refine⟨rfl,⟨nmO (pre++(l.map (λx:DClu=>x.nm)).take i),?_⟩,?_⟩
   ·rw[AA _ _ _ _ (by omega)];exact hm
   ·exact hk.new hf (by omega)
  |none=>
   rw[hno,WN]at hfi
   have hms:=J7 hno
   rw[hpl2]at hms
   simp only[eE,eC,eN,Nat.reduceEqDiff,↓reduceIte,Nat.reduceAdd,Nat.reduceLT,Int.reduceEq,xE,WS,V1,Option.isSome_none,V2,V4,V0,V6,V9,Vb,lt_T hlt,hg,Tx4_e,s1,J6,G2,hm,hfi,DB,KT.is,Bz,fr1 hfr,y1,e,ew,hpl2,hms,AI]
   refine .mk ⟨i+1,hset (hset H1 (n1+3) (.box (Bo x).cells)) id (.map (nmEs (pre++(l.map (λx:DClu=>x.nm)).take i++[(λx:DClu=>x.nm) x]) 0) (pre.length+(i+1))),n1+6⟩ rfl ⟨by simp only[V0];omega,by simp only[];omega,?_,?_,?_,?_⟩ (by simp only[];omega)
   ·exact(hfr.hset (m:=n1+6) (by omega) (by omega)).hset (Va (n1+6)) (show id<n1+6 by omega)
   ·simp only[]
    rw[AC,htk,<-VO,nmO,Vn,hpl2];rfl
   ·exact(hk.new hf (by omega)).set
   ·simp only[]
    rw[htk,<-VO];exact GG htw (BG.1 hno)
 have hi':i=l.length:=by omega
 subst hi'
 have hta:(l.map (λx:DClu=>x.nm)).take l.length=l.map (λx:DClu=>x.nm):=Wa (by rw[V0];omega)
 rw[hta]at hm htw
 simp only[eE,eC,eN,Nat.reduceEqDiff,↓reduceIte,lt_F hlt]
 unfold Fq
 rw[htw,Vc (by decide)]
 exact⟨⟨_,rfl,Wk.refl _⟩,hm,hk⟩
def Tx5:Tab:=tadd 204 (s1 dRu any1 λx=>.str ((λx:DRul=>x.nm) x)) tnil
theorem Tx5_ok:AH Tryz.prog Tx5:=AH.tnil.add (q1 λx _=>p204 x)
theorem Tx5_e(a:List AVal)(H:AB):Tx5 204 a H=s1 dRu any1 (λx=>.str ((λx:DRul=>x.nm) x)) a H:=rfl
theorem Qf{H:AB}{n id:Nat}{pre:List Bs}{l:List DRul}{f:Int}(hl:few l)(hpl:pre.length<1000000000)(hf0:f=(pre.length:Int))(hp:hget H id=some (nmO pre))(hd:Ac pre=false):
  AK Tryz.prog 203 [eRus l,.int .i64 f,.fn (.func 204) [] [],.mp id] H n (Bi H n id pre (l.map (λx:DRul=>x.nm))):=by
 subst hf0
 refine Bi.of l203 hp λhf hid=>a203 (AE Tx5_ok (AF ?_))
 have hll:l.length<1000000000:=hl
 simp only[eE,eN,reduceCtorEq,Nat.reduceEqDiff,↓reduceIte,Nat.reduceAdd,V0,c203]
 refine AU (λv:VIx=>⟨[(1,true,.int .i64 pre.length),(2,true,.fn (.func 204) [] []),(3,true,.mp id),(13,true,eRus l),(14,true,.int .i64 l.length),(15,true,.int .i64 v.i)],v.H,v.n⟩) (IIx H n id pre (l.map (λx:DRul=>x.nm))) (λv=>l.length-v.i)
  ⟨0,H,n⟩ rfl ⟨Vi _,Va _,hf,by rw[WH,Vz];exact hp,BW.refl _,by rw[WH,Vz];exact hd⟩ ?_
 rintro⟨i,H1,n1⟩ hI
 have hi:=hI.hi
 have hn:=hI.hn
 have hfr:=hI.fr
 have hm:=hI.hm
 have hk:=hI.hk
 have htw:=hI.tw
 simp only[V0]at hi hn hfr hm hk htw
 by_cases hlt:i<l.length
 ·have hltm:i<(l.map (λx:DRul=>x.nm)).length:=by rw[V0];exact hlt
  have hg:=V5 hlt
  have hgm:(l.map (λx:DRul=>x.nm))[i]=(λx:DRul=>x.nm) l[i]:=Xy ..
  have e:=AJ (k:=i) (by omega)
  have htk:(l.map (λx:DRul=>x.nm)).take (i+1)=(l.map (λx:DRul=>x.nm)).take i++[(λx:DRul=>x.nm) l[i]]:=by rw[W2,V5 hltm,hgm];rfl
  have hpl2:(pre++(l.map (λx:DRul=>x.nm)).take i).length=pre.length+i:=by rw[Vn,Vu,V0];omega
  have ew:IntKind.wrap .i64 ((pre.length:Int)+(i:Int))=((pre.length+i:Nat):Int):=by rw[Aw (by omega) (by omega)];omega
  have y1:∀k,(n1+k=id)=False:=λk=>Ve (by omega)
  have y2:∀k,(id=n1+k)=False:=λk=>Ve (by omega)
  have hin:=λq=>GF (pre:=pre) hltm (by rw[hgm];exact q)
  generalize hx:l[i]=x at hg hgm htk hin
  have hfi:=DT (pre++(l.map (λx:DRul=>x.nm)).take i) ((λx:DRul=>x.nm) x)
  cases hno:Bt (pre++(l.map (λx:DRul=>x.nm)).take i) ((λx:DRul=>x.nm) x)with
  |some k=>
   have htt:Ac (pre++l.map (λx:DRul=>x.nm))=true:=hin (by
    apply Classical.byContradiction
    intro q
    rw[BG.2 q]at hno;cases hno)
   rw[hno,VR]at hfi
   simp only[eE,eC,eN,Nat.reduceEqDiff,↓reduceIte,Nat.reduceAdd,Nat.reduceLT,xE,V1,Option.isSome_some,isF,V2,V4,V0,V6,V9,Vb,lt_T hlt,hg,Tx5_e,s1,Fl,D2,hm,hfi,DB,KT.is,Bz,fr1 hfr,y1,AI]
   unfold Fq
   rw[Vk htt]
   refine⟨rfl,⟨nmO (pre++(l.map (λx:DRul=>x.nm)).take i),?_⟩,?_⟩
   ·rw[AA _ _ _ _ (by omega)];exact hm
   ·exact hk.new hf (by omega)
  |none=>
   rw[hno,WN]at hfi
   have hms:=J7 hno
   rw[hpl2]at hms
   simp only[eE,eC,eN,Nat.reduceEqDiff,↓reduceIte,Nat.reduceAdd,Nat.reduceLT,Int.reduceEq,xE,WS,V1,Option.isSome_none,V2,V4,V0,V6,V9,Vb,lt_T hlt,hg,Tx5_e,s1,Fl,D2,hm,hfi,DB,KT.is,Bz,fr1 hfr,y1,e,ew,hpl2,hms,AI]
   refine .mk ⟨i+1,hset (hset H1 (n1+3) (.box (Bc x).cells)) id (.map (nmEs (pre++(l.map (λx:DRul=>x.nm)).take i++[(λx:DRul=>x.nm) x]) 0) (pre.length+(i+1))),n1+6⟩ rfl ⟨by simp only[V0];omega,by simp only[];omega,?_,?_,?_,?_⟩ (by simp only[];omega)
   ·exact(hfr.hset (m:=n1+6) (by omega) (by omega)).hset (Va (n1+6)) (show id<n1+6 by omega)
   ·simp only[]
    rw[AC,htk,<-VO,nmO,Vn,hpl2];rfl
   ·exact(hk.new hf (by omega)).set
   ·simp only[]
    rw[htk,<-VO];exact GG htw (BG.1 hno)
 have hi':i=l.length:=by omega
 subst hi'
 have hta:(l.map (λx:DRul=>x.nm)).take l.length=l.map (λx:DRul=>x.nm):=Wa (by rw[V0];omega)
 rw[hta]at hm htw
 simp only[eE,eC,eN,Nat.reduceEqDiff,↓reduceIte,lt_F hlt]
 unfold Fq
 rw[htw,Vc (by decide)]
 exact⟨⟨_,rfl,Wk.refl _⟩,hm,hk⟩
end Go.AM
namespace Go.AM
open Go.Proofs Go.Lib
def NPost(H:AB)(n:Nat)(r:Option Int):AOut->AB->Nat->Prop:=λo H' n'=>H'=H/\n'=n/\match r with
 |some k=>o= .ret (.int .i64 k)
 |none=>o= .pan (errV 160)
theorem I9{H:AB}{n id:Nat}{l:List Bs}{s:Bs}(hp:hget H id=some (nmO l)):AK Tryz.prog 202 [.mp id,.str s] H n (NPost H n (Bt l s)):=by
 refine a202 (AE AH.tnil (AF ?_))
 have hf:=DT l s
 cases hno:Bt l s with
 |some k=>
  rw[hno,VR]at hf
  simp only[eE,eC,eN,reduceCtorEq,Nat.reduceEqDiff,↓reduceIte,Nat.reduceAdd,Nat.reduceLT,V8,xE,V1,Option.isSome_some,V9,Vb,c202,hp,hf,DB,KT.is,Bz]
  exact⟨rfl,rfl,rfl⟩
 |none=>
  rw[hno,WN]at hf
  simp only[eE,eC,eN,reduceCtorEq,Nat.reduceEqDiff,↓reduceIte,Nat.reduceAdd,Nat.reduceLT,Vf,xE,WS,V1,Option.isSome_none,isF,V9,Vb,c202,hp,hf,DB,KT.is,Bz]
  exact⟨rfl,rfl,rfl⟩
theorem or_nat{a b:Nat}(ha:a<65536)(hb:b<65536):UA .or .i64 (a:Int) (b:Int)=((a|||b:Nat):Int):=by
 have hab:a|||b<65536:=Nat.or_lt_two_pow (n:=16) ha hb
 have e:∀x:Nat,BitVec.ofInt 64 (x:Int)=BitVec.ofNat 64 x:=λx=>by
  apply BitVec.eq_of_toNat_eq
  simp [BitVec.toNat_ofNat]
 show IntKind.wrap .i64 ((BitVec.ofInt 64 (a:Int)|||BitVec.ofInt 64 (b:Int)).toNat:Int)=_
 rw[e,e,BitVec.toNat_or,BitVec.toNat_ofNat,BitVec.toNat_ofNat,Nat.mod_eq_of_lt (by omega),Nat.mod_eq_of_lt (by omega),Aw (by omega) (by omega)]
theorem TL{j:Nat}(h:j<16):HY .shl .i64 1 (j:Int)=((1<<<j:Nat):Int):=by
 have h2:2^j<65536:=Nat.pow_lt_pow_right (by decide) (show j<16 from h)
 show IntKind.wrap .i64 (1*2^(min (j:Int).toNat 64))=_
 rw[Int.one_mul,V2,Nat.min_eq_left (by omega),Nat.shiftLeft_eq,Nat.one_mul]
 have e:((2:Int)^j)=((2^j:Nat):Int):=by rw[Int.natCast_pow];rfl
 rw[e]
 generalize 2^j=p at h2
 exact Aw (by omega) (by omega)
theorem SY{j:Nat}(h:j<16):1<<<j<65536:=by
 rw[Nat.shiftLeft_eq,Nat.one_mul];exact Nat.pow_lt_pow_right (by decide) (show j<16 from h)
def Eo(l:List Bs)(acc:Nat)(ss:List Bs):Option Int:=(El l ss).map λk=>((acc|||k.toNat:Nat):Int)
theorem Ml(l:List Bs)(acc:Nat):Eo l acc []=some (acc:Int):=by simp [Eo,El]
theorem KI{l:List Bs}{acc:Nat}{s:Bs}{r:List Bs}:Eo l acc (s::r)=match Bt l s with
  |none=>none
  |some j=>Eo l (acc|||1<<<j.toNat) r:=by
 unfold Eo
 rw[H8,Bt]
 cases l.findIdx? λx=>decide (x=s)with
 |none=>rfl
 |some i=>
  simp only[VR,V2]
  cases El l r with
  |none=>rfl
  |some n=>
   simp only[VR,Option.some.injEq]
   congr 1
   show acc|||(Int.ofNat (Nat.lor (1<<<i) n.toNat)).toNat=_
   rw[Nat.or_assoc];rfl
theorem Qg(l ss:List Bs):Eo l 0 ss=El l ss:=by
 unfold Eo
 rw[Nl]
 cases Aa (λs=>l.findIdx? λx=>decide (x=s)) ss with
 |none=>rfl
 |some is=>simp
theorem Qh{H:AB}{n id sid:Nat}{l ss:List Bs}(hl:l.length<=16)(hss:wide ss)(hs:hget H sid=some (.box [.mp id]))(hp:hget H id=some (nmO l)):AK Tryz.prog 206 [eSs ss,.ptr sid 0] H n (NPost H n (El l ss)):=by
 refine a206 (AE AH.tnil (AF ?_))
 have hsl:ss.length<1125899906842624:=hss
 rw[<-Qg]
 simp only[eE,eN,reduceCtorEq,Nat.reduceEqDiff,↓reduceIte,Nat.reduceAdd,V0,c206]
 refine AU (λv:Nat×Nat=>⟨[(1,true,.ptr sid 0),(3,true,.int .i64 v.2),(6,true,eSs ss),(7,true,.int .i64 ss.length),(8,true,.int .i64 v.1)],H,n⟩) (λv=>v.1<=ss.length/\v.2<65536/\Eo l 0 ss=Eo l v.2 (ss.drop v.1)) (λv=>ss.length-v.1) (0,0) rfl ⟨Vi _,by decide,rfl⟩ ?_
 rintro⟨i,acc⟩ ⟨hi,hacc,heq⟩
 simp only at hi hacc heq
 by_cases hlt:i<ss.length
 ·have hg:=V5 hlt
  have e:=AJ (k:=i) (by omega)
  rw[VS hlt,KI]at heq
  generalize ss[i]=s at hg heq
  simp only[eE,eC,eN,Nat.reduceEqDiff,↓reduceIte,V1,V2,V4,V0,V6,lt_T hlt,hg,hs]
  refine(I9 hp).mono λo H' n' hq=>?_
  obtain⟨rfl,rfl,hq⟩:=hq
  cases hno:Bt l s with
  |none=>
   rw[hno]at hq heq
   subst hq
   simp only at heq
   rw[heq]
   simp only[eE,eN,retK]
   exact⟨rfl,rfl,rfl⟩
  |some k=>
   rw[hno]at hq heq
   subst hq
   simp only at heq
   obtain⟨h0,h1⟩:=P6 hno
   obtain⟨j,rfl⟩:∃j:Nat,k=j:=⟨k.toNat,by omega⟩
   rw[V2]at heq
   simp only[eE,eN,Nat.reduceEqDiff,↓reduceIte,Int.reduceEq,V4,retK,TL (show j<16 by omega),or_nat hacc (SY (show j<16 by omega)),e]
   exact .mk (i+1,acc|||1<<<j) rfl ⟨hlt,Nat.or_lt_two_pow (n:=16) hacc (SY (by omega)),heq⟩ (by simp only[];omega)
 obtain rfl:i=ss.length:=by omega
 rw[WG,Ml]at heq
 rw[heq]
 simp only[eE,eC,eN,Nat.reduceEqDiff,↓reduceIte,lt_F hlt]
 exact⟨rfl,rfl,rfl⟩
end Go.AM
namespace Go.AM
open Go.Proofs Go.Lib
abbrev Mm:List AVal:=[.str [],.int .i64 0,.int .i64 0,.int .i64 0,.int .i64 0,.sl .nil [],.sl .nil [],.sl .nil [],.sl .nil [],.sl .nil []]
theorem d_rn{H:AB}{n i0 i1:Nat}:Bw Tryz.prog 191 [.ptr i0 0,.ptr i1 0] .nilifc H n (λH' n'=>H'=H/\n'=n):=by
 refine a191 (AE AH.tnil (AF ?_))
 simp only[eE,eC,eN,reduceCtorEq,Nat.reduceEqDiff,↓reduceIte,Nat.reduceAdd,V8,xE,c191]
theorem d_rp{H:AB}{n:Nat}{xs:List AVal}{y:AVal}{p:Int}(h0:hget H 1=some (.box xs))(hx:xs.length=10)(h1:hget H 2=some (.box [y])):
  Bw Tryz.prog 191 [.ptr 1 0,.ptr 2 0] (errV p) H n (λH' n'=>hget H' 1=some (.box Mm)/\hget H' 2=some (.box [.int .i64 p])):=by
 refine a191 (AE AH.tnil (AF ?_))
 obtain⟨a,b,c,d,e,f,g,h,i,j,rfl⟩:∃a b c d e f g h i j,xs=[a,b,c,d,e,f,g,h,i,j]:=by
  match xs,hx with
  |[a,b,c,d,e,f,g,h,i,j],_=>exact⟨a,b,c,d,e,f,g,h,i,j,rfl⟩
 simp only[eE,eC,eN,reduceCtorEq,Nat.reduceEqDiff,↓reduceIte,Nat.reduceAdd,xE,c191,h0,h1]
end Go.AM
namespace Go.AM
open Go.Proofs Go.Lib
def EW(d:Dcl):AVal:=match resD d with
 | .error e=>.tup [encD dcl0,.int .i64 e]
 | .ok x=>.tup [encD x,.int .i64 0]
abbrev Bj(d:Dcl)(vc vr:AVal):List AVal:=[.str d.nm,.int .i64 d.ver,.int .i64 d.sh,.int .i64 d.w,.int .i64 d.h,eIs d.holes,eSys d.syms,eRgs d.regs,vc,vr]
def RR(d:Dcl):AOut->AB->Nat->Prop:=λo H' n'=>match resD d with
 | .error e=>∃v,o= .ret v/\Wk v (.tup [encD dcl0,.int .i64 e])
 | .ok x=>∃vc vr,o= .ret (.tup [.agg (Bj d vc vr),.int .i64 0])/\LV 6 vc H' (x.clus.map Bo)/\LV 12 vr H' (x.ruls.map Bc)/\(∀i a b c e j f g h k,vc= .ref i a b c e->vr= .ref j f g h k->i≠j)
def Tnr:Tab:=tadd 197 (λa _=>match a with
 |[]=>(True,eSs Fi)
 |_=>(False,.tup [])) tnil
theorem SZ:AH Tryz.prog Tnr:=AH.tnil.add λargs H n h=>by
 cases args with
 |nil=>exact p197.quiet H n
 |cons _ _=>exact h.elim
theorem Tnr_g(H:AB):Tnr 197 [] H=(True,eSs Fi):=rfl
abbrev rsR:List RC:=[.c 2 10 true,.c 3 1 false]
abbrev envR:List (Nat×Bool×AVal):=[(1,true,.ptr 0 0),(2,true,.ptr 1 0),(3,true,.ptr 2 0)]
abbrev argsR:List AVal:=[.ptr 1 0,.ptr 2 0]
def afst:ACode->ACode
 | .seq a _=>a
 |c=>c
def asnd:ACode->ACode
 | .seq _ b=>b
 |c=>c
def KJ:Nat->ACode->ACode
 |0,c=>c
 |k+1,c=>KJ k (asnd c)
abbrev QR(d:Dcl):AExit->AS->Prop:=Rs Tryz.prog 191 argsR rsR envR (RR d)
theorem ten{xs:List AVal}(h:xs.length=10):∃a b c d e f g h i j,xs=[a,b,c,d,e,f,g,h,i,j]:=by
 match xs,h with
 |[a,b,c,d,e,f,g,h,i,j],_=>exact⟨a,b,c,d,e,f,g,h,i,j,rfl⟩
theorem CE{d:Dcl}{H:AB}{m:Nat}{xs:List AVal}{y:AVal}{p:Int}(h1:hget H 1=some (.box xs))(hx:xs.length=10)(h2:hget H 2=some (.box [y]))(hr:resD d= .error p):QR d (.pan (errV p)) ⟨[],H,m⟩:=by
 refine Bw.mono (d_rp h1 hx h2) ?_
 rintro H2 n2 ⟨k1,k2⟩
 unfold RcOf
 simp only[eE,Nat.reduceEqDiff,↓reduceIte,Nat.reduceAdd,Cg,k1,k2]
 unfold RR
 rw[hr]
 exact⟨_,rfl,Wk.tup (.cons (Wk.agg (.cons (Wk.refl _) (.cons (Wk.refl _) (.cons (Wk.refl _) (.cons (Wk.refl _) (.cons (Wk.refl _) (.cons (Wk.sl (.inr rfl)) (.cons (Wk.sl (.inr rfl)) (.cons (Wk.sl (.inr rfl)) (.cons (Wk.sl (.inr rfl)) (.cons (Wk.sl (.inr rfl)) .nil))))))))))) (.cons (Wk.refl _) .nil))⟩
theorem Nz{d:Dcl}{env:List (Nat×Bool×AVal)}{H:AB}{m:Nat}{xs:List AVal}{y:AVal}(h1:hget H 1=some (.box xs))(hx:xs.length=10)(h2:hget H 2=some (.box [y]))(hr:RR d (.ret (.tup [.agg xs,y])) H m):QR d .ret ⟨env,H,m⟩:=by
 refine Bw.mono d_rn ?_
 rintro H2 n2 ⟨rfl,rfl⟩
 obtain⟨a,b,c,d,e,f,g,h,i,j,rfl⟩:=ten hx
 unfold RcOf
 simp only[eE,Nat.reduceEqDiff,↓reduceIte,Nat.reduceAdd,Cg,h1,h2]
 exact hr
end Go.AM
namespace Go.AM
open Go.Proofs Go.Lib
structure NM(d:Dcl)(vc vr:AVal)(H:AB):Prop where
 h0:hget H 0=some (.box (Bj d vc vr))
 h1:hget H 1=some (.box Mm)
 h2:hget H 2=some (.box [.int .i64 0])
 h5:hget H 5=some (nmO (d.syms.map λx:DSym=>x.nm))
 h7:hget H 7=some (.box [.mp 5])
 h12:hget H 12=some (nmO (F2 d))
 h18:hget H 18=some (nmO (d.clus.map λx:DClu=>x.nm))
def notM(i:Nat):Prop:=i≠0/\i≠1/\i≠2/\i≠5/\i≠7/\i≠12/\i≠18
theorem NM.set{d:Dcl}{vc vr:AVal}{H:AB}{i:Nat}{ob:AObj}(h:NM d vc vr H)(hi:notM i):NM d vc vr (hset H i ob):=by
 obtain⟨a,b,c,e,f,g,k⟩:=hi
 exact⟨by rw[AA _ _ _ _ a];exact h.h0,by rw[AA _ _ _ _ b];exact h.h1,by rw[AA _ _ _ _ c];exact h.h2,by rw[AA _ _ _ _ e];exact h.h5,by rw[AA _ _ _ _ f];exact h.h7,by rw[AA _ _ _ _ g];exact h.h12,by rw[AA _ _ _ _ k];exact h.h18⟩
theorem NM.put{d:Dcl}{vc vr vc' vr':AVal}{H:AB}(h:NM d vc vr H):NM d vc' vr' (hset H 0 (.box (Bj d vc' vr'))):=
 ⟨AC ..,by rw[AA _ _ _ _ (by decide)];exact h.h1,by rw[AA _ _ _ _ (by decide)];exact h.h2,by rw[AA _ _ _ _ (by decide)];exact h.h5,by rw[AA _ _ _ _ (by decide)];exact h.h7,by rw[AA _ _ _ _ (by decide)];exact h.h12,by rw[AA _ _ _ _ (by decide)];exact h.h18⟩
theorem NM.ne{d:Dcl}{vc vr:AVal}{H:AB}{id e:Nat}{A:List AVal}(hnm:NM d vc vr H)(ho:hget H id=some (.arr e A)):notM id:=by
 refine⟨?_,?_,?_,?_,?_,?_,?_⟩<;>rintro rfl
 ·rw[hnm.h0]at ho;cases ho
 ·rw[hnm.h1]at ho;cases ho
 ·rw[hnm.h2]at ho;cases ho
 ·rw[hnm.h5]at ho;cases ho
 ·rw[hnm.h7]at ho;cases ho
 ·rw[hnm.h12]at ho;cases ho
 ·rw[hnm.h18]at ho;cases ho
theorem KK{i:Nat}(h:21<=i):notM i:=⟨by omega,by omega,by omega,by omega,by omega,by omega,by omega⟩
theorem Df{α β:Type}(f:α->Option β)(x:α)(r:List α):Aa f (x::r)=(match f x with
  |some y=>(Aa f r).map λs=>y::s
  |none=>none):=by
 simp only[Aa]
 cases f x with
 |none=>rfl
 |some y=>cases Aa f r<;>rfl
structure VRl where
 i:Nat
 dn:List DRul
 H:AB
structure IRl(d:Dcl)(cs:List DClu)(vc vr:AVal)(n:Nat)(v:VRl):Prop where
 hi:v.i<=d.ruls.length
 ln:v.dn.length=v.i
 fr:AN v.H n
 nm:NM d vc vr v.H
 lc:LV 6 vc v.H (cs.map Bo)
 lv:LV 12 vr v.H ((v.dn++d.ruls.drop v.i).map Bc)
 eq:Aa (BH d) d.ruls=(Aa (BH d) (d.ruls.drop v.i)).map λr=>v.dn++r
section
variable {a b c d e f g h i j k l v:AVal}
theorem apR3(hv:v.cells=[v]):Ck (.agg [a,b,c,d,e,f,g,h,i,j,k,l]) 3 1 12 v=(True,.agg [a,b,c,v,e,f,g,h,i,j,k,l]):=by
 rw[Dj (by decide)];simp [splice,hv]
theorem apR6(hv:v.cells=[v]):Ck (.agg [a,b,c,d,e,f,g,h,i,j,k,l]) 6 1 12 v=(True,.agg [a,b,c,d,e,f,v,h,i,j,k,l]):=by
 rw[Dj (by decide)];simp [splice,hv]
theorem apR7(hv:v.cells=[v]):Ck (.agg [a,b,c,d,e,f,g,h,i,j,k,l]) 7 1 12 v=(True,.agg [a,b,c,d,e,f,g,v,i,j,k,l]):=by
 rw[Dj (by decide)];simp [splice,hv]
theorem Qi(hv:v.cells=[v]):Ck (.agg [a,b,c,d,e,f,g,h,i,j,k,l]) 11 1 12 v=(True,.agg [a,b,c,d,e,f,g,h,i,j,k,v]):=by
 rw[Dj (by decide)];simp [splice,hv]
end
theorem LV.set{e:Nat}{v:AVal}{H:AB}{l:List AVal}{id:Nat}{ob:AObj}(h:LV e v H l)(hne:∀a b c x,v≠ .ref id a b c x):LV e v (hset H id ob) l:=by
 rcases h with h|⟨h0,i,cap,rest,rfl,ho,hc⟩
 ·exact .inl h
 ·exact .inr ⟨h0,i,cap,rest,rfl,by rw[AA _ _ _ _ (λq=>hne _ _ _ _ (by rw[q]))];exact ho,hc⟩
theorem LV.no{e:Nat}{H:AB}{l:List AVal}{i a b c x:Nat}(h:LV e (.ref i a b c x) H l)(hn:∀e' A,hget H i≠some (.arr e' A)):False:=by
 rcases h with⟨-,t,h,-⟩|⟨-,id,cap,rest,h,ho,-⟩
 ·cases h
 ·cases h;exact hn _ _ ho
theorem Sa(d:Dcl)(hd:FewD d)(h16:¬16<d.syms.length)(ht1:Ac (d.syms.map λx:DSym=>x.nm)=false)(ht2:Ac (F2 d)=false)(ht3:Ac (d.clus.map λx:DClu=>x.nm)=false){cs:List DClu}(hcs:Aa (Cs d) d.clus=some cs)(ht4:Ac (d.ruls.map λx:DRul=>x.nm)=false)
  {vc vr:AVal} {H:AB} {n:Nat} (hf:AN H n) (hm:NM d vc vr H) (hvc:LV 6 vc H (cs.map Bo)) (hvr:LV 12 vr H (d.ruls.map Bc)) (hdj:∀i a b c e j f g h k,vc= .ref i a b c e->vr= .ref j f g h k->i≠j):
  evK Tryz.prog Tnr (asnd (afst (KJ 9 c145))) [.c (asnd (KJ 9 c145))] (QR d) ⟨[(1,true,.ptr 0 0),(2,true,.ptr 1 0),(3,true,.ptr 2 0),(5,true,.mp 12),(6,true,.mp 18),(8,true,.fn (.func 206) [] [.ptr 7 0]),(66,true,.int .i64 d.ruls.length),(67,true,.int .i64 0)],H,n⟩:=by
 have hrl:d.ruls.length<1000000000:=hd.ru
 have hbase:∀x,Aa (BH d) d.ruls=x->resD d=(match x with|none=>.error 160|some rs=>.ok {d with clus:=cs,ruls:=rs}):=λx hx=>by
  unfold resD
  rw[Vc h16,ht1,ht2,ht3,hcs]
  simp only[Vq,Vw]
  rw[ht4,hx]
  rfl
 simp only[eE,KJ,asnd,afst,c145]
 refine AU (λv:VRl=>⟨[(1,true,.ptr 0 0),(2,true,.ptr 1 0),(3,true,.ptr 2 0),(5,true,.mp 12),(6,true,.mp 18),(8,true,.fn (.func 206) [] [.ptr 7 0]),(66,true,.int .i64 d.ruls.length),(67,true,.int .i64 v.i)],v.H,n⟩) (IRl d cs vc vr n) (λv=>d.ruls.length-v.i)
  ⟨0,[],H⟩ rfl ⟨Vi _,rfl,hf,hm,hvc,hvr,by rw[List.drop_zero];cases Aa (BH d) d.ruls<;>rfl⟩ ?_
 rintro⟨i,dn,H1⟩ hI
 have hi:=hI.hi
 have hln:=hI.ln
 have hfr:=hI.fr
 have hnm:=hI.nm
 have hlc:=hI.lc
 have hlv:=hI.lv
 have heq:=hI.eq
 clear hI hf hm hvc hvr
 simp only at hi hln hfr hnm hlc hlv heq
 by_cases hlt:i<d.ruls.length
 case neg=>
  obtain rfl:i=d.ruls.length:=by omega
  rw[WG]at heq hlv
  rw[Vz]at hlv
  have hr:=hbase _ heq
  simp only[Aa,VR,Vz]at hr
  simp only[eE,eC,eN,Nat.reduceEqDiff,↓reduceIte,Nat.reduceAdd,lt_F hlt,hnm.h0,Bj,hnm.h1,hnm.h2]
  refine Nz (xs:=Bj d vc vr) (y:=.int .i64 0) ?_ rfl ?_ ?_
  ·simp only[AD];rfl
  ·simp only[AD];rfl
  unfold RR
  rw[hr]
  have hn1:∀a b c x,vc≠ .ref 1 a b c x/\vc≠ .ref 2 a b c x/\vr≠ .ref 1 a b c x/\vr≠ .ref 2 a b c x:=by
   intro a b c x
   refine⟨?_,?_,?_,?_⟩<;>rintro rfl
   ·exact hlc.no (by rw[hnm.h1];simp)
   ·exact hlc.no (by rw[hnm.h2];simp)
   ·exact hlv.no (by rw[hnm.h1];simp)
   ·exact hlv.no (by rw[hnm.h2];simp)
  exact⟨vc,vr,rfl,(hlc.set λa b c x=>(hn1 a b c x).1).set λa b c x=>(hn1 a b c x).2.1,(hlv.set λa b c x=>(hn1 a b c x).2.2.1).set λa b c x=>(hn1 a b c x).2.2.2,hdj⟩
 have hrx:=(hd.rus _ (Vm hlt))
 rw[VS hlt]at heq hlv
 rw[Df]at heq
 generalize d.ruls[i]=r at heq hlv hrx
 have hll:((dn++r::d.ruls.drop (i+1)).map Bc).length=d.ruls.length:=by simp;omega
 rcases hlv with⟨h0,-⟩|⟨-,id,cap,rest,hvr,ho,hcr⟩
 ·simp at h0
 rw[hll]at hvr hcr
 subst hvr
 have e:=AJ (k:=i) (by omega)
 have hid:id<n:=hfr.lt ho
 have hne:=hnm.ne ho
 have h0:=hnm.h0
 have hgi:((dn++r::d.ruls.drop (i+1)).map Bc++rest)[i]?=some (Bc r):=by
  rw[Vl,VO,W7 (by simp;omega)]
  simp [hln]
 have hil:i<((dn++r::d.ruls.drop (i+1)).map Bc++rest).length:=by rw[Vn,hll];omega
 have hse:∀r':DRul,((dn++r::d.ruls.drop (i+1)).map Bc++rest).set i (Bc r')=((dn++[r'])++d.ruls.drop (i+1)).map Bc++rest:=λr'=>by
  rw[Vl,VO,List.set_append_right _ _ (by simp;omega)]
  simp [hln]
 generalize hA:(dn++r::d.ruls.drop (i+1)).map Bc++rest=A at ho hgi hil hse
 have hls:∀x,(i<(A.set i x).length)=True:=λx=>V3 (by rw[WX];exact hil)
 have hgs:∀x,(A.set i x)[i]?=some x:=λx=>List.getElem?_set_self hil
 have hss:∀x y,(A.set i x).set i y=A.set i y:=λx y=>List.set_set ..
 have z0':(id=0)=False:=Ve hne.1
 have z5':(id=5)=False:=Ve hne.2.2.2.1
 have z7':(id=7)=False:=Ve hne.2.2.2.2.1
 have z12':(id=12)=False:=Ve hne.2.2.2.2.2.1
 have z18':(id=18)=False:=Ve hne.2.2.2.2.2.2
 have h7:=hnm.h7
 have h5:=hnm.h5
 have hbad:BH d r=none->resD d= .error 160:=λq=>by
  rw[q]at heq
  exact hbase _ heq
 have hnv:∀ob,NM d vc (.ref id 12 0 d.ruls.length cap) (hset H1 id ob):=λob=>hnm.set hne
 have hvn:∀a b c x,vc≠ .ref id a b c x:=λa b c x q=>hdj _ _ _ _ _ _ _ _ _ _ q rfl rfl
 have fin:∀(F a b c:Int),BH d r=some {r with fam:=F,set:=a,oth:=b,clue:=c}->lpN (λv:VRl=>⟨[(1,true,.ptr 0 0),(2,true,.ptr 1 0),(3,true,.ptr 2 0),(5,true,.mp 12),(6,true,.mp 18),(8,true,.fn (.func 206) [] [.ptr 7 0]),(66,true,.int .i64 d.ruls.length),(67,true,.int .i64 v.i)],v.H,n⟩) (IRl d cs vc (.ref id 12 0 d.ruls.length cap) n) (λv=>d.ruls.length-v.i) ⟨i,dn,H1⟩
   ⟨[(1,true,.ptr 0 0),(2,true,.ptr 1 0),(3,true,.ptr 2 0),(5,true,.mp 12),(6,true,.mp 18),(8,true,.fn (.func 206) [] [.ptr 7 0]),(66,true,.int .i64 d.ruls.length),(67,true,.int .i64 ((i+1:Nat):Int))],hset H1 id (.arr 12 (A.set i (.agg [.str r.nm,.str r.on,.int .i64 r.kind,.int .i64 F,eSs r.ns,eSs r.os,.int .i64 a,.int .i64 b,.int .i64 r.op,.int .i64 r.n,.str r.byN,.int .i64 c]))),n⟩:=λF a b c hrr=>by
  rw[hrr]at heq
  have hse2:=hse {r with fam:=F,set:=a,oth:=b,clue:=c}
  refine .mk ⟨i+1,dn++[{r with fam:=F,set:=a,oth:=b,clue:=c}],hset H1 id (.arr 12 (A.set i (Bc {r with fam:=F,set:=a,oth:=b,clue:=c})))⟩ rfl ⟨hlt,by simp [hln],hfr.hset (Va _) hid,hnv _,hlc.set hvn,.inr ⟨by simp,id,cap,rest,?_,?_,?_⟩,?_⟩ (by simp only[];omega)
  ·simp only[V0,Vn,Vp,Wd,Wn,hln]
   congr 1;omega
  ·simp only[]
   rw[AC,hse2]
  ·simp only[V0,Vn,Vp,Wd,Wn,hln]
   omega
  ·simp only[]
   rw[heq]
   cases Aa (BH d) (d.ruls.drop (i+1))<;>simp
 by_cases hon:r.on=[]
 ·have hb:scmp .neq r.on []=false:=by rw[DU,hon];rfl
  simp only[eE,eC,eN,eX,reduceCtorEq,Nat.reduceEqDiff,↓reduceIte,Nat.reduceAdd,Nat.reduceLeDiff,Nat.reduceLT,Nat.reduceMod,Nat.reduceSub,Nat.reduceDiv,V1,V2,V4,atN,atK,FH,lt_T hlt,h0,Bj,ho,hgi,V3 hil,addr,V3 hid,hls,hgs,hss,Bc,DR,apR3,Qi,AI,hb]
  refine(Qh (by rw[V0];omega) hrx.1 (hnv _).h7 (hnv _).h5).mono λo H' n' hq=>?_
  obtain⟨rfl,rfl,hq⟩:=hq
  cases hs1:El (d.syms.map λx:DSym=>x.nm) r.ns with
  |none=>
   rw[hs1]at hq
   subst hq
   simp only[eE,eN,Dq]
   exact CE (hnv _).h1 rfl (hnv _).h2 (hbad (by unfold BH;rw[Vk hon,hs1]))
  |some a=>
   rw[hs1]at hq
   subst hq
   simp only[eE,eC,eX,Nat.reduceEqDiff,↓reduceIte,Nat.reduceLeDiff,Nat.reduceMod,Nat.reduceSub,Nat.reduceDiv,Dq]
   refine(Qh (by rw[V0];omega) hrx.2 (hnv _).h7 (hnv _).h5).mono λo H' n' hq=>?_
   obtain⟨rfl,rfl,hq⟩:=hq
   cases hs2:El (d.syms.map λx:DSym=>x.nm) r.os with
   |none=>
    rw[hs2]at hq
    subst hq
    simp only[eE,eN,Dq]
    exact CE (hnv _).h1 rfl (hnv _).h2 (hbad (by unfold BH;rw[Vk hon,hs1,hs2]))
   |some b=>
    rw[hs2]at hq
    subst hq
    by_cases hby:r.byN=[]
    ·have hb2:scmp .neq r.byN []=false:=by rw[DU,hby];rfl
     simp only[eE,eC,eN,eX,Nat.reduceEqDiff,↓reduceIte,Nat.reduceAdd,Nat.reduceLeDiff,Int.reduceEq,Nat.reduceSub,Nat.reduceDiv,V1,Dq,hb2,IA,hls,hgs,hss,apR6,apR7,AI,e]
     exact fin 0 a b (-1) (by unfold BH;rw[Vk hon,hs1,hs2,Vk hby])
    ·have hb2:scmp .neq r.byN []=true:=by rw[DU,Bv hby];rfl
     simp only[eE,eC,eN,eX,Nat.reduceEqDiff,↓reduceIte,Nat.reduceAdd,Nat.reduceLeDiff,Nat.reduceSub,Nat.reduceDiv,V1,Dq,hb2,IA,hls,hgs,hss,apR6,apR7,AI]
     refine(I9 (hnv _).h18).mono λo H' n' hq=>?_
     obtain⟨rfl,rfl,hq⟩:=hq
     cases hnb:Bt (d.clus.map λx:DClu=>x.nm) r.byN with
     |none=>
      rw[hnb]at hq
      subst hq
      simp only[eE,eN,retK]
      exact CE (hnv _).h1 rfl (hnv _).h2 (hbad (by unfold BH;rw[Vk hon,hs1,hs2,Vc hby,hnb]))
     |some c=>
      rw[hnb]at hq
      subst hq
      simp only[eE,eN,Nat.reduceEqDiff,↓reduceIte,Int.reduceEq,V1,retK,hls,hgs,hss,Qi,AI,e]
      exact fin 0 a b c (by unfold BH;rw[Vk hon,hs1,hs2,Vc hby,hnb])
 ·have hb:scmp .neq r.on []=true:=by rw[DU,Bv hon];rfl
  simp only[eE,eC,eN,Nat.reduceEqDiff,↓reduceIte,Nat.reduceAdd,Nat.reduceLeDiff,V1,V2,V4,lt_T hlt,h0,Bj,ho,hgi,V3 hil,hls,hgs,hss,Bc,DR,apR3,Qi,AI,hb]
  refine(I9 (hnv _).h12).mono λo H' n' hq=>?_
  obtain⟨rfl,rfl,hq⟩:=hq
  cases hno:Bt (F2 d) r.on with
  |none=>
   rw[hno]at hq
   subst hq
   simp only[eE,eN,retK]
   exact CE (hnv _).h1 rfl (hnv _).h2 (hbad (by unfold BH;rw[Vc hon,hno]))
  |some F=>
   rw[hno]at hq
   subst hq
   simp only[eE,eN,eX,reduceCtorEq,Nat.reduceEqDiff,↓reduceIte,Nat.reduceAdd,Nat.reduceLeDiff,Nat.reduceLT,Nat.reduceMod,Nat.reduceSub,Nat.reduceDiv,V1,atN,atK,FH,retK,addr,V3 hid,hls,hgs,hss,apR3,AI]
   refine(Qh (by rw[V0];omega) hrx.1 (hnv _).h7 (hnv _).h5).mono λo H' n' hq=>?_
   obtain⟨rfl,rfl,hq⟩:=hq
   cases hs1:El (d.syms.map λx:DSym=>x.nm) r.ns with
   |none=>
    rw[hs1]at hq
    subst hq
    simp only[eE,eN,Dq]
    exact CE (hnv _).h1 rfl (hnv _).h2 (hbad (by unfold BH;rw[Vc hon,hno,hs1]))
   |some a=>
    rw[hs1]at hq
    subst hq
    simp only[eE,eC,eX,Nat.reduceEqDiff,↓reduceIte,Nat.reduceLeDiff,Nat.reduceMod,Nat.reduceSub,Nat.reduceDiv,Dq]
    refine(Qh (by rw[V0];omega) hrx.2 (hnv _).h7 (hnv _).h5).mono λo H' n' hq=>?_
    obtain⟨rfl,rfl,hq⟩:=hq
    cases hs2:El (d.syms.map λx:DSym=>x.nm) r.os with
    |none=>
     rw[hs2]at hq
     subst hq
     simp only[eE,eN,Dq]
     exact CE (hnv _).h1 rfl (hnv _).h2 (hbad (by unfold BH;rw[Vc hon,hno,hs1,hs2]))
    |some b=>
     rw[hs2]at hq
     subst hq
     by_cases hby:r.byN=[]
     ·have hb2:scmp .neq r.byN []=false:=by rw[DU,hby];rfl
      simp only[eE,eC,eN,eX,Nat.reduceEqDiff,↓reduceIte,Nat.reduceAdd,Nat.reduceLeDiff,Int.reduceEq,Nat.reduceSub,Nat.reduceDiv,V1,Dq,hb2,IA,hls,hgs,hss,apR6,apR7,AI,e]
      exact fin F a b (-1) (by unfold BH;rw[Vc hon,hno,hs1,hs2,Vk hby])
     ·have hb2:scmp .neq r.byN []=true:=by rw[DU,Bv hby];rfl
      simp only[eE,eC,eN,eX,Nat.reduceEqDiff,↓reduceIte,Nat.reduceAdd,Nat.reduceLeDiff,Nat.reduceSub,Nat.reduceDiv,V1,Dq,hb2,IA,hls,hgs,hss,apR6,apR7,AI]
      refine(I9 (hnv _).h18).mono λo H' n' hq=>?_
      obtain⟨rfl,rfl,hq⟩:=hq
      cases hnb:Bt (d.clus.map λx:DClu=>x.nm) r.byN with
      |none=>
       rw[hnb]at hq
       subst hq
       simp only[eE,eN,retK]
       exact CE (hnv _).h1 rfl (hnv _).h2 (hbad (by unfold BH;rw[Vc hon,hno,hs1,hs2,Vc hby,hnb]))
      |some c=>
       rw[hnb]at hq
       subst hq
       simp only[eE,eN,Nat.reduceEqDiff,↓reduceIte,Int.reduceEq,V1,retK,hls,hgs,hss,Qi,AI,e]
       exact fin F a b c (by unfold BH;rw[Vc hon,hno,hs1,hs2,Vc hby,hnb])
end Go.AM
namespace Go.AM
open Go.Proofs Go.Lib
structure VCl where
 i:Nat
 dn:List DClu
 H:AB
structure ICl(d:Dcl)(vc:AVal)(n:Nat)(v:VCl):Prop where
 hi:v.i<=d.clus.length
 ln:v.dn.length=v.i
 fr:AN v.H n
 nm:NM d vc (eRus d.ruls) v.H
 lv:LV 6 vc v.H ((v.dn++d.clus.drop v.i).map Bo)
 eq:Aa (Cs d) d.clus=(Aa (Cs d) (d.clus.drop v.i)).map λr=>v.dn++r
theorem apS2{a b c d e f v:AVal}(h:v.cells=[v]):Ck (.agg [a,b,c,d,e,f]) 2 1 6 v=(True,.agg [a,b,v,d,e,f]):=by
 rw[Dj (by decide)];simp [splice,h]
theorem Sb(d:Dcl)(hd:FewD d)(h16:¬16<d.syms.length)(ht1:Ac (d.syms.map λx:DSym=>x.nm)=false)(ht2:Ac (F2 d)=false)(ht3:Ac (d.clus.map λx:DClu=>x.nm)=false)
  {vc:AVal} {H:AB} {n:Nat} {ml:Int} (hml:ml=(d.clus.length:Int)) (hn:21<=n) (hf:AN H n) (hm:NM d vc (eRus d.ruls) H) (hv:LV 6 vc H (d.clus.map Bo)):
  evK Tryz.prog Tnr (asnd (afst (KJ 5 c145))) [.c (asnd (KJ 5 c145))] (QR d) ⟨[(1,true,.ptr 0 0),(2,true,.ptr 1 0),(3,true,.ptr 2 0),(4,true,.ptr 7 0),(5,true,.mp 12),(6,true,.mp 18),(37,true,.int .i64 ml),(38,true,.int .i64 0)],H,n⟩:=by
 subst hml
 have hcl:d.clus.length<1000000000:=hd.cl
 simp only[eE,KJ,asnd,afst,c145]
 refine AU (λv:VCl=>⟨[(1,true,.ptr 0 0),(2,true,.ptr 1 0),(3,true,.ptr 2 0),(4,true,.ptr 7 0),(5,true,.mp 12),(6,true,.mp 18),(37,true,.int .i64 d.clus.length),(38,true,.int .i64 v.i)],v.H,n⟩) (ICl d vc n) (λv=>d.clus.length-v.i)
  ⟨0,[],H⟩ rfl ⟨Vi _,rfl,hf,hm,hv,by rw[List.drop_zero];cases Aa (Cs d) d.clus<;>rfl⟩ ?_
 rintro⟨i,dn,H1⟩ hI
 have hi:=hI.hi
 have hln:=hI.ln
 have hfr:=hI.fr
 have hnm:=hI.nm
 have hlv:=hI.lv
 have heq:=hI.eq
 simp only at hi hln hfr hnm hlv heq
 by_cases hlt:i<d.clus.length
 ·rw[VS hlt]at heq hlv
  rw[Df]at heq
  generalize d.clus[i]=c at heq hlv
  have hll:((dn++c::d.clus.drop (i+1)).map Bo).length=d.clus.length:=by simp;omega
  rcases hlv with⟨h0,-⟩|⟨-,id,cap,rest,hvc,ho,hcr⟩
  ·simp at h0
  rw[hll]at hvc hcr
  subst hvc
  have e:=AJ (k:=i) (by omega)
  have hid:id<n:=hfr.lt ho
  have h0:=hnm.h0
  have hgi:((dn++c::d.clus.drop (i+1)).map Bo++rest)[i]?=some (.agg [.str c.nm,.str c.on,.int .i64 c.fam,.int .i64 c.ty,.int .i64 c.lo,.int .i64 c.hi]):=by
   rw[Vl,VO,W7 (by simp;omega)]
   simp [hln]
  have hil:(i<((dn++c::d.clus.drop (i+1)).map Bo++rest).length)=True:=V3 (by rw[Vn,hll];omega)
  have hse:∀c':DClu,((dn++c::d.clus.drop (i+1)).map Bo++rest).set i (Bo c')=((dn++[c'])++d.clus.drop (i+1)).map Bo++rest:=λc'=>by
   rw[Vl,VO,List.set_append_right _ _ (by simp;omega)]
   simp [hln]
  have hne:=hnm.ne ho
  generalize hA:(dn++c::d.clus.drop (i+1)).map Bo++rest=A at ho hgi hil hse
  simp only[eE,eC,eN,eX,reduceCtorEq,Nat.reduceEqDiff,↓reduceIte,Nat.reduceAdd,Nat.reduceLeDiff,Nat.reduceLT,Nat.reduceMod,Nat.reduceSub,Nat.reduceDiv,V1,V2,V4,atN,atK,FH,lt_T hlt,h0,Bj,ho,hgi,hil,addr,V3 hid]
  refine(I9 hnm.h12).mono λo H' n' hq=>?_
  obtain⟨rfl,rfl,hq⟩:=hq
  cases hno:Bt (F2 d) c.on with
  |none=>
   rw[hno]at hq
   subst hq
   have hrc:Cs d c=none:=by unfold Cs;rw[hno];rfl
   rw[hrc]at heq
   have hr:resD d= .error 160:=by unfold resD;rw[Vc h16,ht1,ht2,ht3,heq];rfl
   simp only[eE,eN,Dq]
   exact CE hnm.h1 rfl hnm.h2 hr
  |some k=>
   rw[hno]at hq
   subst hq
   have hrc:Cs d c=some {c with fam:=k}:=by unfold Cs;rw[hno];rfl
   rw[hrc]at heq
   have hs2:=hse {c with fam:=k}
   simp only[eE,eC,eN,eX,Nat.reduceEqDiff,↓reduceIte,Nat.reduceLeDiff,Int.reduceEq,Nat.reduceSub,Nat.reduceDiv,V1,V2,V4,Dq,IA,ho,hgi,hil,apS2 (v:=.int .i64 k) rfl,e]
   refine⟨by omega,.mk ⟨i+1,dn++[{c with fam:=k}],hset H' id (.arr 6 (A.set i (Bo {c with fam:=k})))⟩ rfl ⟨hlt,by simp [hln],hfr.hset (Va _) hid,hnm.set hne,.inr ⟨by simp,id,cap,rest,?_,?_,?_⟩,?_⟩ (by simp only[];omega)⟩
   ·simp only[V0,Vn,Vp,Wd,Wn,hln]
    congr 1;omega
   ·simp only[]
    rw[AC,hs2]
   ·simp only[V0,Vn,Vp,Wd,Wn,hln]
    omega
   ·simp only[]
    rw[heq]
    cases Aa (Cs d) (d.clus.drop (i+1))<;>simp
 obtain rfl:i=d.clus.length:=by omega
 rw[WG]at heq hlv
 rw[Vz]at hlv
 have hcs:Aa (Cs d) d.clus=some dn:=by rw[heq];simp [Aa]
 have h0:=hnm.h0
 have y0:∀k,(n+k=0)=False:=λk=>Ve (by omega)
 simp only[eE,eC,eN,Nat.reduceEqDiff,↓reduceIte,Nat.reduceAdd,xE,lt_F hlt,h0,Bj,fr1 hfr]
 refine(Qf (pre:=[]) hd.ru (by decide) rfl (AC ..) rfl).mono λo H' n' hq=>?_
 unfold Bi at hq
 rw[Vy]at hq
 have hnv:∀a b,NM d vc (eRus d.ruls) (hset (hset H1 (n+2) a) (n+2) b):=λa b=>(hnm.set (KK (by omega))).set (KK (by omega))
 cases ht4:Ac (d.ruls.map λx:DRul=>x.nm)with
 |true=>
  rw[ht4,Vk rfl]at hq
  obtain⟨rfl,rfl,rfl⟩:=hq
  have hr:resD d= .error 161:=by
   unfold resD
   rw[Vc h16,ht1,ht2,ht3,hcs]
   simp only[Vq,Vw]
   rw[ht4];rfl
  simp only[eE,eN,retK]
  exact CE (hnv _ _).h1 rfl (hnv _ _).h2 hr
 |false=>
 rw[ht4,Vc (by decide)]at hq
 obtain⟨rfl,rfl,rfl⟩:=hq
 have hH:=hnv (nmO []) (nmO (d.ruls.map λx:DRul=>x.nm))
 have hlc:LV 6 vc (hset (hset H1 (n+2) (nmO [])) (n+2) (nmO (d.ruls.map λx:DRul=>x.nm))) (dn.map Bo):=by
  have hv2:∀a b c x,vc≠ .ref (n+2) a b c x:=by
   rintro a b c x rfl
   exact hlv.no (by rw[hfr _ (by omega)];simp)
  exact(hlv.set hv2).set hv2
 have hf2:AN (hset (hset H1 (n+2) (nmO [])) (n+2) (nmO (d.ruls.map λx:DRul=>x.nm))) (n+4):=(hfr.hset (m:=n+4) (by omega) (by omega)).hset (Va _) (by omega)
 generalize hset (hset H1 (n+2) (nmO [])) (n+2) (nmO (d.ruls.map λx:DRul=>x.nm))=H2 at hH hlc hf2
 have h02:=hH.h0
 simp only[eE,eN,Nat.reduceEqDiff,↓reduceIte,Nat.reduceAdd,retK,h02,Bj]
 refine(Uv d.ruls hd.ru).mono λo H' n' hq=>?_
 rcases hq with⟨h0',rfl,hn',t,rfl,htk⟩|⟨h0',rfl,cap,rest,rfl,rfl,hcr⟩
 ·have hrl:d.ruls.length=0:=by have:=congrArg List.length h0';simpa using this
  simp only[eE,Nat.reduceEqDiff,↓reduceIte,Nat.reduceAdd,retK,h02,Bj]
  rw[Dr]
  simp only[eE,Nat.reduceEqDiff,↓reduceIte]
  rw[Dr]
  simp only[eE,Nat.reduceEqDiff,↓reduceIte,Nat.reduceAdd,c0]
  rw[Dr]
  have hc0:∀a b c x,vc≠ .ref 0 a b c x:=by
   rintro a b c x rfl
   exact hlc.no (by rw[h02];simp)
  have:=Sa d hd h16 ht1 ht2 ht3 hcs ht4 (vr:=.sl t []) (hf2.hset (id:=0) (m:=n') (by omega) (by omega)) hH.put (hlc.set hc0) (.inl ⟨h0',t,rfl,htk⟩) (λi a b c e j f g h k _ q=>by cases q)
  rw[hrl]at this
  exact this
 ·have y4:∀k,(n+4+k=0)=False:=λk=>Ve (by omega)
  simp only[eE,Nat.reduceEqDiff,↓reduceIte,Nat.reduceAdd,retK,h02,Bj,y0]
  rw[Dr]
  simp only[eE,Nat.reduceEqDiff,↓reduceIte]
  rw[Dr]
  simp only[eE,Nat.reduceEqDiff,↓reduceIte,Nat.reduceAdd,V0]
  rw[Dr]
  have hc0:∀a b c x,vc≠ .ref 0 a b c x:=by
   rintro a b c x rfl
   exact hlc.no (by rw[h02];simp)
  have hc6:∀a b c x,vc≠ .ref (n+6) a b c x:=by
   rintro a b c x rfl
   exact hlc.no (by rw[hf2 _ (by omega)];simp)
  refine Sa d hd h16 ht1 ht2 ht3 hcs ht4 (vr:=.ref (n+6) 12 0 d.ruls.length cap) (((hf2.hset (m:=n+8) (by omega) (by omega)).hset (Va _) (by omega))) (hH.set (KK (by omega))).put ((hlc.set hc6).set hc0) (.inr ⟨h0',n+6,cap,rest,by rw[V0],?_,hcr⟩) (λi a b c e j f g h k q1 q2=>?_)
  ·rw[AA _ _ _ _ (by omega)];exact AC ..
  ·cases q2
   rintro rfl
   exact hc6 _ _ _ _ q1
end Go.AM
namespace Go.AM
open Go.Proofs Go.Lib
theorem N0(d:Dcl)(hd:FewD d):AK Tryz.prog 145 [encD d] hnil 0 (RR d):=by
 refine a145 (AE SZ (AF ?_))
 simp only[eE,eN,reduceCtorEq,Nat.reduceEqDiff,↓reduceIte,Nat.reduceAdd,Pw,Dp,Ju,AQ,encD]
 refine⟨_,_,rfl,AE SZ (AF ?_)⟩
 generalize hE:List.filter (λ(e:Nat×Bool×AVal)=>Nat.blt e.1 4) _=E
 have hE':E=envR:=by rw[<-hE];rfl
 subst hE'
 clear hE
 rw[Vy]
 by_cases h16:16<d.syms.length
 ·have hr:resD d= .error 2:=by unfold resD;rw[Vk h16]
  simp only[eE,eC,eN,reduceCtorEq,Nat.reduceEqDiff,↓reduceIte,Nat.reduceAdd,Nat.reduceLeDiff,V0,c145,V3 (show(16:Int)<(d.syms.length:Int)by omega),AO]
  refine Nz (xs:=Mm) rfl rfl rfl ?_
  unfold RR
  rw[hr]
  exact⟨_,rfl,Wk.tup (.cons (Wk.agg (.cons (Wk.refl _) (.cons (Wk.refl _) (.cons (Wk.refl _) (.cons (Wk.refl _) (.cons (Wk.refl _) (.cons (Wk.sl (.inr rfl)) (.cons (Wk.sl (.inr rfl)) (.cons (Wk.sl (.inr rfl)) (.cons (Wk.sl (.inr rfl)) (.cons (Wk.sl (.inr rfl)) .nil))))))))))) (.cons (Wk.refl _) .nil))⟩
 simp only[eE,eC,eN,reduceCtorEq,Nat.reduceEqDiff,↓reduceIte,Nat.reduceAdd,Nat.reduceLeDiff,xE,V0,c145,Ve (show ¬(16:Int)<(d.syms.length:Int)by omega),AO]
 refine(Qb (pre:=[]) hd.sy (by decide) rfl rfl rfl).mono λo H' n' hq=>?_
 unfold Bi at hq
 rw[Vy]at hq
 cases ht1:Ac (d.syms.map λx:DSym=>x.nm)with
 |true=>
  rw[ht1,Vk rfl]at hq
  obtain⟨rfl,rfl,rfl⟩:=hq
  have hr:resD d= .error 161:=by unfold resD;rw[Vc h16,ht1];rfl
  simp only[eE,eN,retK]
  exact CE (xs:=Mm) rfl rfl rfl hr
 |false=>
 rw[ht1,Vc (by decide)]at hq
 obtain⟨rfl,rfl,rfl⟩:=hq
 simp only[eE,eC,eN,eX,reduceCtorEq,Nat.reduceEqDiff,↓reduceIte,Nat.reduceAdd,Nat.reduceLeDiff,Nat.reduceLT,Nat.reduceMod,Nat.reduceSub,Nat.reduceDiv,xE,retK,Tnr_g,addr]
 refine⟨⟨trivial,C8 0 _⟩,(TK (pre:=[]) (by decide) (by decide) rfl rfl rfl).mono λo H' n' hq=>?_⟩
 unfold Bi at hq
 rw[Vy,show Ac (Fi.map λx:Bs=>x)=false by decide,Vc (by decide)]at hq
 obtain⟨rfl,rfl,rfl⟩:=hq
 simp only[eE,eX,Nat.reduceEqDiff,↓reduceIte,Nat.reduceAdd,Nat.reduceLeDiff,Nat.reduceMod,Nat.reduceSub,Nat.reduceDiv,Dq]
 refine(Qd (pre:=Fi) hd.rg (by decide) rfl rfl (by decide)).mono λo H' n' hq=>?_
 unfold Bi at hq
 cases ht2:Ac (F2 d)with
 |true=>
  rw[show Fi++d.regs.map (λx:DReg=>x.nm)=F2 d from rfl,ht2,Vk rfl]at hq
  obtain⟨rfl,rfl,rfl⟩:=hq
  have hr:resD d= .error 161:=by unfold resD;rw[Vc h16,ht1,ht2];rfl
  simp only[eE,eN,Dq]
  exact CE (xs:=Mm) rfl rfl rfl hr
 |false=>
 rw[show Fi++d.regs.map (λx:DReg=>x.nm)=F2 d from rfl,ht2,Vc (by decide)]at hq
 obtain⟨rfl,rfl,rfl⟩:=hq
 simp only[eE,eN,eX,reduceCtorEq,Nat.reduceEqDiff,↓reduceIte,Nat.reduceAdd,Nat.reduceLeDiff,Nat.reduceSub,Nat.reduceDiv,xE,Dq]
 refine(Qe (pre:=[]) hd.cl (by decide) rfl rfl rfl).mono λo H' n' hq=>?_
 unfold Bi at hq
 rw[Vy]at hq
 cases ht3:Ac (d.clus.map λx:DClu=>x.nm)with
 |true=>
  rw[ht3,Vk rfl]at hq
  obtain⟨rfl,rfl,rfl⟩:=hq
  have hr:resD d= .error 161:=by unfold resD;rw[Vc h16,ht1,ht2,ht3];rfl
  simp only[eE,eN,retK]
  exact CE (xs:=Mm) rfl rfl rfl hr
 |false=>
 rw[ht3,Vc (by decide)]at hq
 obtain⟨rfl,rfl,rfl⟩:=hq
 simp only[eE,eN,reduceCtorEq,Nat.reduceEqDiff,↓reduceIte,Nat.reduceAdd,Nat.reduceLeDiff,retK]
 refine(Uu d.clus hd.cl).mono λo H' n' hq=>?_
 rcases hq with⟨h0,rfl,hn,t,rfl,htk⟩|⟨h0,rfl,cap,rest,rfl,rfl,hcr⟩
 ·have hcl:d.clus.length=0:=by have:=congrArg List.length h0;simpa using this
  simp only[eE,reduceCtorEq,Nat.reduceEqDiff,↓reduceIte,Nat.reduceAdd,Nat.reduceLeDiff,retK]
  rw[Dr]
  simp only[eE,Nat.reduceEqDiff,↓reduceIte,Nat.reduceAdd,Nat.reduceLeDiff,c0]
  rw[Dr]
  refine Sb d hd h16 ht1 ht2 ht3 (vc:=.sl t []) (by rw[hcl];rfl) hn (λid hid=>?_) (NM.mk (d:=d) (vr:=eRus d.ruls) rfl rfl rfl rfl rfl rfl rfl) (.inl ⟨h0,t,rfl,htk⟩)
  simp only[AD]
  repeat rw[Vc (by omega)]
  rfl
 ·simp only[eE,reduceCtorEq,Nat.reduceEqDiff,↓reduceIte,Nat.reduceAdd,Nat.reduceLeDiff,retK]
  rw[Dr]
  simp only[eE,Nat.reduceEqDiff,↓reduceIte,Nat.reduceAdd,Nat.reduceLeDiff,V0]
  rw[Dr]
  refine Sb d hd h16 ht1 ht2 ht3 (vc:=.ref 23 6 0 d.clus.length cap) rfl (by omega) (λid hid=>?_) (NM.mk (d:=d) (vr:=eRus d.ruls) rfl rfl rfl rfl rfl rfl rfl) (.inr ⟨h0,23,cap,rest,by rw[V0],rfl,hcr⟩)
  simp only[AD]
  repeat rw[Vc (by omega)]
  rfl
def RS(d:Dcl):AOut->AB->Nat->Prop:=λo H' n'=>match resD d with
 | .error e=>∃v,o= .ret v/\Wk v (.tup [encD dcl0,.int .i64 e])
 | .ok x=>∃vc vr,o= .ret (.tup [.agg (Bj d vc vr),.int .i64 0])/\LF 6 vc H' (x.clus.map Bo)/\LV 12 vr H' (x.ruls.map Bc)
def RT(d:Dcl):AOut->AB->Nat->Prop:=λo H' n'=>match resD d with
 | .error e=>∃v,o= .ret v/\Wk v (.tup [encD dcl0,.int .i64 e])
 | .ok x=>∃vc vr,o= .ret (.tup [.agg (Bj d vc vr),.int .i64 0])/\LF 6 vc H' (x.clus.map Bo)/\LF 12 vr H' (x.ruls.map Bc)
theorem p145(d:Dcl)(hd:FewD d):Pur Tryz.prog 145 [encD d] (EW d):=by
 refine .mk ⟨A8 0 d,trivial⟩ (by unfold EW;split<;>exact⟨A8 0 _,trivial,trivial⟩) ?_
 refine AK.out (R:=RT d) (AK.seal (R:=RS d) (AK.seal (R:=RR d) (N0 d hd) ?_) ?_) ?_
 ·intro o H' n' h
  unfold RR at h
  unfold RS
  split at h
  ·rename_i e he
   try rw[he]
   exact .inl h
  ·rename_i x hx
   try rw[hx]
   obtain⟨vc,vr,rfl,h1,h2,h3⟩:=h
   rcases h1 with h1|⟨h0,id,cap,rest,rfl,ho,hc⟩
   ·exact .inl ⟨vc,vr,rfl,.inl h1,h2⟩
   ·refine .inr ⟨id,_,_,ho,_,vr,rfl,.inr ⟨h0,id,cap,rest,rfl,AC ..,hc⟩,h2.set λa b c x=>?_⟩
    rintro rfl
    exact h3 _ _ _ _ _ _ _ _ _ _ rfl rfl rfl
 ·intro o H' n' h
  unfold RS at h
  unfold RT
  split at h
  ·rename_i e he
   try rw[he]
   exact .inl h
  ·rename_i x hx
   try rw[hx]
   obtain⟨vc,vr,rfl,h1,h2⟩:=h
   rcases h2 with h2|⟨h0,id,cap,rest,rfl,ho,hc⟩
   ·exact .inl ⟨vc,vr,rfl,h1,.inl h2⟩
   ·refine .inr ⟨id,_,_,ho,vc,_,rfl,?_,.inr ⟨h0,id,cap,rest,rfl,AC ..,hc⟩⟩
    rcases h1 with h1|⟨q0,i2,c2,r2,rfl,o2,hc2⟩
    ·exact .inl h1
    ·refine .inr ⟨q0,i2,c2,r2,rfl,?_,hc2⟩
     rw[AA _ _ _ _ (by rintro rfl;rw[ho]at o2;cases o2)];exact o2
 ·intro o H' n' h
  unfold RT at h
  unfold EW
  split at h
  ·rename_i e he
   try rw[he]
   obtain⟨v,rfl,hw⟩:=h
   exact⟨.ret v,⟨v,rfl,hw⟩,λg w e _ q=>q⟩
  ·rename_i x hx
   try rw[hx]
   obtain⟨vc,vr,rfl,h1,h2⟩:=h
   refine⟨.ret (.tup [encD x,.int .i64 0]),⟨_,rfl,Wk.refl _⟩,λg w e hR q=>?_⟩
   obtain⟨e1,e2,e3,e4,e5,e6,e7,e8⟩:=MQ hx
   cases e with
   |panicked c=>exact q.elim
   |outgrown=>exact q.elim
   |returned y=>
    obtain⟨vs,rfl,y1,r1,q1,q2,q3⟩:=q
    refine⟨vs,rfl,y1,r1,q1,?_,q3⟩
    obtain⟨us,rfl,p1,p2⟩:=q2
    refine⟨us,rfl,?_,p2⟩
    obtain⟨a1,b1,f1,g1,a2,b2,f2,g2,a3,b3,f3,g3,a4,b4,f4,g4,a5,b5,f5,g5,a6,b6,f6,g6,a7,b7,f7,g7,a8,b8,f8,g8,a9,b9,f9,g9,a10,b10,f10,g10,g11⟩:=p1
    rw[<-e1]at g1
    rw[<-e2]at g2
    rw[<-e3]at g3
    rw[<-e4]at g4
    rw[<-e5]at g5
    rw[<-e6]at g6
    rw[<-e7]at g7
    rw[<-e8]at g8
    exact⟨a1,b1,f1,g1,a2,b2,f2,g2,a3,b3,f3,g3,a4,b4,f4,g4,a5,b5,f5,g5,a6,b6,f6,g6,a7,b7,f7,g7,a8,b8,f8,g8,a9,b9,f9,H9 h1 hR g9,a10,b10,f10,H9 h2 hR g10,g11⟩
end Go.AM
namespace Go.AM
open Go.Proofs Go.Lib
abbrev encF(f:FormD):AVal:=.agg [.bool f.on,.bool f.set,.bool f.oth,.bool f.bnd,.bool f.num,.bool f.rdb,.bool f.knw,.int .i64 f.clue]
theorem JA{k:Int}(h:k<0\/14<=k):Iy k={}:=by
 unfold Iy
 repeat rw[Vc (by omega)]
theorem p280(k:Int):Pur Tryz.prog 280 [.int .i64 k] (encF (Iy k)):=by
 refine .mk ⟨trivial,trivial⟩ ⟨trivial,trivial,trivial,trivial,trivial,trivial,trivial,trivial,trivial⟩ (a280 (AE AH.tnil (AF ?_)))
 by_cases hk:k<0\/14<=k
 ·have hb:(decide (k<0)||decide (14<=k))=true:=by simpa using hk
  rw[JA hk]
  simp only[eE,eC,eN,reduceCtorEq,Nat.reduceEqDiff,↓reduceIte,Nat.reduceAdd,Nat.reduceLeDiff,Cg,c280,hb]
  exact Wk.refl _
 ·have hb:(decide (k<0)||decide (14<=k))=false:=by simp;omega
  simp only[eE,eC,eN,reduceCtorEq,Nat.reduceEqDiff,↓reduceIte,Nat.reduceAdd,Nat.reduceLeDiff,Cg,c280,hb]
  have hk2:k=0\/k=1\/k=2\/k=3\/k=4\/k=5\/k=6\/k=7\/k=8\/k=9\/k=10\/k=11\/k=12\/k=13:=by omega
  rcases hk2 with rfl|rfl|rfl|rfl|rfl|rfl|rfl|rfl|rfl|rfl|rfl|rfl|rfl|rfl<;>exact⟨by decide,by decide,rfl,rfl,Wk.refl _⟩
theorem p247(c:DClu):Pur Tryz.prog 247 [Bo c] (.bool (F4 c)):=by
 refine .mk ⟨Em 0 c,trivial⟩ trivial (a247 (AE AH.tnil (AF ?_)))
 unfold F4
 by_cases h1:c.ty=1
 ·simp only[eE,eC,eN,Nat.reduceEqDiff,↓reduceIte,Nat.reduceAdd,Nat.reduceLeDiff,Int.reduceEq,c247,h1]
 by_cases h2:c.ty=2
 ·simp only[eE,eC,eN,Nat.reduceEqDiff,↓reduceIte,Nat.reduceAdd,Nat.reduceLeDiff,Int.reduceEq,c247,h2]
 by_cases h3:c.ty=3
 ·simp only[eE,eC,eN,Nat.reduceEqDiff,↓reduceIte,Nat.reduceAdd,Nat.reduceLeDiff,Int.reduceEq,c247,h3]
 simp only[eE,eC,eN,Nat.reduceEqDiff,↓reduceIte,Nat.reduceAdd,Nat.reduceLeDiff,c247,h1,h2,h3]
theorem p208(b:Bool)(e:Int):Pur Tryz.prog 208 [.bool b,.int .i64 e] (.int .i64 (if b=true then 0 else e)):=by
 refine .mk ⟨trivial,trivial,trivial⟩ trivial (a208 (AE AH.tnil (AF ?_)))
 cases b<;>simp only[eE,eC,eN,reduceCtorEq,Nat.reduceEqDiff,↓reduceIte,Nat.reduceAdd,c208]
def Tsh:Tab:=tadd 280 (s1 dI any1 λk=>encF (Iy k)) tnil
theorem Sc:AH Tryz.prog Tsh:=AH.tnil.add (q1 λk _=>p280 k)
theorem HG(a:List AVal)(H:AB):Tsh 280 a H=s1 dI any1 (λk=>encF (Iy k)) a H:=rfl
theorem TM(k:Int):(Iy k).rdb=(decide (1<=k)&&decide (k<=11)):=by
 by_cases hk:k<0\/14<=k
 ·rw[JA hk]
  symm
  simp;omega
 ·have hk2:k=0\/k=1\/k=2\/k=3\/k=4\/k=5\/k=6\/k=7\/k=8\/k=9\/k=10\/k=11\/k=12\/k=13:=by omega
  rcases hk2 with rfl|rfl|rfl|rfl|rfl|rfl|rfl|rfl|rfl|rfl|rfl|rfl|rfl|rfl<;>rfl
theorem p248(r:DRul):Pur Tryz.prog 248 [Bc r] (.bool (Iz r)):=by
 refine .mk ⟨B6 0 r,trivial⟩ trivial (a248 (AE Sc (AF ?_)))
 simp only[eE,eN,Nat.reduceEqDiff,↓reduceIte,Nat.reduceAdd,Nat.reduceLeDiff,c248,HG,s1,CU,BI,encF]
 exact TM r.kind
abbrev ruE1(r:DRul)(on set oth:Bool):Bool:=on !=scmp .neq r.on []||set != !decide (r.set=0)||oth != !decide (r.oth=0)|| !on&& !decide (r.fam=0)|| !set&&decide ((0:Int)<(r.ns.length:Int))|| !oth&&decide ((0:Int)<(r.os.length:Int))
abbrev ruE2(r:DRul)(bnd:Bool):Bool:=bnd !=(decide (1<=r.op)&&decide (r.op<=3))|| !bnd&& !decide (r.op=0)||decide (r.n<0)||decide (65536<r.n)
abbrev ruE3(r:DRul)(bnd num:Bool):Bool:=!(num||bnd&&scmp .eql r.byN [])&& !decide (r.n=0)
theorem Qj{cl:List DClu}{r:DRul}{on set oth bnd num rdb:Bool}{clue:Int}(hf:Iy r.kind=⟨on,set,oth,bnd,num,rdb,true,clue⟩):
  Gz cl r=if ruE1 r on set oth=true then false else if ruE2 r bnd=true then false else if ruE3 r bnd num=true then false else
   if(if(bnd&&scmp .neq r.byN [])=true then 2 else clue)=0 then decide (r.byN=[])&&decide (r.clue= -1)else cluP cl r (if(bnd&&scmp .neq r.byN [])=true then 2 else clue):=by
 unfold Gz
 rw[hf]
 have e1:∀(l:List Bs),decide ((0:Int)<(l.length:Int))=decide (0<l.length):=λl=>by
  rw[VL,Vd,Vd];omega
 simp only[ruE1,ruE2,ruE3,DU,DV,e1,ne_eq,decide_not,XE,Vw]
 rfl
theorem p246(d:Dcl)(r:DRul):Pur Tryz.prog 246 [encD d,Bc r] (.bool (Gz d.clus r)):=by
 refine .mk ⟨A8 0 d,B6 0 r,trivial⟩ trivial (a246 (AE Sc (AF ?_)))
 cases hf:(Iy r.kind)with
 |mk on set oth bnd num rdb knw clue=>
 cases knw with
 |false=>
  have hR:Gz d.clus r=false:=by unfold Gz;rw[hf];rfl
  rw[hR]
  simp only[eE,eC,eN,reduceCtorEq,Nat.reduceEqDiff,↓reduceIte,Nat.reduceAdd,Nat.reduceLeDiff,Vf,c246,HG,s1,CU,BI,hf,encF]
 |true=>
 rw[Qj hf]
 cases h1:ruE1 r on set oth with
 |true=>
  rw[Vk rfl]
  simp only[eE,eC,eN,reduceCtorEq,Nat.reduceEqDiff,↓reduceIte,Nat.reduceAdd,Nat.reduceLeDiff,V8,V0,c246,HG,s1,CU,BI,hf,encF,h1]
 |false=>
 rw[Vc (by decide)]
 cases h2:ruE2 r bnd with
 |true=>
  rw[Vk rfl]
  simp only[eE,eC,eN,reduceCtorEq,Nat.reduceEqDiff,↓reduceIte,Nat.reduceAdd,Nat.reduceLeDiff,V8,V0,c246,HG,s1,CU,BI,hf,encF,h1,h2]
 |false=>
 rw[Vc (by decide)]
 cases h3:ruE3 r bnd num with
 |true=>
  rw[Vk rfl]
  simp only[eE,eC,eN,reduceCtorEq,Nat.reduceEqDiff,↓reduceIte,Nat.reduceAdd,Nat.reduceLeDiff,V8,V0,c246,HG,s1,CU,BI,hf,encF,h1,h2,h3]
 |false=>
 rw[Vc (by decide)]
 cases h4:(bnd&&scmp .neq r.byN [])with
 |true=>
  simp only[Wj]
  rw[Vc (by decide)]
  by_cases hc:r.clue<0\/(d.clus.length:Int)<=r.clue
  ·have hcb:(decide (r.clue<0)||decide ((d.clus.length:Int)<=r.clue))=true:=by simpa using hc
   have hP:cluP d.clus r 2=false:=by unfold cluP;rw[Vk hc]
   rw[hP]
   simp only[eE,eC,eN,reduceCtorEq,Nat.reduceEqDiff,↓reduceIte,Nat.reduceAdd,Nat.reduceLeDiff,Int.reduceEq,V8,V0,c246,HG,s1,CU,BI,hf,encF,h1,h2,h3,h4,hcb]
  ·have hcb:(decide (r.clue<0)||decide ((d.clus.length:Int)<=r.clue))=false:=by simp;omega
   obtain⟨j,hj⟩:∃j:Nat,r.clue=(j:Int):=⟨r.clue.toNat,by omega⟩
   have hjl:j<d.clus.length:=by omega
   have hg:=V5 hjl
   generalize d.clus[j]=c at hg
   have hP:cluP d.clus r 2=(decide (c.ty=2)&&(decide (2=1)||decide (c.fam=r.fam))):=by
    unfold cluP;(rw[Vc hc,hj,V2,hg])<;>rfl
   rw[hP]
   rw[hj]at hcb
   simp only[eE,eC,eN,reduceCtorEq,Nat.reduceEqDiff,↓reduceIte,Nat.reduceAdd,Nat.reduceLeDiff,Int.reduceEq,V8,V1,V2,V4,V0,V6,c246,HG,s1,CU,BI,hf,encF,h1,h2,h3,h4,hj,hcb,lt_T hjl,hg]
 |false=>
  simp only[Vq,Vw]
  by_cases h5:clue=0
  ·rw[Vk h5]
   subst h5
   simp only[eE,eC,eN,reduceCtorEq,Nat.reduceEqDiff,↓reduceIte,Nat.reduceAdd,Nat.reduceLeDiff,V8,V0,c246,HG,s1,CU,BI,hf,encF,h1,h2,h3,h4]
   rw[DV]
  ·rw[Vc h5]
   by_cases hc:r.clue<0\/(d.clus.length:Int)<=r.clue
   ·have hcb:(decide (r.clue<0)||decide ((d.clus.length:Int)<=r.clue))=true:=by simpa using hc
    have hP:cluP d.clus r clue=false:=by unfold cluP;rw[Vk hc]
    rw[hP]
    simp only[eE,eC,eN,reduceCtorEq,Nat.reduceEqDiff,↓reduceIte,Nat.reduceAdd,Nat.reduceLeDiff,V8,V0,c246,HG,s1,CU,BI,hf,encF,h1,h2,h3,h4,Bv h5,hcb]
   ·have hcb:(decide (r.clue<0)||decide ((d.clus.length:Int)<=r.clue))=false:=by simp;omega
    obtain⟨j,hj⟩:∃j:Nat,r.clue=(j:Int):=⟨r.clue.toNat,by omega⟩
    have hjl:j<d.clus.length:=by omega
    have hg:=V5 hjl
    generalize d.clus[j]=c at hg
    have hP:cluP d.clus r clue=(decide (c.ty=clue)&&(decide (clue=1)||decide (c.fam=r.fam))):=by
     unfold cluP;(rw[Vc hc,hj,V2,hg])<;>rfl
    rw[hP]
    rw[hj]at hcb
    simp only[eE,eC,eN,reduceCtorEq,Nat.reduceEqDiff,↓reduceIte,Nat.reduceAdd,Nat.reduceLeDiff,V8,V1,V2,V4,V0,V6,c246,HG,s1,CU,BI,hf,encF,h1,h2,h3,h4,Bv h5,hj,hcb,lt_T hjl,hg]
end Go.AM
namespace Go.AM
open Go.Proofs Go.Lib
def Trd:Tab:=tadd 248 (s1 dRu any1 λr=>.bool (Iz r)) tnil
theorem Trd_ok:AH Tryz.prog Trd:=AH.tnil.add (q1 λr _=>p248 r)
theorem Trd_e(a:List AVal)(H:AB):Trd 248 a H=s1 dRu any1 (λr=>.bool (Iz r)) a H:=rfl
structure VU where
 i:Nat
 tk:Tok
 H:AB
 n:Nat
structure IU(rs:List DRul)(v:VU):Prop where
 hi:v.i<=rs.length
 fr:AN v.H v.n
 hn:2<=v.n
 tok:tkG 1 1 v.H v.tk
 es:v.tk.esz=1\/BX (rs.take v.i)=[]
theorem Mn(rs:List DRul):(BX rs).length<=rs.length:=by
 unfold BX
 rw[V0]
 exact W6 (Ws ..) (by simp)
theorem KL{rs:List DRul}{i:Nat}(h:i<rs.length):BX (rs.take (i+1))=BX (rs.take i)++(if Iz rs[i]=true then[]else[(i:Int)]):=by
 rw[W2,V5 h]
 show BX (rs.take i++[rs[i]])=_
 rw[Nk,Vu,Nat.min_eq_left (by omega)]
theorem p217(d:Dcl)(hr:few d.ruls):Pur Tryz.prog 217 [encD d] (eIs (BX d.ruls)):=by
 refine .mk ⟨A8 0 d,trivial⟩ (AZ 0 _) (a217 (AE Trd_ok (AF ?_)))
 have hrl:d.ruls.length<1000000000:=hr
 simp only[eE,eN,Nat.reduceEqDiff,↓reduceIte,Nat.reduceAdd,V0,c217]
 refine AU (λv:VU=>⟨[(2,true,.sl v.tk ((BX (d.ruls.take v.i)).map eI)),(6,true,eRus d.ruls),(7,true,.int .i64 d.ruls.length),(8,true,.int .i64 v.i)],v.H,v.n⟩) (IU d.ruls) (λv=>d.ruls.length-v.i)
  ⟨0,.nil,hset hnil 0 (.box (AO d)),2⟩ rfl ⟨Vi _,AN.nil.hset (m:=2) (Vi 2) (show 0<2 by decide),Va _,.inl rfl,.inr rfl⟩ ?_
 rintro⟨i,tk,H,n⟩ ⟨hi,hfr,hn,htk,hes⟩
 simp only at hi hfr hn htk hes
 by_cases hlt:i<d.ruls.length
 ·have hg:=V5 hlt
  have e:=AJ (k:=i) (by omega)
  have hu:=KL hlt
  have hul:=Mn (d.ruls.take i)
  rw[Vu]at hul
  generalize d.ruls[i]=r at hg hu
  cases hrr:Iz r with
  |true=>
   rw[hrr,Vk rfl,Vz]at hu
   simp only[eE,eC,eN,Nat.reduceEqDiff,↓reduceIte,Nat.reduceAdd,Int.reduceEq,V8,V1,V2,V4,V0,V6,lt_T hlt,hg,fr1 hfr,Trd_e,s1,Fl,D2,hrr,e,AI]
   refine .mk ⟨i+1,tk,hset H (n+3) (.box (DR r)),n+6⟩ ?_ ⟨hlt,hfr.hset (m:=n+6) (by omega) (by omega),by simp only[];omega,htk.set (.inr (.inr (hfr _ (by omega)))),by simp only[hu];exact hes⟩ (by simp only[];omega)
   simp only[hu]
  |false=>
   rw[hrr,Vc (by decide)]at hu
   have gt:tkG 1 1 (hset H (n+3) (.box (DR r))) tk:=htk.set (.inr (.inr (hfr _ (by omega))))
   have gf:AN (hset H (n+3) (.box (DR r))) (n+6):=hfr.hset (m:=n+6) (by omega) (by omega)
   have q1:Bg (hset H (n+3) (.box (DR r))) 1 tk=True:=V3 gt.app
   have q2:((BX (d.ruls.take i)).length<=35184372088831)=True:=V3 (by omega)
   have q3:Al ((BX (d.ruls.take i)).length+1) 8=True:=V3 (AX (by omega) (by decide))
   simp only[eE,eC,eN,reduceCtorEq,Nat.reduceEqDiff,↓reduceIte,Nat.reduceAdd,Nat.reduceLeDiff,Nat.reduceMul,Nat.reduceLT,Int.reduceEq,Vf,V1,V2,V4,V0,V6,lt_T hlt,hg,fr1 hfr,Trd_e,s1,Fl,D2,hrr,e,AI,q1,q2,q3]
   refine .mk ⟨i+1,.own (n+9) 1,hset (AV (hset H (n+3) (.box (DR r))) tk) (n+9) .tok,n+11⟩ ?_ ⟨hlt,(Ag gt gf).hset (m:=n+11) (by omega) (by omega),by simp only[];omega,.inr (.inr ⟨n+9,rfl,by omega,AC ..⟩),.inl rfl⟩ (by simp only[];omega)
   simp only[hu,Vl];rfl
 obtain rfl:i=d.ruls.length:=by omega
 rw[VT]at hes
 simp only[eE,eC,eN,Nat.reduceEqDiff,↓reduceIte,lt_F hlt,VT]
 exact Wk.sl (hes.imp id λq=>by rw[q];rfl)
def Tfm:Tab:=tadd 246 (s2 dD dRu any2 λd r=>.bool (Gz d.clus r)) (tadd 247 (s1 dCl any1 λc=>.bool (F4 c)) tnil)
theorem Tfm_ok:AH Tryz.prog Tfm:=(AH.tnil.add (q1 λc _=>p247 c)).add (q2 λd r _=>p246 d r)
theorem Tfm_r(a:List AVal)(H:AB):Tfm 246 a H=s2 dD dRu any2 (λd r=>.bool (Gz d.clus r)) a H:=rfl
theorem TN(a:List AVal)(H:AB):Tfm 247 a H=s1 dCl any1 (λc=>.bool (F4 c)) a H:=rfl
structure VM2 where
 i:Nat
 es:List (AVal×AVal×Nat)
 c:Nat
 H:AB
 n:Nat
structure IM2(d:Dcl)(id:Nat)(v:VM2):Prop where
 hi:v.i<=d.ruls.length
 fr:AN v.H v.n
 hn:id<v.n
 h0:hget v.H 0=some (.box (AO d))
 hm:hget v.H id=some (.map v.es v.c)
 ct:LK (d.ruls.take v.i) v.es
 ok:d.ruls.all (Gz d.clus)=(d.ruls.drop v.i).all (Gz d.clus)
theorem LK.nil:LK [] []:=⟨trivial,λz=>rfl⟩
theorem p215(d:Dcl)(hd:FewD d):Pur Tryz.prog 215 [encD d] (.bool (CJ d)):=by
 refine .mk ⟨A8 0 d,trivial⟩ trivial (a215 (AE Tfm_ok (AF ?_)))
 have hsl:d.syms.length<1000000000:=hd.sy
 have hrl:d.ruls.length<1000000000:=hd.ru
 have hcl:d.clus.length<1000000000:=hd.cl
 simp only[eE,eN,Nat.reduceEqDiff,↓reduceIte,Nat.reduceAdd,Nat.reduceLeDiff,V0,c215]
 refine AU (λv:VF=>⟨[(1,true,.ptr 0 0),(11,true,eSys d.syms),(12,true,.int .i64 d.syms.length),(13,true,.int .i64 v.i)],v.H,v.n⟩) (λv=>v.i<=d.syms.length/\AN v.H v.n/\2<=v.n/\hget v.H 0=some (.box (AO d))/\(d.syms.all λs=>decide (0<=s.v)&&decide (s.v<=99))=((d.syms.drop v.i).all λs=>decide (0<=s.v)&&decide (s.v<=99))) (λv=>d.syms.length-v.i)
  ⟨0,hset hnil 0 (.box (AO d)),2⟩ rfl ⟨Vi _,AN.nil.hset (m:=2) (Vi 2) (show 0<2 by decide),Va _,rfl,rfl⟩ ?_
 rintro⟨i,H,n⟩ ⟨hi,hfr,hn,h0,hall⟩
 simp only at hi hfr hn h0 hall
 by_cases hlt:i<d.syms.length
 ·have hg:=V5 hlt
  have e:=AJ (k:=i) (by omega)
  rw[VS hlt,XB]at hall
  generalize d.syms[i]=s at hg hall
  by_cases hs:0<=s.v/\s.v<=99
  ·have hb:(decide (s.v<0)||decide (99<s.v))=false:=by simp;omega
   simp only[eE,eC,eN,Nat.reduceEqDiff,↓reduceIte,Nat.reduceAdd,Int.reduceEq,V1,V2,V4,V0,V6,lt_T hlt,hg,fr1 hfr,e,AI,hb]
   refine .mk ⟨i+1,hset H (n+2) (.box [.str s.nm,.int .i64 s.v]),n+4⟩ rfl ⟨hlt,hfr.hset (m:=n+4) (by omega) (by omega),by simp only[];omega,by simp only[];rw[AA _ _ _ _ (by omega)];exact h0,?_⟩ (by simp only[];omega)
   simp only[]
   rw[hall,CV hs.1,CV hs.2];rfl
  ·have hb:(decide (s.v<0)||decide (99<s.v))=true:=by simp;omega
   have hR:CJ d=false:=by
    unfold CJ
    rw[hall,show(decide (0<=s.v)&&decide (s.v<=99))=false by simp;omega];rfl
   rw[hR]
   simp only[eE,eC,eN,Nat.reduceEqDiff,↓reduceIte,Nat.reduceAdd,V1,V2,V4,V0,V6,lt_T hlt,hg,fr1 hfr,AI,hb]
 obtain rfl:i=d.syms.length:=by omega
 rw[WG]at hall
 have y0:(n=0)=False:=Ve (by omega)
 simp only[eE,eC,eN,Nat.reduceEqDiff,↓reduceIte,Nat.reduceAdd,xE,V0,lt_F hlt,h0,fr0 hfr,y0]
 refine AU (λv:VM2=>⟨[(1,true,.ptr 0 0),(5,true,.mp n),(28,true,eRus d.ruls),(29,true,.int .i64 d.ruls.length),(30,true,.int .i64 v.i)],v.H,v.n⟩) (IM2 d n) (λv=>d.ruls.length-v.i)
  ⟨0,[],0,hset H n (.map [] 0),n+2⟩ rfl ⟨Vi _,hfr.hset (m:=n+2) (by omega) (by omega),by simp only[];omega,by simp only[];rw[AA _ _ _ _ (by omega)];exact h0,AC ..,LK.nil,rfl⟩ ?_
 rintro⟨k,es,c,H1,n1⟩ hI
 have hk:=hI.hi
 have hfr1:=hI.fr
 have hn1:=hI.hn
 have h01:=hI.h0
 have hm:=hI.hm
 have hct:=hI.ct
 have hok:=hI.ok
 simp only at hk hfr1 hn1 h01 hm hct hok
 by_cases hlk:k<d.ruls.length
 ·have hg:=V5 hlk
  have e:=AJ (k:=k) (by omega)
  have htk:d.ruls.take (k+1)=d.ruls.take k++[d.ruls[k]]:=by rw[W2,V5 hlk];rfl
  rw[VS hlk,XB]at hok
  have y1:∀q,(n1+q=n)=False:=λq=>Ve (by omega)
  have y2:∀q,(n=n1+q)=False:=λq=>Ve (by omega)
  have y3:∀q,(n1+q=0)=False:=λq=>Ve (by omega)
  have y4:∀q,(0=n1+q)=False:=λq=>Ve (by omega)
  generalize d.ruls[k]=r at hg hok htk
  cases hr:Gz d.clus r with
  |false=>
   have hR:CJ d=false:=by
    unfold CJ
    rw[hok,hr];simp
   rw[hR]
   simp only[eE,eC,eN,Nat.reduceEqDiff,↓reduceIte,Nat.reduceAdd,Vf,V1,V2,V4,V0,V6,lt_T hlk,hg,Tfm_r,s2,FO,DA,Fl,D2,hr,h01,fr1 hfr1,y3,AI]
  |true=>
  rw[hr,WF]at hok
  have hcl:=cnt_le (d.ruls.take k) r.clue
  rw[Vu]at hcl
  have ew:=AJ (k:=cntZ (d.ruls.take k) r.clue) (by omega)
  have hq:=hct.2 r.clue
  simp only[eE,eC,eN,Nat.reduceEqDiff,↓reduceIte,Nat.reduceAdd,Int.reduceEq,V8,xE,V1,V2,V4,V0,V6,lt_T hlk,hg,Tfm_r,s2,FO,DA,Fl,D2,hr,h01,fr1 hfr1,y1,y3,AI,hm,hct.1,KT.is,Bz,hq,e,ew]
  refine .mk ⟨k+1,mset (.int .i64 r.clue) (.int .i64 ((cntZ (d.ruls.take k) r.clue+1:Nat):Int)) c es,(if(Ay (AVal.int IntKind.i64 r.clue) es).isSome=true then c else c+1),hset (hset H1 (n1+2) (.box (DR r))) n (.map (mset (.int .i64 r.clue) (.int .i64 ((cntZ (d.ruls.take k) r.clue+1:Nat):Int)) c es) (if(Ay (AVal.int IntKind.i64 r.clue) es).isSome=true then c else c+1)),n1+4⟩ rfl
   ⟨hlk,(hfr1.hset (m:=n1+4) (by omega) (by omega)).hset (Va (n1+4)) (show n<n1+4 by omega),by simp only[];omega,?_,AC ..,by simp only[];rw[htk];exact hct.next,hok⟩ (by simp only[];omega)
  simp only[]
  rw[AA _ _ _ _ (by omega),AA _ _ _ _ (by omega)];exact h01
 obtain rfl:k=d.ruls.length:=by omega
 rw[WG]at hok
 rw[VT]at hct
 simp only[eE,eC,eN,Nat.reduceEqDiff,↓reduceIte,Nat.reduceAdd,Nat.reduceLeDiff,V0,lt_F hlk,h01]
 refine AU (λv:VF=>⟨[(5,true,.mp n),(45,true,eCls d.clus),(46,true,.int .i64 d.clus.length),(47,true,.int .i64 v.i)],v.H,v.n⟩) (λv=>v.i<=d.clus.length/\AN v.H v.n/\n<v.n/\hget v.H n=some (.map es c)/\∀j (h:j<d.clus.length),j<v.i->HN d.ruls j=1/\F4 d.clus[j]=true) (λv=>d.clus.length-v.i)
  ⟨0,H1,n1⟩ rfl ⟨Vi _,hfr1,hn1,hm,λj h q=>absurd q (Wu _)⟩ ?_
 rintro⟨j,H2,n2⟩ ⟨hj,hfr2,hn2,hm2,hal⟩
 simp only at hj hfr2 hn2 hm2 hal
 by_cases hlj:j<d.clus.length
 ·have hg:=V5 hlj
  have e:=AJ (k:=j) (by omega)
  have y1:∀q,(n2+q=n)=False:=λq=>Ve (by omega)
  have y2:∀q,(n=n2+q)=False:=λq=>Ve (by omega)
  have hq:=hct.2 (j:Int)
  rw[SH]at hq
  have hbad:¬(HN d.ruls j=1/\F4 d.clus[j]=true)->CJ d=false:=λq=>by
   unfold CJ
   rw[hall,hok]
   cases q1:((List.range d.clus.length).all λi=>decide (HN d.ruls i=1))with
   |false=>rfl
   |true=>
   cases q2:d.clus.all F4 with
   |false=>rfl
   |true=>exact absurd ⟨VX (Vj.1 q1 j (Wf.2 hlj)),Vj.1 q2 _ (Vm hlj)⟩ q
  have hnext:HN d.ruls j=1/\F4 d.clus[j]=true->∀q (h:q<d.clus.length),q<j+1->HN d.ruls q=1/\F4 d.clus[q]=true:=λz q h hq=>by
   by_cases w:q=j
   ·subst w;exact z
   ·exact hal q h (by omega)
  generalize hx:d.clus[j]=x at hg hbad hnext
  by_cases hmc:HN d.ruls j=1
  ·have hmb:(((HN d.ruls j:Nat):Int)=1)=True:=V3 (by omega)
   cases hc:F4 x with
   |false=>
    rw[hbad (by rw[hc];simp)]
    simp only[eE,eC,eN,Nat.reduceEqDiff,↓reduceIte,Nat.reduceAdd,V8,Vf,xE,V1,V2,V4,V0,V6,lt_T hlj,hg,TN,s1,J6,G2,hc,fr1 hfr2,y1,AI,hm2,hct.1,KT.is,Bz,hq,hmb]
   |true=>
    simp only[eE,eC,eN,Nat.reduceEqDiff,↓reduceIte,Nat.reduceAdd,Int.reduceEq,V8,xE,V1,V2,V4,V0,V6,lt_T hlj,hg,TN,s1,J6,G2,hc,fr1 hfr2,y1,AI,hm2,hct.1,KT.is,Bz,hq,e,hmb]
    refine .mk ⟨j+1,hset H2 (n2+3) (.box (Bo x).cells),n2+6⟩ rfl ⟨hlj,hfr2.hset (m:=n2+6) (by omega) (by omega),by simp only[];omega,?_,hnext ⟨hmc,hc⟩⟩ (by simp only[];omega)
    simp only[]
    rw[AA _ _ _ _ (by omega)];exact hm2
  ·have hmb:(((HN d.ruls j:Nat):Int)=1)=False:=Ve (by omega)
   rw[hbad (λq=>hmc q.1)]
   simp only[eE,eC,eN,reduceCtorEq,Nat.reduceEqDiff,↓reduceIte,Nat.reduceAdd,V8,Vf,xE,V1,V2,V4,V0,V6,lt_T hlj,hg,TN,s1,J6,G2,fr1 hfr2,y1,AI,hm2,hct.1,KT.is,Bz,hq,hmb]
 obtain rfl:j=d.clus.length:=by omega
 have hR:CJ d=true:=by
  have z2:d.clus.all F4=true:=Vj.2 λq hq=>by
   obtain⟨m,hm,rfl⟩:=Vt.1 hq
   exact(hal m hm hm).2
  unfold CJ
  rw[hall,hok,Vj.2 λq hq=>W1 (hal q (Wf.1 hq) (Wf.1 hq)).1,z2]
  rfl
 rw[hR]
 simp only[eE,eC,eN,Nat.reduceEqDiff,↓reduceIte,lt_F hlj]
end Go.AM
namespace Go.AM
open Go.Proofs Go.Lib
abbrev clV(q:Nat):AVal:=.fn (.func 278) [] [.ptr q 0]
abbrev eApp(q c:Nat):List (Nat×Bool×AVal):=[(2,true,.ptr c 0),(4,true,.sl .nil []),(6,true,clV q)]
structure AppF(q c L l':Nat)(H0:AB)(n0:Nat)(qs:List Int)(H:AB)(m:Nat):Prop where
 fr:AN H m
 lc:n0<=c
 cl:c<L
 lm:L<m
 hc:∃lv,hget H c=some (.box [lv])/\LvG eI 1 (L+1) H lv qs
 hL:hget H L=some (.lp ⟨l',.ready,none,13,eApp q c, #[7],Du,Dv⟩)
 kp:∀id ob,id<n0->hget H0 id=some ob->hget H id=some ob
theorem y_app{q c L l':Nat}{H0:AB}{n0:Nat}{qs:List Int}{H:AB}{m:Nat}(F:AppF q c L l' H0 n0 qs H m)(x:Int)(hs:qs.length<1000000000){R:Bool->AB->Nat->Prop}
  (hR:∀H' m',AppF q c L l' H0 n0 (qs++[x]) H' m'->R true H' m'):BL Tryz.prog l' [eI x] H m R:=by
 obtain⟨fr,lc,cl,lm,⟨lv,hc,hlv⟩,hL,kp⟩:=F
 refine S5 hL rfl (AE AH.tnil (AF ?_))
 simp only[eE,eN,Nat.reduceEqDiff,↓reduceIte,It,renv,X0,X4,Wo,Xh]
 refine⟨_,hL,rfl,AE AH.tnil (AF ?_)⟩
 have y1:∀k,(L=m+k)=False:=λk=>Ve (by omega)
 have y2:(L=c)=False:=Ve (by omega)
 have y3:(c=L)=False:=Ve (by omega)
 simp only[eE,reduceCtorEq,Nat.reduceEqDiff,↓reduceIte,Nat.reduceLeDiff,Nat.reduceMul,Nat.reduceLT,Is,hc,y2]
 have g1:∀k,hget (hset H L (.lp ⟨l',.busy,none,13,eApp q c, #[7],Du,Dv⟩)) (m+k)=none:=λk=>by rw[AA _ _ _ _ (by omega)];exact fr1 fr k
 refine LL (enc:=eI) (lo:=L+1) (qs:=qs) (z0:=0) ?_ rfl (by decide) rfl rfl (AX (by omega) (by decide)) (g1 3) (by omega) (by omega) ?_
 ·rcases hlv with h|⟨hne,id,rest,h1,h2,h3⟩
  ·exact .inl h
  ·exact .inr ⟨hne,id,rest,h1,h2,by rw[AA _ _ _ _ (by omega)];exact h3⟩
 intro id rest hlo hid
 have hidm:id<m+5:=by
  rcases hid with rfl|⟨Z,h⟩
  ·omega
  ·apply Classical.byContradiction
   intro z
   obtain⟨k,rfl⟩:∃k,id=m+k:=⟨id-m,by omega⟩
   rw[g1]at h;cases h
 have z1:(id=L)=False:=Ve (by omega)
 have z2:(id=c)=False:=Ve (by omega)
 have z3:(L=id)=False:=Ve (by omega)
 have z4:(c=id)=False:=Ve (by omega)
 have hidn:¬id<n0:=by omega
 simp only[eE,eN,Nat.reduceEqDiff,↓reduceIte,Ds,z2,y2,hc]
 refine⟨⟨l',.busy,none,13,eApp q c, #[7],Du,Dv⟩,by simp only[AD,y3,z1,Vw,Wj],hR _ _ ⟨?_,lc,cl,by simp only[];omega,⟨_,by simp only[AD,y2,Vw,Wj],.inr ⟨by simp,id,rest,rfl,hlo,by simp only[AD,z3,z4,Vw,Wj]⟩⟩,by simp only[AD,Wj],?_⟩⟩
 ·intro j hj
  have hj':m+5<=j:=hj
  simp only[AD];repeat rw[Vc (by omega)]
  exact fr j (by omega)
 ·intro j ob hj h0
  simp only[AD];repeat rw[Vc (by omega)]
  exact kp j ob hj h0
theorem Qk{H:AB}{n q:Nat}{l:List Int}(hf:AN H n)(hq:hget H q=some (.box [eIs l]))(hl:few l):
  AK Tryz.prog 303 [.sl .nil [],clV q] H n λo H' n'=>∃lv,o= .ret lv/\LvG eI 1 (n+3) H' lv l/\AN H' n'/\n<=n'/\∀id ob,id<n->hget H id=some ob->hget H' id=some ob:=by
 have hll:l.length<1000000000:=hl
 have hqn:=hf.lt hq
 refine a303 (AE AH.tnil (AF ?_))
 simp only[eE,eN,reduceCtorEq,Nat.reduceEqDiff,↓reduceIte,Nat.reduceAdd,c303,fr0 hf,Eb]
 intro l'
 generalize hH1:hset (hset H n (.box [.sl .nil []])) (n+2) _=H1
 have hq1:hget H1 q=some (.box [eIs l]):=by
  subst hH1
  simp only[AD];repeat rw[Vc (by omega)]
  exact hq
 have F0:AppF q n (n+2) l' H n [] H1 (n+3):=by
  subst hH1
  refine⟨λj hj=>?_,Va _,by omega,by omega,⟨.sl .nil [],?_,.inl ⟨rfl,rfl⟩⟩,AC ..,λj ob hj h0=>?_⟩
  ·simp only[AD];repeat rw[Vc (by omega)]
   exact hf j (by omega)
  ·simp only[AD];rw[Vc (by omega),Vk trivial]
  ·simp only[AD];repeat rw[Vc (by omega)]
   exact h0
 clear hH1
 refine a278 (AE AH.tnil (AF ?_))
 simp only[eE,eN,reduceCtorEq,Nat.reduceEqDiff,↓reduceIte,Nat.reduceAdd,V0,c278,hq1]
 refine AU (λv:VF=>⟨[(0,true,.fn (.yield l') [] []),(5,true,eIs l),(6,true,.int .i64 l.length),(7,true,.int .i64 v.i)],v.H,v.n⟩) (λv=>v.i<=l.length/\n+3<=v.n/\AppF q n (n+2) l' H n (l.take v.i) v.H v.n) (λv=>l.length-v.i)
  ⟨0,H1,n+3⟩ rfl ⟨Vi _,Va _,F0⟩ ?_
 rintro⟨i,H2,m⟩ ⟨hi,hm,F⟩
 simp only at hi hm F
 by_cases hlt:i<l.length
 ·have hg:=V5 hlt
  have e:=AJ (k:=i) (by omega)
  have htk:l.take (i+1)=l.take i++[l[i]]:=by rw[W2,V5 hlt];rfl
  generalize l[i]=x at hg htk
  simp only[eE,eC,eN,reduceCtorEq,Nat.reduceEqDiff,↓reduceIte,V1,V2,V4,V0,V6,lt_T hlt,hg]
  refine y_app F x (by rw[Vu];omega) λH' m' F'=>?_
  simp only[eE,eC,eN,reduceCtorEq,Nat.reduceEqDiff,↓reduceIte,Int.reduceEq,V8,yldK,e]
  exact .mk ⟨i+1,H',m'⟩ rfl ⟨hlt,by have:=F'.lm;simp only[];omega,by simp only[];rw[htk];exact F'⟩ (by simp only[];omega)
 obtain rfl:i=l.length:=by omega
 rw[VT]at F
 obtain⟨fr,lc,cl,lm,⟨lv,hc,hlv⟩,hL,kp⟩:=F
 have y1:(n+2=n)=False:=Ve (by omega)
 simp only[eE,eC,eN,reduceCtorEq,Nat.reduceEqDiff,↓reduceIte,lt_F hlt,Ea,hL,hc,y1]
 refine⟨lv,rfl,?_,fr.hset (Va m) (show n+2<m by omega),by omega,λid ob hid h0=>by rw[Vc (by omega)];exact kp id ob hid h0⟩
 rcases hlv with h|⟨hne,id,rest,h1,h2,h3⟩
 ·exact .inl h
 ·exact .inr ⟨hne,id,rest,h1,h2,by rw[AA _ _ _ _ (by omega)];exact h3⟩
theorem t_coll{H:AB}{n q:Nat}{l:List Int}(hf:AN H n)(hq:hget H q=some (.box [eIs l]))(hl:few l):
  AK Tryz.prog 277 [clV q] H n λo H' n'=>∃lv,o= .ret lv/\LvG eI 1 (n+3) H' lv l/\AN H' n'/\n<=n'/\∀id ob,id<n->hget H id=some ob->hget H' id=some ob:=by
 refine a277 (AE AH.tnil (AF ?_))
 simp only[eE,eN,reduceCtorEq,↓reduceIte,c277]
 refine(Qk hf hq hl).mono ?_
 rintro o H' n' ⟨lv,rfl,h1,h2,h3,h4⟩
 simp only[eE,eN,↓reduceIte,retK]
 exact⟨lv,rfl,h1,h2,h3,h4⟩
theorem KM{H:AB}{n:Nat}:AK Tryz.prog 221 [.sl .nil []] H n λo H' n'=>o= .ret (.tup [])/\H'=H/\n'=n:=by
 refine⟨lSort,λg w vs hR hv=>?_⟩
 obtain⟨v,r,rfl,k1,k2⟩:=hv
 have k2':r=[]:=k2
 subst k2'
 have hv:∃p cap,v= .slice p 0 cap:=by
  rcases k1 with⟨-,rfl,-⟩|⟨-,b,o,cap,⟨sp,rfl,hsp⟩,hc,hst,-⟩
  ·exact⟨_,_,rfl⟩
  ·exact⟨_,_,rfl⟩
 obtain⟨p,cap,rfl⟩:=hv
 refine(Tryz.slices_Sort_int_none p cap w).mono ?_
 rintro e w' ⟨rfl,rfl⟩
 exact⟨g,.ret (.tup []),H,n,⟨rfl,rfl,rfl⟩,⟨_,rfl,rfl⟩,hR,Va _,Trans.refl _ _ _ _⟩
def SrA(ob:List AVal->AObj)(H:AB)(l:List Int):AOut->AB->Nat->Prop:=λo H' n'=>
 BV H H'/\((l=[]/\o= .ret (.sl .nil []))\/l≠[]/\∃id rest,o= .ret (.ref id 1 0 l.length (l.length+rest.length))/\hget H id=none/\hget H' id=some (ob ((l.mergeSort leI++rest).map eI)))
theorem Ca(l:List Int):(l.mergeSort leI).length=l.length:=List.length_mergeSort ..
theorem t_srtd{H:AB}{n q:Nat}{l:List Int}(hf:AN H n)(hq:hget H q=some (.box [eIs l]))(hl:few l):
  AK Tryz.prog 242 [clV q] H n (QRet H (eIs (l.mergeSort leI))):=by
 have hll:l.length<1000000000:=hl
 refine AK.out (AK.seal (R:=SrA (.arr 1) H l) (R':=SrA (.frz 1) H l) (a242 (AE AH.tnil (AF ?_))) ?_) ?_
 ·simp only[eE,eN,reduceCtorEq,↓reduceIte,c242]
  refine(t_coll hf hq hl).mono ?_
  rintro o H1 n1 ⟨lv,rfl,hlv,hf1,hn1,hk⟩
  simp only[eE,eN,↓reduceIte,retK]
  have hK:BV H H1:=λid ob h0=>hk id ob (hf.lt h0) h0
  rcases hlv with⟨rfl,rfl⟩|⟨hne,id,rest,rfl,h2,h3⟩
  ·refine KM.mono ?_
   rintro o H2 n2 ⟨rfl,rfl,rfl⟩
   simp only[eE,eN,Nat.reduceEqDiff,↓reduceIte,retK]
   exact⟨hK,.inl ⟨rfl,rfl⟩⟩
  ·refine(MT h3 (by simp) hll).mono ?_
   rintro o H2 n2 ⟨rfl,rfl,rfl⟩
   rw[Xu,List.drop_left]
   simp only[eE,eN,Nat.reduceEqDiff,↓reduceIte,retK]
   refine⟨λi ob h0=>?_,.inr ⟨hne,id,rest,rfl,hf _ (by omega),AC ..⟩⟩
   rw[AA _ _ _ _ (λe=>by subst e;rw[hf _ (by omega)]at h0;cases h0)];exact hK i ob h0
 ·rintro o H' n' ⟨hK,h⟩
  rcases h with h|⟨hne,id,rest,h1,h2,h3⟩
  ·exact .inl ⟨hK,.inl h⟩
  ·refine .inr ⟨id,1,_,h3,λi ob h0=>?_,.inr ⟨hne,id,rest,h1,h2,AC ..⟩⟩
   rw[AA _ _ _ _ (λe=>by subst e;rw[h2]at h0;cases h0)];exact hK i ob h0
 ·rintro o H' n' ⟨hK,h⟩
  refine⟨.ret (eIs (l.mergeSort leI)),⟨⟨_,rfl,Wk.refl _⟩,hK⟩,λg w e hR he=>?_⟩
  have hL:∃lv,o= .ret lv/\LF 1 lv H' ((l.mergeSort leI).map eI):=by
   rcases h with⟨rfl,rfl⟩|⟨hz,id,rest,rfl,h2,h3⟩
   ·exact⟨_,rfl,.inl ⟨by simp,_,rfl,.inl rfl⟩⟩
   ·refine⟨_,rfl,?_⟩
    have hl2:=Ca l
    refine .inr ⟨λq=>hz (by rw[List.map_eq_nil_iff]at q;rw[q]at hl2;exact WQ.1 hl2.symm),id,l.length+rest.length,rest.map eI,by rw[V0,hl2],by rw[h3,Vl],by simp [hl2]⟩
  obtain⟨lv,rfl,hL⟩:=hL
  cases e with
  |returned v=>exact H9 hL hR he
  |panicked c=>exact he.elim
  |outgrown=>exact he.elim
theorem t_vals{H:AB}{n:Nat}{l:List Int}(hf:AN H n):AK Tryz.prog 243 [eIs l] H n λo H' n'=>o= .ret (clV n)/\H'=hset H n (.box [eIs l])/\n'=n+2:=by
 refine a243 (AE AH.tnil (AF ?_))
 simp only[eE,eN,Nat.reduceEqDiff,↓reduceIte,c243,fr0 hf]
end Go.AM
namespace Go.AM
open Go.Proofs Go.Lib
abbrev srt(l:List Int):List Int:=l.mergeSort leI
def IH(ls:List (List Int))(j:Nat)(x:List Int):Bool:=((ls.take j).map srt).contains (srt x)
theorem Ql{ls:List (List Int)}(hn:∀l∈ls,l.Nodup){j:Nat}(hj:j<ls.length)(h:IH ls j ls[j]=true):Bn ls=true:=by
 unfold IH at h
 rw[Wp,VZ]at h
 obtain⟨y,hy,e⟩:=h
 obtain⟨b,hb,rfl⟩:=Vt.1 hy
 rw[Vu]at hb
 rw[List.getElem_take]at e
 refine I1.2 ⟨j,b,hj,by omega,by omega,?_⟩
 rw[Hy (hn _ (Vm _)) (hn _ (Vm _)),Vd]
 exact e.symm
theorem N2{ls:List (List Int)}(hn:∀l∈ls,l.Nodup)(h:∀j (hj:j<ls.length),IH ls j ls[j]=false):Bn ls=false:=by
 cases q:Bn ls with
 |false=>rfl
 |true=>
  obtain⟨a,b,ha,hb,hab,h2⟩:=I1.1 q
  rw[Hy (hn _ (Vm _)) (hn _ (Vm _)),Vd]at h2
  have:=h a ha
  unfold IH at this
  rw[<-Bool.not_eq_true,Wp,VZ]at this
  exact absurd ⟨ls[b],Vt.2 ⟨b,by rw[Vu];omega,by rw[List.getElem_take]⟩,h2.symm⟩ this
def Qm(o:Option AObj):Prop:=∃x:List Int,few x/\o=some (.box [eIs x])
def LW:Option AObj->List Int
 |some (.box [.sl _ L])=>L.map toI
 |_=>[]
theorem EX{x:List Int}(h:few x):Qm (some (.box [eIs x]))=True:=V3 ⟨x,h,rfl⟩
theorem Cl(x:List Int):LW (some (.box [eIs x]))=x:=Ak x
def sSr:List AVal->AB->Prop×AVal:=λa H=>match a with
 |[.fn (.func f) [] [.ptr q 0]]=>(f=278/\Qm (hget H q),eIs (srt (LW (hget H q))))
 |_=>(False,.tup [])
theorem qSr:∀args H n,(sSr args H).1->Ab Tryz.prog 242 args H n (sSr args H).2:=by
 intro args H n hh
 unfold sSr at hh⊢
 split at hh
 ·rename_i f q
  obtain⟨rfl,x,hx,h0⟩:=hh
  simp only[h0,Cl]
  exact Ab.of l242 (AZ n _) λhf=>t_srtd hf h0 hx
 ·exact hh.elim
def sR1:List AVal->AB->Prop×AVal:=λa H=>match a with
 |[y,.ptr q 0]=>(dIs.ok y/\wide (dIs.dec y)/\Qm (hget H q),.bool (decide (LW (hget H q)=dIs.dec y)))
 |_=>(False,.tup [])
def Teq:Tab:=tadd 103 (s2 dIs dIs (λ_ b=>wide b) (λa b=>.bool (decide (a=b)))) tnil
theorem Teq_ok:AH Tryz.prog Teq:=AH.tnil.add (q2 p103)
theorem Teq_e(a:List AVal)(H:AB):Teq 103 a H=s2 dIs dIs (λ_ b=>wide b) (λa b=>.bool (decide (a=b))) a H:=rfl
theorem qR1:∀args H n,(sR1 args H).1->Ab Tryz.prog 245 args H n (sR1 args H).2:=by
 intro args H n hh
 unfold sR1 at hh⊢
 split at hh
 ·rename_i y q
  obtain⟨h1,h2,x,hx,h0⟩:=hh
  simp only[h0,Cl]
  refine Ab.of l245 trivial λhf=>a245 (AE Teq_ok (AF ?_))
  simp only[eE,eN,reduceCtorEq,Nat.reduceEqDiff,↓reduceIte,Nat.reduceAdd,c245,h0,Teq_e,s2,BD,Au,V3 h1,V3 h2]
  exact λ_ _ h=>h
 ·exact hh.elim
abbrev clR(q:Nat):AVal:=.fn (.func 245) [] [.ptr q 0]
def Tr1:Tab:=tadd 245 sR1 tnil
theorem Tr1_ok:AH Tryz.prog Tr1:=AH.tnil.add qR1
theorem Tr1_e(a:List AVal)(H:AB):Tr1 245 a H=sR1 a H:=rfl
def idxL(met:List (List Int))(x:List Int):Int:=match met.findIdx? (λy=>decide (x=y))with
 |some k=>(k:Int)
 |none=>-1
theorem q_ifLi{H:AB}{n q:Nat}{met:List (List Int)}{x:List Int}(hm:Bp met)(hx:few x)(h0:hget H q=some (.box [eIs x])):Ab Tryz.prog 279 [eLl met,clR q] H n (.int .i64 (idxL met x)):=by
 refine Ab.of l279 trivial λhf=>a279 (AE Tr1_ok (AF ?_))
 have hml:met.length<1000000000:=hm.1
 simp only[eE,eN,reduceCtorEq,Nat.reduceEqDiff,↓reduceIte,Nat.reduceAdd,V0,c279]
 refine AU (λi:Nat=>⟨[(0,true,eLl met),(1,true,clR q),(7,true,.int .i64 met.length),(8,true,.int .i64 i)],H,n⟩) (λi=>i<=met.length/\∀j (h:j<met.length),j<i->¬x=met[j]) (λi=>met.length-i)
  0 rfl ⟨Vi _,λj _ h=>absurd h (Wu _)⟩ ?_
 rintro i ⟨hi,hb⟩
 by_cases hlt:i<met.length
 ·have hg:=V5 hlt
  have e:=AJ (k:=i) (by omega)
  have hyf:=hm.2 _ (Vm hlt)
  generalize hy:met[i]=y at hg hyf
  by_cases hxy:x=y
  ·have hR:idxL met x=i:=by
    unfold idxL
    rw[Wt.2 ⟨hlt,by simpa [hy]using hxy,λj hj=>by simpa using hb j (by omega) hj⟩]
   rw[hR]
   simp only[eE,eC,eN,reduceCtorEq,Nat.reduceEqDiff,↓reduceIte,V1,V2,V4,V0,V6,lt_T hlt,hg,Tr1_e,sR1,h0,EX hx,Cl,BD,Au,V3 hyf,CV hxy]
   exact λ_ _ h=>h
  ·simp only[eE,eC,eN,reduceCtorEq,Nat.reduceEqDiff,↓reduceIte,Int.reduceEq,V1,V2,V4,V0,V6,lt_T hlt,hg,e,Tr1_e,sR1,h0,EX hx,Cl,BD,Au,V3 hyf,Bv hxy]
   refine .mk (i+1) rfl ⟨hlt,λj hj h=>?_⟩ (by omega)
   by_cases z:j=i
   ·subst z;rw[hy];exact hxy
   ·exact hb j hj (by omega)
 obtain rfl:i=met.length:=by omega
 have hR:idxL met x= -1:=by
  unfold idxL
  rw[Xb.2 λy hy=>by
   obtain⟨j,hj,rfl⟩:=Vt.1 hy
   simpa using hb j hj hj]
 rw[hR]
 simp only[eE,eC,eN,reduceCtorEq,Nat.reduceEqDiff,↓reduceIte,lt_F hlt]
 exact λ_ _ h=>h
theorem idx_in(met:List (List Int))(x:List Int):decide (0<=idxL met x)=met.contains x:=by
 rw[VL,Vd,Wp]
 unfold idxL
 cases h:met.findIdx? (λy=>decide (x=y))with
 |none=>
  rw[Xb]at h
  constructor
  ·intro q;simp at q
  ·intro q;have:=h x q;simp at this
 |some k=>
  obtain⟨h1,h2,-⟩:=Wt.1 h
  constructor
  ·intro _
   have:=VX h2
   rw[this];exact Vm _
  ·intro _;simp
def sIf(f:List (List Int)->List Int->AVal):List AVal->AB->Prop×AVal:=λa H=>match a with
 |[y,.fn (.func g) [] [.ptr q 0]]=>(dLl.ok y/\Bp (dLl.dec y)/\g=245/\Qm (hget H q),f (dLl.dec y) (LW (hget H q)))
 |_=>(False,.tup [])
theorem q_sIf{f:List (List Int)->List Int->AVal}{fid:FuncId}(h:∀{H:AB} {n q:Nat} {met:List (List Int)} {x:List Int},Bp met->few x->hget H q=some (.box [eIs x])->Ab Tryz.prog fid [eLl met,clR q] H n (f met x)):∀args H n,(sIf f args H).1->Ab Tryz.prog fid args H n (sIf f args H).2:=by
 intro args H n hh
 unfold sIf at hh⊢
 split at hh
 ·rename_i y g q
  obtain⟨h1,h2,rfl,x,hx,h0⟩:=hh
  simp only[h0,Cl]
  refine AK.args (h (n:=n) h2 hx h0) ?_
  rintro g vs ⟨v,r,rfl,k1,k2⟩
  exact⟨v,_,rfl,dLl.wk _ h1 _ _ k1,k2⟩
 ·exact hh.elim
abbrev fIf(met:List (List Int))(x:List Int):AVal:=.int .i64 (idxL met x)
abbrev fCf(met:List (List Int))(x:List Int):AVal:=.bool (met.contains x)
def Tr2:Tab:=tadd 279 (sIf fIf) tnil
theorem Tr2_ok:AH Tryz.prog Tr2:=AH.tnil.add (q_sIf λh1 h2 h3=>q_ifLi h1 h2 h3)
theorem Tr2_e(a:List AVal)(H:AB):Tr2 279 a H=sIf fIf a H:=rfl
theorem N4{t:Tok}{l:List (List Int)}(ht:t.esz=1\/l=[]):dLl.ok (.sl t (l.map eIs))=True:=G3 C9 ht
theorem LX{t:Tok}(l:List (List Int)):dLl.dec (.sl t (l.map eIs))=l:=En C9
theorem q_cfLi{H:AB}{n q:Nat}{met:List (List Int)}{x:List Int}(hm:Bp met)(hx:few x)(h0:hget H q=some (.box [eIs x])):Ab Tryz.prog 244 [eLl met,clR q] H n (fCf met x):=by
 refine Ab.of l244 trivial λhf=>a244 (AE Tr2_ok (AF ?_))
 simp only[eE,eN,reduceCtorEq,Nat.reduceEqDiff,↓reduceIte,Nat.reduceAdd,c244,Tr2_e,sIf,h0,EX hx,Cl,D4,Cj,V3 hm,idx_in]
 exact λ_ _ h=>h
def Trg:Tab:=tadd 150 (s2 dGd dLl (λg l=>Ad g.sh g.w g.h g.holes=some g.cells/\few g.holes/\Bp l) λg l=>rgsV g.cells l) (tadd 244 (sIf fCf) (tadd 242 sSr tnil))
theorem Trg_ok:AH Tryz.prog Trg:=((AH.tnil.add qSr).add (q_sIf λh1 h2 h3=>q_cfLi h1 h2 h3)).add (q2 λg l h=>p150 g l h.1 h.2.1 h.2.2)
theorem Trg_g(a:List AVal)(H:AB):Trg 150 a H=s2 dGd dLl (λg l=>Ad g.sh g.w g.h g.holes=some g.cells/\few g.holes/\Bp l) (λg l=>rgsV g.cells l) a H:=rfl
theorem Trg_c(a:List AVal)(H:AB):Trg 244 a H=sIf fCf a H:=rfl
theorem Trg_s(a:List AVal)(H:AB):Trg 242 a H=sSr a H:=rfl
structure VRm where
 j:Nat
 tk:Tok
 H:AB
 n:Nat
structure IRm(g:Grd)(r:DReg)(v:VRm):Prop where
 hj:v.j<=r.ls.length
 fr:AN v.H v.n
 hn:3<=v.n
 h1:hget v.H 1=some (.box (AG g.sh g.w g.h g.holes g.cells))
 tok:tkG 1 2 v.H v.tk
 es:v.tk.esz=1\/(r.ls.take v.j).map srt=[]
 no:∀k (hk:k<r.ls.length),k<v.j->IH r.ls k r.ls[k]=false
theorem p213(d:Dcl)(g:Grd)(hd:FewD d)(hG:Ad g.sh g.w g.h g.holes=some g.cells)(hh:few g.holes):Pur Tryz.prog 213 [encD d,DC g] (.int .i64 (DQ g.cells d.regs)):=by
 refine .mk ⟨A8 0 d,Bf 0 ..,trivial⟩ trivial (a213 (AE Trg_ok (AF ?_)))
 have hrl:d.regs.length<1000000000:=hd.rg
 simp only[eE,eN,reduceCtorEq,Nat.reduceEqDiff,↓reduceIte,Nat.reduceAdd,Nat.reduceLeDiff,V0,c213]
 refine AU (λv:VF=>⟨[(3,true,.ptr 1 0),(14,true,eRgs d.regs),(15,true,.int .i64 d.regs.length),(16,true,.int .i64 v.i)],v.H,v.n⟩) (λv=>v.i<=d.regs.length/\AN v.H v.n/\3<=v.n/\hget v.H 1=some (.box (AG g.sh g.w g.h g.holes g.cells))/\DQ g.cells d.regs=DQ g.cells (d.regs.drop v.i)) (λv=>d.regs.length-v.i)
  ⟨0,hset (hset hnil 0 (.box (AO d))) 1 (.box (AG g.sh g.w g.h g.holes g.cells)),3⟩ rfl ⟨Vi _,(AN.nil.hset (m:=3) (Vi 3) (show 0<3 by decide)).hset (Va 3) (show 1<3 by decide),Va _,rfl,rfl⟩ ?_
 rintro⟨i,H,n⟩ ⟨hi,hfr,hn,h1,heq⟩
 simp only at hi hfr hn h1 heq
 by_cases hlt:i<d.regs.length
 case neg=>
  obtain rfl:i=d.regs.length:=by omega
  rw[WG]at heq
  rw[heq]
  simp only[eE,eC,eN,Nat.reduceEqDiff,↓reduceIte,lt_F hlt]
  rfl
 have hg:=V5 hlt
 have e:=AJ (k:=i) (by omega)
 have hrf:J8 d.regs[i]:=hd.rgs _ (Vm hlt)
 rw[P8 _ _ _ hlt]at heq
 generalize d.regs[i]=r at hg hrf heq
 have y1:∀q,(n+q=1)=False:=λq=>Ve (by omega)
 have hc:=V3 (⟨hG,hh,hrf⟩:Ad g.sh g.w g.h g.holes=some g.cells/\few g.holes/\Bp r.ls)
 by_cases hb:(decide (r.ls.length<=64)&&r.ls.all (Dx g.cells))=true
 case neg=>
  have hv:rgsV g.cells r.ls= .tup [eLl [],.int .i64 130]:=Vc hb
  have hE:regE g.cells r=130:=Vk (by simpa using hb)
  rw[hE,Vc (by decide)]at heq
  rw[heq]
  simp only[eE,eC,eN,Nat.reduceEqDiff,↓reduceIte,Nat.reduceAdd,Nat.reduceLT,Int.reduceEq,Vf,V1,V2,V4,V0,V6,V9,Vb,lt_T hlt,hg,fr1 hfr,h1,y1,Trg_g,s2,QG,KA,D4,Cj,hc,hv]
 have hv:rgsV g.cells r.ls= .tup [eLl (r.ls.map (Bu g.cells)),.int .i64 0]:=Vk hb
 obtain⟨hb1,hb2⟩:=(V7 _ _).mp hb
 have hb1:=VX hb1
 have hnd:∀l∈r.ls,l.Nodup:=λl hl=>(Fj (Vj.1 hb2 l hl)).1
 have hregE:regE g.cells r=if Bn r.ls=true then 161 else 0:=by unfold regE;rw[hb,Vc (by decide)]
 simp only[eE,eC,eN,Nat.reduceEqDiff,↓reduceIte,Nat.reduceAdd,Nat.reduceLT,V8,V1,V2,V4,V0,V6,V9,Vb,lt_T hlt,hg,fr1 hfr,h1,y1,Trg_g,s2,QG,KA,D4,Cj,hc,hv,AI]
 refine AU (λv:VRm=>⟨[(3,true,.ptr 1 0),(9,true,.sl v.tk (((r.ls.take v.j).map srt).map eIs)),(14,true,eRgs d.regs),(15,true,.int .i64 d.regs.length),(16,true,.int .i64 i),(31,true,eLl r.ls),(32,true,.int .i64 r.ls.length),(33,true,.int .i64 v.j)],v.H,v.n⟩) (IRm g r) (λv=>r.ls.length-v.j)
  ⟨0,.nil,hset H (n+2) (.box [.str r.nm,eLl r.ls]),n+4⟩ rfl ⟨Vi _,hfr.hset (m:=n+4) (by omega) (by omega),by simp only[];omega,by simp only[];rw[AA _ _ _ _ (by omega)];exact h1,.inl rfl,.inr rfl,λk _ h=>absurd h (Wu _)⟩ ?_
 rintro⟨j,tk,H1,n1⟩ hI
 have hj:=hI.hj
 have hf1:=hI.fr
 have hn1:=hI.hn
 have h11:=hI.h1
 have htk:=hI.tok
 have hes:=hI.es
 have hno:=hI.no
 simp only at hj hf1 hn1 h11 htk hes hno
 by_cases hlj:j<r.ls.length
 ·have hgj:=V5 hlj
  have ej:=AJ (k:=j) (by omega)
  have hlf:few r.ls[j]:=by
   obtain⟨q1,-,q3⟩:=Fj (Vj.1 hb2 _ (Vm hlj))
   have h1:=LO q1 q3
   have h2:=(A7 hG).2.1
   show r.ls[j].length<_
   omega
  have hmt:=map_take (f:=srt) hlj
  have hhit:=λq=>Ql hnd hlj q
  have hnx:IH r.ls j r.ls[j]=false->∀k (hk:k<r.ls.length),k<j+1->IH r.ls k r.ls[k]=false:=λq k hk h=>by
   by_cases z:k=j
   ·subst z;exact q
   ·exact hno k hk (by omega)
  generalize r.ls[j]=l at hgj hlf hmt hhit hnx
  have hmf:Bp ((r.ls.take j).map srt):=⟨show((r.ls.take j).map srt).length<_ by rw[V0,Vu];omega,λx hx=>by
   obtain⟨y,hy,rfl⟩:=VZ.1 hx
   show(srt y).length<_
   rw[Ca];exact hrf.2 _ (Xw hy)⟩
  have hsf:few (srt l):=show(srt l).length<_ by rw[Ca];exact hlf
  have z1:∀q,(n1+q=1)=False:=λq=>Ve (by omega)
  have hmb:((r.ls.take j).map srt).contains (srt l)=IH r.ls j l:=rfl
  simp only[eE,eC,eN,Nat.reduceEqDiff,↓reduceIte,V1,V2,V4,V0,V6,lt_T hlj,hgj]
  refine(t_vals (n:=n1+5) λj hj=>hf1 j (by omega)).mono ?_
  rintro o H2 n2 ⟨rfl,rfl,rfl⟩
  cases hb3:IH r.ls j l with
  |true=>
   rw[hregE,hhit hb3,Vk rfl,Vc (by decide)]at heq
   rw[heq]
   simp only[eE,eC,eN,reduceCtorEq,Nat.reduceEqDiff,↓reduceIte,Nat.reduceAdd,retK,Trg_s,sSr,EX hlf,Cl,fr1 hf1,Trg_c,sIf,EX hsf,N4 hes,LX,V3 hmf,hmb,hb3,AI]
  |false=>
   have gt:tkG 1 2 (hset (hset H1 (n1+5) (.box [eIs l])) (n1+3) (.box [eIs (srt l)])) tk:=(htk.set (.inr (.inr (fr1 hf1 5)))).set (.inr (.inr (by rw[AA _ _ _ _ (by omega)];exact fr1 hf1 3)))
   have gf:AN (hset (hset H1 (n1+5) (.box [eIs l])) (n1+3) (.box [eIs (srt l)])) (n1+12):=(hf1.hset (m:=n1+12) (by omega) (by omega)).hset (m:=n1+12) (by omega) (by omega)
   have q1:Bg (hset (hset H1 (n1+5) (.box [eIs l])) (n1+3) (.box [eIs (srt l)])) 1 tk=True:=V3 gt.app
   have q2:((r.ls.take j).length<=35184372088831)=True:=V3 (by rw[Vu];omega)
   have q3:Al ((r.ls.take j).length+1) 24=True:=V3 (AX (by rw[Vu];omega) (by decide))
   simp only[eE,eC,eN,reduceCtorEq,Nat.reduceEqDiff,↓reduceIte,Nat.reduceAdd,Nat.reduceLeDiff,Nat.reduceMul,Nat.reduceLT,Int.reduceEq,V0,retK,Trg_s,sSr,EX hlf,Cl,fr1 hf1,Trg_c,sIf,EX hsf,N4 hes,LX,V3 hmf,hmb,hb3,AI,q2,q3,q1,ej]
   refine .mk ⟨j+1,.own (n1+10) 1,hset (AV (hset (hset H1 (n1+5) (.box [eIs l])) (n1+3) (.box [eIs (srt l)])) tk) (n1+10) .tok,n1+12⟩ ?_ ⟨hlj,(Ag gt gf).hset (Va _) (show n1+10<n1+12 by omega),by simp only[];omega,?_,.inr (.inr ⟨n1+10,rfl,by omega,AC ..⟩),.inl rfl,hnx hb3⟩ (by simp only[];omega)
   ·simp only[hmt,Vl];rfl
   ·simp only[]
    rw[AA _ _ _ _ (by omega),Af gt (.inl (by omega)),AA _ _ _ _ (by omega),AA _ _ _ _ (by omega)]
    exact h11
 obtain rfl:j=r.ls.length:=by omega
 rw[hregE,N2 hnd λj hj=>hno j hj hj]at heq
 simp only[eE,eC,eN,Nat.reduceEqDiff,↓reduceIte,Int.reduceEq,lt_F hlj,e]
 exact .mk ⟨i+1,H1,n1⟩ rfl ⟨hlt,hf1,hn1,h11,heq⟩ (by simp only[];omega)
end Go.AM
namespace Go.AM
open Go.Proofs Go.Lib
def whn(b:Bool)(e:Int):Int:=if b=true then 0 else e
def Mo(d:Dcl):Int:=whn (limD d) 2
def KN(d:Dcl):Int:=match resD d with
 | .error e=>e
 | .ok x=>whn (decide (x=d)) 170
def Mp(d:Dcl):Int:=whn (decide (1<=d.ver)&&decide (d.ver<=255)) 170
def Mq(d:Dcl):Int:=match Ad d.sh d.w d.h d.holes with
 |some _=>0
 |none=>130
def Mr(d:Dcl):Int:=whn (CJ d) 170
def N5(d:Dcl):Int:=whn (decide (BX d.ruls=[])) 171
theorem FD{d:Dcl}{e:Int}(h:resD d= .error e):e≠0:=by
 unfold resD at h
 rintro rfl
 repeat' split at h
 all_goals simp at h
def dB:Dc Bool:=⟨.bool,toB,λv=>match v with| .bool _=>True|_=>False,λv h=>by
 cases v<;>first|exact Wk.refl _|exact h.elim⟩
theorem N6(b:Bool):dB.ok (.bool b)=True:=rfl
theorem JB(b:Bool):dB.dec (.bool b)=b:=rfl
def Tst:Tab:=tadd 208 (s2 dB dI any2 λb e=>.int .i64 (whn b e)) (tadd 145 (s1 dD FewD EW) (tadd 104 (s2 dD dD (λ_ b=>FewD b) λa b=>.bool (decide (a=b))) (tadd 215 (s1 dD FewD λd=>.bool (CJ d)) (tadd 217 (s1 dD FewD λd=>eIs (BX d.ruls)) (tadd 213 (s2 dD dGd (λd g=>FewD d/\Ad g.sh g.w g.h g.holes=some g.cells/\few g.holes) λd g=>.int .i64 (DQ g.cells d.regs)) tnil)))))
theorem HP:AH Tryz.prog Tst:=(((((AH.tnil.add (q2 λd g h=>p213 d g h.1 h.2.1 h.2.2)).add (q1 λd h=>p217 d h.ru)).add (q1 λd h=>p215 d h)).add (q2 λa b h=>p104 a b h)).add (q1 λd h=>p145 d h)).add (q2 λb e _=>p208 b e)
theorem N7(a:List AVal)(H:AB):Tst 208 a H=s2 dB dI any2 (λb e=>.int .i64 (whn b e)) a H:=rfl
theorem Tst_n(a:List AVal)(H:AB):Tst 145 a H=s1 dD FewD EW a H:=rfl
theorem Tst_s(a:List AVal)(H:AB):Tst 104 a H=s2 dD dD (λ_ b=>FewD b) (λa b=>.bool (decide (a=b))) a H:=rfl
theorem Tst_f(a:List AVal)(H:AB):Tst 215 a H=s1 dD FewD (λd=>.bool (CJ d)) a H:=rfl
theorem Tst_u(a:List AVal)(H:AB):Tst 217 a H=s1 dD FewD (λd=>eIs (BX d.ruls)) a H:=rfl
theorem Tst_r(a:List AVal)(H:AB):Tst 213 a H=s2 dD dGd (λd g=>FewD d/\Ad g.sh g.w g.h g.holes=some g.cells/\few g.holes) (λd g=>.int .i64 (DQ g.cells d.regs)) a H:=rfl
theorem Sd{H:AB}{n i:Nat}(hf:AN H n)(hi:n<=i)(a b:AObj):BV H (hset (hset H i a) i b):=λid ob h=>by
 have:=hf.lt h
 rw[AA _ _ _ _ (by omega),AA _ _ _ _ (by omega)];exact h
theorem Qn(d:Dcl):(decide ((0:Int)<d.syms.length)&&decide ((d.syms.length:Int)<=16)&&decide ((d.regs.length:Int)<=4)&&decide ((d.clus.length:Int)<=4)&&decide ((d.ruls.length:Int)<=16))=limD d:=by
 rw[VL];simp [limD];omega
theorem TO(l:List Int):decide ((l.length:Int)=0)=decide (l=[]):=by
 cases l<;>simp;omega
variable {d:Dcl} {H:AB} {n q:Nat}
theorem u1(hd:FewD d)(h0:hget H q=some (.box (AO d))):Ab Tryz.prog 207 [.ptr q 0] H n (.int .i64 (Mo d)):=by
 refine Ab.of l207 trivial λhf=>a207 (AE HP (AF ?_))
 simp only[eE,eC,eN,reduceCtorEq,Nat.reduceEqDiff,↓reduceIte,Nat.reduceAdd,Nat.reduceLeDiff,V0,c207,h0,N7,s2,N6,JB,CU,BI,Qn]
 exact⟨rfl,λ_ _ h=>h⟩
theorem u2(hd:FewD d)(h0:hget H q=some (.box (AO d))):Ab Tryz.prog 209 [.ptr q 0] H n (.int .i64 (KN d)):=by
 refine Ab.of l209 trivial λhf=>a209 (AE HP (AF ?_))
 have hq:=hf.lt h0
 have y1:∀k,(n+k=q)=False:=λk=>Ve (by omega)
 unfold KN
 cases hr:resD d with
 |error e=>
  have hv:EW d= .tup [encD dcl0,.int .i64 e]:=by unfold EW;rw[hr]
  have he:(e=0)=False:=Ve (FD hr)
  simp only[eE,eC,eN,reduceCtorEq,Nat.reduceEqDiff,↓reduceIte,Nat.reduceAdd,Nat.reduceLT,Vf,V1,V9,Vb,c209,h0,Tst_n,s1,FO,DA,V3 hd,hv,fr1 hf,he]
  exact Sd hf (by omega) _ _
 |ok x=>
  have hv:EW d= .tup [encD x,.int .i64 0]:=by unfold EW;rw[hr]
  simp only[eE,eC,eN,reduceCtorEq,Nat.reduceEqDiff,↓reduceIte,Nat.reduceAdd,Nat.reduceLT,V8,V1,V9,Vb,c209,h0,Tst_n,Tst_s,N7,s1,s2,FO,DA,V3 hd,hv,fr1 hf,y1,N6,JB,CU,BI]
  exact Sd hf (by omega) _ _
theorem u3(h0:hget H q=some (.box (AO d))):Ab Tryz.prog 210 [.ptr q 0] H n (.int .i64 (Mp d)):=by
 refine Ab.of l210 trivial λhf=>a210 (AE HP (AF ?_))
 simp only[eE,eC,eN,reduceCtorEq,Nat.reduceEqDiff,↓reduceIte,Nat.reduceAdd,Nat.reduceLeDiff,c210,h0,N7,s2,N6,JB,CU,BI]
 exact⟨rfl,λ_ _ h=>h⟩
theorem u6(hd:FewD d)(h0:hget H q=some (.box (AO d))):Ab Tryz.prog 214 [.ptr q 0] H n (.int .i64 (Mr d)):=by
 refine Ab.of l214 trivial λhf=>a214 (AE HP (AF ?_))
 simp only[eE,eN,reduceCtorEq,↓reduceIte,Nat.reduceAdd,c214,h0,N7,Tst_f,s1,s2,N6,JB,CU,BI,FO,DA,V3 hd]
 exact⟨rfl,λ_ _ h=>h⟩
theorem u7(hd:FewD d)(h0:hget H q=some (.box (AO d))):Ab Tryz.prog 216 [.ptr q 0] H n (.int .i64 (N5 d)):=by
 refine Ab.of l216 trivial λhf=>a216 (AE HP (AF ?_))
 simp only[eE,eN,reduceCtorEq,↓reduceIte,Nat.reduceAdd,V0,c216,h0,N7,Tst_u,s1,s2,N6,JB,CU,BI,FO,DA,V3 hd,TO]
 exact⟨rfl,λ_ _ h=>h⟩
theorem u5{g:Grd}{q':Nat}(hd:FewD d)(hG:Ad g.sh g.w g.h g.holes=some g.cells)(hh:few g.holes)(h0:hget H q=some (.box (AO d)))(h1:hget H q'=some (.box (AG g.sh g.w g.h g.holes g.cells))):Ab Tryz.prog 212 [.ptr q 0,.ptr q' 0] H n (.int .i64 (DQ g.cells d.regs)):=by
 refine Ab.of l212 trivial λhf=>a212 (AE HP (AF ?_))
 simp only[eE,eN,reduceCtorEq,Nat.reduceEqDiff,↓reduceIte,Nat.reduceAdd,c212,h0,h1,Tst_r,s2,QG,KA,FO,DA,V3 hd,hG,V3 hh]
 exact λ_ _ h=>h
abbrev gr0:List AVal:=[.int .i64 0,.int .i64 0,.int .i64 0,.sl .nil [],.sl .nil []]
def Tmc:Tab:=tadd 147 (λa H=>match a with
 |[.int .i64 sh,.int .i64 w,.int .i64 h,x]=>(dIs.ok x/\few (dIs.dec x),B7 sh w h (dIs.dec x))
 |_=>(False,.tup [])) tnil
theorem Tmc_ok:AH Tryz.prog Tmc:=AH.tnil.add TH
theorem Tmc_m(sh w h:Int)(x:AVal)(H:AB):Tmc 147 [.int .i64 sh,.int .i64 w,.int .i64 h,x] H=(dIs.ok x/\few (dIs.dec x),B7 sh w h (dIs.dec x)):=rfl
theorem u4{q':Nat}(hne:q≠q')(hh:few d.holes)(h0:hget H q=some (.box (AO d)))(h1:hget H q'=some (.box gr0)):
  AK Tryz.prog 211 [.ptr q 0,.ptr q' 0] H n λo H' n'=>o= .ret (.int .i64 (Mq d))/\n'=n/\∃cs,H'=hset H q' (.box cs)/\∀cells,Ad d.sh d.w d.h d.holes=some cells->cs=AG d.sh d.w d.h d.holes cells:=by
 refine a211 (AE Tmc_ok (AF ?_))
 unfold Mq
 cases hc:Ad d.sh d.w d.h d.holes with
 |none=>
  have hv:B7 d.sh d.w d.h d.holes= .tup [encG 0 0 0 [] [],.int .i64 130]:=by unfold B7;rw[hc]
  simp only[eE,eN,reduceCtorEq,Nat.reduceEqDiff,↓reduceIte,Nat.reduceAdd,Nat.reduceLeDiff,Nat.reduceLT,V1,V9,Vb,c211,h0,h1,Tmc_m,BD,Au,V3 hh,hv]
  exact⟨_,rfl⟩
 |some cells=>
  have hv:B7 d.sh d.w d.h d.holes= .tup [encG d.sh d.w d.h d.holes cells,.int .i64 0]:=by unfold B7;rw[hc]
  simp only[eE,eN,reduceCtorEq,Nat.reduceEqDiff,↓reduceIte,Nat.reduceAdd,Nat.reduceLeDiff,Nat.reduceLT,V1,V9,Vb,c211,h0,h1,Tmc_m,BD,Au,V3 hh,hv]
  exact⟨_,rfl,λc h=>by cases h;rfl⟩
end Go.AM
namespace Go.AM
open Go.Proofs Go.Lib
theorem N8(d:Dcl):chkD d=if Mo d≠0 then Mo d else if KN d≠0 then KN d else if Mp d≠0 then Mp d else match Ad d.sh d.w d.h d.holes with
  |none=>130
  |some cells=>if DQ cells d.regs≠0 then DQ cells d.regs else if Mr d≠0 then Mr d else N5 d:=by
 unfold chkD Mo KN Mp Mr N5
 cases limD d with
 |false=>rfl
 |true=>
 cases hr:resD d with
 |error e=>simp [whn,FD hr]
 |ok x=>
 by_cases hx:x=d
 ·by_cases hv:d.ver<1\/255<d.ver
  ·have:(decide (1<=d.ver)&&decide (d.ver<=255))=false:=by simp;omega
   simp [whn,hx,hv,this]
  ·have:(decide (1<=d.ver)&&decide (d.ver<=255))=true:=by simp;omega
   cases hc:Ad d.sh d.w d.h d.holes with
   |none=>simp [whn,hx,hv,this]
   |some cells=>
    cases CJ d<;>by_cases hu:BX d.ruls=[]<;>simp [whn,hx,hv,this,hu]
 ·simp [whn,hx]
abbrev stA:List AVal:=[.fn (.func 207) [] [.ptr 0 0],.fn (.func 209) [] [.ptr 0 0],.fn (.func 210) [] [.ptr 0 0],.fn (.func 211) [] [.ptr 0 0,.ptr 2 0],.fn (.func 212) [] [.ptr 0 0,.ptr 2 0],.fn (.func 214) [] [.ptr 0 0],.fn (.func 216) [] [.ptr 0 0]]
structure IChk(d:Dcl)(v:VF):Prop where
 hi:v.i<=7
 h0:hget v.H 0=some (.box (AO d))
 z1:0<v.i->Mo d=0
 z2:1<v.i->KN d=0
 z3:2<v.i->Mp d=0
 g0:v.i<=3->hget v.H 2=some (.box gr0)
 z4:3<v.i->∃cells,Ad d.sh d.w d.h d.holes=some cells/\hget v.H 2=some (.box (AG d.sh d.w d.h d.holes cells))/\(4<v.i->DQ cells d.regs=0)
 z6:5<v.i->Mr d=0
 z7:6<v.i->N5 d=0
theorem p146(d:Dcl)(hd:FewD d):Pur Tryz.prog 146 [encD d] (.int .i64 (chkD d)):=by
 refine .mk ⟨A8 0 d,trivial⟩ trivial (a146 (AE AH.tnil (AF ?_)))
 simp only[eE,eN,reduceCtorEq,Nat.reduceEqDiff,↓reduceIte,Nat.reduceAdd,Nat.reduceLeDiff,Nat.reduceMul,Nat.reduceLT,c146]
 have h7:((7:Nat):Int)=7:=rfl
 refine AU (λv:VF=>⟨[(14,true,.sl (.exact 1) stA),(15,true,.int .i64 7),(16,true,.int .i64 v.i)],v.H,v.n⟩) (IChk d) (λv=>7-v.i)
  ⟨0,hset (hset hnil 0 (.box (AO d))) 2 (.box gr0),3⟩ rfl ⟨Vi _,rfl,λh=>absurd h (Wu _),λh=>absurd h (Wu _),λh=>absurd h (Wu _),λ_=>rfl,λh=>absurd h (Wu _),λh=>absurd h (Wu _),λh=>absurd h (Wu _)⟩ ?_
 rintro⟨i,H,n⟩ hI
 obtain⟨hi,h0,z1,z2,z3,g0,z4,z6,z7⟩:=hI
 simp only at hi h0 z1 z2 z3 g0 z4 z6 z7
 have hS:=N8 d
 by_cases hlt:i<7
 case neg=>
  obtain⟨cells,hc,-,hr⟩:=z4 (by omega)
  have hlF:((i:Int)<7)=False:=Ve (by omega)
  simp only[z1 (by omega),z2 (by omega),z3 (by omega),hc,hr (by omega),z6 (by omega),z7 (by omega),ne_eq,WV,Vw]at hS
  rw[hS]
  simp only[eE,eC,eN,Nat.reduceEqDiff,↓reduceIte,hlF]
 have hlT:((i:Int)<7)=True:=V3 (by omega)
 have hlN:((i:Int)<((7:Nat):Int))=True:=hlT
 have e:=AJ (k:=i) (by omega)
 have h8:i=0\/i=1\/i=2\/i=3\/i=4\/i=5\/i=6:=by omega
 rcases h8 with h8|h8|h8|h8|h8|h8|h8
 ·have hg:stA[i]?=some (.fn (.func 207) [] [.ptr 0 0]):=by rw[h8];rfl
  have hl7:i<stA.length:=hlt
  simp only[eE,eC,eN,Nat.reduceEqDiff,↓reduceIte,Nat.reduceAdd,V1,V2,V4,hlT,hlN,hg]
  refine(u1 hd h0).mono ?_
  rintro o H' n' ⟨rfl,rfl,rfl⟩
  by_cases hz:Mo d=0
  ·rw[hz]
   simp only[eE,eC,eN,Nat.reduceEqDiff,↓reduceIte,Int.reduceEq,V8,retK,e]
   exact .mk ⟨i+1,H',n'⟩ rfl ⟨hlt,h0,λ_=>hz,λh=>absurd h (by simp only[];omega),λh=>absurd h (by simp only[];omega),λ_=>g0 (by omega),λh=>absurd h (by simp only[];omega),λh=>absurd h (by simp only[];omega),λh=>absurd h (by simp only[];omega)⟩ (by simp only[];omega)
  ·rw[Vk hz]at hS
   rw[hS]
   simp only[eE,eC,eN,Nat.reduceEqDiff,↓reduceIte,Vf,retK,Ve hz]
 ·have hg:stA[i]?=some (.fn (.func 209) [] [.ptr 0 0]):=by rw[h8];rfl
  have hl7:i<stA.length:=hlt
  simp only[eE,eC,eN,Nat.reduceEqDiff,↓reduceIte,Nat.reduceAdd,V1,V2,V4,hlT,hlN,hg]
  refine(u2 hd h0).mono ?_
  rintro o H' n' ⟨rfl,rfl,rfl⟩
  simp only[z1 (by omega),ne_eq,WV,Vw]at hS
  by_cases hz:KN d=0
  ·rw[hz]
   simp only[eE,eC,eN,Nat.reduceEqDiff,↓reduceIte,Int.reduceEq,V8,retK,e]
   exact .mk ⟨i+1,H',n'⟩ rfl ⟨hlt,h0,λ_=>z1 (by omega),λ_=>hz,λh=>absurd h (by simp only[];omega),λ_=>g0 (by omega),λh=>absurd h (by simp only[];omega),λh=>absurd h (by simp only[];omega),λh=>absurd h (by simp only[];omega)⟩ (by simp only[];omega)
  ·rw[Vk hz]at hS
   rw[hS]
   simp only[eE,eC,eN,Nat.reduceEqDiff,↓reduceIte,Vf,retK,Ve hz]
 ·have hg:stA[i]?=some (.fn (.func 210) [] [.ptr 0 0]):=by rw[h8];rfl
  have hl7:i<stA.length:=hlt
  simp only[eE,eC,eN,Nat.reduceEqDiff,↓reduceIte,Nat.reduceAdd,V1,V2,V4,hlT,hlN,hg]
  refine(u3 h0).mono ?_
  rintro o H' n' ⟨rfl,rfl,rfl⟩
  simp only[z1 (by omega),z2 (by omega),ne_eq,WV,Vw]at hS
  by_cases hz:Mp d=0
  ·rw[hz]
   simp only[eE,eC,eN,Nat.reduceEqDiff,↓reduceIte,Int.reduceEq,V8,retK,e]
   exact .mk ⟨i+1,H',n'⟩ rfl ⟨hlt,h0,λ_=>z1 (by omega),λ_=>z2 (by omega),λ_=>hz,λ_=>g0 (by omega),λh=>absurd h (by simp only[];omega),λh=>absurd h (by simp only[];omega),λh=>absurd h (by simp only[];omega)⟩ (by simp only[];omega)
  ·rw[Vk hz]at hS
   rw[hS]
   simp only[eE,eC,eN,Nat.reduceEqDiff,↓reduceIte,Vf,retK,Ve hz]
 ·have hg:stA[i]?=some (.fn (.func 211) [] [.ptr 0 0,.ptr 2 0]):=by rw[h8];rfl
  have hl7:i<stA.length:=hlt
  simp only[eE,eC,eN,Nat.reduceEqDiff,↓reduceIte,Nat.reduceAdd,V1,V2,V4,hlT,hlN,hg]
  refine(u4 (by decide) hd.ho h0 (g0 (by omega))).mono ?_
  rintro o H' n' ⟨rfl,rfl,cs,rfl,hcs⟩
  have h0':hget (hset H 2 (.box cs)) 0=some (.box (AO d)):=by rw[AA _ _ _ _ (by decide)];exact h0
  simp only[z1 (by omega),z2 (by omega),z3 (by omega),ne_eq,WV,Vw]at hS
  cases hc:Ad d.sh d.w d.h d.holes with
  |none=>
   have hs4:Mq d=130:=by unfold Mq;rw[hc]
   rw[hc]at hS
   rw[hS,hs4]
   simp only[eE,eC,eN,Nat.reduceEqDiff,↓reduceIte,Int.reduceEq,Vf,retK]
  |some cells=>
   have hs4:Mq d=0:=by unfold Mq;rw[hc]
   rw[hs4]
   simp only[eE,eC,eN,Nat.reduceEqDiff,↓reduceIte,Int.reduceEq,V8,retK,e]
   refine .mk ⟨i+1,hset H 2 (.box cs),n'⟩ rfl ⟨hlt,h0',λ_=>z1 (by omega),λ_=>z2 (by omega),λ_=>z3 (by omega),λh=>absurd h (by simp only[];omega),λ_=>⟨cells,hc,by simp only[];rw[AC,hcs cells hc],λh=>absurd h (by simp only[];omega)⟩,λh=>absurd h (by simp only[];omega),λh=>absurd h (by simp only[];omega)⟩ (by simp only[];omega)
 ·have hg:stA[i]?=some (.fn (.func 212) [] [.ptr 0 0,.ptr 2 0]):=by rw[h8];rfl
  have hl7:i<stA.length:=hlt
  obtain⟨cells,hc,hg2,hr⟩:=z4 (by omega)
  simp only[eE,eC,eN,Nat.reduceEqDiff,↓reduceIte,Nat.reduceAdd,V1,V2,V4,hlT,hlN,hg]
  refine(u5 (g:=⟨d.sh,d.w,d.h,d.holes,cells⟩) hd hc hd.ho h0 hg2).mono ?_
  rintro o H' n' ⟨rfl,rfl,rfl⟩
  simp only[z1 (by omega),z2 (by omega),z3 (by omega),hc,ne_eq,WV,Vw]at hS
  by_cases hz:DQ cells d.regs=0
  ·rw[hz]
   simp only[eE,eC,eN,Nat.reduceEqDiff,↓reduceIte,Int.reduceEq,V8,retK,e]
   exact .mk ⟨i+1,H',n'⟩ rfl ⟨hlt,h0,λ_=>z1 (by omega),λ_=>z2 (by omega),λ_=>z3 (by omega),λh=>absurd h (by simp only[];omega),λ_=>⟨cells,hc,hg2,λ_=>hz⟩,λh=>absurd h (by simp only[];omega),λh=>absurd h (by simp only[];omega)⟩ (by simp only[];omega)
  ·rw[Vk hz]at hS
   rw[hS]
   simp only[eE,eC,eN,Nat.reduceEqDiff,↓reduceIte,Vf,retK,Ve hz]
 ·have hg:stA[i]?=some (.fn (.func 214) [] [.ptr 0 0]):=by rw[h8];rfl
  have hl7:i<stA.length:=hlt
  obtain⟨cells,hc,hg2,hr⟩:=z4 (by omega)
  simp only[eE,eC,eN,Nat.reduceEqDiff,↓reduceIte,Nat.reduceAdd,V1,V2,V4,hlT,hlN,hg]
  refine(u6 hd h0).mono ?_
  rintro o H' n' ⟨rfl,rfl,rfl⟩
  simp only[z1 (by omega),z2 (by omega),z3 (by omega),hc,hr (by omega),ne_eq,WV,Vw]at hS
  by_cases hz:Mr d=0
  ·rw[hz]
   simp only[eE,eC,eN,Nat.reduceEqDiff,↓reduceIte,Int.reduceEq,V8,retK,e]
   exact .mk ⟨i+1,H',n'⟩ rfl ⟨hlt,h0,λ_=>z1 (by omega),λ_=>z2 (by omega),λ_=>z3 (by omega),λh=>absurd h (by simp only[];omega),λ_=>⟨cells,hc,hg2,λ_=>hr (by omega)⟩,λ_=>hz,λh=>absurd h (by simp only[];omega)⟩ (by simp only[];omega)
  ·rw[Vk hz]at hS
   rw[hS]
   simp only[eE,eC,eN,Nat.reduceEqDiff,↓reduceIte,Vf,retK,Ve hz]
 ·have hg:stA[i]?=some (.fn (.func 216) [] [.ptr 0 0]):=by rw[h8];rfl
  have hl7:i<stA.length:=hlt
  obtain⟨cells,hc,hg2,hr⟩:=z4 (by omega)
  simp only[eE,eC,eN,Nat.reduceEqDiff,↓reduceIte,Nat.reduceAdd,V1,V2,V4,hlT,hlN,hg]
  refine(u7 hd h0).mono ?_
  rintro o H' n' ⟨rfl,rfl,rfl⟩
  simp only[z1 (by omega),z2 (by omega),z3 (by omega),hc,hr (by omega),z6 (by omega),ne_eq,WV,Vw]at hS
  by_cases hz:N5 d=0
  ·rw[hz]
   simp only[eE,eC,eN,Nat.reduceEqDiff,↓reduceIte,Int.reduceEq,V8,retK,e]
   exact .mk ⟨i+1,H',n'⟩ rfl ⟨hlt,h0,λ_=>z1 (by omega),λ_=>z2 (by omega),λ_=>z3 (by omega),λh=>absurd h (by simp only[];omega),λ_=>⟨cells,hc,hg2,λ_=>hr (by omega)⟩,λ_=>z6 (by omega),λ_=>hz⟩ (by simp only[];omega)
  ·rw[hS]
   simp only[eE,eC,eN,Nat.reduceEqDiff,↓reduceIte,Vf,retK,Ve hz]
end Go.AM
namespace Go.AM
open Go.Proofs Go.Lib
structure Knd where
 d:Dcl
 g:Grd
 nb:List (List Int)
 ls:List (List (List Int))
 deriving DecidableEq
def A1(x:Dcl)(cells:List Int):Grd:=⟨x.sh,x.w,x.h,x.holes,cells⟩
def TP(x:Dcl)(cells:List Int):Knd:=
 ⟨x,A1 x cells,nbsS x.sh (AP x.sh x.w cells),((List.range 8).map λf=>famS x.sh x.w x.h (AP x.sh x.w cells) f)++x.regs.map λr=>r.ls.map (Bu cells)⟩
def DX(d:Dcl):Except Int Knd:=match resD d with
 | .error e=>.error e
 | .ok x=>if chkD x≠0 then .error (chkD x)else match Ad x.sh x.w x.h x.holes with
  |none=>.error 130
  |some cells=>.ok (TP x cells)
def HQ(k:Knd):Bool:=match DX k.d with
 | .ok x=>decide (k=x)
 | .error _=>false
def BU(k:Knd):Int:=if HQ k then 0 else 180
theorem LY{k:Knd}(h:HQ k=true):DX k.d= .ok k:=by grind [HQ]
theorem Qo{x:Dcl}(h:chkD x=0):∃cells,Ad x.sh x.w x.h x.holes=some cells:=by
 unfold chkD at h
 split at h
 ·cases h
 ·split at h
  ·rename_i e he
   have:=FD he
   exact absurd h this
  ·grind
theorem II{d:Dcl}{k:Knd}(h:DX d= .ok k):∃x cells,resD d= .ok x/\chkD x=0/\Ad x.sh x.w x.h x.holes=some cells/\k=TP x cells:=by grind [DX]
end Go.AM
namespace Go.AM
open Go.Proofs Go.Lib
structure IUr(d:Dcl)(v:VU):Prop where
 hi:v.i<=d.ruls.length
 fr:AN v.H v.n
 hn:2<=v.n
 h0:hget v.H 0=some (.box (AO d))
 tok:tkG 1 1 v.H v.tk
 es:v.tk.esz=1\/BX (d.ruls.take v.i)=[]
end Go.AM
