/-
  Parts of the proof. Conditions: none.
-/
import Derived.Test.YtabcmhkkohbdeaaGreatB15
set_option maxRecDepth 20000
set_option linter.all false
namespace Go.AM
open Go.Lib Go.Proofs Go.Proofs.Tryz
section
variable {k:zx} {letters:List Int} {x:zy}
section
variable (k:zx) (x:zy) (letters:List Int) (F:List Int->Option (List x9)) (ok:List Int->Prop) (a:List Fs) (H:AB)
end
structure VTe where
 i:Nat
 acc:List x9
 tk:w8
 H:AB
 n:Nat
structure ITe(k:zx)(x:zy)(G:Int->Option (List x9))(p:Int->Bool)(R:Option (List x9))(f:Nat)(v:VTe):Prop where
 hi:v.i<=k.d.syms.length
 hn:4<=v.n
 fr:AP v.H v.n
 h0:AD v.H 0=some (.box (AF k))
 h1:AD v.H 1=some (.box (AY x))
 tok:DA 2 2 v.H v.tk
 es:v.tk.esz=2
 le:v.acc.length<=v.i*ZN f
 he:R=(cJ G (((B7 k.d.syms.length).drop v.i).filter p)).map λt=>v.acc++t
theorem eD{cells:List Int}{i:Nat}{s:Int}(hc:ClP k x cells)(hs:DZ k s):ClP k x (cells.set i s):=by
 refine⟨⟨by rw[tS];exact hc.cl.len,λt ht h0=>?_⟩,λt ht=>?_⟩
 ·rcases uH ht with q|q
  ·exact hc.cl.sy t q h0
  ·rw[q];exact hs
 ·rcases uH ht with q|q
  ·exact hc.ge t q
  ·rw[q];have:=hs.1;omega
end
section
variable {k:zx} {letters:List Int} {x:zy}
section
variable (k:zx) (x:zy) (letters:List Int) (j:Nat) (at':Int) (F:List Int->Option (List Int)) (ok:List Int->Prop) (a:List Fs) (H:AB)
end
structure FlC(k:zx)(x:zy)(cells:List Int):Prop where
 len:cells.length=x.cs.length
 sy:∀s∈cells,DZ k s
end
structure RfK(k:zx):Prop where
 kn:FewKr k
 rg:k.d.regs.length<999999000
def RfK.fr{k:zx}(h:RfK k):QD k.d:=⟨h.kn.d,h.rg⟩
def Vc:List Fs->AB->Prop×Fs:=s1 B2 RfK λk=>.int .i64 (BM k)
def Ze:∀args H n,(Vc args H).1->Ao prog 44 args H n (Vc args H).2:=q1 λk h=>p44 k h.fr h.kn
def PI:List Fs->AB->Prop×Fs:=λa _=>match a with
 |[.int .i64 m,.int .i64 n]=>(0<=m/\m<=16/\0<=n/\n<=3,Bv (Gs m.toNat n.toNat))
 |_=>(False,.tup [])
def mo:∀args H k,(PI args H).1->Ao prog 51 args H k (PI args H).2:=by
 intro args H k hh;unfold PI at hh⊢;split at hh
 ·rename_i m n;obtain⟨h1,h2,h3,h4⟩:=hh;obtain⟨m,rfl⟩:=tQ h1;obtain⟨n,rfl⟩:=tQ h3;rw[rr,rr,Ml];exact(p51 m zo n zo).quiet H k
 ·exact hh.elim
def mq:Bc:=AG 44 Vc (AG 40 (s1 dX xw λx=>eI (Gt x)) tnil)
def eF:AH prog mq:=(AH.tnil.add (q1 λx h=>p40 x h)).add Ze
theorem Zf(a:List Fs)(H:AB):mq 44 a H=s1 B2 RfK (λk=>.int .i64 (BM k)) a H:=rfl
theorem mr(a:List Fs)(H:AB):mq 40 a H=s1 dX xw (λx=>eI (Gt x)) a H:=rfl
def p103(k:zx)(x:zy)(hk:RfK k)(hx:xw x):Aw prog 103 [A5 k,BZ x] (eI (BT k x)):=by
 have u1:B2.ok (.agg (AF k))=True:=CC k;have u2:B2.dec (.agg (AF k))=k:=Bm k;simp only[AF,AE,AL,si,sj]at u1 u2;have v1:dX.ok (.agg (AY x))=True:=D5 x;have v2:dX.dec (.agg (AY x))=x:=C4 x;simp only[AY]at v1 v2;refine .mk ⟨Aj 0 k,At 0 x,zt⟩ zt (qP.a (AI eF (AJ ?_)));unfold BT;by_cases hc:BM k=0
 ·rw[rj (by simpa using hc)];simp only[eZ,seval,re,qP,AF,AE,AL,Zf,mr,s1,u1,u2,v1,v2,ra hk,ra hx,ra hc]
 ·rw[rt hc];simp only[eZ,seval,rf,qP,AF,AE,AL,Zf,s1,u1,u2,ra hk,ri hc]
def Tbh:Bc:=AG 195 jP tnil
def mu:AH prog Tbh:=AH.tnil.add (q3 λl c s h=>p195 l c s h.2 h.1)
theorem Tbh_w(a:List Fs)(H:AB):Tbh 195 a H=s3 BA dI dI (λl c _=>An l/\0<=c/\c<(l.length:Int)) (λl c s=>Am (l.set c.toNat s)) a H:=rfl
def eG{tk:w8}{m:Nat}(h:tk.esz=1\/m=0):BA.ok (.sl tk (List.replicate m (.int .i64 (-1))))=True:=ra ⟨h.imp (λq=>q) (λq=>by rw[q];rfl),by rw[uc,uc];rfl⟩
def Zg{tk:w8}{m:Nat}:BA.dec (.sl tk (List.replicate m (.int .i64 (-1))))=List.replicate m (-1):=by
 show(List.replicate m (Fs.int .i64 (-1))).map A9=_;rw[uc];rfl
def p152(x:zy)(letters:List Int)(h:BgC x letters):Aw prog 152 [BZ x,Am letters] (Am (Fe x letters)):=by
 refine .mk ⟨At 0 x,AZ 0 _,zt⟩ (AZ 0 _) (c152.a (AI mu (AJ ?_)));have hxl:x.cs.length<1000000000:=h.fx;have hlx:=h.l;have g2:=CZ hlx.1 hlx.2;simp only[eE,eN,seval,c152];refine AO (λv:VPy=>⟨[(1,true,Am letters),(2,true,.ptr 0 0),(5,true,.sl v.tk (List.replicate v.i (.int .i64 (-1)))),(6,true,.int .i64 v.i)],v.H,v.n⟩) (IBg x) (λv=>x.cs.length-v.i)
  ⟨0,.exact 1,_,2⟩ rfl ⟨rm _,rq _,AP.nil.hset (m:=2) (rm _) zd,rfl,.inr (.inl rfl),.inr rfl⟩ ?_
 rintro⟨i,tk,H,n⟩ ⟨hi,hn,hf,h0,l5,s5⟩;simp only at hi hn hf h0 l5 s5;have wj:=h0;simp only[AY]at h0;by_cases c9:i<x.cs.length;case neg=>
  obtain rfl:i=x.cs.length:=zo
  have w1:(An (List.replicate x.cs.length (-1:Int))/\0<=x.c/\x.c<((List.replicate x.cs.length (-1:Int)).length:Int))=True:=ra ⟨by show(List.replicate x.cs.length (-1:Int)).length<_;rw[tP];exact hxl,h.c.1,by rw[tP];exact h.c.2⟩;simp only[eZ,seval,eY,Ad c9,h0,ra hlx.1,ra hlx.2,g2,Tbh_w,s3,eG s5,Zg,BD,Au,w1];exact Wk.refl _
 have e:=AK (k:=i) zo;have q1:BH H 1 tk=True:=ra l5.app;have q2:(i<=35184372088831)=True:=ra zo;have q3:Al (i+1) 8=True:=ra (Ac zo zd);simp only[eZ,seval,r9,AN c9,h0,q1,q2,q3,Bq hf,e,tP];exact .mk ⟨i+1,.own (n+2) 1,hset (AU H tk) (n+2) .tok,n+4⟩ (by simp only[Zd]) ⟨c9,zp,(Ab l5 hf).hset (m:=n+4) zo zo,by
  simp only[];rw[AA _ _ _ _ zo,Af l5 (.inl zd)];exact wj,.inr (.inr ⟨n+2,rfl,zo,AC ..⟩),.inl rfl⟩ zp
section
variable (k:zx) (x:zy) (a:List Fs) (H:AB)
end
structure VRp where
 j:Nat
 ts:List (List x9)
 tk:w8
 H:AB
 n:Nat
structure IRp(k:zx)(x:zy)(A:List (List Int))(F:List Int->Option (List x9))(v:VRp):Prop where
 hj:v.j<=A.length
 fr:AP v.H v.n
 hn:5<=v.n
 h0:AD v.H 0=some (.box (AF k))
 h1:AD v.H 1=some (.box (AY x))
 h2:AD v.H 2=some (.box [.sl .nil []])
 h4:AD v.H 4=some (.box [.sl v.tk (v.ts.map MZ)])
 tok:DA 1 5 v.H v.tk
 es:v.tk.esz=1\/v.ts=[]
 he:Xy F A=(Xy F (A.drop v.j)).map λt=>v.ts++t
 ln:v.ts.length=v.j
 le:La v.ts<=v.j*70000
section
variable (k:zx) (x:zy) (a:List Fs) (H:AB)
end
def Tzd:Bc:=AG 135 jN (AG 89 PH tnil)
def Zh:AH prog Tzd:=(AH.tnil.add (q2 λl s h=>p89 l s h)).add (q2 λl c h=>p135 l c h.1 h.2)
theorem jQ(a:List Fs)(H:AB):Tzd 135 a H=s2 BA BA (λl cells=>An l/\∀c∈l,0<=c/\c<(cells.length:Int)) (λl cells=>Am (l.map (BW cells))) a H:=rfl
theorem Zi(a:List Fs)(H:AB):Tzd 89 a H=s2 BA dI (λl _=>An l) (λl s=>.bool (l.contains s)) a H:=rfl
structure DnC(p:Prm)(letters cells:List Int):Prop where
 c:0<=p.c/\p.c<(cells.length:Int)
 ls:An p.ls/\∀c∈p.ls,0<=c/\c<(letters.length:Int)
def p238(p:Prm)(letters cells:List Int)(h:DnC p letters cells):Aw prog 238 [GP p,Am letters,Am cells] (.bool (Jh p letters cells)):=by
 refine .mk ⟨Hc 0 p,AZ 0 _,AZ 0 _,zt⟩ zt (qR.a (AI Zh (AJ ?_)));have hg:=CZ h.c.1 h.c.2;have f3:An (p.ls.map (BW letters))=True:=ra (by show(p.ls.map (BW letters)).length<_;rw[r9];exact h.ls.1);unfold Jh;by_cases h0:0<=BW cells p.c
 ·rw[sk h0,sS];simp only[eZ,seval,eY,qR,ra h.c.1,ra h.c.2,hg,ra h0,jQ,Zi,s2,Ak,Ag,BD,Au,ra h.ls,f3]
 ·rw[sa h0,sV];simp only[eZ,seval,eY,qR,ra h.c.1,ra h.c.2,hg,ri h0]
def Tzm(k:zx):Bc:=AG 90 (Rw k) (AG 238 (s3 dM BA BA DnC λp l c=>.bool (Jh p l c)) tnil)
def mw(k:zx):AH prog (Tzm k):=(AH.tnil.add (q3 λp l c h=>p238 p l c h)).add (mn k)
def p193(k:zx)(x:zy)(at':Int)(letters cells:List Int)(h:RdC k x letters)(hc:ClP k x cells):Aw prog 193 [A5 k,BZ x,.int .i64 at',Am letters,Am cells] (.bool (Bl (AW k) x letters cells at')):=by
 have u1:B2.ok (.agg (AF k))=True:=CC k;have u2:B2.dec (.agg (AF k))=k:=Bm k;simp only[AF,AE,AL,si,sj]at u1 u2;have hnq:x.qs.length<1000000000:=h.fx.qs;have hnp:x.ps.length<1000000000:=h.fx.ps;refine .mk ⟨Aj 0 k,At 0 x,zt,AZ 0 _,AZ 0 _,zt⟩ zt (bM.a (AI (mw k) (AJ ?_)));have e2:IntKind.wrap .i64 ((x.qs.length:Int)+(x.ps.length:Int))=((x.qs.length+x.ps.length:Nat):Int):=by rw[A6 zo zo];omega
 by_cases hneg:at'<0
 ·rw[Rl hneg];simp only[eZ,seval,re,r9,bM,ra hneg]
 obtain⟨a,rfl⟩:=tQ (Int.not_lt.1 hneg);by_cases hout:x.qs.length+x.ps.length<=a
 ·rw[Rm hout];have z:(((x.qs.length+x.ps.length:Nat):Int)<=(a:Int))=True:=ra zo;simp only[eZ,seval,r9,bM,ri hneg,e2,z]
 have z:(((x.qs.length+x.ps.length:Nat):Int)<=(a:Int))=False:=ri zo;by_cases hq:a<x.qs.length
 ·have hg:=rc hq;have hm:=rY hq;generalize x.qs[a]=q at hg hm;rw[Th hg];have hkl:=kl_ok h hc hm;simp only[eZ,seval,eY,bM,AF,AE,AL,ri hneg,e2,z,AN hq,hg,Tzm,Rw,u1,u2,Ke,Hd,Ak,Ag,ra hkl,AG]
 ·obtain⟨b,rfl⟩:∃b,a=x.qs.length+b:=⟨a-x.qs.length,zo⟩;have hb:b<x.ps.length:=zo
  have hg:=rc hb;have hm:=rY hb;generalize x.ps[b]=p at hg hm;rw[Ti hg];have hpc:=Kt h.ox hm;rw[<-hc.cl.len]at hpc;have hdn:DnC p letters cells:=⟨hpc,Ju h p hm⟩;have w:IntKind.wrap .i64 (((x.qs.length+b:Nat):Int)-(x.qs.length:Int))=(b:Int):=by rw[A6 zo zo];omega
  simp only[eZ,seval,eY,bM,ri hneg,e2,z,Ad hq,AN hb,hg,w,Tzm,s3,jJ,ZJ,Ak,Ag,ra hdn,AG]
def Wv(x:zy)(letters:List Int)(c:Int)(i:Nat):Fs:=match (x.ps.take i).find? λp=>decide (p.c=c)with
 |none=>.sl (.exact 1) []
 |some p=>Am (p.ls.map (BW letters))
def Ww(x:zy)(c:Int)(i:Nat):Bool:=((x.ps.take i).find? λp=>decide (p.c=c)).isNone
def Wx{x:zy}{c:Int}{i:Nat}{q:Prm}(hx:OKL x)(h:x.ps[i]?=some q):(x.ps.take (i+1)).find? (λp=>decide (p.c=c))=if q.c=c then some q else(x.ps.take i).find? λp=>decide (p.c=c):=by
 rw[sf,h,List.find?_append];cases hf:(x.ps.take i).find? λp=>decide (p.c=c)with
 |none=>
  show(none:Option Prm).or ([q].find? λp=>decide (p.c=c))=_;rw[Option.none_or,List.find?_cons,List.find?_nil];by_cases e:q.c=c
  ·rw[sk e,rt e]
  ·rw[sa e,rj e]
 |some p=>
  rw[Option.some_or];by_cases e:q.c=c
  ·rw[rt e];have hp:=uW (List.mem_of_find?_eq_some hf);have hpc:=List.find?_some hf;simp only[rn]at hpc;have h1:=Im hx hp;have h2:=Im hx (te h);rw[hpc]at h1;rw[e]at h2;rw[h1]at h2;exact h2
  ·rw[rj e]
def p194(k:zx)(x:zy)(letters:List Int)(c:Int)(hm16:k.d.syms.length<=16)(hx:OKL x)(hps:An x.ps)(wu:∀p∈x.ps,An p.ls/\∀c∈p.ls,0<=c/\c<(letters.length:Int)):Aw prog 194 [A5 k,BZ x,Am letters,.int .i64 c] (Am (DI k.d.syms.length x letters c)):=by
 refine .mk ⟨Aj 0 k,At 0 x,AZ 0 _,zt,zt⟩ (AZ 0 _) (c194.a (AI Zh (AJ ?_)));have hnp:x.ps.length<1000000000:=hps;simp only[eE,eN,seval,c194];refine AO (λi:Nat=>⟨[(2,true,Am letters),(3,true,.int .i64 c),(4,true,.ptr 0 0),(5,true,.ptr 1 0),(9,true,Wv x letters c i),(10,true,.bool (Ww x c i)),(11,true,.int .i64 i)],rP k x,3⟩) (λi=>i<=x.ps.length) (λi=>x.ps.length-i) 0 rfl (rm _) ?_;intro i hi;by_cases c9:i<x.ps.length
 ·have hg:=rc c9;have hm:=rY c9;have e:=AK (k:=i) zo;generalize x.ps[i]=q at hg hm;have hft:=Wx (c:=c) hx hg;have hpr:=wu q hm;by_cases hq:q.c=c
  ·rw[rt hq]at hft;simp only[eZ,seval,eY,AY,AN c9,hg,ra hq,jQ,s2,Ak,Ag,ra hpr,e];exact .mk (i+1) (by unfold Wv Ww;rw[hft];rfl) c9 zo
  ·rw[rj hq]at hft;simp only[eZ,seval,eY,AY,AN c9,hg,ri hq,e];exact .mk (i+1) (by unfold Wv Ww;rw[hft]) c9 zo
 obtain rfl:i=x.ps.length:=zo
 have hown:Wv x letters c x.ps.length=match Dk x c with|none=>.sl (.exact 1) []|some p=>Am (p.ls.map (BW letters)):=by unfold Wv Dk;rw[se]
 have hany:Ww x c x.ps.length=(Dk x c).isNone:=by unfold Ww Dk;rw[se]
 rw[Fv];simp only[eZ,seval,r9,Ad c9,AY];have hH0:AD (rP k x) 0=some (.box (AF k)):=rfl;have hfr0:AP (rP k x) 3:=(AP.nil.hset (m:=3) (rm _) zd).hset (m:=3) (rq _) zd;refine AO (λv:VPy=>⟨[(4,true,.ptr 0 0),(9,true,Wv x letters c x.ps.length),(10,true,.bool (Ww x c x.ps.length)),(12,true,.sl v.tk ((((B7 k.d.syms.length).take v.i).filter (Cr x letters c)).map eI)),(13,true,.int .i64 v.i)],v.H,v.n⟩)
  (λv=>v.i<=k.d.syms.length/\3<=v.n/\AP v.H v.n/\AD v.H 0=some (.box (AF k))/\DA 1 2 v.H v.tk/\(v.tk.esz=1\/((B7 k.d.syms.length).take v.i).filter (Cr x letters c)=[])) (λv=>k.d.syms.length-v.i)
  ⟨0,.exact 1,rP k x,3⟩ rfl ⟨rm _,rq _,hfr0,hH0,.inr (.inl rfl),.inl rfl⟩ ?_
 clear hH0 hfr0;rintro⟨i,tk,H,n⟩ ⟨w9,hn,hf,h0,l5,s5⟩;simp only at w9 hn hf h0 l5 s5;have wj:=h0;simp only[AF,AE,AL,si,sj]at h0;by_cases xa:i<k.d.syms.length;case neg=>
  obtain rfl:i=k.d.syms.length:=zo
  have e9:(B7 k.d.syms.length).take k.d.syms.length=B7 k.d.syms.length:=sQ (by unfold B7;simp);rw[e9]at s5;simp only[eZ,seval,r9,Ad xa,h0,e9];exact Wk.sl (s5.imp (λz=>z) λq=>by rw[q];rfl)
 have e:=AK (k:=i) zo;have htake:=Jv xa;have am:=Lo k.d.syms.length i (Cr x letters c);have q1:BH H 1 tk=True:=ra l5.app;have q2:((((B7 k.d.syms.length).take i).filter (Cr x letters c)).length<=35184372088831)=True:=ra zo;have q3:Al ((((B7 k.d.syms.length).take i).filter (Cr x letters c)).length+1) 8=True:=ra (Ac zo zd);have addT:Cr x letters c (i:Int)=true->((B7 k.d.syms.length).take (i+1)).filter (Cr x letters c)=((B7 k.d.syms.length).take i).filter (Cr x letters c)++[(i:Int)]:=λq=>by
  rw[htake,tD,uL q];rfl
 have addF:Cr x letters c (i:Int)=false->((B7 k.d.syms.length).take (i+1)).filter (Cr x letters c)=((B7 k.d.syms.length).take i).filter (Cr x letters c):=λq=>by
  rw[htake,tD,uK (by rw[q];decide),uA,sE]
 have hk0:AD (hset (AU H tk) (n+3) .tok) 0=some (.box (AF k)):=by
  rw[AA _ _ _ _ zo,Af l5 (.inl zd)];exact wj
 have nxT:Cr x letters c (i:Int)=true->_:=λq=>(⟨xa,zo,(Ab l5 hf).hset (m:=n+5) zo zo,hk0,.inr (.inr ⟨n+3,rfl,zo,AC ..⟩),.inl rfl⟩:i+1<=k.d.syms.length/\3<=n+5/\AP (hset (AU H tk) (n+3) .tok) (n+5)/\AD (hset (AU H tk) (n+3) .tok) 0=some (.box (AF k))/\DA 1 2 (hset (AU H tk) (n+3) .tok) (.own (n+3) 1)/\((w8.own (n+3) 1).esz=1\/((B7 k.d.syms.length).take (i+1)).filter (Cr x letters c)=[]))
 cases hpa:Dk x c with
 |none=>
  have wg:Cr x letters c (i:Int)=true:=by unfold Cr;rw[hpa]
  rw[hpa]at hany hown;simp only[Option.isNone_none]at hany hown;simp only[eZ,seval,re,r9,AN xa,h0,hany,q1,q2,q3,Bq hf,e];exact .mk ⟨i+1,.own (n+3) 1,hset (AU H tk) (n+3) .tok,n+5⟩ (by simp only[addT wg,rz];rfl) (nxT wg) zp
 |some p=>
  have hpm:p∈x.ps:=List.mem_of_find?_eq_some hpa;have hpr:=wu p hpm;have f3:An (p.ls.map (BW letters))=True:=ra (by show(p.ls.map (BW letters)).length<_;rw[r9];exact hpr.1);have wq:Cr x letters c (i:Int)=(p.ls.map (BW letters)).contains (i:Int):=by unfold Cr;rw[hpa]
  rw[hpa]at hany hown;simp only[Option.isNone_some]at hany hown;cases wg:Cr x letters c (i:Int)with
  |true=>
   rw[wg]at wq;simp only[eZ,seval,r9,AN xa,h0,hany,hown,Zi,s2,Ak,Ag,BD,Au,f3,<-wq,q1,q2,q3,Bq hf,e];exact .mk ⟨i+1,.own (n+3) 1,hset (AU H tk) (n+3) .tok,n+5⟩ (by simp only[addT wg,rz];rfl) (nxT wg) zp
  |false=>
   rw[wg]at wq;simp only[eZ,seval,r9,AN xa,h0,hany,hown,Zi,s2,Ak,Ag,BD,Au,f3,<-wq,e];exact .mk ⟨i+1,tk,H,n⟩ (by simp only[addF wg]) ⟨xa,hn,hf,wj,l5,by simp only[addF wg];exact s5⟩ zp
section
def OU(G:Int->List x9->List x9×Bool):List Int->List x9->List x9×Bool
 |[],l=>(l,true)
 |s::r,l=>if(G s l).2=true then OU G r (G s l).1 else((G s l).1,false)
def Da(vals:List Int)(x:zy)(letters:List Int):Nat->List Int->List x9->List x9×Bool
 |_,_,[]=>([],false)
 |f,cells,n::l=>
  if n.k=HZ then(l,Bl vals x letters cells n.a)
  else if n.k=Id/\0<=n.a/\n.a<cells.length/\BW cells n.a<0 then
   match f with
   |0=>([],false)
   |f+1=>OU (λs l=>Da vals x letters f (cells.set n.a.toNat s) l) (DI vals.length x letters n.a) l
  else([],false)
def Zj(q:List x9×Bool)(o:Option (List x9)):Prop:=q.2=o.isSome/\∀r,o=some r->q.1=r
theorem Rx{G:Int->List x9->List x9×Bool}{F:Int->List x9->Option (List x9)}(h:∀s l,Zj (G s l) (F s l)):∀(ss:List Int) (l:List x9),Zj (OU G ss l) (MS F ss l)
 |[],l=>⟨rfl,λr h=>by rw[MS]at h;cases h;rfl⟩
 |s::ss,l=>by
  obtain⟨h1,h2⟩:=h s l;rw[OU,MS];cases hF:F s l with
  |none=>
   rw[hF]at h1;rw[rj (by rw[h1];decide)];exact⟨rfl,λr q=>by cases q⟩
  |some r=>
   rw[hF]at h1;rw[rt (show(G s l).2=true from h1),h2 r hF];exact Rx h ss r
variable {k:zx} {letters:List Int} {x:zy}
theorem PJ{vals:List Int}:∀(f:Nat) (cells:List Int) (l:List x9),Zj (Da vals x letters f cells l) (Cd vals x letters f cells l)
 |f,cells,[]=>by rw[Da,Cd];exact⟨rfl,λr q=>by cases q⟩
 |0,cells,n::l=>by
  rw[Da,Cd];by_cases hk:n.k=HZ
  ·rw[rt hk,rt hk];cases Bl vals x letters cells n.a with
   |true=>exact⟨rfl,λr q=>by cases q;rfl⟩
   |false=>exact⟨rfl,λr q=>by cases q⟩
  ·rw[rj hk,rj hk];split<;>exact⟨rfl,λr q=>by cases q⟩
 |f+1,cells,n::l=>by
  rw[Da,Cd];by_cases hk:n.k=HZ
  ·rw[rt hk,rt hk];cases Bl vals x letters cells n.a with
   |true=>exact⟨rfl,λr q=>by cases q;rfl⟩
   |false=>exact⟨rfl,λr q=>by cases q⟩
  ·rw[rj hk,rj hk];split
   ·exact Rx (λs l=>PJ f _ l) _ _
   ·exact⟨rfl,λr q=>by cases q⟩
theorem Ry{G:Int->List x9->List x9×Bool}(h:∀s l,(G s l).1.length<=l.length):∀(ss:List Int) (l:List x9),(OU G ss l).1.length<=l.length
 |[],l=>rq _
 |s::ss,l=>by
  rw[OU];split
  ·exact sO (Ry h ss _) (h s l)
  ·exact h s l
theorem Rz{vals:List Int}:∀(f:Nat) (cells:List Int) (l:List x9),(Da vals x letters f cells l).1.length<=l.length
 |f,cells,[]=>by rw[Da];exact rq _
 |0,cells,n::l=>by
  rw[Da];split
  ·simp
  ·split<;>simp
 |f+1,cells,n::l=>by
  rw[Da];split
  ·simp
  ·split
   ·refine sO (Ry (λs l=>Rz f _ l) _ _) zw
   ·simp
abbrev ND(q:List x9×Bool):Fs:=.tup [MZ q.1,.bool q.2]
def cU:Dc (List x9):=⟨MZ,ZS,GN 2 OQ mU,Q6⟩
theorem QT(l:List x9):cU.ok (MZ l)=True:=ra ⟨.inl rfl,by rw[DF Rt]⟩
theorem Ma(l:List x9):cU.dec (MZ l)=l:=PF l
def PL(k:zx)(x:zy)(letters:List Int)(F:List Int->List x9->List x9×Bool)(ok:List Int->List x9->Prop):List Fs->AB->Prop×Fs:=λa _=>match a with
 |[K,X,a1,a2,a3]=>(B2.ok K/\B2.dec K=k/\dX.ok X/\dX.dec X=x/\a1=Am letters/\BA.ok a2/\cU.ok a3/\ok (BA.dec a2) (cU.dec a3),ND (F (BA.dec a2) (cU.dec a3)))
 |_=>(False,.tup [])
theorem mz{F:List Int->List x9->List x9×Bool}{ok:List Int->List x9->Prop}(h:∀cells l,ok cells l->Aw prog 151 [A5 k,BZ x,Am letters,Am cells,MZ l] (ND (F cells l))):
  ∀args H n,(PL k x letters F ok args H).1->Ao prog 151 args H n (PL k x letters F ok args H).2:=by
 intro args H n hh;unfold PL at hh⊢;split at hh
 ·obtain⟨h1,h2,h3,h4,rfl,h5,h6,h7⟩:=hh;have w1:=B2.wk _ h1;rw[h2]at w1;have w2:=dX.wk _ h3;rw[h4]at w2;refine AV.args ((h _ _ h7).quiet H n) ?_;rintro g vs ⟨v1,r1,rfl,k1,v2,r2,rfl,k2,v3,r3,rfl,k3,v4,r4,rfl,k4,v5,r5,rfl,k5,k6⟩;exact⟨v1,_,rfl,w1 _ _ k1,v2,_,rfl,w2 _ _ k2,v3,_,rfl,k3,v4,_,rfl,BA.wk _ h5 _ _ k4,v5,_,rfl,cU.wk _ h6 _ _ k5,k6⟩
 ·exact hh.elim
def PM(k:zx)(x:zy)(letters:List Int):List Fs->AB->Prop×Fs:=λa _=>match a with
 |[K,X,.int .i64 i,a1,a2]=>(B2.ok K/\B2.dec K=k/\dX.ok X/\dX.dec X=x/\a1=Am letters/\BA.ok a2/\ClP k x (BA.dec a2),.bool (Bl (AW k) x letters (BA.dec a2) i))
 |_=>(False,.tup [])
theorem m4(hp:RdC k x letters):∀args H n,(PM k x letters args H).1->Ao prog 193 args H n (PM k x letters args H).2:=by
 intro args H n hh;unfold PM at hh⊢;split at hh
 ·obtain⟨h1,h2,h3,h4,rfl,h5,h6⟩:=hh;have w1:=B2.wk _ h1;rw[h2]at w1;have w2:=dX.wk _ h3;rw[h4]at w2;refine AV.args ((p193 k x _ letters _ hp h6).quiet H n) ?_;rintro g vs ⟨v1,r1,rfl,k1,v2,r2,rfl,k2,v3,r3,rfl,k3,v4,r4,rfl,k4,v5,r5,rfl,k5,k6⟩;exact⟨v1,_,rfl,w1 _ _ k1,v2,_,rfl,w2 _ _ k2,v3,_,rfl,k3,v4,_,rfl,k4,v5,_,rfl,BA.wk _ h5 _ _ k5,k6⟩
 ·exact hh.elim
def PN(k:zx)(x:zy)(letters:List Int):List Fs->AB->Prop×Fs:=λa _=>match a with
 |[K,X,a1,.int .i64 c]=>(B2.ok K/\B2.dec K=k/\dX.ok X/\dX.dec X=x/\a1=Am letters,Am (DI k.d.syms.length x letters c))
 |_=>(False,.tup [])
theorem m5(hp:RdC k x letters):∀args H n,(PN k x letters args H).1->Ao prog 194 args H n (PN k x letters args H).2:=by
 intro args H n hh;unfold PN at hh⊢;split at hh
 ·obtain⟨h1,h2,h3,h4,rfl⟩:=hh;have w1:=B2.wk _ h1;rw[h2]at w1;have w2:=dX.wk _ h3;rw[h4]at w2;refine AV.args ((p194 k x letters _ (CP hp.ck).2 hp.ox hp.fx.ps (Ju hp)).quiet H n) ?_;rintro g vs ⟨v1,r1,rfl,k1,v2,r2,rfl,k2,v3,r3,rfl,k3,v4,r4,rfl,k4,k5⟩;exact⟨v1,_,rfl,w1 _ _ k1,v2,_,rfl,w2 _ _ k2,v3,_,rfl,k3,v4,_,rfl,k4,k5⟩
 ·exact hh.elim
def Wy(k:zx)(x:zy)(letters:List Int)(F:List Int->List x9->List x9×Bool)(ok:List Int->List x9->Prop):Bc:=AG 193 (PM k x letters) (AG 194 (PN k x letters) (AG 195 jP (AG 151 (PL k x letters F ok) tnil)))
theorem Vd{F:List Int->List x9->List x9×Bool}{ok:List Int->List x9->Prop}(hp:RdC k x letters)(h:∀cells l,ok cells l->Aw prog 151 [A5 k,BZ x,Am letters,Am cells,MZ l] (ND (F cells l))):AH prog (Wy k x letters F ok):=
 (((AH.tnil.add (mz h)).add (q3 λl c s h=>p195 l c s h.2 h.1)).add (m5 hp)).add (m4 hp)
section
variable (k:zx) (x:zy) (letters:List Int) (F:List Int->List x9->List x9×Bool) (ok:List Int->List x9->Prop) (a:List Fs) (H:AB)
theorem m6:Wy k x letters F ok 193 a H=PM k x letters a H:=rfl
theorem m7:Wy k x letters F ok 194 a H=PN k x letters a H:=rfl
theorem m8:Wy k x letters F ok 195 a H=s3 BA dI dI (λl c _=>An l/\0<=c/\c<(l.length:Int)) (λl c s=>Am (l.set c.toNat s)) a H:=rfl
theorem m9:Wy k x letters F ok 151 a H=PL k x letters F ok a H:=rfl
end
structure VRe where
 i:Nat
 l:List x9
 ok:Bool
theorem Ve(h:RdC k x letters)(f:Nat)(ih:∀f',f=f'+1->∀cells l,Hs cells<=f'->ClP k x cells->An l->Aw prog 151 [A5 k,BZ x,Am letters,Am cells,MZ l] (ND (Da (AW k) x letters f' cells l)))
  (cells:List Int) (l:List x9) (hneg:Hs cells<=f) (hc:ClP k x cells) (hl:An l):Aw prog 151 [A5 k,BZ x,Am letters,Am cells,MZ l] (ND (Da (AW k) x letters f cells l)):=by
 have u1:B2.ok (.agg (AF k))=True:=CC k;have u2:B2.dec (.agg (AF k))=k:=Bm k;simp only[AF,AE,AL,si,sj]at u1 u2;have v1:dX.ok (.agg (AY x))=True:=D5 x;have v2:dX.dec (.agg (AY x))=x:=C4 x;simp only[AY]at v1 v2;have hx4:=h.ox.cs.2.2.2;have wo:=hc.cl.len;have hfc:An cells:=by show cells.length<_;omega
 have hsy:=CP h.ck;have hvl:(AW k).length=k.d.syms.length:=by unfold AW;rw[r9]
 obtain⟨F,ok,hT,hF,s7⟩:∃(F:List Int->List x9->List x9×Bool) (ok:List Int->List x9->Prop),AH prog (Wy k x letters F ok)/\(∀f',f=f'+1->F=λcells l=>Da (AW k) x letters f' cells l)/\(∀f',f=f'+1->ok=λcells l=>Hs cells<=f'/\ClP k x cells/\An l):=by
  cases f with
  |zero=>exact⟨λ_ _=>([],false),λ_ _=>False,Vd h (λ_ _ q=>q.elim),λf' e=>zo,λf' e=>zo⟩
  |succ f=>exact⟨λcells l=>Da (AW k) x letters f cells l,λcells l=>Hs cells<=f/\ClP k x cells/\An l,Vd h (λcells l q=>ih f rfl cells l q.1 q.2.1 q.2.2),λf' e=>by rw[Nat.succ.inj e],λf' e=>by rw[Nat.succ.inj e]⟩
 refine .mk ⟨Aj 0 k,At 0 x,AZ 0 _,AZ 0 _,Ku 0 l,zt⟩ ⟨Ku 0 _,zt,zt⟩ (S0.a (AI hT (AJ ?_)));cases l with
 |nil=>
  rw[Da];simp only[eZ,seval,c0,S0];exact Wk.tup (.cons (Wk.sl (.inr rfl)) (.cons (Wk.refl _) .nil))
 |cons n l=>
 have am:l.length+1<1000000000:=hl;have htl:List.take l.length (l.map OQ)=l.map OQ:=sQ zw;by_cases hk:n.k=HZ
 ·have hr:Da (AW k) x letters f cells (n::l)=(l,Bl (AW k) x letters cells n.a):=by
   cases f<;>rw[Da,rt hk]
  have k2:(n.k=2)=True:=ra hk;rw[hr];simp only[eZ,seval,eY,S0,htl,AQ,qc,gX,rW,k2,AF,AE,AL,m6,PM,u1,u2,v1,v2,Ak,Ag,ra hc,uk];exact Wk.refl _
 have k2:(n.k=2)=False:=ri hk;have v9:¬(n.k=Id/\0<=n.a/\n.a<cells.length/\BW cells n.a<0)->Da (AW k) x letters f cells (n::l)=([],false):=λq=>by
  cases f<;>rw[Da,rj hk,rj q]
 by_cases hk1:n.k=1;case neg=>
  rw[v9 λq=>hk1 q.1];simp only[eZ,seval,re,rf,eY,S0,htl,AQ,qc,gX,rW,k2,ri hk1];exact Wk.tup (.cons (Wk.sl (.inr rfl)) (.cons (Wk.refl _) .nil))
 by_cases h0:n.a<0
 ·rw[v9 λq=>by have:=q.2.1;omega];simp only[eZ,seval,re,eY,S0,htl,AQ,qc,gX,rW,k2,ra hk1,ra h0];exact Wk.tup (.cons (Wk.sl (.inr rfl)) (.cons (Wk.refl _) .nil))
 by_cases h1:(cells.length:Int)<=n.a
 ·rw[v9 λq=>by have:=q.2.2.1;omega];simp only[eZ,seval,re,eY,S0,htl,AQ,qc,gX,rW,k2,ra hk1,ri h0,ra h1];exact Wk.tup (.cons (Wk.sl (.inr rfl)) (.cons (Wk.refl _) .nil))
 have y0:(0<=n.a)=True:=ra zo;have y1:(n.a<(cells.length:Int))=True:=ra zo;have hga:=CZ (of_eq_true y0) (of_eq_true y1);by_cases h2:0<=BW cells n.a
 ·rw[v9 λq=>by have:=q.2.2.2;omega];simp only[eZ,seval,re,eY,S0,htl,AQ,qc,gX,rW,k2,ra hk1,ri h0,ri h1,y0,y1,hga,ra h2];exact Wk.tup (.cons (Wk.sl (.inr rfl)) (.cons (Wk.refl _) .nil))
 obtain⟨f',rfl⟩:∃f',f=f'+1:=by
  cases f with
  |succ f=>exact⟨f,rfl⟩
  |zero=>exact absurd (O7 zo hga) zo
 obtain rfl:=hF f' rfl;obtain rfl:=s7 f' rfl;rw[Da,rj hk,rt ⟨hk1,of_eq_true y0,of_eq_true y1,zo⟩,hvl];simp only[eZ,seval,re,eY,S0,htl,AQ,qc,gX,rW,k2,ra hk1,ri h0,ri h1,y0,y1,hga,ri h2,AF,AE,AL,m7,PN,u1,u2,v1,v2,uk];generalize hG:(λs l=>Da (AW k) x letters f' (cells.set n.a.toNat s) l)=G;have hGs:∀s l,G s l=Da (AW k) x letters f' (cells.set n.a.toNat s) l:=λs l=>by rw[<-hG]
 have hrng:∀s∈DI k.d.syms.length x letters n.a,DZ k s:=λs hs=>by
  have:=Uu (vals:=AW k) (by rw[hvl];exact hs);rw[hvl]at this;exact this
 have hslen:(DI k.d.syms.length x letters n.a).length<=16:=by
  rw[Fv];refine sO (tg ..) ?_;unfold B7;simp;omega
 generalize DI k.d.syms.length x letters n.a=ss at hrng hslen;refine AO (λv:VRe=>⟨[(2,true,Am letters),(3,true,Am cells),(4,true,MZ v.l),(5,true,.ptr 0 0),(6,true,.ptr 1 0),(12,true,.ptr 7 0),(13,true,.bool v.ok),(14,true,Am ss),(15,true,.int .i64 v.i)],hset (rP k x) 7 (.box [.int .i64 n.k,.int .i64 n.a]),9⟩)
  (λv=>v.i<=ss.length/\v.l.length<=l.length/\OU G ss l=if v.ok=true then OU G (ss.drop v.i) v.l else(v.l,false)) (λv=>ss.length-v.i) ⟨0,l,true⟩ rfl ⟨rm _,rq _,zw⟩ ?_
 rintro⟨i,l',b⟩ ⟨hi,hl',hR⟩;simp only at hi hl' hR;cases b with
 |false=>
  rw[rj zd]at hR;rw[hR];by_cases c9:i<ss.length
  ·simp only[eZ,seval,r9,AN c9];exact Wk.refl _
  ·simp only[eZ,seval,r9,Ad c9];exact Wk.refl _
 |true=>
 rw[rt rfl]at hR;by_cases c9:i<ss.length;case neg=>
  rw[List.drop_of_length_le zo,OU]at hR;rw[hR];simp only[eZ,seval,r9,Ad c9];exact Wk.refl _
 have e:=AK (k:=i) zo;have hg:=rc c9;have hsr:=hrng _ (rY c9);rw[sn c9,OU]at hR;generalize ss[i]=s at hg hsr hR;have w1:An l'=True:=ra (by show l'.length<_;omega);have hat:n.a.toNat<cells.length:=by have:=of_eq_true y0;have:=of_eq_true y1;omega
 have hns:=OC hga (show BW cells n.a<0 by omega) hsr.1;have w2:ClP k x (cells.set n.a.toNat s)=True:=ra (eD hc hsr);have w3:(Hs (cells.set n.a.toNat s)<=f')=True:=ra zo;have w4:=hGs s l';have hlen:=Rz (vals:=AW k) (x:=x) (letters:=letters) f' (cells.set n.a.toNat s) l';rw[<-w4]at hlen;generalize G s l'=q at w4 hR hlen;simp only[eZ,seval,eY,AN c9,hg,AF,AE,AL,AY,m8,s3,Ak,Ag,BD,Au,ra hfc,y0,y1,m9,PL,u1,u2,v1,v2,uk,QT,Ma,w1,w2,w3,<-w4,e];refine .mk ⟨i+1,q.1,q.2⟩ rfl ⟨c9,zp,?_⟩ zp;simp only[];exact hR
theorem p151(h:RdC k x letters):∀(f:Nat) (cells:List Int) (l:List x9),Hs cells<=f->ClP k x cells->An l->Aw prog 151 [A5 k,BZ x,Am letters,Am cells,MZ l] (ND (Da (AW k) x letters f cells l))
 |0,cells,l,hn,hc,hl=>Ve h 0 (λf' e=>zo) cells l hn hc hl
 |f+1,cells,l,hn,hc,hl=>Ve h (f+1) (λf' e cells l hn hc hl=>by obtain rfl:=Nat.succ.inj e;exact p151 h f cells l hn hc hl) cells l hn hc hl
end
def I9(k:zx)(x:zy)(letters:List Int)(t:List x9):List x9×Bool:=Da (AW k) x letters x.cs.length (Fe x letters) t
def NE(k:zx)(x:zy):List Fs->AB->Prop×Fs:=λa _=>match a with
 |[K,X,a1,a2,a3]=>(B2.ok K/\B2.dec K=k/\dX.ok X/\dX.dec X=x/\BA.ok a1/\PrC k x (BA.dec a1)/\BA.ok a2/\BA.dec a2=Fe x (BA.dec a1)/\cU.ok a3/\An (cU.dec a3),ND (I9 k x (BA.dec a1) (cU.dec a3)))
 |_=>(False,.tup [])
def nA(k:zx)(x:zy):∀args H n,(NE k x args H).1->Ao prog 151 args H n (NE k x args H).2:=by
 intro args H n hh;unfold NE at hh⊢;split at hh
 ·obtain⟨h1,h2,h3,h4,h5,h6,h7,h8,h9,h10⟩:=hh;have w1:=B2.wk _ h1;rw[h2]at w1;have w2:=dX.wk _ h3;rw[h4]at w2;have w4:=BA.wk _ h7;rw[h8]at w4;refine AV.args ((p151 h6.rd x.cs.length _ _ TI (dv h6) h10).quiet H n) ?_;rintro g vs ⟨v1,r1,rfl,k1,v2,r2,rfl,k2,v3,r3,rfl,k3,v4,r4,rfl,k4,v5,r5,rfl,k5,k6⟩;exact⟨v1,_,rfl,w1 _ _ k1,v2,_,rfl,w2 _ _ k2,v3,_,rfl,BA.wk _ h5 _ _ k3,v4,_,rfl,w4 _ _ k4,v5,_,rfl,cU.wk _ h9 _ _ k5,k6⟩
 ·exact hh.elim
def Wz(k:zx)(x:zy):Bc:=AG 51 PI (AG 152 (s2 dX BA BgC λx l=>Am (Fe x l)) (AG 151 (NE k x) tnil))
def eJ(k:zx)(x:zy):AH prog (Wz k x):=((AH.tnil.add (nA k x)).add (q2 λx l h=>p152 x l h)).add mo
section
variable (k:zx) (x:zy) (a:List Fs) (H:AB)
end
def To{k:zx}{x:zy}{letters:List Int}{t:List x9}:decide (Cd (AW k) x letters x.cs.length (Fe x letters) t=some [])=((I9 k x letters t).2&&decide ((I9 k x letters t).1.length=0)):=by
 have h:=PJ (vals:=AW k) (x:=x) (letters:=letters) x.cs.length (Fe x letters) t;unfold I9;obtain⟨h1,h2⟩:=h;cases ht:Cd (AW k) x letters x.cs.length (Fe x letters) t with
 |none=>
  rw[ht]at h1;rw[h1];rfl
 |some r=>
  rw[ht]at h1;rw[h1,h2 r ht];cases r with
  |nil=>rfl
  |cons a r=>rfl
def QU(k:zx)(x:zy)(q:List Int×List x9):Bool:=decide (Cd (AW k) x q.1 x.cs.length (Fe x q.1) q.2=some [])
def p104(k:zx)(x:zy)(ts:List (List x9))(hk:zk k.d)(hx:xw x)(hv:BT k x=0)(ht:DU ts):Aw prog 104 [A5 k,BZ x,Bn ts] (.bool (Dt (AW k) x ts)):=by
 have u1:B2.ok (.agg (AF k))=True:=CC k;have u2:B2.dec (.agg (AF k))=k:=Bm k;simp only[AF,AE,AL,si,sj]at u1 u2;have v1:dX.ok (.agg (AY x))=True:=D5 x;have v2:dX.dec (.agg (AY x))=x:=C4 x;simp only[AY]at v1 v2;obtain⟨hck,hox⟩:=Rr hk hx hv;have hsy:=CP hck;have hvl:(AW k).length=k.d.syms.length:=by unfold AW;rw[r9]
 have hPr:∀l∈Gs k.d.syms.length x.ls.length,PrC k x l:=λl hl=>⟨hck,hk,hx,hox,hl⟩
 have hl3:x.ls.length<=3:=hox.ls.2.2.2;have z1:((k.d.syms.length:Int)<=16)=True:=ra zo;have z3:((x.ls.length:Int)<=3)=True:=ra zo;have htl:ts.length<1000000000:=ht.1;have hR:Dt (AW k) x ts=(decide ((Gs k.d.syms.length x.ls.length).length=ts.length)&&((Gs k.d.syms.length x.ls.length).zip ts).all (QU k x)):=by unfold Dt;rw[hvl];rfl
 refine .mk ⟨Aj 0 k,At 0 x,Bo 0 ts,zt⟩ zt (qQ.a (AI (eJ k x) (AJ ?_)));rw[hR];by_cases hlen:(Gs k.d.syms.length x.ls.length).length=ts.length;case neg=>
  have w3:((ts.length:Int)=((Gs k.d.syms.length x.ls.length).length:Int))=False:=ri zo;rw[sa hlen,sV];simp only[eZ,seval,rf,eY,qQ,AF,AE,AL,Wz,PI,z1,z3,w3,AG]
 have w3:((ts.length:Int)=((Gs k.d.syms.length x.ls.length).length:Int))=True:=ra zo;rw[sk hlen,sS];simp only[eZ,seval,re,eY,qQ,AF,AE,AL,Wz,PI,z1,z3,w3,AG];generalize Gs k.d.syms.length x.ls.length=A at hPr hlen;refine AO (λi:Nat=>⟨[(3,true,.ptr 0 0),(4,true,.ptr 1 0),(5,true,.ptr 2 0),(7,true,Bv A),(8,true,.int .i64 i)],hset (rP k x) 2 (.box [Kj ts]),4⟩) (λi=>i<=A.length/\(A.zip ts).all (QU k x)=((A.drop i).zip (ts.drop i)).all (QU k x)) (λi=>A.length-i) 0 rfl ⟨rm _,rfl⟩ ?_;rintro i ⟨hi,e9⟩;by_cases c9:i<A.length;case neg=>
  rw[List.drop_of_length_le zo,uu,List.all_nil]at e9;rw[e9];simp only[eZ,seval,r9,Ad c9]
 have hltt:i<ts.length:=zo
 have e:=AK (k:=i) zo;have hg:=rc c9;have hgt:=rc hltt;have hpr:=hPr _ (rY c9);have hft:=ht.2 _ (rY hltt);rw[sn c9,sn hltt,um,uq]at e9;generalize A[i]=l at hg hpr e9;generalize ts[i]=t at hgt hft e9;have hrr:=To (k:=k) (x:=x) (letters:=l) (t:=t);have hrf:QU k x (l,t)=((I9 k x l t).2&&decide ((I9 k x l t).1.length=0)):=hrr;rw[hrf]at e9;cases hb:(I9 k x l t).2 with
 |false=>
  rw[hb,sV,sV]at e9;rw[e9];simp only[eZ,seval,re,rf,eY,AN c9,hg,AN hltt,hgt,AF,AE,AL,AY,Wz,NE,s2,u1,u2,v1,v2,Ak,Ag,QT,Ma,ra hpr,ra hpr.bg,ra hft,uk,hb,rf,AG]
 |true=>
  rw[hb,sS]at e9;by_cases hz:(I9 k x l t).1.length=0
  ·have w5:((0:Int)<((I9 k x l t).1.length:Int))=False:=ri zo;rw[sk hz,sS]at e9;simp only[eZ,seval,re,eY,AN c9,hg,AN hltt,hgt,AF,AE,AL,AY,Wz,NE,s2,u1,u2,v1,v2,Ak,Ag,QT,Ma,ra hpr,ra hpr.bg,ra hft,uk,hb,re,w5,e,AG];exact .mk (i+1) rfl ⟨c9,e9⟩ zo
  ·have w5:((0:Int)<((I9 k x l t).1.length:Int))=True:=ra zo;rw[sa hz,sV]at e9;rw[e9];simp only[eZ,seval,re,eY,AN c9,hg,AN hltt,hgt,AF,AE,AL,AY,Wz,NE,s2,u1,u2,v1,v2,Ak,Ag,QT,Ma,ra hpr,ra hpr.bg,ra hft,uk,hb,re,w5,AG]
def nC:Bc:=AG 103 (s2 B2 dX (λk x=>RfK k/\xw x) λk x=>eI (BT k x)) (AG 104 (s3 B2 dX JM (λk x ts=>zk k.d/\xw x/\BT k x=0/\DU ts) λk x ts=>.bool (Dt (AW k) x ts)) tnil)
def eK:AH prog nC:=(AH.tnil.add (q3 λk x ts h=>p104 k x ts h.1 h.2.1 h.2.2.1 h.2.2.2)).add (q2 λk x h=>p103 k x h.1 h.2)
def p69(k:zx)(x:zy)(ts:List (List x9))(hk:RfK k)(hx:xw x)(ht:DU ts):Aw prog 69 [A5 k,BZ x,Bn ts] (CR k x ts):=by
 have u1:B2.ok (.agg (AF k))=True:=CC k;have u2:B2.dec (.agg (AF k))=k:=Bm k;simp only[AF,AE,AL,si,sj]at u1 u2;have v1:dX.ok (.agg (AY x))=True:=D5 x;have v2:dX.dec (.agg (AY x))=x:=C4 x;simp only[AY]at v1 v2;have t1:JM.ok (.agg [Kj ts])=True:=HD ts;have t2:JM.dec (.agg [Kj ts])=ts:=Fm ts;refine .mk ⟨Aj 0 k,At 0 x,Bo 0 ts,zt⟩ ?_ (c69.a (AI eK (AJ ?_)))
 ·unfold CR;split<;>exact⟨zt,zt,zt⟩
 unfold CR;by_cases hv:BT k x=0
 ·rw[rj (by simpa using hv)];simp only[eZ,seval,re,c69,AF,AE,AL,nC,s2,s3,u1,u2,v1,v2,t1,t2,ra hk,ra hk.kn.d,ra hx,ra ht,ra hv,AG];exact Wk.refl _
 ·rw[rt hv];simp only[eZ,seval,rf,c69,AF,AE,AL,nC,s2,u1,u2,v1,v2,ra hk,ra hx,ri hv,AG];exact Wk.refl _
def nD:Bc:=AG 69 (s3 B2 dX JM (λk x t=>RfK k/\xw x/\DU t) CR) tnil
def eL:AH prog nD:=AH.tnil.add (q3 λk x t h=>p69 k x t h.1 h.2.1 h.2.2)
def p41(k:zx)(x:zy)(ts:List (List x9))(hk:RfK k)(hx:xw x)(ht:DU ts):Aw prog 41 [A5 k,BZ x,Bn ts] (.bool (Dq k x ts)):=by
 have u1:B2.ok (.agg (AF k))=True:=CC k;have u2:B2.dec (.agg (AF k))=k:=Bm k;simp only[AF,AE,AL,si,sj]at u1 u2;have v1:dX.ok (.agg (AY x))=True:=D5 x;have v2:dX.dec (.agg (AY x))=x:=C4 x;simp only[AY]at v1 v2;have t1:JM.ok (.agg [Kj ts])=True:=HD ts;have t2:JM.dec (.agg [Kj ts])=ts:=Fm ts;refine .mk ⟨Aj 0 k,At 0 x,Bo 0 ts,zt⟩ zt (c41.a (AI eL (AJ ?_)));unfold Dq;by_cases hv:BT k x=0
 ·have hs:CR k x ts= .tup [.bool (Dt (AW k) x ts),.int .i64 0]:=by unfold CR;rw[rj (by simpa using hv)]
  rw[sk hv,sS];simp only[eZ,seval,eY,c41,AF,AE,AL,nD,s3,u1,u2,v1,v2,t1,t2,ra hk,ra hx,ra ht,hs,AG]
 ·have hs:CR k x ts= .tup [.bool false,.int .i64 (BT k x)]:=by unfold CR;rw[rt hv]
  rw[sa hv,sV];simp only[eZ,seval,eY,c41,AF,AE,AL,nD,s3,u1,u2,v1,v2,t1,t2,ra hk,ra hx,ra ht,hs,ri hv,AG]
def eM:Bc:=AG 44 Vc (AG 40 (s1 dX xw λx=>eI (Gt x)) (AG 41 (s3 B2 dX JM (λk x t=>RfK k/\xw x/\DU t) λk x t=>.bool (Dq k x t)) tnil))
def eO:AH prog eM:=((AH.tnil.add (q3 λk x t h=>p41 k x t h.1 h.2.1 h.2.2)).add (q1 λx h=>p40 x h)).add Ze
theorem QV(a:List Fs)(H:AB):eM 44 a H=s1 B2 RfK (λk=>.int .i64 (BM k)) a H:=rfl
theorem Zk(a:List Fs)(H:AB):eM 40 a H=s1 dX xw (λx=>eI (Gt x)) a H:=rfl
theorem Zl(a:List Fs)(H:AB):eM 41 a H=s3 B2 dX JM (λk x t=>RfK k/\xw x/\DU t) (λk x t=>.bool (Dq k x t)) a H:=rfl
def Vf{l:List zy}{s:Bs}(h:∀(j:Nat) y,j<l.length->l[j]?=some y->¬y.nm=s):Es l s=false:=by
 unfold Es;rw[uT];intro y hy;obtain⟨j,hj,rfl⟩:=sH.1 hy;rw[sa (h j _ hj (rc hj))];decide
def Vi{l:List zy}{s:Bs}{j:Nat}{y:zy}(h:l[j]?=some y)(hs:y.nm=s):Es l s=true:=by
 unfold Es;exact uF.2 ⟨y,te h,sk hs⟩
abbrev Hkl(k:zx)(l:Lbr):AB:=hset (hset Ai 0 (.box (AF k))) 1 (.box [JN l.ls,Jx l.pf])
def p20(k:zx)(l:Lbr)(hk:RfK k)(hl:FewB l):Aw prog 20 [A5 k,Ca l] (.int .i64 (Co k l)):=by
 have u1:B2.ok (.agg (AF k))=True:=CC k;have u2:B2.dec (.agg (AF k))=k:=Bm k;simp only[AF,AE,AL,si,sj]at u1 u2;have am:l.ls.length<1000000000:=hl.ls;have wu:l.pf.length<1000000000:=hl.pf;refine .mk ⟨Aj 0 k,Cb 0 l,zt⟩ zt (c20.a (AI eO (AJ ?_)));unfold Co;by_cases hck:BM k=0;case neg=>
  rw[rt hck];simp only[eZ,seval,rf,c20,AF,AE,AL,QV,s1,u1,u2,ra hk,ri hck]
 rw[rj (by simpa using hck)];by_cases wh:16<l.ls.length
 ·have w1:((16:Int)<(l.ls.length:Int))=True:=ra zo;rw[rt wh];simp only[eZ,seval,re,r9,c20,AF,AE,AL,QV,s1,u1,u2,ra hk,ra hck,w1]
 have w1:((16:Int)<(l.ls.length:Int))=False:=ri zo;rw[rj wh];by_cases hlen:l.pf.length=l.ls.length;case neg=>
  have w3:((l.pf.length:Int)=(l.ls.length:Int))=False:=ri zo;rw[rt hlen];simp only[eZ,seval,re,rf,r9,c20,AF,AE,AL,QV,s1,u1,u2,ra hk,ra hck,w1,w3]
 have w3:((l.pf.length:Int)=(l.ls.length:Int))=True:=ra zo;rw[rj (by simpa using hlen)];simp only[eZ,seval,re,r9,c20,AF,AE,AL,QV,s1,u1,u2,ra hk,ra hck,w1,w3];refine AO (λi:Nat=>⟨[(2,true,.ptr 0 0),(3,true,.ptr 1 0),(6,true,.int .i64 i)],Hkl k l,3⟩) (λi=>i<=l.ls.length/\Ff k [] l.ls l.pf=Ff k (l.ls.take i) (l.ls.drop i) (l.pf.drop i)) (λi=>l.ls.length-i) 0 rfl ⟨rm _,rfl⟩ ?_;rintro i ⟨hi,he⟩;by_cases c9:i<l.ls.length;case neg=>
  rw[List.drop_of_length_le zo,Kx]at he;rw[he];simp only[eZ,seval,r9,Ad c9]
 have e:=AK (k:=i) zo;have hltp:i<l.pf.length:=zo
 have hg:=rc c9;have hgp:=rc hltp;have hfx:=hl.lm _ (rY c9);have hfp:=hl.pr _ (rY hltp);have l5:l.ls.take (i+1)=l.ls.take i++[l.ls[i]]:=by rw[sf,hg];rfl
 rw[sn c9,sn hltp,Ff,<-l5]at he;generalize l.ls[i]=x at hg hfx l5 he;generalize l.pf[i]=pf at hgp hfp he;have v1:dX.ok (.agg (AY x))=True:=D5 x;have v2:dX.dec (.agg (AY x))=x:=C4 x;simp only[AY]at v1 v2;have t1:JM.ok (.agg [Kj pf])=True:=HD pf;have t2:JM.dec (.agg [Kj pf])=pf:=Fm pf;by_cases hc:Gt x=0;case neg=>
  rw[rt hc]at he;rw[he];simp only[eZ,seval,rf,eY,AN c9,hg,Zk,s1,v1,v2,ra hfx,ri hc]
 rw[rj (by simpa using hc)]at he;simp only[eZ,seval,re,eY,AN c9,hg,Zk,s1,v1,v2,ra hfx,ra hc];refine AO (λj:Nat=>⟨[(2,true,.ptr 0 0),(3,true,.ptr 1 0),(6,true,.int .i64 i),(8,true,.int .i64 j)],Hkl k l,3⟩) (λj=>j<=i/\∀(m:Nat) y,m<j->l.ls[m]?=some y->¬y.nm=x.nm) (λj=>i-j) 0 rfl ⟨rm _,λm y h=>zo⟩ ?_;rintro j ⟨hj,s8⟩;by_cases l9:j<i
 ·have yd:j<l.ls.length:=zo
  have hgj:=rc yd;have ej:=AK (k:=j) zo;generalize l.ls[j]=y at hgj;have htj:(l.ls.take i)[j]?=some y:=by rw[List.getElem?_take,rt l9];exact hgj
  by_cases so:y.nm=x.nm
  ·rw[rt (Vi htj so)]at he;rw[he];simp only[eZ,seval,eY,AN l9,AN c9,hg,AN yd,hgj,BB,so,uk]
  ·simp only[eZ,seval,eY,AN l9,AN c9,hg,AN yd,hgj,BB,A3 so,ej];refine .mk (j+1) rfl ⟨l9,λm z hm hz=>?_⟩ zo;by_cases w:m<j
   ·exact s8 m z w hz
   ·obtain rfl:m=j:=zo
    rw[hgj]at hz;cases hz;exact so
 obtain rfl:j=i:=zo
 have hnf:Es (l.ls.take j) x.nm=false:=Vf λm y hm hy=>by
  rw[sD]at hm;rw[List.getElem?_take,rt zo]at hy;exact s8 m y zo hy
 rw[hnf,rj zd]at he;cases hr:Dq k x pf with
 |false=>
  rw[hr,rt rfl]at he;rw[he];simp only[eZ,seval,rf,eY,Ad l9,AN c9,hg,AN hltp,hgp,AF,AE,AL,Zl,s3,u1,u2,v1,v2,t1,t2,ra hk,ra hfx,ra hfp,hr,rf]
 |true=>
  rw[hr,rj zd]at he;simp only[eZ,seval,re,eY,Ad l9,AN c9,hg,AN hltp,hgp,AF,AE,AL,Zl,s3,u1,u2,v1,v2,t1,t2,ra hk,ra hfx,ra hfp,hr,re,e];exact .mk (j+1) rfl ⟨c9,he⟩ zo
def jR:Fs->Lbr
 | .agg [a,b]=>⟨JG MT a,JG PE b⟩
 |_=>⟨[],[]⟩
def PO(l:Lbr):jR (Ca l)=l:=by
 show Lbr.mk ((l.ls.map BZ).map MT) ((l.pf.map Bn).map PE)=l;rw[DF If,DF Gx]
def Tp:Dc Lbr:=cY Ca jR
def Zm(l:Lbr):Tp.ok (Ca l)=True:=HS PO l
def Vj(l:Lbr):Tp.dec (Ca l)=l:=PO l
def Tq(k:zx)(l:Lbr):Bc:=AG 20 (DS [A5 k,Ca l] (λ_=>True) (.int .i64 (Co k l))) (AG 40 (s1 dX xw λx=>eI (Gt x)) (AG 41 (s3 B2 dX JM (λk x t=>RfK k/\xw x/\DU t) λk x t=>.bool (Dq k x t)) tnil))
def eP{k:zx}{l:Lbr}(hk:RfK k)(hl:FewB l):AH prog (Tq k l):=((AH.tnil.add (q3 λk x t h=>p41 k x t h.1 h.2.1 h.2.2)).add (q1 λx h=>p40 x h)).add (Hf λH n _=>(p20 k l hk hl).quiet H n)
section
variable (k:zx) (l:Lbr) (a:List Fs) (H:AB)
end
abbrev Had(k:zx)(l:Lbr)(x:zy)(p:List (List x9)):AB:=hset (hset (hset (Hkl k l) 2 (.box (AY x))) 3 (.box [Kj p])) 4 (.box [.sl .nil [],.sl .nil []])
def p17(k:zx)(l:Lbr)(x:zy)(p:List (List x9))(hk:RfK k)(hl:FewB l)(hx:xw x)(hp:DU p):Aw prog 17 [A5 k,Ca l,BZ x,Bn p] (DD k l x p):=by
 have u1:B2.ok (.agg (AF k))=True:=CC k;have u2:B2.dec (.agg (AF k))=k:=Bm k;have u3:([.agg (AF k),Ca l]=[A5 k,Ca l])=True:=ra rfl;simp only[AF,AE,AL,si,sj]at u1 u2 u3;have v1:dX.ok (.agg (AY x))=True:=D5 x;have v2:dX.dec (.agg (AY x))=x:=C4 x;simp only[AY]at v1 v2;have t1:JM.ok (.agg [Kj p])=True:=HD p;have t2:JM.dec (.agg [Kj p])=p:=Fm p;have am:l.ls.length<1000000000:=hl.ls;have wu:l.pf.length<1000000000:=hl.pf;refine .mk ⟨Aj 0 k,Cb 0 l,At 0 x,Bo 0 p,zt⟩ ?_ (c17.a (AI (eP hk hl) (AJ ?_)))
 ·unfold DD;split
  ·exact⟨⟨⟨zt,zt⟩,⟨zt,zt⟩,zt⟩,zt,zt⟩
  ·exact⟨Cb 0 _,zt,zt⟩
 have none:∀e:Int,e≠0->Cg k l x p=e->DD k l x p= .tup [Tk,.int .i64 e]:=λe h1 h2=>by unfold DD;rw[h2,rt h1]
 by_cases hv:Co k l=0;case neg=>
  rw[none (Co k l) hv (by unfold Cg;rw[rt hv])];simp only[eZ,seval,rf,BG,c17,AF,AE,AL,Tq,DS,u3,ri hv,AG];exact Wk.refl _
 by_cases hc:Gt x=0;case neg=>
  rw[none (Gt x) hc (by unfold Cg;rw[rj (by simpa using hv),rt hc])];simp only[eZ,seval,re,rf,BG,c17,AF,AE,AL,Tq,DS,u3,ra hv,s1,v1,v2,ra hx,ri hc,AG];exact Wk.refl _
 by_cases wh:l.ls.length=16
 ·have w1:((l.ls.length:Int)=16)=True:=ra zo;rw[none 2 zd (by unfold Cg;rw[rj (by simpa using hv),rj (by simpa using hc),rt wh])];simp only[eZ,seval,re,BG,r9,c17,AF,AE,AL,Tq,DS,u3,ra hv,s1,v1,v2,ra hx,ra hc,w1,AG];exact Wk.refl _
 have w1:((l.ls.length:Int)=16)=False:=ri zo;simp only[eZ,seval,re,r9,c17,AF,AE,AL,Tq,DS,u3,ra hv,s1,v1,v2,ra hx,ra hc,w1,AG];refine AO (λj:Nat=>⟨[(4,true,.ptr 0 0),(5,true,.ptr 1 0),(6,true,.ptr 2 0),(7,true,.ptr 3 0),(8,true,.ptr 4 0),(12,true,.int .i64 j)],Had k l x p,6⟩) (λj=>j<=l.ls.length/\∀(m:Nat) y,m<j->l.ls[m]?=some y->¬y.nm=x.nm) (λj=>l.ls.length-j) 0 rfl ⟨rm _,λm y h=>zo⟩ ?_;rintro j ⟨hj,s8⟩;by_cases l9:j<l.ls.length
 ·have hgj:=rc l9;have ej:=AK (k:=j) zo;generalize l.ls[j]=y at hgj;by_cases so:y.nm=x.nm
  ·rw[none 161 zd (by unfold Cg;rw[rj (by simpa using hv),rj (by simpa using hc),rj wh,rt (Vi hgj so)])];simp only[eZ,seval,eY,BG,AN l9,hgj,AY,BB,so,uk];exact Wk.refl _
  ·simp only[eZ,seval,eY,AN l9,hgj,AY,BB,A3 so,ej];refine .mk (j+1) rfl ⟨l9,λm z hm hz=>?_⟩ zo;by_cases w:m<j
   ·exact s8 m z w hz
   ·obtain rfl:m=j:=zo
    rw[hgj]at hz;cases hz;exact so
 obtain rfl:j=l.ls.length:=zo
 have hnf:Es l.ls x.nm=false:=Vf s8;cases hr:Dq k x p with
 |false=>
  rw[none 310 zd (by unfold Cg;rw[rj (by simpa using hv),rj (by simpa using hc),rj wh,hnf,hr,rj zd,rt rfl])];simp only[eZ,seval,rf,BG,r9,Ad l9,AF,AE,AL,AY,Tq,s3,u1,u2,v1,v2,t1,t2,ra hk,ra hx,ra hp,hr,rf,AG];exact Wk.refl _
 |true=>
  have hE:Cg k l x p=0:=by unfold Cg;rw[rj (by simpa using hv),rj (by simpa using hc),rj wh,hnf,hr,rj zd,rj zd]
  have hS:DD k l x p= .tup [Ca ⟨l.ls++[x],l.pf++[p]⟩,.int .i64 0]:=by unfold DD;rw[hE,rj zd]
  rw[hS];have s1':Al l.ls.length 136=True:=ra (Ac zo zd);have s2':Al (l.ls.length+1) 136=True:=ra (Ac zo zd);have s3':Al l.pf.length 24=True:=ra (Ac zo zd);have s4':Al (l.pf.length+1) 24=True:=ra (Ac zo zd);have b1:(l.ls.length<=35184372088832)=True:=ra zo;have b2:(l.ls.length<=35184372088831)=True:=ra zo;have b3:(l.pf.length<=35184372088832)=True:=ra zo;have b4:(l.pf.length<=35184372088831)=True:=ra zo;simp only[eZ,seval,re,BG,r9,Ad l9,AF,AE,AL,AY,Tq,s3,u1,u2,v1,v2,t1,t2,ra hk,ra hx,ra hp,hr,re,AQ,s1',s2',s3',s4',b1,b2,b3,b4,AG];refine Wk.tup (.cons (Wk.agg (.cons ?_ (.cons ?_ .nil))) (.cons (Wk.refl _) .nil))
  ·show Wk _ (.sl (.none 8) ((l.ls++[x]).map BZ));rw[rz];exact Wk.sl (.inl rfl)
  ·show Wk _ (.sl (.none 1) ((l.pf++[p]).map Bn));rw[rz];exact Wk.sl (.inl rfl)
def nE:Bc:=AG 42 (s2 dX dX (λa b=>xw a/\a=b) λa b=>.bool true) (AG 12 (s2 JM JM (λa b=>DU a/\a=b) λa b=>.bool true) tnil)
def eQ:AH prog nE:=(AH.tnil.add (q2 λa b h=>(p12 a b h.1).all (by rw[sk h.2]))).add (q2 λa b h=>(p42 a b h.1).all (by rw[h.2,S3]))
def p18(l:Lbr)(hl:FewB l):Aw prog 18 [Ca l,Ca l] (.bool true):=by
 refine .mk ⟨Cb 0 l,Cb 0 l,zt⟩ zt (c18.a (AI eQ (AJ ?_)));have am:l.ls.length<1000000000:=hl.ls;have wu:l.pf.length<1000000000:=hl.pf;simp only[eZ,seval,re,r9,c18,uk];refine AO (λi:Nat=>⟨[(2,true,.ptr 0 0),(3,true,.ptr 1 0),(5,true,.int .i64 i)],hset (hset Ai 0 (.box [JN l.ls,Jx l.pf])) 1 (.box [JN l.ls,Jx l.pf]),3⟩) (λi=>i<=l.ls.length) (λi=>l.ls.length-i) 0 rfl (rm _) ?_;intro i hi;by_cases c9:i<l.ls.length
 ·have hg:=rc c9;have hfx:=hl.lm _ (rY c9);have e:=AK (k:=i) zo;generalize l.ls[i]=x at hg hfx;have v1:dX.ok (.agg (AY x))=True:=D5 x;have v2:dX.dec (.agg (AY x))=x:=C4 x;simp only[AY]at v1 v2;simp only[eZ,seval,re,eY,AN c9,hg,nE,s2,v1,v2,ra hfx,uk,re,e,AG];exact .mk (i+1) rfl c9 zo
 simp only[eZ,seval,r9,Ad c9];refine AO (λi:Nat=>⟨[(2,true,.ptr 0 0),(3,true,.ptr 1 0),(6,true,.int .i64 i)],hset (hset Ai 0 (.box [JN l.ls,Jx l.pf])) 1 (.box [JN l.ls,Jx l.pf]),3⟩) (λi=>i<=l.pf.length) (λi=>l.pf.length-i) 0 rfl (rm _) ?_;clear c9 hi i;intro i hi;by_cases c9:i<l.pf.length
 ·have hg:=rc c9;have hfx:=hl.pr _ (rY c9);have e:=AK (k:=i) zo;generalize l.pf[i]=x at hg hfx;have t1:JM.ok (.agg [Kj x])=True:=HD x;have t2:JM.dec (.agg [Kj x])=x:=Fm x;simp only[eZ,seval,re,eY,AN c9,hg,nE,s2,t1,t2,ra hfx,uk,re,e,AG];exact .mk (i+1) rfl c9 zo
 simp only[eZ,seval,r9,Ad c9]
end Go.AM
