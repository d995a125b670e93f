/-
  The reference of kinds: how many lists and elements there are · The reference of kinds: small kinds · Kinds: what is ask.
  Conditions: none beyond those of its parts.
-/
import Derived.Test.YtbngedlokkndkaaGreatDoorB8
import Derived.Test.YtbngedlokkndkaaGreatDoorB9
import Derived.Test.YtbngedlokkndkaaGreatDoorB22
import Derived.Test.YtbngedlokkndkaaGreatDoorB13
import Derived.Test.YtbngedlokkndkaaGreatDoorB11

set_option maxRecDepth 20000
set_option linter.all false
namespace Go.AM
open Go.Lib Go.Proofs Go.Proofs.Tryz
def aB:Nat->List (List Int)->Nat
 |n,[]=>n
 |n,a::r=>if n<=2000 then aB (min n 2001+1+min a.length 2001) r else n
def Ep(l:List (List Int)):Nat:=min (aB 0 l) 2001
theorem Ub:∀{n:Nat} {l:List (List Int)},aB n l<=2000->n+l.length<=2000/\∀a∈l,a.length<=2000
 |n,[],h=>⟨by rw[aB]at h;simpa using h,λa ha=>by cases ha⟩
 |n,a::r,h=>by
  rw[aB]at h;split at h
  ·rename_i hn;have ih:=Ub h;refine⟨by have:=ih.1;rw[oI];omega,λb hb=>?_⟩;rcases ph.1 hb with rfl|hb
   ·have:=ih.1;omega
   ·exact ih.2 b hb
  ·omega
def KQ{l:List (List Int)}(h:Ep l<=2000):l.length<=2000/\∀a∈l,a.length<=2000:=by
 have:=Ub (n:=0) (l:=l) (by unfold Ep at h;omega);exact⟨zo,this.2⟩
def Ym(l:List (List Int)):Ep l<=2001:=Nat.min_le_right ..
def p20(l:List (List Int))(hw:wide l)(hws:∀a∈l,wide a):A6 prog 20 [Bm l] (.int .i64 (Ep l)):=by
 refine .mk ⟨A0 0 l,zt⟩ zt (c20.a (AE AG.sE (AF ?_)));have hw:l.length<1125899906842624:=hw;have g2000:=λ{n:Nat}=>leZ (n:=n) 2000 2000 rfl
 simp only[eE,eN,seval,c20];refine AQ (λv:Nat×Nat=>⟨[(0,true,Bm l),(3,true,.int .i64 v.2),(4,true,.int .i64 v.1)],Ac,0⟩) (λv=>v.1<=l.length/\v.2<=6000/\aB v.2 (l.drop v.1)=aB 0 l) (λv=>l.length-v.1) (0,0) rfl ⟨oq _,oq _,rfl⟩ ?_;rintro⟨i,n⟩ ⟨hi,hn,hF⟩;simp only at hi hn hF;have fin:aB 0 l=n->min (n:Int) 2001=(Ep l:Int):=λh=>by unfold Ep;rw[h];omega
 by_cases e9:i<l.length;case neg=>
  rw[qf zo,aB]at hF;simp only[eZ,seval,o6,Ah e9,fin hF.symm]
 have hd:l.drop i=l[i]::l.drop (i+1):=oX e9;rw[hd,aB]at hF;have hg:=o8 e9;have hwa:l[i].length<1125899906842624:=hws _ (oK e9);generalize l[i]=a at hF hg hwa;by_cases h2:n<=2000;case neg=>
  rw[og h2]at hF;simp only[eZ,seval,o6,AT e9,g2000,oN h2,fin hF.symm]
 rw[oE h2]at hF;have e:=AI (k:=i) zo;simp only[eZ,seval,eY,AT e9,hg,g2000,pk h2,e];have e2:IntKind.i64.wrap (IntKind.i64.wrap (min (n:Int) 2001+1)+min (a.length:Int) 2001)=((min n 2001+1+min a.length 2001:Nat):Int):=by
  rw[An (x:=min (n:Int) 2001+1) zo zo,An zo zo];omega
 rw[e2];exact .mk (i+1,min n 2001+1+min a.length 2001) rfl ⟨e9,zp,hF⟩ zp
def RG:Nat->List (List (List Int))->Nat
 |n,[]=>n
 |n,a::r=>if n<=2000 then RG (n+Ep a) r else n
theorem Uc:∀{n:Nat} {l:List (List (List Int))},RG n l<=2000->n<=2000/\∀a∈l,Ep a<=2000
 |n,[],h=>⟨h,λa ha=>by cases ha⟩
 |n,a::r,h=>by
  rw[RG]at h;split at h
  ·rename_i hn;have ih:=Uc h;refine⟨hn,λb hb=>?_⟩;rcases ph.1 hb with rfl|hb
   ·have:=ih.1;omega
   ·exact ih.2 b hb
  ·omega
def Je(k:uV):Bool:=decide (RG 0 k.ls<=2000)&&decide (Ep k.nb<=2000)&&decide (k.g.cells.length<=256)&&decide (k.g.sB.length<=300)&&C1 k.d
def T18:Bk:=AJ 20 (s1 Le (λl=>wide l/\∀a∈l,wide a) λl=>.int .i64 (Ep l)) (AJ 14 (s1 dD (λ_=>True) λd=>.bool (C1 d)) sE)
def kY:AG prog T18:=(AG.sE.add (q1 λd _=>p14 d)).add (q1 λl h=>p20 l h.1 h.2)
structure WdS(k:uV):Prop where
 nb:wide k.nb/\∀l∈k.nb,wide l
 ls:wide k.ls
 lss:∀l∈k.ls,wide l/\∀m∈l,wide m
def p7(k:uV)(hw:WdS k):A6 prog 7 [BM k] (.bool (Je k)):=by
 refine .mk ⟨Bp 0 k,zt⟩ zt (c7.a (AE kY (AF ?_)));have hl:k.ls.length<1125899906842624:=hw.ls;have g2000:=λ{n:Nat}=>leZ (n:=n) 2000 2000 rfl
 have g256:=λ{n:Nat}=>leZ (n:=n) 256 256 rfl
 have g300:=λ{n:Nat}=>leZ (n:=n) 300 300 rfl
 simp only[eE,eN,seval,c7];refine AQ (λv:Nat×Nat=>⟨[(1,true,.ptr 0 0),(3,true,.int .i64 v.2),(4,true,.int .i64 v.1)],sA Ac 0 (.box (Ab k)),2⟩) (λv=>v.1<=k.ls.length/\v.2<=6000/\RG v.2 (k.ls.drop v.1)=RG 0 k.ls) (λv=>k.ls.length-v.1) (0,0) rfl ⟨oq _,oq _,rfl⟩ ?_;rintro⟨i,n⟩ ⟨hi,hn,hF⟩;simp only at hi hn hF;have u1:dD.ok (.agg (AL k.d))=True:=Az k.d;have u2:dD.dec (.agg (AL k.d))=k.d:=Ap k.d;simp only[AL]at u1 u2;by_cases e9:i<k.ls.length;case neg=>
  rw[qf zo,RG]at hF;simp only[eZ,seval,o6,Ab,AK,AL,Ah e9,g2000,g256,g300,T18,s1,Cp,CC,u1,u2,o7 hw.nb,AJ];unfold Je;rw[<-hF]
 have hd:k.ls.drop i=k.ls[i]::k.ls.drop (i+1):=oX e9;rw[hd,RG]at hF;have hg:=o8 e9;have hwa:=hw.lss _ (oK e9);generalize k.ls[i]=a at hF hg hwa;by_cases h2:n<=2000;case neg=>
  rw[og h2]at hF;simp only[eZ,seval,o6,Ab,AK,AL,AT e9,oN h2,g2000];unfold Je;rw[<-hF,oN h2];rfl
 rw[oE h2]at hF;have e:=AI (k:=i) zo;have hla:=Ym a;have e2:IntKind.i64.wrap ((n:Int)+(Ep a:Int))=((n+Ep a:Nat):Int):=by
  rw[An zo zo];rfl
 simp only[eZ,seval,eY,Ab,AK,AL,AT e9,hg,pk h2,g2000,e,T18,s1,Cp,CC,o7 hwa,e2,AJ];exact .mk (i+1,n+Ep a) rfl ⟨e9,zp,hF⟩ zp
section
abbrev tx(s:Bs):Prop:=s.length<=1048576
abbrev DR(n:Int):Prop:=-9223372036854775808<=n/\n<9223372036854775808
structure BdD(d:x8):Prop where
 nm:tx d.nm
 uw:DR d.uw
 sh:DR d.sh
 w:DR d.w
 h:DR d.h
 ho:∀x∈d.sB,DR x
 sy:∀s∈d.sI,tx s.nm/\DR s.v
 rg:∀r∈d.sJ,tx r.nm/\∀l∈r.ls,∀x∈l,DR x
 cl:∀c∈d.sD,tx c.nm/\tx c.on/\DR c.ty/\DR c.lo/\DR c.hi
 ru:∀r∈d.sC,tx r.nm/\tx r.on/\DR r.kind/\(∀x∈r.ns,tx x)/\(∀x∈r.os,tx x)/\DR r.op/\DR r.n/\tx r.tY
structure VB(v:zk)(k n:Nat):Prop where
 f:FewV v
 d:Cy v<=k
 s:Yj v<=n
def VB.int{n:Int}(h:DR n):VB (.int n) 0 11:=⟨.int h.1 h.2,od _,od _⟩
def VB.text{s:Bs}(h:tx s):VB (.text s) 0 1048587:=⟨.text (by have:s.length<=1048576:=h;omega),od _,by have:s.length<=1048576:=h;rw[Yj];omega⟩
variable {l:List zk} {k n m:Nat}
theorem VB.all:∀{l:List zk},(∀v∈l,VB v k n)->tL l<=k/\szVs l<=l.length*n
 |[],_=>⟨oq _,by rw[szVs];exact oq _⟩
 |v::l,h=>by
  have a:=h v (po ..);have b:=VB.all λx hx=>h x (pE _ hx)
  rw[tL,szVs,oI,Nat.succ_mul];exact⟨Nat.max_le.2 ⟨a.d,b.1⟩,by have:=a.s;have:=b.2;omega⟩
theorem VB.list(hl:l.length<=m)(hm:m<100000)(h:∀v∈l,VB v k n):VB (.list l) (k+1) (11+m*n):=by
 obtain⟨a,b⟩:=VB.all h;refine⟨.list zo λv hv=>(h v hv).f,by rw[Cy];omega,?_⟩;rw[Yj];have:=qu n hl;omega
theorem VB.map{α:Type}{l:List α}{f:α->zk}(hl:l.length<=m)(hm:m<100000)(h:∀v∈l,VB (f v) k n):VB (.list (l.map f)) (k+1) (11+m*n):=
 VB.list (by rw[o6];exact hl) hm λv hv=>by
  obtain⟨a,ha,rfl⟩:=pz.1 hv;exact h a ha
theorem VB.up{v:zk}{k' n':Nat}(h:VB v k n)(hk:k<=k')(hn:n<=n'):VB v k' n':=⟨h.f,pu h.d hk,pu h.s hn⟩
structure VBs(l:List zk)(k n:Nat):Prop where
 f:∀x∈l,FewV x
 d:tL l<=k
 s:szVs l<=n
theorem VBs.nil:VBs [] k 0:=⟨λx hx=>(by cases hx),oq _,od _⟩
theorem VBs.cons{j i:Nat}{v:zk}(h:VB v j n)(t:VBs l k m)(hj:j<=k)(hi:n+m<=i):VBs (v::l) k i:=by
 refine⟨λx hx=>?_,by rw[tL];exact Nat.max_le.2 ⟨pu h.d hj,t.d⟩,by rw[szVs];have:=h.s;have:=t.s;omega⟩;rcases ph.1 hx with rfl|hx
 ·exact h.f
 ·exact t.f x hx
theorem VBs.list(t:VBs l k n)(hl:l.length<100000)(hm:11+n<=m):VB (.list l) (k+1) m:=⟨.list hl t.f,by rw[Cy];have:=t.d;omega,by rw[Yj];have:=t.s;omega⟩
theorem bd_sy{s:xz}(h:tx s.nm/\DR s.v):VB (GZ s) 1 1048700:=
 (VBs.cons (i:=1048600) (VB.text h.1) (.cons (i:=11) (VB.int h.2) .nil (od _) zd) (od _) zd).list (by decide:2<100000) zd
theorem fj{l:List Int}(hl:l.length<=40)(h:∀x∈l,DR x):VB (DF l) 1 1000:=(VB.map (m:=40) hl zd λx hx=>VB.int (h x hx)).up (od _) zd
theorem fk{l:List Bs}(hl:l.length<=20)(h:∀x∈l,tx x):VB (MK l) 1 20971800:=(VB.map (m:=20) hl zd λx hx=>VB.text (h x hx)).up (od _) zd
theorem bd_rg{r:x9}(hl:r.ls.length<=40)(hx:∀l∈r.ls,l.length<=40)(h:tx r.nm/\∀l∈r.ls,∀x∈l,DR x):VB (HM r) 3 1100000:=
 (VBs.cons (i:=1090000) (VB.text h.1) (.cons (i:=41000) ((VB.map (m:=40) hl zd λl hl=>fj (hx l hl) (h.2 l hl)).up (n':=41000) (od _) zd) .nil zd zd) zd zd).list (by show 2<100000;decide) zd
theorem bd_cl{c:x7}(h:tx c.nm/\tx c.on/\DR c.ty/\DR c.lo/\DR c.hi):VB (HX c) 1 2098000:=
 (VBs.cons (i:=2097900) (VB.text h.1) (.cons (i:=1049000) (VB.text h.2.1) (.cons (i:=33) (VB.int h.2.2.1) (.cons (i:=22) (VB.int h.2.2.2.1) (.cons (i:=11) (VB.int h.2.2.2.2) .nil (od _) zd) (od _) zd) (od _) zd) (od _) zd) (od _) zd).list (by show 5<100000;decide) zd
theorem bd_ru{r:zj}(h1:r.ns.length<=20)(h2:r.os.length<=20)(h:tx r.nm/\tx r.on/\DR r.kind/\(∀x∈r.ns,tx x)/\(∀x∈r.os,tx x)/\DR r.op/\DR r.n/\tx r.tY):VB (Ic r) 2 46000000:=by
 obtain⟨a,b,c,d,e,f,g,i⟩:=h;exact(VBs.cons (i:=45900000) (VB.text a) (.cons (i:=44800000) (VB.text b) (.cons (i:=43600000) (VB.int c) (.cons (i:=43500000) (fk h1 d) (.cons (i:=22300000) (fk h2 e) (.cons (i:=1200000) (VB.int f) (.cons (i:=1100000) (VB.int g) (.cons (i:=1050000) (VB.text i) .nil zd zd) zd zd) zd zd) zd zd) zd zd) zd zd) zd zd) zd zd).list (by show 8<100000;decide) zd
theorem bd_dg{k:uV}(hf:C1 k.d=true)(h:BdD k.d):DgOK k:=by
 unfold C1 FW Fy at hf;simp only[oo,oC,oM]at hf;obtain⟨⟨⟨⟨⟨⟨a1,a2⟩,a3⟩,a4⟩,a5⟩,a6⟩,a7⟩:=hf;have v:VB (F5 k.d) 5 1000000000:=
  (VBs.cons (k:=4) (i:=999999000) (VB.text h.nm) (.cons (i:=998000000) (VB.int h.uw) (.cons (i:=997000000) (VB.int h.sh) (.cons (i:=996000000) (VB.int h.w) (.cons (i:=995000000) (VB.int h.h) (.cons (i:=994000000) (fj a1 h.ho)
   (.cons (i:=993000000) ((VB.map (m:=20) a2 zd λs hs=>bd_sy (h.sy s hs)).up (n':=21000000) (od _) zd)
   (.cons (i:=960000000) ((VB.map (m:=8) a3 zd λr hr=>bd_rg (a6 r hr).1 (a6 r hr).2 (h.rg r hr)).up (n':=9000000) (od _) zd)
   (.cons (i:=940000000) ((VB.map (m:=8) a4 zd λc hc=>bd_cl (h.cl c hc)).up (n':=17000000) (od _) zd)
   (.cons (i:=921000000) ((VB.map (m:=20) a5 zd λr hr=>bd_ru (a7 r hr).1 (a7 r hr).2 (h.ru r hr)).up (n':=920001000) (od _) zd) .nil zd zd)
   zd zd) zd zd) zd zd) zd zd) zd zd) zd zd) zd zd) zd zd) zd zd).list (by show 10<100000;decide) zd
 have l5:∀{n m:Nat},n<=m->m<100000->n<100000:=λh g=>Nat.lt_of_le_of_lt h g
 refine⟨⟨l5 a1 zd,l5 a2 zd,l5 a3 zd,λr hr=>⟨l5 (a6 r hr).1 zd,λl hl=>l5 ((a6 r hr).2 l hl) zd⟩,l5 a4 zd,l5 a5 zd,λr hr=>⟨l5 (a7 r hr).1 zd,l5 (a7 r hr).2 zd⟩⟩,⟨v.f,pu v.d zd⟩,?_⟩;have:=UZ v.f;have:=v.s;omega
end
noncomputable def cX:Bk:=AJ 6 (SK (.bool true)) (AJ 7 (s1 DO WdS λk=>.bool (Je k)) (AJ 8 (s1 DO (λk=>zy k.d/\DgOK k) B1) (AJ 9 (s1 DO (λk=>Gm k.d/\uy k/\DgOK k) B1) (AJ 10 (s1 DO (λk=>zy k.d) λk=>.int .i64 (Cq k)) (AJ 11 (s1 DO (λk=>Gm k.d/\uy k) λk=>.int .i64 (Cq k)) (AJ 12 (s2 DO DO (λ_ b=>uL b) λa b=>.bool (decide (a=b))) (AJ 13 (s2 DO DO (λa _=>uy a) λa b=>.bool (decide (a=b))) sE)))))))
def kZ:AG prog cX:=(((((((AG.sE.add (q2 λa b h=>p13 a b h)).add (q2 λa b h=>p12 a b h)).add (q1 λk h=>p11 k h.1 h.2)).add (q1 λk h=>p10 k h)).add (q1 λk h=>p9 k h.1 h.2.1 h.2.2)).add (q1 λk h=>p8 k h.1 h.2)).add (q1 λk h=>p7 k h)).add (q0v p6)
section
variable (a:List Fs) (H:AB)
theorem Ud:cX 6 a H=SK (.bool true) a H:=rfl
theorem Ue:cX 7 a H=s1 DO WdS (λk=>.bool (Je k)) a H:=rfl
theorem fp:cX 8 a H=s1 DO (λk=>zy k.d/\DgOK k) B1 a H:=rfl
theorem ft:cX 9 a H=s1 DO (λk=>Gm k.d/\uy k/\DgOK k) B1 a H:=rfl
theorem fu:cX 10 a H=s1 DO (λk=>zy k.d) (λk=>.int .i64 (Cq k)) a H:=rfl
theorem fw:cX 11 a H=s1 DO (λk=>Gm k.d/\uy k) (λk=>.int .i64 (Cq k)) a H:=rfl
theorem gA:cX 12 a H=s2 DO DO (λ_ b=>uL b) (λa b=>.bool (decide (a=b))) a H:=rfl
theorem gB:cX 13 a H=s2 DO DO (λa _=>uy a) (λa b=>.bool (decide (a=b))) a H:=rfl
end
def RH{k:uV}(h:Je k=true)(hl:sR k.ls):C1 k.d=true/\uL k:=by
 unfold Je at h;simp only[oo,oC]at h;obtain⟨⟨⟨⟨h1,h2⟩,h3⟩,h4⟩,h5⟩:=h;obtain⟨-,l2⟩:=Uc h1;obtain⟨n1,n2⟩:=KQ h2;exact⟨h5,IZ h5,show k.g.sB.length<_ by omega,show k.g.cells.length<_ by omega,⟨show k.nb.length<_ by omega,λl hl=>show l.length<_ by have:=n2 l hl;omega⟩,hl,
  λl hl=>⟨show l.length<_ by have:=(KQ (l2 l hl)).1;omega,λm hm=>show m.length<_ by have:=(KQ (l2 l hl)).2 m hm;omega⟩⟩
def p3(a b:uV)(wa:WdS a)(wb:WdS b)(la:sR a.ls)(lb:sR b.ls)(ha:BdD a.d):A6 prog 3 [BM a,BM b] (.bool true):=by
 refine .mk ⟨Bp 0 a,Bp 0 b,zt⟩ zt (a3 (AE kZ (AF ?_)));have u1:DO.ok (.agg (Ab a))=True:=FY a;have u2:DO.dec (.agg (Ab a))=a:=Dq a;have v1:DO.ok (.agg (Ab b))=True:=FY b;have v2:DO.dec (.agg (Ab b))=b:=Dq b;simp only[Ab,AK,AL,pp,oW]at u1 u2 v1 v2;cases hfa:Je a with
 |false=>simp only[eZ,seval,o9,oh,c3,Ud,Ue,SK,s1,u1,u2,o7 wa,hfa,oh,o9]
 |true=>
 cases hfb:Je b with
 |false=>simp only[eZ,seval,o9,oh,c3,Ud,Ue,SK,s1,u1,u2,v1,v2,o7 wa,o7 wb,hfa,hfb,oh,o9]
 |true=>
 obtain⟨f1,k1⟩:=RH hfa la;obtain⟨-,k2⟩:=RH hfb lb;have hR:Gm a.d:=⟨k1.d,Xi f1⟩;have hg:=bd_dg f1 ha;have hkr:=Xj k1;by_cases hc:Cq a=0
 ·have hv:B1 a= .sH [Vh (CJ JQ (B7 (F5 a.d))),.int .i64 0]:=by unfold B1;rw[og (by simpa using hc)]
  simp only[eZ,seval,o9,eY,c3,Ud,Ue,fp,ft,fu,fw,gA,gB,SK,s1,s2,u1,u2,v1,v2,o7 wa,o7 wb,hfa,hfb,o9,hv,o7 hg,o7 hR,o7 hR.1,o7 hkr,o7 k1,o7 k2,HY,AH,ri];have ht:List.take 32 ((CJ JQ (B7 (F5 a.d))).map eB)=(CJ JQ (B7 (F5 a.d))).map eB:=oY (by rw[o6,HY];exact od _);have hc:=Pe (CJ JQ (B7 (F5 a.d)));rw[HY]at hc;rw[ht];exact⟨hc,Pf _⟩
 ·have hv:B1 a= .sH [KI,.int .i64 180]:=by unfold B1;rw[oE (by simpa using hc)]
  simp only[eZ,seval,o9,eY,c3,Ud,Ue,fp,ft,fu,fw,gA,gB,SK,s1,s2,u1,u2,v1,v2,o7 wa,o7 wb,hfa,hfb,o9,hv,KI,o7 hg,o7 hR,o7 hR.1,o7 hkr,o7 k1,o7 k2,AH,ri];exact⟨Pe (List.replicate 32 0),Pf (List.replicate 32 0)⟩
end Go.AM
