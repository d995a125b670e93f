/-
  Parts of the proof. Conditions: none.
-/
import Derived.Test.YtncahiacfdihpaaGreatDoorB17
set_option maxRecDepth 20000
set_option linter.all false
set_option maxHeartbeats 1000000
set_option maxHeartbeats 1000000
namespace Go.AM
open Go.Lib Go.Proofs Go.Proofs.Tryz
def Tlp0:Tab:=tadd 9 (s0v (.bool true)) (tadd 16 (s2 dKn dX (λk _=>WdS k) λk x=>.bool (KP k x)) (tadd 17 (s1 dPw (λp=>wide p) λp=>.bool (JZ p)) (tadd 18 (s3 dKn dX dPw (λk x p=>qk k.d/\FewL x/\TA p) Ci) (tadd 22 V1 (tadd 23 (s1 dX FewL λx=>eI (chk x)) (tadd 20 (s2 dKn dX (λk x=>qk k.d/\FewL x) ES) (tadd 11 (s2 dKn dI (λk _=>qk k.d) DY) tnil)))))))
def FM:AH prog Tlp0:=((((((((AH.tnil.add (q2 λk n h=>p11 k n h)).add (q2 λk x h=>p20 k x h.1 h.2)).add (q1 λx h=>p23 x h)).add rowKcq).add (q3 λk x p h=>p18 k x p h.1 h.2.1 h.2.2.1 h.2.2.2)).add (q1 λp h=>p17 p h)).add (q2 λk x h=>p16 k x h)).add (q0v p9))
def Tlp(k:zz)(x:jq)(lt:List Int):Tab:=tadd 24 (GA k x lt) Tlp0
def Tlp_ok{k:zz}{x:jq}{lt:List Int}(h:RdC k x lt):AH prog (Tlp k x lt):=FM.add (TF h)
section
variable (k:zz) (x:jq) (lt:List Int) (a:List Fs) (H:AC)
theorem Tlp_h:Tlp k x lt 24 a H=GA k x lt a H:=rfl
theorem Tlp_n:Tlp k x lt 9 a H=s0v (.bool true) a H:=rfl
theorem Tlp_f:Tlp k x lt 16 a H=s2 dKn dX (λk _=>WdS k) (λk x=>.bool (KP k x)) a H:=rfl
theorem Tlp_p:Tlp k x lt 17 a H=s1 dPw (λp=>wide p) (λp=>.bool (JZ p)) a H:=rfl
theorem Tlp_c:Tlp k x lt 18 a H=s3 dKn dX dPw (λk x p=>qk k.d/\FewL x/\TA p) Ci a H:=rfl
theorem Tlp_k:Tlp k x lt 22 a H=s1 dKn RfK (λk=>.int .i64 (Bg k)) a H:=rfl
theorem Tlp_z:Tlp k x lt 23 a H=s1 dX FewL (λx=>eI (chk x)) a H:=rfl
theorem Tlp_t:Tlp k x lt 20 a H=s2 dKn dX (λk x=>qk k.d/\FewL x) ES a H:=rfl
theorem Tlp_l:Tlp k x lt 11 a H=s2 dKn dI (λk _=>qk k.d) DY a H:=rfl
theorem Ic:Tlp0 9 a H=s0v (.bool true) a H:=rfl
theorem Id:Tlp0 16 a H=s2 dKn dX (λk _=>WdS k) (λk x=>.bool (KP k x)) a H:=rfl
theorem KU:Tlp0 17 a H=s1 dPw (λp=>wide p) (λp=>.bool (JZ p)) a H:=rfl
theorem M5:Tlp0 18 a H=s3 dKn dX dPw (λk x p=>qk k.d/\FewL x/\TA p) Ci a H:=rfl
theorem QX:Tlp0 22 a H=s1 dKn RfK (λk=>.int .i64 (Bg k)) a H:=rfl
theorem QY:Tlp0 23 a H=s1 dX FewL (λx=>eI (chk x)) a H:=rfl
theorem QZ:Tlp0 20 a H=s2 dKn dX (λk x=>qk k.d/\FewL x) ES a H:=rfl
theorem Qa:Tlp0 11 a H=s2 dKn dI (λk _=>qk k.d) DY a H:=rfl
end
def p5(k:zz)(x:jq)(ts:List (List jx))(at':Int)(cells:List Int)(hw:WdS k)(hwp:wide ts)(hwc:wide cells):Pur prog 5 [Bj k,encL x,HG ts,.int .i64 at',eIs cells] (.bool true):=by
 have u1:dKn.ok (.agg (AJ k))=True:=DJ k
 have u2:dKn.dec (.agg (AJ k))=k:=CG k
 simp only[AJ,AD,AI,Xr,Xq]at u1 u2
 have v1:dX.ok (.agg (Am x))=True:=LX x
 have v2:dX.dec (.agg (Am x))=x:=Gi x
 simp only[Am]at v1 v2
 have t1:dPw.ok (.agg [eTr ts])=True:=dPw_ok ts
 have t2:dPw.dec (.agg [eTr ts])=ts:=Vz ts
 refine .mk ⟨Ag 0 k,Be 0 x,FK 0 ts,trivial,AU 0 _,trivial⟩ trivial (c5.a ?_)
 cases hf:KP k x with
 |false=>
  refine AF FM (AG ?_)
  simp only[eZ,seval,W6,W8,c5,Ic,Id,s0v,s2,AJ,AD,AI,u1,u2,v1,v2,W4 hw,hf,W8,W6]
 |true=>
 cases hp:JZ ts with
 |false=>
  refine AF FM (AG ?_)
  simp only[eZ,seval,W6,W8,c5,Ic,Id,KU,s0v,s1,s2,AJ,AD,AI,u1,u2,v1,v2,t1,t2,W4 hw,W4 hwp,hf,hp,W8,W6]
 |true=>
 obtain⟨hD,hx⟩:=QL hf
 obtain⟨hl1,hl2⟩:=QN hp
 have hf18:JY k=true:=by
  unfold KP at hf
  simp only[W7]at hf
  exact hf.1.1.1.1.1
 have hR:=wds_rf hf18 hw
 have hpf:TA ts:=⟨show ts.length<_ by omega,λl hl=>show l.length<_ by have:=hl2 l hl;omega⟩
 by_cases hv:CK k x=0
 case neg=>
  have hs:Ci k x ts= .tup [.bool false,.int .i64 (CK k x)]:=by unfold Ci;rw[X6 hv]
  refine AF FM (AG ?_)
  simp only[eZ,seval,W6,W8,eY,c5,Ic,Id,KU,M5,s0v,s1,s2,s3,AJ,AD,AI,u1,u2,v1,v2,t1,t2,W4 hw,W4 hwp,hf,hp,W8,W6,W4 hD,W4 hx,W4 hpf,hs,W9 hv]
 have hs:Ci k x ts= .tup [.bool (Cs (AV k) x ts),.int .i64 0]:=by unfold Ci;rw[X0 (by simpa using hv)]
 obtain⟨hck,hox⟩:=TD hD hx hv
 have hchk:chk x=0:=by unfold chk;rw[X6 ((Hu x).2 hox)]
 have hvl:(AV k).length=k.d.syms.length:=by unfold AV;rw[W3]
 have hsy:=DC hck
 have hl3:x.ls.length<=3:=hox.ls.2.2.2
 have htr:ES k x= .tup [.bool (FG (AV k) x),.int .i64 0]:=by unfold ES;rw[X0 (by simpa using hv)]
 have hle:DY k (x.ls.length:Int)= .tup [eLl (chs k.d.syms.length x.ls.length),.int .i64 0]:=by
  unfold DY
  rw[X0 (by simpa using hck),X0 zo,X4]
 cases hS:FG (AV k) x with
 |false=>
  have hr:Cs (AV k) x ts=false:=by
   cases q:Cs (AV k) x ts with
   |false=>rfl
   |true=>rw[PC hox q]at hS;cases hS
  rw[hr]at hs
  rw[hS]at htr
  refine AF FM (AG ?_)
  simp only[eZ,seval,W6,W8,eY,c5,Ic,Id,KU,M5,QX,QY,QZ,Qa,s0v,s1,s2,s3,AJ,AD,AI,u1,u2,v1,v2,t1,t2,W4 hw,W4 hwp,hf,hp,W8,W6,W4 hD,W4 hx,W4 hpf,hs,W4 hR,hck,hchk,htr,hle,A3,Ai]
 |true=>
 rw[hS]at htr
 have hAm:∀l∈chs k.d.syms.length x.ls.length,l.length=x.ls.length:=λl hl=>(J0 hl).1
 have hAl:(chs k.d.syms.length x.ls.length).length<=4096:=by
  refine XG (P9 _ _) (XG (Nat.pow_le_pow_left hsy.2 _) (XG (Nat.pow_le_pow_right zd hl3) zd))
 have hPr:∀l∈chs k.d.syms.length x.ls.length,PrC k x l:=λl hl=>⟨hck,hD,hx,hox,hl⟩
 generalize hA:chs k.d.syms.length x.ls.length=A at hle hAm hAl hPr
 by_cases hn:A.length=0
 ·have hn':((A.length:Int)=0)=True:=W4 zo
  refine AF FM (AG ?_)
  cases hr:Cs (AV k) x ts<;>rw[hr]at hs<;>
  simp only[eZ,seval,W6,eY,c5,Ic,Id,KU,M5,QX,QY,QZ,Qa,s0v,s1,s2,s3,AJ,AD,AI,u1,u2,v1,v2,t1,t2,W4 hw,W4 hwp,hf,hp,W6,W4 hD,W4 hx,W4 hpf,hs,W4 hR,hck,hchk,htr,hle,A3,Ai,hn']
 have hn':((A.length:Int)=0)=False:=W9 zo
 by_cases m8:cells.length=x.cs.length
 case neg=>
  have hc':((cells.length:Int)=(x.cs.length:Int))=False:=W9 zo
  refine AF FM (AG ?_)
  cases hr:Cs (AV k) x ts<;>rw[hr]at hs<;>
  simp only[eZ,seval,W6,W8,eY,c5,Ic,Id,KU,M5,QX,QY,QZ,Qa,s0v,s1,s2,s3,AJ,AD,AI,u1,u2,v1,v2,t1,t2,W4 hw,W4 hwp,hf,hp,W8,W6,W4 hD,W4 hx,W4 hpf,hs,W4 hR,hck,hchk,htr,hle,A3,Ai,hn',hc']
 have hc':((cells.length:Int)=(x.cs.length:Int))=True:=W4 zo
 obtain⟨j,hj,hje⟩:∃j,j<A.length/\j=(IntKind.wrap .u64 at').toNat % A.length:=⟨_,Nat.mod_lt _ zo,rfl⟩
 have hu:IntKind.wrap .u64 (A.length:Int)=(A.length:Int):=by
  show((A.length:Int) % 18446744073709551616)=_
  omega
 have hJ:IntKind.wrap .i64 ((IntKind.wrap .u64 at').tmod (A.length:Int))=(j:Int):=by
  obtain⟨M,hM⟩:∃M:Nat,IntKind.wrap .u64 at'=(M:Int):=⟨(IntKind.wrap .u64 at').toNat,by
   have:0<=IntKind.wrap .u64 at':=by show 0<=at' % 18446744073709551616;omega
   omega⟩
  rw[hM]at hje⊢
  rw[X4]at hje
  show IntKind.wrap .i64 ((M % A.length:Nat):Int)=_
  rw[<-hje,Aq zo zo]
 have hg:=W5 hj
 have hlm:=Xa hj
 have c6:=hAm _ hlm
 have hpr:=hPr _ hlm
 generalize A[j]=lt at hg hlm c6 hpr
 have w1:((lt.length:Int)=(x.ls.length:Int))=True:=W4 zo
 have w2:((j:Int)<(A.length:Int))=True:=W4 zo
 have w3:(0<=(j:Int))=True:=W4 zo
 have hcx:=hox.c
 have hlx:=hox.l
 rw[<-c6]at hlx
 have g2:=BG hlx.1 hlx.2
 have hx4:=hox.cs.2.2.2
 refine AF (Tlp_ok hpr.rd) (AG ?_)
 have main:(λi:Nat=>i<=cells.length/\∀(j:Nat) s,j<i->cells[j]?=some s->okSy k s/\((j:Int)=x.c->s=at0 lt x.l)) cells.length->FlC k x cells/\at0 cells x.c=at0 lt x.l:=by
  rintro⟨-,h⟩
  refine⟨⟨m8,λs hs=>?_⟩,?_⟩
  ·obtain⟨i,hi,rfl⟩:=Xn.1 hs
   exact(h i _ hi (W5 hi)).1
  ·have hb:x.c<(cells.length:Int):=by rw[m8];exact hcx.2
   exact(h x.c.toNat _ zo (BG hcx.1 hb)).2 zo
 have fin:FlC k x cells/\at0 cells x.c=at0 lt x.l->CW (AV k) x lt cells=false:=by
  rintro⟨h1,h2⟩
  cases q:CW (AV k) x lt cells with
  |false=>rfl
  |true=>
   exact absurd ⟨h1.len,λs hs=>by have:=h1.sy s hs;rw[hvl];exact this,h2,q⟩ ((LU hox).1 hS lt (by rw[hvl,hA];exact hlm) cells)
 cases hr:Cs (AV k) x ts<;>rw[hr]at hs<;>
 simp only[eZ,seval,W6,eY,c5,Tlp_n,Tlp_f,Tlp_p,Tlp_c,Tlp_k,Tlp_z,Tlp_t,Tlp_l,s0v,s1,s2,s3,AJ,AD,AI,u1,u2,v1,v2,t1,t2,W4 hw,W4 hwp,hf,hp,W6,W4 hD,W4 hx,W4 hpf,hs,W4 hR,hck,hchk,htr,hle,A3,Ai,hn',hc',hu,hJ,w1,w2,w3,hg]
 all_goals
  refine AL (λi:Nat=>⟨[(4,true,eIs cells),(5,true,.ptr 0 0),(6,true,.ptr 1 0),(17,true,eIs lt),(108,true,eIs cells),(109,true,.int .i64 cells.length),(110,true,.int .i64 i)],hset (hset (hset hnil 0 (.box (AJ k))) 1 (.box (Am x))) 2 (.box [eTr ts]),4⟩) (λi=>i<=cells.length/\∀(j:Nat) s,j<i->cells[j]?=some s->okSy k s/\((j:Int)=x.c->s=at0 lt x.l)) (λi=>cells.length-i) 0 rfl ⟨X3 _,λj s h=>zo⟩ ?_
  rintro i ⟨hi,i4⟩
  by_cases m9:i<cells.length
  ·have hgc:=W5 m9
   have e:=AE (k:=i) zo
   generalize cells[i]=s at hgc
   by_cases c1:s<0
   ·simp only[eZ,seval,W6,eY,c1,lt_T m9,hgc]
   by_cases c2:(k.d.syms.length:Int)<=s
   ·simp only[eZ,seval,eY,lt_T m9,hgc,W9 c1,AJ,AD,AI,W4 c2]
   have hsy:okSy k s:=⟨zo,zo⟩
   have next:((i:Int)=x.c->s=at0 lt x.l)->(i+1<=cells.length/\∀(j:Nat) t,j<i+1->cells[j]?=some t->okSy k t/\((j:Int)=x.c->t=at0 lt x.l)):=λhz=>by
    refine⟨m9,λj t hj ht=>?_⟩
    by_cases w:j<i
    ·exact i4 j t w ht
    ·obtain rfl:j=i:=zo
     rw[hgc]at ht;cases ht;exact⟨hsy,hz⟩
   by_cases c3:(i:Int)=x.c
   ·by_cases c4:s=at0 lt x.l
    ·simp only[eZ,seval,W6,eY,lt_T m9,hgc,W9 c1,AJ,AD,AI,Am,W9 c2,W4 c3,W4 hlx.1,W4 hlx.2,g2,W4 c4,e]
     exact .mk (i+1) rfl (next λ_=>c4) zo
    ·simp only[eZ,seval,W8,eY,lt_T m9,hgc,W9 c1,AJ,AD,AI,Am,W9 c2,W4 c3,W4 hlx.1,W4 hlx.2,g2,W9 c4]
   ·simp only[eZ,seval,eY,lt_T m9,hgc,W9 c1,AJ,AD,AI,Am,W9 c2,W9 c3,e]
    exact .mk (i+1) rfl (next λq=>absurd q c3) zo
  obtain rfl:i=cells.length:=zo
  have hm:=main ⟨hi,i4⟩
  have hh:=fin hm
  simp only[eZ,seval,W8,lt_F m9,AJ,AD,AI,Am,Tlp_h,GA,u1,u2,v1,v2,Af,AZ,W4 hm.1.cl,eq_self,hh,W8]
end Go.AM
