/-
  The laws of kinds: numbers that follow from names.
  Conditions: none beyond those of its parts.
-/
import Derived.Test.YtbngedlokkndkaaGreatDoorB23
import Derived.Test.YtbngedlokkndkaaGreatDoorB9

set_option maxRecDepth 20000
set_option linter.all false
namespace Go.AM
open Go.Lib Go.Proofs Go.Proofs.Tryz
section
def cV{a b c e:Int}{d:x8}(h:zy d):zy (LX a b c e d):=by
 refine⟨h.ho,h.sy,h.rg,h.rgs,?_,?_,?_⟩
 ·have:=h.cl;show(d.sD.map (Ib a)).length<_;rw[o6];exact this
 ·have:=h.ru;show(d.sC.map (KA a b c e)).length<_;rw[o6];exact this
 ·intro r hm;obtain⟨x,hx,rfl⟩:=pz.1 hm;exact h.rus x hx
variable {H:AB} {vc vr:Fs}
theorem WC{n:Nat}{d:x8}{Q:xx->AB->Nat->Prop}{x:x8}(hx:x={d with sD:=x.sD,sC:=x.sC})(hf:zy x)(h1:GA H 9 vc 6 (x.sD.map BO))(h2:GA H 13 vr 12 (x.sC.map Ao))
  (hQ:∀H',(∀i,i≠9->i≠13->AD H' i=AD H i)->Q (.ret (A9 x)) H' n):AO prog 15 [.agg (Bi d vc vr)] H n Q:=by
 refine Yk zd h1 h2 λH' hk f1 f2=>?_
 refine AO.mono ((aZ x hf).frozen (H:=H') (args':=[.agg (Bi d vc vr)]) (.cons (.agg ?_) .nil) n) ?_
 ·have r:∀a:Fs,FV H' a a:=λa=>.wk (Wk.refl a)
  rw[hx];exact .cons (r _) (.cons (r _) (.cons (r _) (.cons (r _) (.cons (r _) (.cons (r _) (.cons (r _) (.cons (r _) (.cons f1 (.cons f2 .nil)))))))))
 ·rintro o H'' n' ⟨rfl,rfl,rfl⟩;exact hQ _ hk
theorem apC2{a b c d e f v:Fs}(q:v.cells=[v]):Bw (.agg [a,b,c,d,e,f]) 2 1 6 v=(True,.agg [a,b,v,d,e,f]):=by
 rw[CO zd];simp [sQ,q]
section
variable {a b c d e f g h i j k l v:Fs} (q:v.cells=[v])
include q
theorem apN3:Bw (.agg [a,b,c,d,e,f,g,h,i,j,k,l]) 3 1 12 v=(True,.agg [a,b,c,v,e,f,g,h,i,j,k,l]):=by
 rw[CO zd];simp [sQ,q]
theorem apN6:Bw (.agg [a,b,c,d,e,f,g,h,i,j,k,l]) 6 1 12 v=(True,.agg [a,b,c,d,e,f,v,h,i,j,k,l]):=by
 rw[CO zd];simp [sQ,q]
theorem apN7:Bw (.agg [a,b,c,d,e,f,g,h,i,j,k,l]) 7 1 12 v=(True,.agg [a,b,c,d,e,f,g,v,i,j,k,l]):=by
 rw[CO zd];simp [sQ,q]
theorem apN11:Bw (.agg [a,b,c,d,e,f,g,h,i,j,k,l]) 11 1 12 v=(True,.agg [a,b,c,d,e,f,g,h,i,j,k,v]):=by
 rw[CO zd];simp [sQ,q]
end
def kV:Bk:=AJ 6 (SK (.bool true)) (AJ 14 (s1 dD I7 λd=>.bool (C1 d)) (AJ 15 (s1 dD zy A9) (AJ 12 (s2 DO DO (λ_ b=>uL b) λa b=>.bool (decide (a=b))) sE)))
theorem kX:AG prog kV:=(((AG.sE.add (q2 λa b h=>p12 a b h)).add (q1 λd h=>aZ d h)).add (q1 λd _=>p14 d)).add (q0v p6)
section
variable (a:List Fs) (H:AB)
theorem Tkd_b:kV 15 a H=s1 dD zy A9 a H:=rfl
theorem Tkd_s:kV 12 a H=s2 DO DO (λ_ b=>uL b) (λa b=>.bool (decide (a=b))) a H:=rfl
end
abbrev cW(a b c e:Int):List Fs:=[.int .i64 a,.int .i64 b,.int .i64 c,.int .i64 e]
structure IDa(d:x8)(a b c e:Int)(vc vr:Fs)(v:VNa):Prop where
 hi:v.i<=d.sD.length
 fr:AU v.H 18
 h0:AD v.H 0=some (.box (AL d))
 h1:AD v.H 1=some (.box (cW a b c e))
 h4:AD v.H 4=some (.box (Bi d vc vr))
 cs:GA v.H 9 vc 6 (Ca BO (Ib a) d.sD v.i)
 cr:GA v.H 13 vr 12 (d.sC.map Ao)
structure IDb(d:x8)(a b c e:Int)(vc vr:Fs)(v:VNa):Prop where
 hi:v.i<=d.sC.length
 fr:AU v.H 18
 h0:AD v.H 0=some (.box (AL d))
 h1:AD v.H 1=some (.box (cW a b c e))
 h4:AD v.H 4=some (.box (Bi d vc vr))
 cs:GA v.H 9 vc 6 ((d.sD.map (Ib a)).map BO)
 cr:GA v.H 13 vr 12 (Ca Ao (KA a b c e) d.sC v.i)
theorem fh(d:x8)(a b c e:Int)(hD:zy d){ml:Int}(hml:ml=(d.sC.length:Int))(hf:AU H 18)(h0:AD H 0=some (.box (AL d)))(h1:AD H 1=some (.box (cW a b c e)))(h4:AD H 4=some (.box (Bi d vc vr)))(cs:GA H 9 vc 6 ((d.sD.map (Ib a)).map BO))(cr:GA H 13 vr 12 (d.sC.map Ao)):
  Fi prog kV (F2 (Ig (DN 6 c4))) [.c (F2 (DN 6 c4))] kmQ ⟨[(2,true,.ptr 0 0),(3,true,.ptr 1 0),(5,true,.ptr 4 0),(44,true,.int .i64 ml),(45,true,.int .i64 0)],H,18⟩:=by
 subst hml;have hru:d.sC.length<1000000000:=hD.ru;simp only[eE,DN,F2,Ig,c4];refine AQ (λv:VNa=>⟨[(2,true,.ptr 0 0),(3,true,.ptr 1 0),(5,true,.ptr 4 0),(44,true,.int .i64 d.sC.length),(45,true,.int .i64 v.i)],v.H,18⟩) (IDb d a b c e vc vr) (λv=>d.sC.length-v.i) ⟨0,H⟩ rfl ⟨oq _,hf,h0,h1,h4,cs,cr⟩ ?_;rintro⟨i,H1⟩ hI;have hi:i<=d.sC.length:=hI.hi;have l0:AU H1 18:=hI.fr;have g0:AD H1 0=_:=hI.h0;have g1:AD H1 1=_:=hI.h1;have g4:AD H1 4=_:=hI.h4;have gs:GA H1 9 vc 6 ((d.sD.map (Ib a)).map BO):=hI.cs;have gr:GA H1 13 vr 12 (Ca Ao (KA a b c e) d.sC i):=hI.cr;by_cases e9:i<d.sC.length
 ·obtain⟨r1,n1,w7,rfl,ho⟩:=gr.at (i:=i) (by rw[Bf];exact e9);have hgi:=IP (enc:=Ao) (f:=KA a b c e) e9 r1;have hse:=IQ (enc:=Ao) (f:=KA a b c e) e9 r1;have hil:(i<(Ca Ao (KA a b c e) d.sC i++r1).length)=True:=o7 (by rw[ou,Bf];omega);have ew:=AI (k:=i) zo;rw[Bf]at w7;generalize d.sC[i]=x at hgi hse;generalize hA:Ca Ao (KA a b c e) d.sC i++r1=A at ho hgi hse hil;have hn2:(i<n1)=True:=o7 zo;have hn3:((i:Int)<(n1:Int))=True:=o7 zo;have p1:Bw (Ao x) 3 1 12 (.int .i64 a)=(True,Ao {x with tQ:=a}):=apN3 rfl;have p2:Bw (Ao {x with tQ:=a}) 6 1 12 (.int .i64 b)=(True,Ao {x with tQ:=a,set:=b}):=apN6 rfl;have p3:Bw (Ao {x with tQ:=a,set:=b}) 7 1 12 (.int .i64 c)=(True,Ao {x with tQ:=a,set:=b,sU:=c}):=apN7 rfl;have p4:Bw (Ao {x with tQ:=a,set:=b,sU:=c}) 11 1 12 (.int .i64 e)=(True,Ao (KA a b c e x)):=apN11 rfl;have ui:i<A.length:=hil▸trivial;have hgs:∀y,(A.set i y)[i]?=some y:=λy=>by rw[rQ ui]
  simp only[eZ,reduceCtorEq,Nat.reduceEqDiff,↓reduceIte,Nat.reduceAdd,Nat.reduceLeDiff,Nat.reduceMul,Nat.reduceLT,Int.reduceEq,Int.reduceLE,Int.reduceToNat,Nat.reduceMod,eY,AT e9,g1,g4,ho,hgi,hil,ew,hn3,p1,p2,p3,p4,hgs,List.set_set,qN,hse,AH];refine⟨zo,zo,zo,zo,.mk ⟨i+1,sA H1 13 (.arr 12 (Ca Ao (KA a b c e) d.sC (i+1)++r1))⟩ rfl ⟨e9,l0.sA (od _) zd,by rw[AA _ _ _ _ zd];exact g0,by rw[AA _ _ _ _ zd];exact g1,by rw[AA _ _ _ _ zd];exact g4,gs.keep (AA _ _ _ _ zd),.inr ⟨r1,n1,by rw[Bf];exact w7,rfl,AC ..⟩⟩ (by show d.sC.length-(i+1)<d.sC.length-i;omega)⟩
 obtain rfl:i=d.sC.length:=zo
 rw[IN]at gr;have hDr:zy (LX a b c e d):=cV hD;have hbr:=Vc (a:=a) (b:=b) (c:=c) (e:=e) (d:=d);have hw:A9 (LX a b c e d)=A9 d:=by unfold A9;rw[hbr]
 obtain⟨k,ec,hv,hk⟩:∃k ec,A9 d= .sH [BM k,.int .i64 ec]/\uL k:=by
  unfold A9;cases hb:Ck d with
  |error e=>exact⟨DY,e,rfl,L9⟩
  |ok k=>exact⟨k,0,rfl,J9 hD hb⟩
 rw[hv]at hw;simp only[eZ,Nat.reduceEqDiff,↓reduceIte,Nat.reduceAdd,Nat.reduceLT,eY,Ah e9,g4,g0,Tkd_b,s1,Az,Ap,o7 hD,hv,AL,Ab,AK];refine⟨l0 23 zd,WC (x:=LX a b c e d) rfl hDr (gs.keep (by rw[AA _ _ _ _ zd,AA _ _ _ _ zd])) (gr.keep (by rw[AA _ _ _ _ zd,AA _ _ _ _ zd])) λH2 uR=>?_⟩;rw[hw];have b23:AD H2 23=some (.box (Ab k)):=by rw[uR 23 zd zd];exact AC ..
 have b31:AD H2 31=none:=by rw[uR 31 zd zd,AA _ _ _ _ zd,AA _ _ _ _ zd];exact l0 31 zd
 have u1:DO.ok (.agg (Ab k))=True:=FY k;have u2:DO.dec (.agg (Ab k))=k:=Dq k;simp only[Ab,AK,AL,pp,oW]at u1 u2;simp only[eZ,reduceCtorEq,Nat.reduceEqDiff,↓reduceIte,Nat.reduceAdd,Nat.reduceLT,eY,BG,b23,b31,AL,Ab,AK,Tkd_s,s2,u1,u2,o7 hk,ri]
theorem fi(d:x8)(a b c e:Int)(hD:zy d){ml:Int}(hml:ml=(d.sD.length:Int))(hf:AU H 18)(h0:AD H 0=some (.box (AL d)))(h1:AD H 1=some (.box (cW a b c e)))(h4:AD H 4=some (.box (Bi d vc vr)))(cs:GA H 9 vc 6 (d.sD.map BO))(cr:GA H 13 vr 12 (d.sC.map Ao)):
  Fi prog kV (F2 (Ig (DN 5 c4))) [.c (F2 (DN 5 c4))] kmQ ⟨[(2,true,.ptr 0 0),(3,true,.ptr 1 0),(5,true,.ptr 4 0),(30,true,.int .i64 ml),(31,true,.int .i64 0)],H,18⟩:=by
 subst hml;have hcl:d.sD.length<1000000000:=hD.cl;simp only[eE,DN,F2,Ig,c4];refine AQ (λv:VNa=>⟨[(2,true,.ptr 0 0),(3,true,.ptr 1 0),(5,true,.ptr 4 0),(30,true,.int .i64 d.sD.length),(31,true,.int .i64 v.i)],v.H,18⟩) (IDa d a b c e vc vr) (λv=>d.sD.length-v.i) ⟨0,H⟩ rfl ⟨oq _,hf,h0,h1,h4,cs,cr⟩ ?_;rintro⟨i,H1⟩ hI;have hi:i<=d.sD.length:=hI.hi;have l0:AU H1 18:=hI.fr;have g0:AD H1 0=_:=hI.h0;have g1:AD H1 1=_:=hI.h1;have g4:AD H1 4=_:=hI.h4;have gs:GA H1 9 vc 6 (Ca BO (Ib a) d.sD i):=hI.cs;have gr:GA H1 13 vr 12 (d.sC.map Ao):=hI.cr;by_cases e9:i<d.sD.length
 ·obtain⟨r1,n1,w7,rfl,ho⟩:=gs.at (i:=i) (by rw[Bf];exact e9);have hgi:=IP (enc:=BO) (f:=Ib a) e9 r1;have hse:=IQ (enc:=BO) (f:=Ib a) e9 r1;have hil:(i<(Ca BO (Ib a) d.sD i++r1).length)=True:=o7 (by rw[ou,Bf];omega);have ew:=AI (k:=i) zo;rw[Bf]at w7;generalize d.sD[i]=x at hgi hse;generalize hA:Ca BO (Ib a) d.sD i++r1=A at ho hgi hse hil;have hn2:(i<n1)=True:=o7 zo;have hn3:((i:Int)<(n1:Int))=True:=o7 zo;have p1:Bw (BO x) 2 1 6 (.int .i64 a)=(True,BO (Ib a x)):=apC2 rfl;simp only[eZ,Nat.reduceEqDiff,↓reduceIte,Nat.reduceAdd,Nat.reduceLeDiff,Nat.reduceMul,Int.reduceEq,eY,AT e9,g1,g4,ho,hgi,hil,ew,hn3,p1,hse];refine⟨zo,.mk ⟨i+1,sA H1 9 (.arr 6 (Ca BO (Ib a) d.sD (i+1)++r1))⟩ rfl ⟨e9,l0.sA (od _) zd,by rw[AA _ _ _ _ zd];exact g0,by rw[AA _ _ _ _ zd];exact g1,by rw[AA _ _ _ _ zd];exact g4,.inr ⟨r1,n1,by rw[Bf];exact w7,rfl,AC ..⟩,gr.keep (AA _ _ _ _ zd)⟩ (by show d.sD.length-(i+1)<d.sD.length-i;omega)⟩
 obtain rfl:i=d.sD.length:=zo
 rw[IN]at gs;rcases gr with⟨q0,t,rfl,ht⟩|⟨r2,n2,hn2,rfl,a2⟩
 ·have z:=fh d a b c e hD (ml:=((0:Nat):Int)) (by rw[<-o6 (f:=Ao),q0];rfl) l0 g0 g1 g4 gs (.inl ⟨q0,t,rfl,ht⟩);simp only[eE,c0,DN,F2,Ig,c4]at z;simp only[eZ,Nat.reduceEqDiff,↓reduceIte,Nat.reduceAdd,c0,Ah e9,g4];exact z
 ·have z:=fh d a b c e hD (ml:=(n2:Int)) (by rw[hn2,o6]) l0 g0 g1 g4 gs (.inr ⟨r2,n2,hn2,rfl,a2⟩);simp only[eE,DN,F2,Ig,c4]at z;simp only[eZ,Nat.reduceEqDiff,↓reduceIte,Nat.reduceAdd,Ah e9,g4];exact z
theorem p4(d:x8)(a b c e:Int):A6 prog 4 [Ba d,.agg (cW a b c e)] (.bool true):=by
 refine .mk ⟨Ag 0 d,⟨zt,zt,zt,zt,zt⟩,zt⟩ zt (c4.a (AE kX (AF ?_)));cases hf:C1 d with
 |false=>simp only[eZ,seval,o9,oh,c4,kV,SK,s1,Az,Ap,hf,oh,o9,AJ]
 |true=>
 have hD:=IZ hf;have hcl:d.sD.length<1000000000:=hD.cl;have hru:d.sC.length<1000000000:=hD.ru;simp only[eZ,eX,seval,o9,o6,c4,kV,SK,s1,Az,Ap,hf,o9,AJ];refine Jd (by simp only[AN];rfl) zd rfl (.inr rfl) (AY (by rw[o6];omega) zd) (by rw[o6];omega) λH1 vc k1 c1=>?_
 have a0:AD H1 0=some (.box (AL d)):=by rw[k1 0 zd];rfl
 have a1:AD H1 1=some (.box (cW a b c e)):=by rw[k1 1 zd];rfl
 have a4:AD H1 4=some (.box (AL d)):=by rw[k1 4 zd];rfl
 have a13:AD H1 13=none:=by rw[k1 13 zd];rfl
 have f1:∀i,10<=i->AD H1 i=none:=λi hi=>by
  rw[k1 i zo];simp only[AN];repeat rw[og zo]
  rfl
 simp only[eE,eX,seval,o6,IV];refine Jd a13 zd rfl (.inr rfl) (AY (by rw[o6];omega) zd) (by rw[o6];omega) λH2 vr k2 c2=>?_
 have b0:AD H2 0=some (.box (AL d)):=by rw[k2 0 zd];exact a0
 have b1:AD H2 1=some (.box (cW a b c e)):=by rw[k2 1 zd];exact a1
 have b4:AD H2 4=some (.box (AL d)):=by rw[k2 4 zd];exact a4
 simp only[eE,seval,IV,b4,AH,c1.cells,c2.cells,G9];refine⟨c1.nT,c2.nT,?_⟩;rw[DK];have cs:GA (sA H2 4 (.box (Bi d vc vr))) 9 vc 6 (d.sD.map BO):=c1.keep (by rw[AA _ _ _ _ zd,k2 9 zd]);have cr:GA (sA H2 4 (.box (Bi d vc vr))) 13 vr 12 (d.sC.map Ao):=c2.keep (AA _ _ _ _ zd);have fr:AU (sA H2 4 (.box (Bi d vc vr))) 18:=λi hi=>by rw[AA _ _ _ _ zo,k2 i zo];exact f1 i zo
 have g0:AD (sA H2 4 (.box (Bi d vc vr))) 0=some (.box (AL d)):=by rw[AA _ _ _ _ zd];exact b0
 have g1:AD (sA H2 4 (.box (Bi d vc vr))) 1=some (.box (cW a b c e)):=by rw[AA _ _ _ _ zd];exact b1
 rcases c1 with⟨s0,t,rfl,ht⟩|⟨r1,n1,w7,rfl,a1⟩
 ·simp only[eE,seval];rw[DK];exact fi d a b c e hD (by rw[<-o6 (f:=BO),s0];rfl) fr g0 g1 (AC ..) cs cr
 ·simp only[eE,seval];rw[DK];exact fi d a b c e hD (by rw[w7,o6]) fr g0 g1 (AC ..) cs cr
end
end Go.AM
