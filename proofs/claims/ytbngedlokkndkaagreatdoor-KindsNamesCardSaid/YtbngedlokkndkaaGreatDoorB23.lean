/-
  The laws of kinds: all names of symbols made longer by the same bytes.
  Conditions: none beyond those of its parts.
-/
import Derived.Test.YtbngedlokkndkaaGreatDoorB13
import Derived.Test.YtbngedlokkndkaaGreatDoorB22
import Derived.Test.YtbngedlokkndkaaGreatDoorB11
import Derived.Test.YtbngedlokkndkaaGreatDoorB10

set_option maxRecDepth 20000
set_option linter.all false
namespace Go.AM
open Go.Lib Go.Proofs Go.Proofs.Tryz
structure ILk(m:Nat)(ns:List Bs)(v:VNm):Prop where
 hi:v.i<=m
 fr:AU v.H v.n
 tok:EG 1 0 v.H v.tk
 es:v.tk.esz=1\/ns=[]
def p16(l:List Bs)(m:Bs)(hl:sR l)(hb:∀s∈l,s.length+m.length<=9223372036854775807):A6 prog 16 [Fw l,.str m] (Fw (l.map (· ++m))):=by
 refine .mk ⟨Bo 0 _,zt,zt⟩ (Bo 0 _) (c16.a (AE AG.sE (AF ?_)));have hcl:l.length<1000000000:=hl;simp only[eE,eN,seval,o6,c16];refine AQ (λv:VNm=>⟨[(1,true,.str m),(5,true,.sl v.tk ((Kv [] (λx:Bs=>x++m) l v.i).map .str)),(8,true,Fw l),(9,true,.int .i64 l.length),(10,true,.int .i64 v.i)],v.H,v.n⟩) (λv=>ILk l.length (Kv [] (λx:Bs=>x++m) l v.i) v) (λv=>l.length-v.i)
  ⟨0,.nil,Ac,0⟩ rfl ⟨oq _,AU.nil,.inl rfl,.inr rfl⟩ ?_
 rintro⟨i,tk,H,n⟩ ⟨hi,l0,l6,s9⟩;simp only at hi l0 l6 s9;by_cases e9:i<l.length
 ·have hg:=o8 e9;have e:=AI (k:=i) zo;have te:=HS [] (λx:Bs=>x++m) e9;have hnl:=JE [] (λx:Bs=>x++m) l i;have hil:([]:List Bs).length<=8:=zd
  have hbx:=hb _ (oK e9);generalize l[i]=x at hg te hbx;generalize hL:Kv [] (λx:Bs=>x++m) l i=L at te l6 s9 hnl⊢;have q1:At H 1 tk=True:=o7 l6.app;have q2:(L.length<=35184372088831)=True:=o7 (by simp only[pd]at hnl;omega);have q3:small (L.length+1) 16=True:=o7 (by unfold small;simp only[pd]at hnl;omega);simp only[eZ,seval,eY,AT e9,hg,e,Bx l0,q1,q2,q3,hbx];refine .mk ⟨i+1,.own (n+5) 1,sA (AR H tk) (n+5) .tok,n+7⟩ ?_ ?_ zp
  ·simp only[te,oD];rfl
  ·exact⟨e9,(AZ l6 l0).sA (m:=n+7) zo zo,.inr (.inr ⟨n+5,rfl,zo,AC ..⟩),.inl rfl⟩
 obtain rfl:i=l.length:=zo
 have hNA:=JF [] (λx:Bs=>x++m) l;rw[hNA]at s9;rw[oW]at hNA s9;simp only[eZ,seval,Ah e9,hNA];exact Wk.sl (s9.imp id λq=>by rw[q];rfl)
def GA(H:AB)(id:Nat)(v:Fs)(e:Nat)(l:List Fs):Prop:=
 (l=[]/\∃t,v= .sl t []/\(t= .nil\/t= .exact e))\/∃(rest:List Fs) (n:Nat),n=l.length/\v= .ref id e 0 n (n+rest.length)/\AD H id=some (.arr e (l++rest))
section
variable {H:AB} {id e:Nat} {v:Fs} {l:List Fs}
theorem GA.keep{H':AB}(h:GA H id v e l)(hk:AD H' id=AD H id):GA H' id v e l:=by
 rcases h with h|⟨r,k,h0,h1,h2⟩
 ·exact .inl h
 ·exact .inr ⟨r,k,h0,h1,by rw[hk];exact h2⟩
theorem GA.cells(h:GA H id v e l):v.cells=[v]:=by rcases h with⟨_,t,rfl,_⟩|⟨r,k,_,rfl,_⟩<;>rfl
theorem GA.nT(h:GA H id v e l):nT v:=by
 rcases h with⟨_,t,rfl,ht⟩|⟨r,k,_,rfl,_⟩
 ·rcases ht with rfl|rfl<;>first|trivial|(simp only[AM.nT];done)|exact⟨zt,zt⟩
 ·first|trivial|(simp only[AM.nT];done)
theorem GA.at(h:GA H id v e l){i:Nat}(hi:i<l.length):∃(rest:List Fs) (n:Nat),n=l.length/\v= .ref id e 0 n (n+rest.length)/\AD H id=some (.arr e (l++rest)):=by
 rcases h with⟨h,_⟩|h
 ·subst h;exact absurd hi (pD _)
 ·exact h
theorem Jd{bytes:Nat}{zero:Fs}{K:AB->Fs->Prop}{tok:xv}(h0:AD H id=none)(he:0<e)(hz:zero.cells.length=e)(ht:tok= .nil\/tok= .exact e)(hs:small l.length bytes)(hl:l.length<=35184372088832)
  (hK:∀H' v,(∀i,i≠id->AD H' i=AD H i)->GA H' id v e l->K H' v):Jr H id e bytes zero K (.sl tok []) (some l):=by
 rw[DJ];refine⟨h0,he,hz,ht,by rw[pd,pn];exact hs,by rw[pd,pn];exact hl,λh=>hK H _ (λ_ _=>rfl) (.inl ⟨h,tok,rfl,ht⟩),λ_ cap hc=>?_⟩;rw[pd,pn]at hc;refine hK _ _ (λi hi=>AA _ _ _ _ hi.symm) (.inr ⟨List.replicate (cap-l.length) zero,l.length,rfl,?_,?_⟩)
 ·rw[pd,pn,pf,show l.length+(cap-l.length)=cap by omega]
 ·rw[AC,oW,pd,pn]
end
abbrev E9(d:x8)(vs vr:Fs):List Fs:=[.str d.nm,.int .i64 d.uw,.int .i64 d.sh,.int .i64 d.w,.int .i64 d.h,BY d.sB,vs,GV d.sJ,EY d.sD,vr]
def Ca{α:Type}(enc:α->Fs)(f:α->α)(l:List α)(i:Nat):List Fs:=((l.take i).map f).map enc++(l.drop i).map enc
section
variable {α:Type} {enc:α->Fs} {f:α->α} {l:List α} {i:Nat}
theorem Bf:(Ca enc f l i).length=l.length:=by
 unfold Ca;rw[ou,o6,o6,o6,oJ,pi];omega
theorem IN:Ca enc f l l.length=(l.map f).map enc:=by
 unfold Ca;rw[oF,pA,pc,oR]
theorem IP(h:i<l.length)(rest:List Fs):(Ca enc f l i++rest)[i]?=some (enc l[i]):=by
 have h1:(((l.take i).map f).map enc).length=i:=by rw[o6,o6,oJ];omega
 rw[pH (by rw[Bf];exact h)];unfold Ca;rw[pB zo,h1,sa,oX h];rfl
theorem IQ(h:i<l.length)(rest:List Fs):(Ca enc f l i++rest).set i (enc (f l[i]))=Ca enc f l (i+1)++rest:=by
 have h1:(((l.take i).map f).map enc).length=i:=by rw[o6,o6,oJ];omega
 rw[List.set_append_left _ _ (by rw[Bf];exact h)];congr 1;unfold Ca;rw[qG _ _ zo,h1,sa,oX h,oL,List.set_cons_zero,oG,o8 h,rN,oD,oD,oT];rfl
end
def Yk{H:AB}{n i1 i2 e1 e2:Nat}{v1 v2:Fs}{l1 l2:List Fs}{f:FuncId}{args:List Fs}{Q:xx->AB->Nat->Prop}(sZ:i1≠i2)(h1:GA H i1 v1 e1 l1)(h2:GA H i2 v2 e2 l2)
  (key:∀H',(∀i,i≠i1->i≠i2->AD H' i=AD H i)->FV H' (.sl (.none e1) l1) v1->FV H' (.sl (.none e2) l2) v2->AO prog f args H' n Q):AO prog f args H n Q:=by
 have wkS:∀{H':AB} {e:Nat} {l:List Fs} {t:xv},l=[]->FV H' (.sl (.none e) l) (.sl t []):=λhl=>by
  subst hl;exact .wk (Wk.sl (.inr rfl))
 have fr:∀{H':AB} {id e:Nat} {l rest:List Fs},AD H' id=some (.frz e (l++rest))->FV H' (.sl (.none e) l) (.ref id e 0 l.length (l.length+rest.length)):=λ{H' id e l rest} h=>by
  have:=FV.ref (H:=H') (off:=0) (len:=l.length) (cap:=l.length+rest.length) h (by rw[ou];omega) zo;rw[qC,List.take_left' rfl]at this;exact this
 rcases h1 with⟨s0,t,rfl,-⟩|⟨r1,k1,rfl,rfl,a1⟩
 ·rcases h2 with⟨q0,t',rfl,-⟩|⟨r2,k2,rfl,rfl,a2⟩
  ·exact key H (λ_ _ _=>rfl) (wkS s0) (wkS q0)
  ·exact AO.freeze a2 (key _ (λi _ h=>AA _ _ _ _ h.symm) (wkS s0) (fr (AC ..)))
 ·rcases h2 with⟨q0,t',rfl,-⟩|⟨r2,k2,rfl,rfl,a2⟩
  ·exact AO.freeze a1 (key _ (λi h _=>AA _ _ _ _ h.symm) (fr (AC ..)) (wkS q0))
  ·exact AO.freeze a1 (AO.freeze (id:=i2) (by rw[AA _ _ _ _ sZ];exact a2) (key _ (λi h h'=>by rw[AA _ _ _ _ h'.symm,AA _ _ _ _ h.symm]) (fr (by rw[AA _ _ _ _ sZ.symm,AC])) (fr (AC ..))))
def RE{H:AB}{n:Nat}{d:x8}{vs vr:Fs}{Q:xx->AB->Nat->Prop}{x:x8}(hx:x={d with sI:=x.sI,sC:=x.sC})(hf:zy x)(h1:GA H 8 vs 2 (x.sI.map Cb))(h2:GA H 12 vr 12 (x.sC.map Ao))
  (hQ:∀H',(∀i,i≠8->i≠12->AD H' i=AD H i)->Q (.ret (A9 x)) H' n):AO prog 15 [.agg (E9 d vs vr)] H n Q:=by
 refine Yk zd h1 h2 λH' hk f1 f2=>?_
 refine AO.mono ((aZ x hf).frozen (H:=H') (args':=[.agg (E9 d vs vr)]) (.cons (.agg ?_) .nil) n) ?_
 ·have r:∀a:Fs,FV H' a a:=λa=>.wk (Wk.refl a)
  rw[hx];exact .cons (r _) (.cons (r _) (.cons (r _) (.cons (r _) (.cons (r _) (.cons (r _) (.cons f1 (.cons (r _) (.cons (r _) (.cons f2 .nil)))))))))
 ·rintro o H'' n' ⟨rfl,rfl,rfl⟩;exact hQ _ hk
def RF{d:x8}(h:C1 d=true):∀r∈d.sC,sR r.ns/\sR r.os:=by
 unfold C1 FW Fy at h;simp only[oo,oC,oM]at h;exact λr hm=>by have:=h.2 r hm;exact⟨show r.ns.length<_ by omega,show r.os.length<_ by omega⟩
def cU{m:Bs}{d:x8}(h:zy d)(h16:C1 d=true):zy (Cd m d):=by
 have hr:=RF h16;refine⟨h.ho,?_,h.rg,h.rgs,h.cl,?_,?_⟩
 ·have:=h.sy;show(d.sI.map (HL m)).length<_;rw[o6];exact this
 ·have:=h.ru;show(d.sC.map (Ea m)).length<_;rw[o6];exact this
 ·intro r hm;obtain⟨x,hx,rfl⟩:=pz.1 hm;have:=h.rus x hx;exact⟨by show(x.ns.map _).length<_;rw[o6];exact this.1,by show(x.os.map _).length<_;rw[o6];exact this.2⟩
def Ph(m:Bs)(d:x8):Prop:=(∀s∈d.sI,s.nm.length+m.length<=9223372036854775807)/\∀r∈d.sC,(∀x∈r.ns,x.length+m.length<=9223372036854775807)/\∀x∈r.os,x.length+m.length<=9223372036854775807
def sLg:List Fs->AB->Prop×Fs:=s2 On dS (λl m=>sR l/\∀s∈l,s.length+m.length<=9223372036854775807) λl m=>Fw (l.map (· ++m))
def Yl:Bk:=AJ 16 sLg (AJ 6 (SK (.bool true)) (AJ 14 (s1 dD I7 λd=>.bool (C1 d)) (AJ 15 (s1 dD zy A9) (AJ 12 (s2 DO DO (λ_ b=>uL b) λa b=>.bool (decide (a=b))) sE))))
def kU:AG prog Yl:=((((AG.sE.add (q2 λa b h=>p12 a b h)).add (q1 λd h=>aZ d h)).add (q1 λd _=>p14 d)).add (q0v p6)).add (q2 λl m h=>p16 l m h.1 h.2)
section
variable (a:List Fs) (H:AB)
end
def apSy{a b v:Fs}(h:v.cells=[v]):Bw (.agg [a,b]) 0 1 2 v=(True,.agg [v,b]):=by
 rw[CO zd];simp [sQ,h]
def apR4{a b c d e f g h i j k l v:Fs}(q:v.cells=[v]):Bw (.agg [a,b,c,d,e,f,g,h,i,j,k,l]) 4 1 12 v=(True,.agg [a,b,c,d,v,f,g,h,i,j,k,l]):=by
 rw[CO zd];simp [sQ,q]
def apR5{a b c d e f g h i j k l v:Fs}(q:v.cells=[v]):Bw (.agg [a,b,c,d,e,f,g,h,i,j,k,l]) 5 1 12 v=(True,.agg [a,b,c,d,e,v,g,h,i,j,k,l]):=by
 rw[CO zd];simp [sQ,q]
abbrev kmQ:x5->AS->Prop:=Co [RC.t 4] (Ok (.bool true))
structure VNa where
 i:Nat
 H:AB
structure INa(d:x8)(m:Bs)(vs vr:Fs)(v:VNa):Prop where
 hi:v.i<=d.sI.length
 fr:AU v.H 17
 h0:AD v.H 0=some (.box (AL d))
 h3:AD v.H 3=some (.box (E9 d vs vr))
 cs:GA v.H 8 vs 2 (Ca Cb (HL m) d.sI v.i)
 cr:GA v.H 12 vr 12 (d.sC.map Ao)
structure INm2(d:x8)(m:Bs)(vs vr:Fs)(v:VNa):Prop where
 hi:v.i<=d.sC.length
 fr:AU v.H 17
 h0:AD v.H 0=some (.box (AL d))
 h3:AD v.H 3=some (.box (E9 d vs vr))
 cs:GA v.H 8 vs 2 ((d.sI.map (HL m)).map Cb)
 cr:GA v.H 12 vr 12 (Ca Ao (Ea m) d.sC v.i)
theorem fe(d:x8)(m:Bs)(hD:zy d)(hf16:C1 d=true)(hm:Ph m d){vs vr:Fs}{H:AB}{ml:Int}(hml:ml=(d.sC.length:Int))(hf:AU H 17)(h0:AD H 0=some (.box (AL d)))(h3:AD H 3=some (.box (E9 d vs vr)))(cs:GA H 8 vs 2 ((d.sI.map (HL m)).map Cb))(cr:GA H 12 vr 12 (d.sC.map Ao)):
  Fi prog Yl (F2 (Ig (DN 6 c5))) [.c (F2 (DN 6 c5))] kmQ ⟨[(1,true,.str m),(2,true,.ptr 0 0),(5,true,.ptr 3 0),(52,true,.int .i64 ml),(53,true,.int .i64 0)],H,17⟩:=by
 subst hml;have hru:d.sC.length<1000000000:=hD.ru;simp only[eE,DN,F2,Ig,c5];refine AQ (λv:VNa=>⟨[(1,true,.str m),(2,true,.ptr 0 0),(5,true,.ptr 3 0),(52,true,.int .i64 d.sC.length),(53,true,.int .i64 v.i)],v.H,17⟩) (INm2 d m vs vr) (λv=>d.sC.length-v.i) ⟨0,H⟩ rfl ⟨oq _,hf,h0,h3,cs,cr⟩ ?_;rintro⟨i,H1⟩ hI;have hi:i<=d.sC.length:=hI.hi;have l0:AU H1 17:=hI.fr;have g0:AD H1 0=_:=hI.h0;have g3:AD H1 3=_:=hI.h3;have gs:GA H1 8 vs 2 ((d.sI.map (HL m)).map Cb):=hI.cs;have gr:GA H1 12 vr 12 (Ca Ao (Ea m) d.sC i):=hI.cr;by_cases e9:i<d.sC.length
 ·obtain⟨r1,n1,w7,rfl,ho⟩:=gr.at (i:=i) (by rw[Bf];exact e9);have hgi:=IP (enc:=Ao) (f:=Ea m) e9 r1;have hse:=IQ (enc:=Ao) (f:=Ea m) e9 r1;have hil:(i<(Ca Ao (Ea m) d.sC i++r1).length)=True:=o7 (by rw[ou,Bf];omega);have hbx:=hm.2 _ (oK e9);have hg:=o8 e9;have e:=AI (k:=i) zo;rw[Bf]at w7;have hfw:=RF hf16 _ (oK e9);generalize d.sC[i]=x at hgi hse hbx hg hfw;generalize hA:Ca Ao (Ea m) d.sC i++r1=A at ho hgi hse hil;have hn2:(i<n1)=True:=o7 zo;have hn3:((i:Int)<(n1:Int))=True:=o7 zo;have tW:Bw (Ao x) 4 1 12 (Fw (x.ns.map (· ++m)))=(True,Ao {x with ns:=x.ns.map (· ++m)}):=apR4 rfl;have haq:Bw (Ao {x with ns:=x.ns.map (· ++m)}) 5 1 12 (Fw (x.os.map (· ++m)))=(True,Ao (Ea m x)):=apR5 rfl;have ui:i<A.length:=hil▸trivial;have hgs:(A.set i (Ao {x with ns:=x.ns.map (· ++m)}))[i]?=some (Ao {x with ns:=x.ns.map (· ++m)}):=by rw[rQ ui]
  have fn:sR x.ns=True:=o7 hfw.1;have fo:sR x.os=True:=o7 hfw.2;have bn:(∀s∈x.ns,s.length+m.length<=9223372036854775807)=True:=o7 hbx.1;have bo:(∀s∈x.os,s.length+m.length<=9223372036854775807)=True:=o7 hbx.2;simp only[eZ,seval,eY,AT e9,g3,g0,ho,hgi,hil,hg,e,hn3,Yl,sLg,s2,FU,Do,Fc,Db,fn,fo,bn,bo,tW,haq,hgs,G9,List.set_set,qN,hse,AH,AJ];refine .mk ⟨i+1,sA H1 12 (.arr 12 (Ca Ao (Ea m) d.sC (i+1)++r1))⟩ rfl ⟨e9,l0.sA (od _) zd,by rw[AA _ _ _ _ zd];exact g0,by rw[AA _ _ _ _ zd];exact g3,gs.keep (AA _ _ _ _ zd),.inr ⟨r1,n1,by rw[Bf];exact w7,rfl,AC ..⟩⟩ (by show d.sC.length-(i+1)<d.sC.length-i;omega)
 obtain rfl:i=d.sC.length:=zo
 rw[IN]at gr;have hDr:zy (Cd m d):=cU hD hf16;have hbr:=Vb (m:=m) (d:=d);cases hb:Ck d with
 |error e=>
  have hv:A9 d= .sH [BM DY,.int .i64 e]:=by unfold A9;rw[hb]
  have hw:A9 (Cd m d)= .sH [BM DY,.int .i64 e]:=by unfold A9;rw[hbr,hb];rfl
  simp only[eZ,seval,eY,Ah e9,g3,g0,Yl,s1,Az,Ap,o7 hD,hv,AL,Ab,AK,AJ];refine⟨l0 22 zd,RE (x:=Cd m d) rfl hDr (gs.keep (by rw[AA _ _ _ _ zd,AA _ _ _ _ zd])) (gr.keep (by rw[AA _ _ _ _ zd,AA _ _ _ _ zd])) λH2 hk=>?_⟩;rw[hw];have b22:AD H2 22=some (.box (Ab DY)):=by rw[hk 22 zd zd];exact AC ..
  have b30:AD H2 30=none:=by rw[hk 30 zd zd,AA _ _ _ _ zd,AA _ _ _ _ zd];exact l0 30 zd
  have u1:DO.ok (.agg (Ab DY))=True:=FY DY;have u2:DO.dec (.agg (Ab DY))=DY:=Dq DY;simp only[Ab,AK,AL,pp,oW]at u1 u2;simp only[eZ,seval,o9,eY,BG,b22,b30,AL,Ab,AK,Yl,s2,u1,u2,o7 L9,ri,AJ]
 |ok k=>
  have hv:A9 d= .sH [BM k,.int .i64 0]:=by unfold A9;rw[hb]
  have hw:A9 (Cd m d)= .sH [BM (iw m k),.int .i64 0]:=by unfold A9;rw[hbr,hb];rfl
  simp only[eZ,seval,eY,Ah e9,g3,g0,Yl,s1,Az,Ap,o7 hD,hv,AL,Ab,AK,AJ];refine⟨l0 22 zd,RE (x:=Cd m d) rfl hDr (gs.keep (by rw[AA _ _ _ _ zd,AA _ _ _ _ zd])) (gr.keep (by rw[AA _ _ _ _ zd,AA _ _ _ _ zd])) λH2 hk=>?_⟩;rw[hw];have b22:AD H2 22=some (.box (Ab k)):=by rw[hk 22 zd zd];exact AC ..
  have b30:AD H2 30=none:=by rw[hk 30 zd zd,AA _ _ _ _ zd,AA _ _ _ _ zd];exact l0 30 zd
  have u1:DO.ok (.agg (Ab k))=True:=FY k;have u2:DO.dec (.agg (Ab k))=k:=Dq k;simp only[Ab,AK,AL,pp,oW]at u1 u2;simp only[eZ,seval,o9,eY,BG,b22,b30,iw,Cd,AL,Ab,AK,Yl,s2,u1,u2,o7 (J9 hD hb),ri,AJ]
def fg(d:x8)(m:Bs)(hD:zy d)(hf16:C1 d=true)(hm:Ph m d){vs vr:Fs}{H:AB}{ml:Int}(hml:ml=(d.sI.length:Int))(hf:AU H 17)(h0:AD H 0=some (.box (AL d)))(h3:AD H 3=some (.box (E9 d vs vr)))(cs:GA H 8 vs 2 (d.sI.map Cb))(cr:GA H 12 vr 12 (d.sC.map Ao)):
  Fi prog Yl (F2 (Ig (DN 5 c5))) [.c (F2 (DN 5 c5))] kmQ ⟨[(1,true,.str m),(2,true,.ptr 0 0),(5,true,.ptr 3 0),(35,true,.int .i64 ml),(36,true,.int .i64 0)],H,17⟩:=by
 subst hml;have hsy:d.sI.length<1000000000:=hD.sy;simp only[eE,DN,F2,Ig,c5];refine AQ (λv:VNa=>⟨[(1,true,.str m),(2,true,.ptr 0 0),(5,true,.ptr 3 0),(35,true,.int .i64 d.sI.length),(36,true,.int .i64 v.i)],v.H,17⟩) (INa d m vs vr) (λv=>d.sI.length-v.i) ⟨0,H⟩ rfl ⟨oq _,hf,h0,h3,cs,cr⟩ ?_;rintro⟨i,H1⟩ hI;have hi:i<=d.sI.length:=hI.hi;have l0:AU H1 17:=hI.fr;have g0:AD H1 0=_:=hI.h0;have g3:AD H1 3=_:=hI.h3;have gs:GA H1 8 vs 2 (Ca Cb (HL m) d.sI i):=hI.cs;have gr:GA H1 12 vr 12 (d.sC.map Ao):=hI.cr;by_cases e9:i<d.sI.length
 ·obtain⟨r1,n1,w7,rfl,ho⟩:=gs.at (i:=i) (by rw[Bf];exact e9);have hgi:=IP (enc:=Cb) (f:=HL m) e9 r1;have hse:=IQ (enc:=Cb) (f:=HL m) e9 r1;have hil:(i<(Ca Cb (HL m) d.sI i++r1).length)=True:=o7 (by rw[ou,Bf];omega);have hbx:=hm.1 _ (oK e9);have e:=AI (k:=i) zo;rw[Bf]at w7;generalize d.sI[i]=x at hgi hse hbx;generalize hA:Ca Cb (HL m) d.sI i++r1=A at ho hgi hse hil;have hn2:(i<n1)=True:=o7 zo;have hn3:((i:Int)<(n1:Int))=True:=o7 zo;have tW:Bw (Cb x) 0 1 2 (.str (x.nm++m))=(True,Cb (HL m x)):=apSy rfl;simp only[eZ,seval,eY,AT e9,g3,ho,hgi,hil,e,hbx,hn3,tW,hse];refine .mk ⟨i+1,sA H1 8 (.arr 2 (Ca Cb (HL m) d.sI (i+1)++r1))⟩ rfl ⟨e9,l0.sA (od _) zd,by rw[AA _ _ _ _ zd];exact g0,by rw[AA _ _ _ _ zd];exact g3,.inr ⟨r1,n1,by rw[Bf];exact w7,rfl,AC ..⟩,gr.keep (AA _ _ _ _ zd)⟩ (by show d.sI.length-(i+1)<d.sI.length-i;omega)
 obtain rfl:i=d.sI.length:=zo
 rw[IN]at gs;rcases gr with⟨q0,t,rfl,ht⟩|⟨r2,n2,hn2,rfl,a2⟩
 ·have z:=fe d m hD hf16 hm (ml:=((0:Nat):Int)) (by rw[<-o6 (f:=Ao),q0];rfl) l0 g0 g3 gs (.inl ⟨q0,t,rfl,ht⟩);simp only[eE,c0,DN,F2,Ig,c5]at z;simp only[eZ,seval,c0,Ah e9,g3];exact z
 ·have z:=fe d m hD hf16 hm (ml:=(n2:Int)) (by rw[hn2,o6]) l0 g0 g3 gs (.inr ⟨r2,n2,hn2,rfl,a2⟩);simp only[eE,DN,F2,Ig,c5]at z;simp only[eZ,seval,Ah e9,g3];exact z
def p5(d:x8)(m:Bs)(hm:¬100<m.length->Ph m d):A6 prog 5 [Ba d,.str m] (.bool true):=by
 refine .mk ⟨Ag 0 d,zt,zt⟩ zt (c5.a (AE kU (AF ?_)));cases hf:C1 d with
 |false=>simp only[eZ,seval,o9,oh,c5,Yl,SK,s1,Az,Ap,hf,oh,o9,AJ]
 |true=>
 have hD:=IZ hf;have hsy:d.sI.length<1000000000:=hD.sy;have hru:d.sC.length<1000000000:=hD.ru;by_cases h100:100<m.length
 ·have g1:(100<(m.length:Int))=True:=o7 zo;simp only[eZ,seval,o9,c5,Yl,SK,s1,Az,Ap,hf,o9,g1,AJ]
 have g1:(100<(m.length:Int))=False:=oA zo;simp only[eZ,eX,seval,o9,o6,c5,Yl,SK,s1,Az,Ap,hf,o9,g1,AJ];refine Jd (by simp only[AN];rfl) zd rfl (.inr rfl) (AY (by rw[o6];omega) zd) (by rw[o6];omega) λH1 vs k1 c1=>?_
 have a0:AD H1 0=some (.box (AL d)):=by rw[k1 0 zd];rfl
 have a3:AD H1 3=some (.box (AL d)):=by rw[k1 3 zd];rfl
 have a12:AD H1 12=none:=by rw[k1 12 zd];rfl
 have f1:∀i,9<=i->AD H1 i=none:=λi hi=>by
  rw[k1 i zo];simp only[AN];repeat rw[og zo]
  rfl
 simp only[eE,eX,seval,o6,IV];refine Jd a12 zd rfl (.inr rfl) (AY (by rw[o6];omega) zd) (by rw[o6];omega) λH2 vr k2 c2=>?_
 have b0:AD H2 0=some (.box (AL d)):=by rw[k2 0 zd];exact a0
 have b3:AD H2 3=some (.box (AL d)):=by rw[k2 3 zd];exact a3
 simp only[eE,seval,IV,b3,AH,c1.cells,c2.cells,G9];refine⟨c1.nT,c2.nT,?_⟩;rw[DK];have cs:GA (sA H2 3 (.box (E9 d vs vr))) 8 vs 2 (d.sI.map Cb):=c1.keep (by rw[AA _ _ _ _ zd,k2 8 zd]);have cr:GA (sA H2 3 (.box (E9 d vs vr))) 12 vr 12 (d.sC.map Ao):=c2.keep (AA _ _ _ _ zd);have fr:AU (sA H2 3 (.box (E9 d vs vr))) 17:=λi hi=>by rw[AA _ _ _ _ zo,k2 i zo];exact f1 i zo
 have g0:AD (sA H2 3 (.box (E9 d vs vr))) 0=some (.box (AL d)):=by rw[AA _ _ _ _ zd];exact b0
 rcases c1 with⟨s0,t,rfl,ht⟩|⟨r1,n1,w7,rfl,a1⟩
 ·simp only[eE,seval];rw[DK];exact fg d m hD hf (hm h100) (by rw[<-o6 (f:=Cb),s0];rfl) fr g0 (AC ..) cs cr
 ·simp only[eE,seval];rw[DK];exact fg d m hD hf (hm h100) (by rw[w7,o6]) fr g0 (AC ..) cs cr
end Go.AM
