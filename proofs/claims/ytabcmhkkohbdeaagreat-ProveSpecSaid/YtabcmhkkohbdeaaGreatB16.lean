/-
  Parts of the proof. Conditions: none.
-/
import Derived.Test.YtabcmhkkohbdeaaGreatB15
set_option maxRecDepth 20000
set_option linter.all false
namespace Go.AM
open Go.Lib Go.Proofs Go.Proofs.Tryz
section
def GZ:Option (List xv)->Fs
 |none=>.wJ [.sl .nil [],.bool false]
 |some t=>.wJ [Rh t,.bool true]
def SG(n:Nat)(o:Option (List xv)):(GZ o).under n:=by
 cases o with
 |none=>exact⟨⟨zt,zt⟩,zt,zt⟩
 |some t=>exact⟨PM n t,zt,zt⟩
def Jz(k:zx)(x:zk)(wA:List Int)(F:List Int->Option (List xv))(ok:List Int->Prop):List Fs->AB->Prop×Fs:=λa _=>match a with
 |[K,X,a1,a2]=>(CQ.ok K/\CQ.dec K=k/\dX.ok X/\dX.dec X=x/\a1=Aj wA/\A3.ok a2/\ok (A3.dec a2),GZ (F (A3.dec a2)))
 |_=>(False,.wJ [])
variable {k:zx} {wA:List Int} {x:zk}
theorem nS{F:List Int->Option (List xv)}{ok:List Int->Prop}(h:∀cells,ok cells->Av prog 28 [BA k,Cl x,Aj wA,Aj cells] (GZ (F cells))):
  ∀args H n,(Jz k x wA F ok args H).1->Ao prog 28 args H n (Jz k x wA F ok args H).2:=by
 intro args H n hh;unfold Jz at hh⊢;split at hh
 ·obtain⟨h1,h2,h3,h4,rfl,h5,h6⟩:=hh;have w1:=CQ.wk _ h1;rw[h2]at w1;have w2:=dX.wk _ h3;rw[h4]at w2;refine AX.args ((h _ h6).quiet H n) ?_;rintro g vs ⟨v1,r1,rfl,k1,v2,r2,rfl,k2,v3,r3,rfl,k3,v4,r4,rfl,k4,k5⟩;exact⟨v1,_,rfl,w1 _ _ k1,v2,_,rfl,w2 _ _ k2,v3,_,rfl,k3,v4,_,rfl,A3.wk _ h5 _ _ k4,k5⟩
 ·exact hh.elim
def G4(k:zx)(x:zk)(wA:List Int):List Fs->AB->Prop×Fs:=λa _=>match a with
 |[K,X,a1,a2]=>(CQ.ok K/\CQ.dec K=k/\dX.ok X/\dX.dec X=x/\a1=Aj wA/\A3.ok a2/\ClP k x (A3.dec a2),eI (Dh (AP k) x wA (A3.dec a2)))
 |_=>(False,.wJ [])
theorem aM(hp:PrC k x wA):∀args H n,(G4 k x wA args H).1->Ao prog 52 args H n (G4 k x wA args H).2:=by
 intro args H n hh;unfold G4 at hh⊢;split at hh
 ·obtain⟨h1,h2,h3,h4,rfl,h5,h6⟩:=hh;have w1:=CQ.wk _ h1;rw[h2]at w1;have w2:=dX.wk _ h3;rw[h4]at w2;refine AX.args ((p52 k x wA _ hp h6).quiet H n) ?_;rintro g vs ⟨v1,r1,rfl,k1,v2,r2,rfl,k2,v3,r3,rfl,k3,v4,r4,rfl,k4,k5⟩;exact⟨v1,_,rfl,w1 _ _ k1,v2,_,rfl,w2 _ _ k2,v3,_,rfl,k3,v4,_,rfl,A3.wk _ h5 _ _ k4,k5⟩
 ·exact hh.elim
def rowPi(x:zk):List Fs->AB->Prop×Fs:=s2 dX dI (λy _=>Aq y.ps) λy c=>eI (Fc y.ps λp=>decide (p.c=c))
def rowFr:List Fs->AB->Prop×Fs:=s1 A3 Aq λl=>eI (Fc l λs=>decide (s<0))
def jw(k:zx)(x:zk)(wA:List Int)(F:List Int->Option (List xv))(ok:List Int->Prop):Bg:=AF 52 (G4 k x wA) (AF 53 rowFr (AF 54 (rowPi x) (AF 55 jt (AF 56 aJ (AF 28 (Jz k x wA F ok) wD)))))
theorem aN{F:List Int->Option (List xv)}{ok:List Int->Prop}(hp:PrC k x wA)(h:∀cells,ok cells->Av prog 28 [BA k,Cl x,Aj wA,Aj cells] (GZ (F cells))):AH prog (jw k x wA F ok):=
 (((((AH.wD.add (nS h)).add (q3 λl c s h=>p56 l c s h.2 h.1)).add (q3 λp l s h=>p55 p l s h.1 h.2)).add (q2 λy c h=>p54 y c h)).add (q1 λl h=>p53 l h)).add (aM hp)
section
variable (k:zx) (x:zk) (wA:List Int) (F:List Int->Option (List xv)) (ok:List Int->Prop) (a:List Fs) (H:AB)
theorem aO:jw k x wA F ok 52 a H=G4 k x wA a H:=rfl
theorem jx:jw k x wA F ok 53 a H=s1 A3 Aq (λl=>eI (Fc l λs=>decide (s<0))) a H:=rfl
theorem Tte_p:jw k x wA F ok 54 a H=s2 dX dI (λy _=>Aq y.ps) (λy c=>eI (Fc y.ps λp=>decide (p.c=c))) a H:=rfl
theorem aP:jw k x wA F ok 55 a H=s3 dM A3 dI (λp wA _=>Aq p.ls/\∀c∈p.ls,0<=c/\c<(wA.length:Int)) (λp wA s=>.bool ((p.ls.map (BG wA)).contains s)) a H:=rfl
theorem WE:jw k x wA F ok 56 a H=s3 A3 dI dI (λl c _=>Aq l/\0<=c/\c<(l.length:Int)) (λl c s=>Aj (l.set c.toNat s)) a H:=rfl
theorem WF:jw k x wA F ok 28 a H=Jz k x wA F ok a H:=rfl
end
structure VTe where
 i:Nat
 acc:List xv
 tk:v8
 H:AB
 n:Nat
structure ITe(k:zx)(x:zk)(G:Int->Option (List xv))(p:Int->Bool)(R:Option (List xv))(f:Nat)(v:VTe):Prop where
 hi:v.i<=k.d.wE.length
 hn:4<=v.n
 fr:AO v.H v.n
 h0:AD v.H 0=some (.box (AG k))
 h1:AD v.H 1=some (.box (Aa x))
 tok:C8 2 2 v.H v.tk
 es:v.tk.esz=2
 le:v.acc.length<=v.i*EE f
 he:R=(GU G (((CP k.d.wE.length).drop v.i).filter p)).map λt=>v.acc++t
theorem fO{cells:List Int}{i:Nat}{s:Int}(hc:ClP k x cells)(hs:De k s):ClP k x (cells.set i s):=by
 refine⟨⟨by rw[tz];exact hc.cl.len,λt ht h0=>?_⟩,λt ht=>?_⟩
 ·rcases ua ht with q|q
  ·exact hc.cl.sy t q h0
  ·rw[q];exact hs
 ·rcases ua ht with q|q
  ·exact hc.ge t q
  ·rw[q];have:=hs.1;omega
theorem SH(h:PrC k x wA)(f:Nat)(hf4:f<=4)(ih:∀f',f=f'+1->∀cells,GW cells<=f'->ClP k x cells->Av prog 28 [BA k,Cl x,Aj wA,Aj cells] (GZ (B8 (AP k) x wA f' cells)))
  (cells:List Int) (hneg:GW cells<=f) (hc:ClP k x cells):Av prog 28 [BA k,Cl x,Aj wA,Aj cells] (GZ (B8 (AP k) x wA f cells)):=by
 have u1:CQ.ok (.agg (AG k))=True:=Ce k;have u2:CQ.dec (.agg (AG k))=k:=Bx k;simp only[AG,AE,AL,sJ,sI]at u1 u2;have v1:dX.ok (.agg (Aa x))=True:=Gm x;have v2:dX.dec (.agg (Aa x))=x:=Ei x;simp only[Aa]at v1 v2;have hx4:=h.ox.cs.2.2.2;have wi:=hc.cl.len;have hfc:Aq cells:=by show cells.length<_;omega
 have hsy:=BZ h.ck;obtain⟨F,ok,hT,hF,s9⟩:∃(F:List Int->Option (List xv)) (ok:List Int->Prop),AH prog (jw k x wA F ok)/\(∀f',f=f'+1->F=λcells=>B8 (AP k) x wA f' cells)/\(∀f',f=f'+1->ok=λcells=>GW cells<=f'/\ClP k x cells):=by
  cases f with
  |zero=>exact⟨λ_=>none,λ_=>False,aN h (λ_ q=>q.elim),λf' e=>zo,λf' e=>zo⟩
  |succ f=>exact⟨λcells=>B8 (AP k) x wA f cells,λcells=>GW cells<=f/\ClP k x cells,aN h (λcells q=>ih f rfl cells q.1 q.2),λf' e=>by rw[Nat.succ.inj e],λf' e=>by rw[Nat.succ.inj e]⟩
 refine .mk ⟨Am 0 k,BN 0 x,AV 0 _,AV 0 _,zt⟩ (SG 0 _) (c28.a (AI hT (AJ ?_)));cases hfst:FE (AP k) x wA cells with
 |some c=>
  have hcn:Dh (AP k) x wA cells=(c:Int):=by unfold Dh;rw[hfst]
  have z:((0:Int)<=(c:Int))=True:=r9 zo;rw[V3 hfst];simp only[eZ,seval,c28,AG,AE,AL,aO,G4,u1,u2,v1,v2,Ah,Ad,r9 hc,hcn,z,uA];exact Wk.wJ (.cons (Wk.sl (.inl rfl)) (.cons (Wk.refl _) .nil))
 |none=>
 have hcn:Dh (AP k) x wA cells= -1:=by unfold Dh;rw[hfst]
 cases l9:GN cells with
 |none=>
  have xa:Fc cells (λs=>decide (s<0))= -1:=by unfold Fc;unfold GN at l9;rw[l9]
  rw[V4 hfst l9];simp only[eZ,seval,c28,AG,AE,AL,aO,G4,u1,u2,v1,v2,Ah,Ad,r9 hc,hcn,uA,jx,s1,r9 hfc,xa];exact Wk.refl _
 |some at'=>
 have xa:Fc cells (λs=>decide (s<0))=(at':Int):=by unfold Fc;unfold GN at l9;rw[l9]
 obtain⟨s0,hs0,hs0n⟩:=HK l9;have hat:=(t8.1 hs0).1;obtain⟨f',rfl⟩:∃f',f=f'+1:=by
  cases f with
  |succ f=>exact⟨f,rfl⟩
  |zero=>exact absurd (Kt zo hs0) zo
 obtain rfl:=hF f' rfl;obtain rfl:=s9 f' rfl;rw[V5 hfst l9,Es];have z:((at':Int)<0)=False:=sb zo;have hvl:(AP k).length=k.d.wE.length:=by unfold AP;rw[ry]
 rw[hvl];simp only[eZ,seval,c28,AG,AE,AL,aO,G4,u1,u2,v1,v2,Ah,Ad,r9 hc,hcn,uA,jx,s1,r9 hfc,xa,z,Tte_p,s2,Ay,An,r9 h.fx.ps];generalize hG:(λs=>B8 (AP k) x wA f' (cells.set at' s))=G;have hGs:∀s,G s=B8 (AP k) x wA f' (cells.set at' s):=λs=>by rw[<-hG]
 have ye:=JP (show f'<=4 by omega);refine AQ (λv:VTe=>⟨[(2,true,Aj wA),(3,true,Aj cells),(4,true,.ptr 0 0),(5,true,.ptr 1 0),(11,true,.int .i64 at'),(12,true,.sl v.tk (Qg ⟨1,at'⟩::v.acc.map Qg)),(13,true,eI (Fc x.ps λp=>decide (p.c=(at':Int)))),(14,true,.int .i64 v.i)],v.H,v.n⟩) (ITe k x G (DB x wA at') (GU G ((CP k.d.wE.length).filter (DB x wA at'))) f') (λv=>k.d.wE.length-v.i)
  ⟨0,[],.exact 2,_,4⟩ rfl ⟨sk _,sj _,(AO.nil.wB (m:=4) (sk _) zd).wB (m:=4) (sj _) zd,rfl,rfl,.inr (.inl rfl),rfl,zw,zw⟩ ?_
 rintro⟨i,acc,tk,H,n⟩ ⟨hi,hn,hf,h0,h1,l7,s7,hle,he⟩;simp only at hi hn hf h0 h1 l7 s7 hle he;have wj:=h0;have h1':=h1;simp only[AG,AE,AL,sJ,sI]at h0;simp only[Aa]at h1;by_cases e9:i<k.d.wE.length;case neg=>
  obtain rfl:i=k.d.wE.length:=zo
  rw[List.drop_of_length_le (by unfold CP;simp),uV,GU,td,sR]at he;rw[he];simp only[eZ,seval,ry,Ag e9,h0];exact Wk.wJ (.cons (Wk.sl (.inl s7)) (.cons (Wk.refl _) .nil))
 have e:=AK (k:=i) zo;rw[Jv e9]at he;have hi16:i*EE f'<=16*EE f':=tT _ zo;have hns:=Is hs0 hs0n (show(0:Int)<=(i:Int)by omega);have w2:(GW (cells.set at' (i:Int))<=f'/\ClP k x (cells.set at' (i:Int)))=True:=r9 ⟨zo,fO hc ⟨zo,zo⟩⟩;have q1:BB H 2 tk=True:=r9 l7.app;cases wo:DB x wA (at':Int) (i:Int)with
 |false=>
  rw[vj (by rw[wo];decide)]at he;have xf:ITe k x G (DB x wA at') (GU G ((CP k.d.wE.length).filter (DB x wA at'))) f' ⟨i+1,acc,tk,H,n⟩:=⟨e9,hn,hf,wj,h1',l7,s7,by simp only[];rw[tA];omega,he⟩;rcases Mg (x:=x) (c:=(at':Int))with⟨p1,p2⟩|⟨a,p,p1,p2,p3⟩
  ·exfalso;unfold DB at wo;rw[p1]at wo;cases wo
  ·unfold DB at wo;rw[p1]at wo;simp only[]at wo;have hpm:=sZ p2;have hpr:=G1 h.rd p hpm;have ha:=(t8.1 p2).1;have z2:((0:Int)<=(a:Int))=True:=r9 zo;rw[p3];simp only[eZ,seval,se,eY,AN e9,h0,h1,z2,AN ha,p2,aP,s3,PO,Kv,Ah,Ad,Ay,An,r9 hpr,wo,se,e];exact .mk ⟨i+1,acc,tk,H,n⟩ rfl xf zp
 |true=>
  rw[vk wo,GU]at he;have hcb':=wo;have fin:∀t,G (i:Int)=some t->ITe k x G (DB x wA at') (GU G ((CP k.d.wE.length).filter (DB x wA at'))) f' ⟨i+1,acc++t,.own (n+2) 2,wB (AU H tk) (n+2) .tok,n+4⟩:=λt ht=>by
   have ht':=ht;rw[hGs]at ht';have hgl:=G3 (vals:=AP k) (x:=x) (wA:=wA) zo f' _ t ht';refine⟨e9,zp,(Ab l7 hf).wB (m:=n+4) zo zo,?_,?_,.inr (.inr ⟨n+2,rfl,zo,AC ..⟩),rfl,?_,?_⟩
   ·simp only[];rw[AA _ _ _ _ zo,Ac l7 (.inl zd)];exact wj
   ·simp only[];rw[AA _ _ _ _ zo,Ac l7 (.inl zd)];exact h1'
   ·simp only[sH];rw[tA];omega
   ·simp only[];rw[he,ht,Option.map_map];congr 1;funext b;simp
  cases hGi:G (i:Int)with
  |none=>
   rw[hGi]at he;simp only[tU]at he;rw[he];have hGi':=hGi;rw[hGs]at hGi';rcases Mg (x:=x) (c:=(at':Int))with⟨p1,p2⟩|⟨a,p,p1,p2,p3⟩
   ·rw[p2];simp only[eZ,seval,se,eY,AN e9,h0,h1,WE,s3,Ah,Ad,Ay,An,r9 hfc,AN hat,WF,Jz,u1,u2,v1,v2,uA,w2,hGi',GZ,se];exact Wk.refl _
   ·unfold DB at hcb';rw[p1]at hcb';simp only[]at hcb';have hpm:=sZ p2;have hpr:=G1 h.rd p hpm;have ha:=(t8.1 p2).1;have z2:((0:Int)<=(a:Int))=True:=r9 zo;rw[p3];simp only[eZ,seval,sa,se,eY,AN e9,h0,h1,z2,AN ha,p2,aP,s3,PO,Kv,Ah,Ad,Ay,An,r9 hpr,hcb',sa,WE,r9 hfc,AN hat,WF,Jz,u1,u2,v1,v2,uA,w2,hGi',GZ,se];exact Wk.refl _
  |some t=>
   have hGi':=hGi;rw[hGs]at hGi';have hgl:=G3 (vals:=AP k) (x:=x) (wA:=wA) zo f' _ t hGi';have q2:(acc.length+(t.length+1)<=35184372088832)=True:=r9 zo;have q3:Al (acc.length+1+t.length) 16=True:=r9 (Ae zo zd);have q4:(acc.length+1+t.length<=35184372088832)=True:=r9 zo;have q5:Al (acc.length+(1+t.length)) 16=True:=r9 (Ae zo zd);have q6:(acc.length+(1+t.length)<=35184372088832)=True:=r9 zo;rcases Mg (x:=x) (c:=(at':Int))with⟨p1,p2⟩|⟨a,p,p1,p2,p3⟩
   ·rw[p2];simp only[eZ,seval,sa,eY,AN e9,h0,h1,WE,s3,Ah,Ad,Ay,An,r9 hfc,AN hat,WF,Jz,u1,u2,v1,v2,uA,w2,hGi',GZ,sa,q1,q5,q6,Bq hf,e];exact .mk ⟨i+1,acc++t,.own (n+2) 2,wB (AU H tk) (n+2) .tok,n+4⟩ (by simp only[su]) (fin t hGi) zp
   ·unfold DB at hcb';rw[p1]at hcb';simp only[]at hcb';have hpm:=sZ p2;have hpr:=G1 h.rd p hpm;have ha:=(t8.1 p2).1;have z2:((0:Int)<=(a:Int))=True:=r9 zo;rw[p3];simp only[eZ,seval,sa,eY,AN e9,h0,h1,z2,AN ha,p2,aP,s3,PO,Kv,Ah,Ad,Ay,An,r9 hpr,hcb',sa,WE,r9 hfc,AN hat,WF,Jz,u1,u2,v1,v2,uA,w2,hGi',GZ,q1,q5,q6,Bq hf,e];exact .mk ⟨i+1,acc++t,.own (n+2) 2,wB (AU H tk) (n+2) .tok,n+4⟩ (by simp only[su]) (fin t hGi) zp
theorem p28(h:PrC k x wA):∀(f:Nat),f<=4->∀(cells:List Int),GW cells<=f->ClP k x cells->Av prog 28 [BA k,Cl x,Aj wA,Aj cells] (GZ (B8 (AP k) x wA f cells))
 |0,hf,cells,hn,hc=>SH h 0 hf (λf' e=>zo) cells hn hc
 |f+1,hf,cells,hn,hc=>SH h (f+1) hf (λf' e cells hn hc=>by obtain rfl:=Nat.succ.inj e;exact p28 h f zo cells hn hc) cells hn hc
end
section
def MW(j:Nat)(cells:List Int):Option (List Int)->Fs
 |some c=>.wJ [Aj c,.bool true]
 |none=>.wJ [if j=0 then Aj cells else .sl .nil [],.bool false]
def NP(n j:Nat)(cells:List Int)(o:Option (List Int)):(MW j cells o).under n:=by
 cases o with
 |some c=>exact⟨AV n _,zt,zt⟩
 |none=>
  refine⟨?_,zt,zt⟩;split
  ·exact AV n _
  ·exact⟨zt,zt⟩
def NQ(k:zx)(x:zk)(wA:List Int)(j:Nat)(at':Int)(F:List Int->Option (List Int))(ok:List Int->Prop):List Fs->AB->Prop×Fs:=λa _=>match a with
 |[K,X,a1,a2,.int .i64 i]=>(CQ.ok K/\CQ.dec K=k/\dX.ok X/\dX.dec X=x/\a1=Aj wA/\A3.ok a2/\ok (A3.dec a2)/\i=at',MW j (A3.dec a2) (F (A3.dec a2)))
 |_=>(False,.wJ [])
variable {k:zx} {wA:List Int} {x:zk}
theorem nU{j:Nat}{at':Int}{F:List Int->Option (List Int)}{ok:List Int->Prop}(h:∀cells,ok cells->Av prog 33 [BA k,Cl x,Aj wA,Aj cells,.int .i64 at'] (MW j cells (F cells))):
  ∀args H n,(NQ k x wA j at' F ok args H).1->Ao prog 33 args H n (NQ k x wA j at' F ok args H).2:=by
 intro args H n hh;unfold NQ at hh⊢;split at hh
 ·obtain⟨h1,h2,h3,h4,rfl,h5,h6,rfl⟩:=hh;have w1:=CQ.wk _ h1;rw[h2]at w1;have w2:=dX.wk _ h3;rw[h4]at w2;refine AX.args ((h _ h6).quiet H n) ?_;rintro g vs ⟨v1,r1,rfl,k1,v2,r2,rfl,k2,v3,r3,rfl,k3,v4,r4,rfl,k4,k5⟩;exact⟨v1,_,rfl,w1 _ _ k1,v2,_,rfl,w2 _ _ k2,v3,_,rfl,k3,v4,_,rfl,A3.wk _ h5 _ _ k4,k5⟩
 ·exact hh.elim
def Tfs(k:zx)(x:zk)(wA:List Int)(j:Nat)(at':Int)(F:List Int->Option (List Int))(ok:List Int->Prop):Bg:=AF 52 (G4 k x wA) (AF 56 aJ (AF 33 (NQ k x wA j at' F ok) wD))
theorem aQ{j:Nat}{at':Int}{F:List Int->Option (List Int)}{ok:List Int->Prop}(hp:PrC k x wA)(h:∀cells,ok cells->Av prog 33 [BA k,Cl x,Aj wA,Aj cells,.int .i64 at'] (MW j cells (F cells))):AH prog (Tfs k x wA j at' F ok):=
 ((AH.wD.add (nU h)).add (q3 λl c s h=>p56 l c s h.2 h.1)).add (aM hp)
section
variable (k:zx) (x:zk) (wA:List Int) (j:Nat) (at':Int) (F:List Int->Option (List Int)) (ok:List Int->Prop) (a:List Fs) (H:AB)
theorem aR:Tfs k x wA j at' F ok 52 a H=G4 k x wA a H:=rfl
theorem jy:Tfs k x wA j at' F ok 56 a H=s3 A3 dI dI (λl c _=>Aq l/\0<=c/\c<(l.length:Int)) (λl c s=>Aj (l.set c.toNat s)) a H:=rfl
theorem jz:Tfs k x wA j at' F ok 33 a H=NQ k x wA j at' F ok a H:=rfl
end
structure FlC(k:zx)(x:zk)(cells:List Int):Prop where
 len:cells.length=x.cs.length
 sy:∀s∈cells,De k s
theorem FlC.cl{cells:List Int}(h:FlC k x cells):ClP k x cells:=⟨⟨h.len,λs hs _=>h.sy s hs⟩,λs hs=>by have:=(h.sy s hs).1;omega⟩
theorem fP{vals:List Int}{cells:List Int}:decide (Dh vals x wA cells<0)=Bk vals x wA cells:=by grind [Dh,GO]
theorem SI(h:PrC k x wA)(j at':Nat)(cells:List Int)(hj:at'+j=x.cs.length)(hc:FlC k x cells)
  (ih:∀j',j=j'+1->∀cells,FlC k x cells->Av prog 33 [BA k,Cl x,Aj wA,Aj cells,.int .i64 ((at'+1:Nat):Int)] (MW j' cells (DM (AP k) x wA j' (at'+1) cells))):
  Av prog 33 [BA k,Cl x,Aj wA,Aj cells,.int .i64 at'] (MW j cells (DM (AP k) x wA j at' cells)):=by
 have u1:CQ.ok (.agg (AG k))=True:=Ce k;have u2:CQ.dec (.agg (AG k))=k:=Bx k;simp only[AG,AE,AL,sJ,sI]at u1 u2;have v1:dX.ok (.agg (Aa x))=True:=Gm x;have v2:dX.dec (.agg (Aa x))=x:=Ei x;simp only[Aa]at v1 v2;have hx4:=h.ox.cs.2.2.2;have wi:=hc.len;have hfc:Aq cells:=by show cells.length<_;omega
 have hsy:=BZ h.ck;have hvl:(AP k).length=k.d.wE.length:=by unfold AP;rw[ry]
 cases j with
 |zero=>
  have hT:=aQ (j:=0) (at':=0) (F:=λ_=>none) (ok:=λ_=>False) h (λ_ q=>q.elim);refine .mk ⟨Am 0 k,BN 0 x,AV 0 _,AV 0 _,zt,zt⟩ (NP 0 _ _ _) (rr.a (AI hT (AJ ?_)));have he:((at':Int)=(cells.length:Int))=True:=r9 zo;have hcx:=h.ox.c;have hlx:=h.ox.l;rw[<-wi]at hcx;rw[<-h.rd.ll]at hlx;have g1:=BY hcx.1 hcx.2;have g2:=BY hlx.1 hlx.2;have e9:=fP (vals:=AP k) (x:=x) (wA:=wA) (cells:=cells);rw[DM];cases hh:Bk (AP k) x wA cells with
  |false=>
   rw[hh]at e9;simp only[eZ,seval,eY,rr,AG,AE,AL,aR,G4,u1,u2,v1,v2,Ah,Ad,r9 hc.cl,uA,he,sb (ti.1 e9)];exact Wk.refl _
  |true=>
   rw[hh]at e9;by_cases hq:BG cells x.c=BG wA x.l
   ·rw[sK hq];simp only[eZ,seval,eY,rr,AG,AE,AL,aR,G4,u1,u2,v1,v2,Ah,Ad,r9 hc.cl,uA,he,r9 (th e9),r9 hcx.1,r9 hcx.2,r9 hlx.1,r9 hlx.2,g1,g2,r9 hq];exact Wk.refl _
   ·rw[sA hq];simp only[eZ,seval,eY,rr,AG,AE,AL,aR,G4,u1,u2,v1,v2,Ah,Ad,r9 hc.cl,uA,he,r9 (th e9),r9 hcx.1,r9 hcx.2,r9 hlx.1,r9 hlx.2,g1,g2,sb hq];exact Wk.refl _
 |succ j=>
  have hT:=aQ (j:=j) (at':=((at'+1:Nat):Int)) h (ih j rfl);refine .mk ⟨Am 0 k,BN 0 x,AV 0 _,AV 0 _,zt,zt⟩ (NP 0 _ _ _) (rr.a (AI hT (AJ ?_)));have he:((at':Int)=(cells.length:Int))=False:=sb zo;have e1:=AK (k:=at') zo;rw[DM,hvl];simp only[eZ,seval,ry,rr,he];generalize hG:(λs=>DM (AP k) x wA j (at'+1) (cells.set at' s))=G;have hGs:∀s,G s=DM (AP k) x wA j (at'+1) (cells.set at' s):=λs=>by rw[<-hG]
  refine AQ (λi:Nat=>⟨[(2,true,Aj wA),(3,true,Aj cells),(4,true,.int .i64 at'),(5,true,.ptr 0 0),(6,true,.ptr 1 0),(12,true,.int .i64 i)],Hkx k x,4⟩) (λi=>i<=k.d.wE.length/\(CP k.d.wE.length).findSome? G=((CP k.d.wE.length).drop i).findSome? G) (λi=>k.d.wE.length-i) 0 rfl ⟨sk _,rfl⟩ ?_;rintro i ⟨hi,hR⟩;by_cases e9:i<k.d.wE.length;case neg=>
   obtain rfl:i=k.d.wE.length:=zo
   rw[List.drop_of_length_le (by unfold CP;simp),List.findSome?_nil]at hR;rw[hR];simp only[eZ,seval,ry,Ag e9,AG,AE,AL];exact Wk.refl _
  have e:=AK (k:=i) zo;rw[Jv e9,uY]at hR;have wB:FlC k x (cells.set at' (i:Int)):=⟨by rw[tz];exact wi,λs hs=>by
   rcases ua hs with q|q
   ·exact hc.sy s q
   ·rw[q];exact⟨zo,zo⟩⟩
  have wV:at'<cells.length:=zo
  cases hGi:G (i:Int)with
  |none=>
   rw[hGi]at hR;have hGi':=hGi;rw[hGs]at hGi';simp only[eZ,seval,eY,AN e9,AG,AE,AL,Aa,jy,s3,Ah,Ad,Ay,An,r9 hfc,AN wV,jz,NQ,u1,u2,v1,v2,uA,r9 wB,e1,hGi',MW,e];exact .mk (i+1) rfl ⟨e9,hR⟩ zo
  |some c=>
   rw[hGi]at hR;have hGi':=hGi;rw[hGs]at hGi';rw[hR];simp only[eZ,seval,eY,AN e9,AG,AE,AL,Aa,jy,s3,Ah,Ad,Ay,An,r9 hfc,AN wV,jz,NQ,u1,u2,v1,v2,uA,r9 wB,e1,hGi',MW];exact Wk.refl _
theorem p33(h:PrC k x wA):∀(j at':Nat) (cells:List Int),at'+j=x.cs.length->FlC k x cells->Av prog 33 [BA k,Cl x,Aj wA,Aj cells,.int .i64 at'] (MW j cells (DM (AP k) x wA j at' cells))
 |0,at',cells,hj,hc=>SI h 0 at' cells hj hc (λj' e=>zo)
 |j+1,at',cells,hj,hc=>SI h (j+1) at' cells hj hc (λj' e cells hc=>by obtain rfl:=Nat.succ.inj e;exact p33 h j (at'+1) cells zo hc)
end
structure RfK(k:zx):Prop where
 kn:FewKr k
 rg:k.d.wK.length<999999000
def RfK.fr{k:zx}(h:RfK k):QU k.d:=⟨h.kn.d,h.rg⟩
def WG:List Fs->AB->Prop×Fs:=s1 CQ RfK λk=>.int .i64 (BE k)
def aS:∀args H n,(WG args H).1->Ao prog 44 args H n (WG args H).2:=q1 λk h=>p44 k h.fr h.kn
def PX:List Fs->AB->Prop×Fs:=λa _=>match a with
 |[.int .i64 m,.int .i64 n]=>(0<=m/\m<=16/\0<=n/\n<=3,Br (EP m.toNat n.toNat))
 |_=>(False,.wJ [])
def nV:∀args H k,(PX args H).1->Ao prog 51 args H k (PX args H).2:=by
 intro args H k hh;unfold PX at hh⊢;split at hh
 ·rename_i m n;obtain⟨h1,h2,h3,h4⟩:=hh;obtain⟨m,rfl⟩:=ur h1;obtain⟨n,rfl⟩:=ur h3;rw[sm,sm,Mr];exact(p51 m zo n zo).quiet H k
 ·exact hh.elim
def Tlz:Bg:=AF 44 WG (AF 51 PX wD)
def nW:AH prog Tlz:=(AH.wD.add nV).add aS
theorem WH(a:List Fs)(H:AB):Tlz 44 a H=s1 CQ RfK (λk=>.int .i64 (BE k)) a H:=rfl
theorem Tlz_c(a:List Fs)(H:AB):Tlz 51 a H=PX a H:=rfl
def p27(k:zx)(n:Int)(h1:RfK k):Av prog 27 [BA k,.int .i64 n] (CV k n):=by
 have u1:CQ.ok (.agg (AG k))=True:=Ce k;have u2:CQ.dec (.agg (AG k))=k:=Bx k;simp only[AG,AE,AL,sJ,sI]at u1 u2;refine .mk ⟨Am 0 k,zt,zt⟩ ?_ (c27.a (AI nW (AJ ?_)))
 ·unfold CV;split
  ·exact⟨⟨zt,zt⟩,zt,zt⟩
  ·split
   ·exact⟨⟨zt,zt⟩,zt,zt⟩
   ·exact⟨⟨zt,BW (λl=>AV 0 l) _⟩,zt,zt⟩
 unfold CV;by_cases hk:BE k=0;case neg=>
  rw[sn hk];simp only[eZ,seval,se,c27,AG,AE,AL,WH,s1,u1,u2,r9 h1,sb hk];exact Wk.refl _
 rw[sg (by simpa using hk)];have hsy:=BZ hk;by_cases hn0:n<0
 ·rw[sn (.inl hn0)];simp only[eZ,seval,sa,c27,AG,AE,AL,WH,s1,u1,u2,r9 h1,r9 hk,r9 hn0];exact Wk.refl _
 by_cases hn3:3<n
 ·rw[sn (.inr hn3)];simp only[eZ,seval,sa,c27,AG,AE,AL,WH,s1,u1,u2,r9 h1,r9 hk,sb hn0,r9 hn3];exact Wk.refl _
 rw[sg zo];have z1:((k.d.wE.length:Int)<=16)=True:=r9 zo;have z2:(0<=n)=True:=r9 zo;have z3:(n<=3)=True:=r9 zo;simp only[eZ,seval,sa,eY,c27,AG,AE,AL,WH,s1,u1,u2,r9 h1,r9 hk,sb hn0,sb hn3,Tlz_c,PX,z1,z2,z3];exact Wk.refl _
def nX:Bg:=AF 44 WG (AF 40 (s1 dX wq λx=>eI (JA x)) wD)
def fQ:AH prog nX:=(AH.wD.add (q1 λx h=>p40 x h)).add aS
theorem aT(a:List Fs)(H:AB):nX 44 a H=s1 CQ RfK (λk=>.int .i64 (BE k)) a H:=rfl
theorem nY(a:List Fs)(H:AB):nX 40 a H=s1 dX wq (λx=>eI (JA x)) a H:=rfl
def p26(k:zx)(x:zk)(hk:RfK k)(hx:wq x):Av prog 26 [BA k,Cl x] (eI (BH k x)):=by
 have u1:CQ.ok (.agg (AG k))=True:=Ce k;have u2:CQ.dec (.agg (AG k))=k:=Bx k;simp only[AG,AE,AL,sJ,sI]at u1 u2;have v1:dX.ok (.agg (Aa x))=True:=Gm x;have v2:dX.dec (.agg (Aa x))=x:=Ei x;simp only[Aa]at v1 v2;refine .mk ⟨Am 0 k,BN 0 x,zt⟩ zt (c26.a (AI fQ (AJ ?_)));unfold BH;by_cases hc:BE k=0
 ·rw[sg (by simpa using hc)];simp only[eZ,seval,sa,c26,AG,AE,AL,aT,nY,s1,u1,u2,v1,v2,r9 hk,r9 hx,r9 hc]
 ·rw[sn hc];simp only[eZ,seval,se,c26,AG,AE,AL,aT,s1,u1,u2,r9 hk,sb hc]
def nZ:AH prog Tbg:=AH.wD.add (q3 λl c s h=>p56 l c s h.2 h.1)
theorem Tbg_w(a:List Fs)(H:AB):Tbg 56 a H=s3 A3 dI dI (λl c _=>Aq l/\0<=c/\c<(l.length:Int)) (λl c s=>Aj (l.set c.toNat s)) a H:=rfl
def fR{tk:v8}{m:Nat}(h:tk.esz=1\/m=0):A3.ok (.sl tk (List.replicate m (.int .i64 (-1))))=True:=r9 ⟨h.imp (λq=>q) (λq=>by rw[q];rfl),by rw[ud,ud];rfl⟩
def aU{tk:v8}{m:Nat}:A3.dec (.sl tk (List.replicate m (.int .i64 (-1))))=List.replicate m (-1):=by
 show(List.replicate m (Fs.int .i64 (-1))).map A9=_;rw[ud];rfl
def p29(x:zk)(wA:List Int)(h:BgC x wA):Av prog 29 [Cl x,Aj wA] (Aj (C7 x wA)):=by
 refine .mk ⟨BN 0 x,AV 0 _,zt⟩ (AV 0 _) (c29.a (AI nZ (AJ ?_)));have hxl:x.cs.length<1000000000:=h.fx;have hlx:=h.l;have g2:=BY hlx.1 hlx.2;simp only[eE,eN,seval,c29];refine AQ (λv:VPy=>⟨[(1,true,Aj wA),(2,true,.ptr 0 0),(5,true,.sl v.tk (List.replicate v.i (.int .i64 (-1)))),(6,true,.int .i64 v.i)],v.H,v.n⟩) (IBg x) (λv=>x.cs.length-v.i)
  ⟨0,.nil,_,2⟩ rfl ⟨sk _,sj _,AO.nil.wB (m:=2) (sk _) zd,rfl,.inl rfl,.inr rfl⟩ ?_
 rintro⟨i,tk,H,n⟩ ⟨hi,hn,hf,h0,l7,s7⟩;simp only at hi hn hf h0 l7 s7;have wj:=h0;simp only[Aa]at h0;by_cases e9:i<x.cs.length;case neg=>
  obtain rfl:i=x.cs.length:=zo
  have w1:(Aq (List.replicate x.cs.length (-1:Int))/\0<=x.c/\x.c<((List.replicate x.cs.length (-1:Int)).length:Int))=True:=r9 ⟨by show(List.replicate x.cs.length (-1:Int)).length<_;rw[tK];exact hxl,h.c.1,by rw[tK];exact h.c.2⟩;simp only[eZ,seval,eY,Ag e9,h0,r9 hlx.1,r9 hlx.2,g2,Tbg_w,s3,fR s7,aU,Ay,An,w1];exact Wk.refl _
 have e:=AK (k:=i) zo;have q1:BB H 1 tk=True:=r9 l7.app;have q2:(i<=35184372088831)=True:=r9 zo;have q3:Al (i+1) 8=True:=r9 (Ae zo zd);simp only[eZ,seval,ry,AN e9,h0,q1,q2,q3,Bq hf,e,tK];exact .mk ⟨i+1,.own (n+2) 1,wB (AU H tk) (n+2) .tok,n+4⟩ (by simp only[aK]) ⟨e9,zp,(Ab l7 hf).wB (m:=n+4) zo zo,by
  simp only[];rw[AA _ _ _ _ zo,Ac l7 (.inl zd)];exact wj,.inr (.inr ⟨n+2,rfl,zo,AC ..⟩),.inl rfl⟩ zp
def WI(k:zx)(x:zk)(wA:List Int):Option (List xv):=B8 (AP k) x wA x.cs.length (C7 x wA)
def PY(k:zx)(x:zk):List Fs->AB->Prop×Fs:=λa _=>match a with
 |[K,X,a1,a2]=>(CQ.ok K/\CQ.dec K=k/\dX.ok X/\dX.dec X=x/\A3.ok a1/\PrC k x (A3.dec a1)/\A3.ok a2/\A3.dec a2=C7 x (A3.dec a1),GZ (WI k x (A3.dec a1)))
 |_=>(False,.wJ [])
def na(k:zx)(x:zk):∀args H n,(PY k x args H).1->Ao prog 28 args H n (PY k x args H).2:=by
 intro args H n hh;unfold PY at hh⊢;split at hh
 ·obtain⟨h1,h2,h3,h4,h5,h6,h7,h8⟩:=hh;have w1:=CQ.wk _ h1;rw[h2]at w1;have w2:=dX.wk _ h3;rw[h4]at w2;have w4:=A3.wk _ h7;rw[h8]at w4;refine AX.args ((p28 h6 x.cs.length h6.ox.cs.2.2.2 _ Kd (V6 h6)).quiet H n) ?_;rintro g vs ⟨v1,r1,rfl,k1,v2,r2,rfl,k2,v3,r3,rfl,k3,v4,r4,rfl,k4,k5⟩;exact⟨v1,_,rfl,w1 _ _ k1,v2,_,rfl,w2 _ _ k2,v3,_,rfl,A3.wk _ h5 _ _ k3,v4,_,rfl,w4 _ _ k4,k5⟩
 ·exact hh.elim
def Tzp(k:zx)(x:zk):Bg:=AF 26 (s2 CQ dX (λk x=>RfK k/\wq x) λk x=>eI (BH k x)) (AF 27 (s2 CQ dI (λk _=>RfK k) CV) (AF 29 (s2 dX A3 BgC λx l=>Aj (C7 x l)) (AF 28 (PY k x) wD)))
def ng(k:zx)(x:zk):AH prog (Tzp k x):=(((AH.wD.add (na k x)).add (q2 λx l h=>p29 x l h)).add (q2 λk n h=>p27 k n h)).add (q2 λk x h=>p26 k x h.1 h.2)
section
variable (k:zx) (x:zk) (a:List Fs) (H:AB)
end
structure VRp where
 j:Nat
 ts:List (List xv)
 tk:v8
 H:AB
 n:Nat
structure IRp(k:zx)(x:zk)(A:List (List Int))(F:List Int->Option (List xv))(v:VRp):Prop where
 hj:v.j<=A.length
 fr:AO v.H v.n
 hn:5<=v.n
 h0:AD v.H 0=some (.box (AG k))
 h1:AD v.H 1=some (.box (Aa x))
 h2:AD v.H 2=some (.box [.sl .nil []])
 h4:AD v.H 4=some (.box [.sl v.tk (v.ts.map Rh)])
 tok:C8 1 5 v.H v.tk
 es:v.tk.esz=1\/v.ts=[]
 he:IC F A=(IC F (A.drop v.j)).map λt=>v.ts++t
 ln:v.ts.length=v.j
 le:Bc v.ts<=v.j*70000
def p9(k:zx)(x:zk)(hk:RfK k)(hx:wq x):Av prog 9 [BA k,Cl x] (DL k x):=by
 have u1:CQ.ok (.agg (AG k))=True:=Ce k;have u2:CQ.dec (.agg (AG k))=k:=Bx k;simp only[AG,AE,AL,sJ,sI]at u1 u2;have v1:dX.ok (.agg (Aa x))=True:=Gm x;have v2:dX.dec (.agg (Aa x))=x:=Ei x;simp only[Aa]at v1 v2;refine .mk ⟨Am 0 k,BN 0 x,zt⟩ ?_ (c9.a (AI (ng k x) (AJ ?_)))
 ·unfold DL HO;split
  ·exact⟨⟨⟨zt,zt⟩,zt⟩,zt,zt⟩
  ·split
   ·exact⟨⟨⟨zt,zt⟩,zt⟩,zt,zt⟩
   ·exact⟨FP 0 _,zt,zt⟩
 unfold DL;by_cases hv:BH k x=0;case neg=>
  rw[sn hv];simp only[eZ,seval,se,BO,c9,AG,AE,AL,Tzp,s2,u1,u2,v1,v2,r9 hk,r9 hx,sb hv,AF];exact Wk.refl _
 rw[sg (by simpa using hv)];obtain⟨hck,hox⟩:=IN hk.kn.d hx hv;have hsy:=BZ hck;have hvl:(AP k).length=k.d.wE.length:=by unfold AP;rw[ry]
 have hPr:∀l∈EP k.d.wE.length x.ls.length,PrC k x l:=λl hl=>⟨hck,hk.kn.d,hx,hox,hl⟩
 have hAl:(EP k.d.wE.length x.ls.length).length<=4096:=by
  refine sX (Iy _ _) (sX (uW hsy.2 _) (sX (uS zd (show x.ls.length<=3 from hox.ls.2.2.2)) zd))
 have hl3:x.ls.length<=3:=hox.ls.2.2.2;have xu:CV k (x.ls.length:Int)= .wJ [Br (EP k.d.wE.length x.ls.length),.int .i64 0]:=by
  unfold CV;rw[sg (by simpa using hck),sg zo,sm]
 have htp:GP (AP k) x=IC (WI k x) (EP k.d.wE.length x.ls.length):=by unfold GP;rw[hvl];rfl
 unfold HO Lb;rw[htp];simp only[eZ,seval,sa,eY,c9,AG,AE,AL,Tzp,s2,u1,u2,v1,v2,r9 hk,r9 hx,r9 hv,Ay,An,xu,AF];generalize EP k.d.wE.length x.ls.length=A at hPr hAl;have hx4:=hox.cs.2.2.2;have ye:=JP hx4;refine AQ (λv:VRp=>⟨[(2,true,.ptr 0 0),(3,true,.ptr 1 0),(4,true,.ptr 2 0),(7,true,Br A),(9,true,.ptr 4 0),(10,true,.int .i64 (Bc v.ts)),(11,true,.int .i64 v.j)],v.H,v.n⟩) (IRp k x A (WI k x)) (λv=>A.length-v.j)
  ⟨0,[],.nil,_,5⟩ rfl ⟨sk _,?_,sj _,rfl,rfl,rfl,rfl,.inl rfl,.inr rfl,zw,rfl,by simp [Bc]⟩ ?_
 ·simp only[];repeat' (first|exact AO.nil.wB (m:=5) (sk _) zd|refine AO.wB ?_ (sj _) zd)
 rintro⟨j,ts,tk,H,n⟩ ⟨hj,hf,hn,h0,h1,h2,h4,l7,s7,he,ww,hle⟩;simp only at hj hf hn h0 h1 h2 h4 l7 s7 he ww hle;have wj:=h0;have h1':=h1;simp only[AG,AE,AL,sJ,sI]at h0;simp only[Aa]at h1;have hjA:j*70000<=4096*70000:=tT _ zo;by_cases e9:j<A.length;case neg=>
  obtain rfl:j=A.length:=zo
  rw[t5,IC,td,sR]at he;rw[he];simp only[];by_cases hN:65536<Bc ts
  ·have w1:((65536:Int)<(Bc ts:Int))=True:=r9 zo;rw[sn hN];simp only[eZ,seval,BO,ry,Ag e9,h2,w1];exact Wk.refl _
  ·have w1:((65536:Int)<(Bc ts:Int))=False:=sb zo;rw[sg hN];simp only[eZ,seval,BO,ry,Ag e9,h2,h4,w1];exact Wk.wJ (.cons (Wk.agg (.cons (Wk.sl (s7.imp id λq=>by rw[q];rfl)) .nil)) (.cons (Wk.refl _) .nil))
 have e:=AK (k:=j) zo;have hg:=rz e9;have hdr:=sO e9;have hpr:=hPr _ (sC e9);rw[hdr,IC]at he;generalize A[j]=l at hg hpr he;cases hFl:WI k x l with
 |none=>
  rw[hFl]at he;simp only[tU]at he;rw[he];simp only[];simp only[eZ,seval,se,eY,BO,AN e9,hg,h0,h1,h2,Tzp,PY,s2,u1,u2,v1,v2,Ah,Ad,r9 hpr,r9 hpr.bg,uA,hFl,GZ,se,AF];exact Wk.refl _
 |some t=>
  rw[hFl]at he;have hgl:=G3 (vals:=AP k) (x:=x) (wA:=l) zo x.cs.length _ t hFl;have hnd:Bc (ts++[t])=Bc ts+t.length:=by rw[PS];simp [Bc]
  have w3:IntKind.wrap .i64 ((Bc ts:Int)+(t.length:Int))=((Bc ts+t.length:Nat):Int):=by rw[A4 zo zo];omega
  have q1:BB H 1 tk=True:=r9 l7.app;have q2:(ts.length<=35184372088831)=True:=r9 zo;have q3:Al (ts.length+1) 24=True:=r9 (Ae zo zd);have kk4:AD (AU H tk) 4=AD H 4:=Ac l7 (.inl zd);have y3:(n+4=4)=False:=sb zo;simp only[eZ,seval,sa,eY,AN e9,hg,h0,h1,h4,Tzp,PY,s2,u1,u2,v1,v2,Ah,Ad,r9 hpr,r9 hpr.bg,uA,hFl,GZ,sa,w3,q1,q2,q3,kk4,y3,Bq hf,e,AF];have hlow:∀i,i<4->AD (wB (wB (AU H tk) (n+4) .tok) 4 (.box [.sl (.own (n+4) 1) (ts.map Rh++[Rh t])])) i=AD H i:=λi hi=>by
   rw[AA _ _ _ _ zo,AA _ _ _ _ zo,Ac l7 (.inl zo)]
  refine .mk ⟨j+1,ts++[t],.own (n+4) 1,wB (wB (AU H tk) (n+4) .tok) 4 (.box [.sl (.own (n+4) 1) (ts.map Rh++[Rh t])]),n+7⟩ (by simp only[hnd]) ⟨e9,((Ab l7 hf).wB (m:=n+7) zo zo).wB (m:=n+7) (sj _) zo,zp,?_,?_,?_,?_,?_,.inl rfl,?_,by simp only[sH,sM,tI];omega,?_⟩ zp
  ·exact(hlow 0 zo).trans wj
  ·exact(hlow 1 zo).trans h1'
  ·exact(hlow 2 zo).trans h2
  ·simp only[];rw[AC,su];rfl
  ·exact .inr (.inr ⟨n+4,rfl,zo,by rw[AA _ _ _ _ zo,AC]⟩)
  ·simp only[];rw[he,Option.map_map];congr 1;funext b;simp
  ·simp only[hnd];rw[tA];omega
def UF(k:zx)(x:zk)(wA:List Int):Option (List Int):=DM (AP k) x wA x.cs.length 0 (List.replicate x.cs.length 0)
def PZ(k:zx)(x:zk):List Fs->AB->Prop×Fs:=λa _=>match a with
 |[K,X,a1,a2,.int .i64 i]=>(CQ.ok K/\CQ.dec K=k/\dX.ok X/\dX.dec X=x/\A3.ok a1/\PrC k x (A3.dec a1)/\A3.ok a2/\A3.dec a2=List.replicate x.cs.length 0/\i=0,MW x.cs.length (List.replicate x.cs.length 0) (UF k x (A3.dec a1)))
 |_=>(False,.wJ [])
def flc0{k:zx}{x:zk}{wA:List Int}(h:PrC k x wA):FlC k x (List.replicate x.cs.length 0):=⟨by rw[tK],λs hs=>by
 have:=(BZ h.ck).1;rw[(vX.1 hs).2];exact⟨vA _,zo⟩⟩
def nh(k:zx)(x:zk):∀args H n,(PZ k x args H).1->Ao prog 33 args H n (PZ k x args H).2:=by
 intro args H n hh;unfold PZ at hh⊢;split at hh
 ·obtain⟨h1,h2,h3,h4,h5,h6,h7,h8,rfl⟩:=hh;have w1:=CQ.wk _ h1;rw[h2]at w1;have w2:=dX.wk _ h3;rw[h4]at w2;have w4:=A3.wk _ h7;rw[h8]at w4;refine AX.args ((p33 h6 x.cs.length 0 _ (tx _) (flc0 h6)).quiet H n) ?_;rintro g vs ⟨v1,r1,rfl,k1,v2,r2,rfl,k2,v3,r3,rfl,k3,v4,r4,rfl,k4,k5⟩;exact⟨v1,_,rfl,w1 _ _ k1,v2,_,rfl,w2 _ _ k2,v3,_,rfl,A3.wk _ h5 _ _ k3,v4,_,rfl,w4 _ _ k4,k5⟩
 ·exact hh.elim
def aV(k:zx)(x:zk):Bg:=AF 26 (s2 CQ dX (λk x=>RfK k/\wq x) λk x=>eI (BH k x)) (AF 27 (s2 CQ dI (λk _=>RfK k) CV) (AF 33 (PZ k x) wD))
def fS(k:zx)(x:zk):AH prog (aV k x):=((AH.wD.add (nh k x)).add (q2 λk n h=>p27 k n h)).add (q2 λk x h=>p26 k x h.1 h.2)
section
variable (k:zx) (x:zk) (a:List Fs) (H:AB)
end
def WJ{tk:v8}{m:Nat}(h:tk.esz=1):A3.ok (.sl tk (List.replicate m (.int .i64 0)))=True:=r9 ⟨.inl h,by rw[ud,ud];rfl⟩
def SJ{tk:v8}{m:Nat}:A3.dec (.sl tk (List.replicate m (.int .i64 0)))=List.replicate m 0:=by
 show(List.replicate m (Fs.int .i64 0)).map A9=_;rw[ud];rfl
def NR(n:Nat)(k:zx)(x:zk):(By k x).under n:=by
 unfold By FQ;split
 ·exact⟨⟨zt,zt⟩,⟨zt,zt⟩,zt,zt,zt⟩
 ·split
  ·exact⟨AV n _,AV n _,zt,zt,zt⟩
  ·exact⟨⟨zt,zt⟩,⟨zt,zt⟩,zt,zt,zt⟩
def p11(k:zx)(x:zk)(hk:RfK k)(hx:wq x):Av prog 11 [BA k,Cl x] (By k x):=by
 have u1:CQ.ok (.agg (AG k))=True:=Ce k;have u2:CQ.dec (.agg (AG k))=k:=Bx k;simp only[AG,AE,AL,sJ,sI]at u1 u2;have v1:dX.ok (.agg (Aa x))=True:=Gm x;have v2:dX.dec (.agg (Aa x))=x:=Ei x;simp only[Aa]at v1 v2;refine .mk ⟨Am 0 k,BN 0 x,zt⟩ (NR 0 k x) (c11.a (AI (fS k x) (AJ ?_)));unfold By;by_cases hv:BH k x=0;case neg=>
  rw[sn hv];simp only[eZ,seval,se,c11,AG,AE,AL,aV,s2,u1,u2,v1,v2,r9 hk,r9 hx,sb hv,AF];exact Wk.refl _
 rw[sg (by simpa using hv)];obtain⟨hck,hox⟩:=IN hk.kn.d hx hv;have hvl:(AP k).length=k.d.wE.length:=by unfold AP;rw[ry]
 have hsy:=BZ hck;have hPr:∀l∈EP k.d.wE.length x.ls.length,PrC k x l:=λl hl=>⟨hck,hk.kn.d,hx,hox,hl⟩
 have hAl:(EP k.d.wE.length x.ls.length).length<=4096:=by
  refine sX (Iy _ _) (sX (uW hsy.2 _) (sX (uS zd (show x.ls.length<=3 from hox.ls.2.2.2)) zd))
 have hl3:x.ls.length<=3:=hox.ls.2.2.2;have xu:CV k (x.ls.length:Int)= .wJ [Br (EP k.d.wE.length x.ls.length),.int .i64 0]:=by
  unfold CV;rw[sg (by simpa using hck),sg zo,sm]
 unfold FQ;rw[<-i9 hox];unfold rN;rw[hvl];simp only[eZ,seval,sa,eY,c11,AG,AE,AL,aV,s2,u1,u2,v1,v2,r9 hk,r9 hx,r9 hv,Ay,An,xu,AF];generalize EP k.d.wE.length x.ls.length=A at hPr hAl;obtain⟨G,hG⟩:∃G:List Int->Option (List Int×List Int),(λwA=>(DM (AP k) x wA x.cs.length 0 (List.replicate x.cs.length 0)).map λc=>(wA,c))=G:=⟨_,rfl⟩;have hGs:∀l,G l=(UF k x l).map λc=>(l,c):=λl=>by rw[<-hG];rfl
 rw[hG];have hx4:=hox.cs.2.2;refine AQ (λi:Nat=>⟨[(2,true,.ptr 0 0),(3,true,.ptr 1 0),(9,true,Br A),(11,true,.int .i64 i)],Hkx k x,6⟩) (λi=>i<=A.length/\A.findSome? G=(A.drop i).findSome? G) (λi=>A.length-i) 0 rfl ⟨sk _,rfl⟩ ?_;rintro i ⟨hi,hR⟩;by_cases e9:i<A.length;case neg=>
  obtain rfl:i=A.length:=zo
  rw[t5,List.findSome?_nil]at hR;rw[hR];simp only[eZ,seval,ry,Ag e9];exact Wk.refl _
 have e:=AK (k:=i) zo;have hg:=rz e9;have hdr:=sO e9;have hpr:=hPr _ (sC e9);rw[hdr,uY]at hR;generalize A[i]=l at hg hpr hR;rw[hGs]at hR;have w6:((x.cs.length:Int)<=35184372088832)=True:=r9 zo;have w7:Al x.cs.length 8=True:=r9 (Ae zo zd);cases hF:UF k x l with
 |none=>
  rw[hF]at hR;simp only[tU]at hR;simp only[eZ,seval,eY,AN e9,hg,AG,AE,AL,Aa,w6,w7,aV,PZ,u1,u2,v1,v2,Ah,Ad,r9 hpr,WJ,SJ,uA,hF,MW,e,AF];exact .mk (i+1) rfl ⟨e9,hR⟩ zo
 |some c=>
  rw[hF]at hR;simp only[td]at hR;rw[hR];simp only[eZ,seval,eY,AN e9,hg,AG,AE,AL,Aa,w6,w7,aV,PZ,u1,u2,v1,v2,Ah,Ad,r9 hpr,WJ,SJ,uA,hF,MW,AF];exact Wk.refl _
def p34(a b:List Int)(ha:Aq a):Av prog 34 [Aj a,Aj b] (.bool (decide (a=b))):=by
 refine .mk ⟨⟨zt,Dq 0 a⟩,⟨zt,Dq 0 b⟩,zt⟩ zt (c34.a (AI AH.wD (AJ ?_)));have wu:a.length<1000000000:=ha;by_cases hl:a.length=b.length;case neg=>
  simp only[eZ,seval,se,ry,c34,HY hl,se];exact(sA λe=>hl (by rw[e])).symm
 simp only[eZ,seval,sa,ry,c34,HZ hl];refine AQ (λi:Nat=>⟨[(0,true,Aj a),(1,true,Aj b),(5,true,.int .i64 i)],Ak,0⟩) (λi=>i<=a.length/\∀j,j<i->a[j]?=b[j]?) (λi=>a.length-i) 0 rfl ⟨sk _,λj h=>zo⟩ ?_;rintro i ⟨hi,l5⟩;by_cases e9:i<a.length;case neg=>
  simp only[eZ,seval,ry,Ag e9];exact(sK (Ed hl λj hj=>l5 j zo)).symm
 have wO:i<b.length:=zo
 have xW:=rz e9;have wQ:=rz wO;have e:=AK (k:=i) zo;by_cases hs:a[i]=b[i]
 ·simp only[eZ,seval,sa,eY,AN e9,AN wO,xW,wQ,hs,e];refine .mk (i+1) rfl ⟨e9,λj h=>?_⟩ zo;by_cases q:j=i
  ·subst q;rw[xW,wQ,hs]
  ·exact l5 j zo
 ·simp only[eZ,seval,se,eY,AN e9,AN wO,xW,wQ,hs];exact(sA λq=>hs (by simp [q])).symm
def Tzx:Bg:=AF 34 (s2 A3 A3 (λa _=>Aq a) λa b=>.bool (decide (a=b))) wD
def ni:AH prog Tzx:=AH.wD.add (q2 p34)
def p13(a b:List Int)(ha:Aq a):Av prog 13 [Aj a,Aj b] (.bool (decide (a=b))):=by
 refine .mk ⟨AV 0 a,AV 0 b,zt⟩ zt (c13.a (AI ni (AJ ?_)));simp only[eE,eN,seval,c13,Tzx,s2,Ah,Ad,r9 ha,AF]
structure DnC(p:Prm)(wA cells:List Int):Prop where
 c:0<=p.c/\p.c<(cells.length:Int)
 ls:Aq p.ls/\∀c∈p.ls,0<=c/\c<(wA.length:Int)
section
variable {k:zx} {wA:List Int} {x:zk}
section
variable (k:zx) (x:zk) (wA:List Int) (F:List Int->List xv->List xv×Bool) (ok:List Int->List xv->Prop) (a:List Fs) (H:AB)
end
structure VRe where
 i:Nat
 l:List xv
 ok:Bool
end
section
variable (k:zx) (x:zk) (a:List Fs) (H:AB)
end
section
variable (k:zx) (l:Lbr) (a:List Fs) (H:AB)
end
end Go.AM
