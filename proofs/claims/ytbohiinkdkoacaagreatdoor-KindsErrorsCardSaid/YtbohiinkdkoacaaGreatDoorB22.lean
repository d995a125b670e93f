/-
  Parts of the proof. Conditions: none.
-/
import Derived.Test.YtbohiinkdkoacaaGreatDoorB21
import Derived.Test.YtbohiinkdkoacaaGreatDoorRows
import Derived.LaidLaws
set_option maxRecDepth 20000
set_option linter.all false
namespace Go.AM
open Go.Lib Go.Proofs Go.Proofs.Tryz
mutual
def szV:Z0->Nat
 | .int _=>11
 | .text s=>11+s.length
 | .list l=>11+szVs l
def szVs:List Z0->Nat
 |[]=>0
 |v::l=>szV v+szVs l
end
mutual
def Pf:Z0->Bool
 | .int n=>decide (-9223372036854775808<=n)&&decide (n<9223372036854775808)
 | .text s=>decide (s.length<100000)
 | .list l=>decide (l.length<100000)&&fewVBs l
def fewVBs:List Z0->Bool
 |[]=>true
 |v::l=>Pf v&&fewVBs l
end
mutual
theorem Ma:∀v,Pf v=true->FewV v
 | .int n,h=>by
  simp only[Pf,V7,Vu]at h;exact .int h.1 h.2
 | .text s,h=>.text (Wn h)
 | .list l,h=>by
  simp only[Pf,V7,Vu]at h;exact .list h.1 (fewVBs_ok l h.2)
theorem fewVBs_ok:∀l,fewVBs l=true->∀x∈l,FewV x
 |[],_,x,hx=>by cases hx
 |v::l,h,x,hx=>by
  simp only[fewVBs,V7]at h;rcases Wp.1 hx with hx|hx
  ·rw[hx];exact Ma v h.1
  ·exact fewVBs_ok l h.2 x hx
end
theorem Mb:∀l:List Z0,(∀x∈l,(encB x).length<=szV x)->(encBs l).length<=szVs l
 |[],_=>V4 _
 |v::l,h=>by
  rw[encBs,szVs,V9];exact Nat.add_le_add (h v (Wu ..)) (Mb l λx hx=>h x (WJ _ hx))
def U1{v:Z0}(hv:FewV v):(encB v).length<=szV v:=by
 induction hv with
 | @int n h1 h2=>rw[encB,szV,Vz];have:=Bi (Iw h1 h2);omega
 | @text s h=>rw[encB,szV,Vz,V9];have:=Bi (u:=s.length) zo;omega
 | @list l h hx ih=>rw[encB,szV,Vz,V9];have:=Bi (u:=l.length) zo;have:=Mb l ih;omega
def Pg{k:Knd}(h1:HW k.d=true)(h2:Pf (valD k.d)=true)(h3:decide (depV (valD k.d)<=16)=true)(h4:decide (szV (valD k.d)<900000000)=true):DgOK k:=by
 have hv:=Ma _ h2;unfold HW Ex Fm at h1;simp only[V7,Vu,W4]at h1;obtain⟨⟨⟨⟨⟨⟨a1,a2⟩,a3⟩,a4⟩,a5⟩,a6⟩,a7⟩:=h1;exact⟨⟨by show _<_;omega,by show _<_;omega,by show _<_;omega,λr hr=>⟨by show _<_;have:=(a6 r hr).1;omega,λl hl=>by show _<_;have:=(a6 r hr).2 l hl;omega⟩,by show _<_;omega,by show _<_;omega,λr hr=>⟨by show _<_;have:=a7 r hr;omega,by show _<_;have:=a7 r hr;omega⟩⟩,⟨hv,Wn h3⟩,by have:=U1 hv;have:=Wn h4;omega⟩
def dg1:DgOK kk1:=Pg zd zd zd zd
def dg0:DgOK knd0:=Pg zd zd zd zd
def cmR(s:List UInt8):Prop×Fs:=if s=ex1 then(True,.tup [BR kk1,.int .i64 0,.int .i64 0])else if s=ex2 then(True,.tup [BR knd0,.int .i64 0,.int .i64 170])else if s=ex3 then(True,.tup [BR knd0,.int .i64 0,.int .i64 160])else if s=ex4 then(True,.tup [BR knd0,.int .i64 89,.int .i64 150])else(False,.tup [])
def sCm:List Fs->AC->Prop×Fs:=λa _=>match a with
 |[.str s]=>cmR s
 |_=>(False,.tup [])
def qCm:∀args H n,(sCm args H).1->Ab prog 23 args H n (sCm args H).2:=by
 intro args H n hh;unfold sCm cmR at hh⊢;split at hh
 ·rename_i s;by_cases h1:s=ex1
  ·subst h1;rw[Vv rfl];exact rm1.quiet H n
  rw[V5 h1]at hh⊢;by_cases h2:s=ex2
  ·subst h2;rw[Vv rfl];exact rm2.quiet H n
  rw[V5 h2]at hh⊢;by_cases h3:s=ex3
  ·subst h3;rw[Vv rfl];exact rm3.quiet H n
  rw[V5 h3]at hh⊢;by_cases h4:s=ex4
  ·subst h4;rw[Vv rfl];exact rm4.quiet H n
  rw[V5 h4]at hh;exact hh.elim
 ·exact hh.elim
def cmR_1:cmR ex1=(True,.tup [BR kk1,.int .i64 0,.int .i64 0]):=by unfold cmR;rw[Vv rfl]
def cmR_2:cmR ex2=(True,.tup [BR knd0,.int .i64 0,.int .i64 170]):=by unfold cmR;rw[V5 zd,Vv rfl]
def cmR_3:cmR ex3=(True,.tup [BR knd0,.int .i64 0,.int .i64 160]):=by unfold cmR;rw[V5 zd,V5 zd,Vv rfl]
def cmR_4:cmR ex4=(True,.tup [BR knd0,.int .i64 89,.int .i64 150]):=by unfold cmR;rw[V5 zd,V5 zd,V5 zd,Vv rfl]
def p24(a b c:List UInt8)(h:a.length+b.length+c.length<1000):Pur prog 24 [.str a,.str b,.str c] (.str (exB a b c)):=by
 refine .mk ⟨trivial,trivial,trivial,trivial⟩ trivial (c24.a (AE AI.tnil (AF ?_)));simp only[eE,eN,seval,c24];simp only[small,V9,Vz,Wq]
 and_intros<;>first|omega|rfl
def sEx:List Fs->AC->Prop×Fs:=λa _=>match a with
 |[.str a,.str b,.str c]=>(a.length+b.length+c.length<1000,.str (exB a b c))
 |_=>(False,.tup [])
def qEx:∀args H n,(sEx args H).1->Ab prog 24 args H n (sEx args H).2:=by
 intro args H n hh;unfold sEx at hh⊢;split at hh
 ·exact(p24 _ _ _ hh).quiet H n
 ·exact hh.elim
def dLw:Dc (List (List Int)):=dWk eLl (decL KX)
abbrev lsL:Fs:=.sl (.exact 1) [.sl (.exact 1) [.int .i64 0,.int .i64 1],.sl (.exact 1) [.int .i64 2,.int .i64 3]]
def lw_ok1:dLw.ok (eLl [[0,1],[2,3]])=True:=V1 (show Wk _ (eLl [[0,1],[2,3]])from Wk.refl _)
theorem U2:dLw.dec (eLl [[0,1],[2,3]])=[[0,1],[2,3]]:=rfl
def lw_ok2:dLw.ok lsL=True:=V1 (show Wk lsL (eLl [[0,1],[2,3]])from Wk.slx (.inl rfl) (.cons (Wk.sl (.inl rfl)) (.cons (Wk.sl (.inl rfl)) .nil)))
theorem U3:dLw.dec lsL=[[0,1],[2,3]]:=rfl
theorem TJ:∀l:List UInt8,cfit (List.replicate l.length 0) (l.map eB) (l.map eB)
 |[]=>trivial
 |b::l=>⟨rfl,TJ l⟩
theorem TK:∀l:List UInt8,ceqs (l.map eB) (l.map eB)=true
 |[]=>rfl
 |b::l=>by rw[W6,ceqs,TK l,Bool.and_true];simp [ceq]
noncomputable def TabS:Tab:=tadd 24 sEx (tadd 23 sCm (tadd 10 (s1 dD Z4 BB) (tadd 14 (s1 dKn (λk=>Z4 k.d/\DgOK k) CD) (tadd 15 (s1 dKn (λk=>FewR k.d/\FewKr k/\DgOK k) CD) (tadd 16 (s1 dKn (λk=>Z4 k.d) λk=>.int .i64 (CN k)) (tadd 18 (s2 dKn dKn (λ_ b=>FewKn b) λa b=>.bool (decide (a=b))) (tadd 25 (s2 dLw dLw (λa _=>few a/\∀x∈a,wide x) λa b=>.bool (decide (a=b))) tnil)))))))
def U4:AI prog TabS:=(((((((AI.tnil.add (q2 λa b h=>p25 a b h.1 h.2)).add (q2 λa b h=>p18 a b h)).add (q1 λk h=>p16 k h)).add (q1 λk h=>p15 k h.1 h.2.1 h.2.2)).add (q1 λk h=>p14 k h.1 h.2)).add (q1 λd h=>p10 d h)).add qCm).add qEx
section
variable (a:List Fs) (H:AC)
theorem TabS_e:TabS 24 a H=sEx a H:=rfl
theorem TabS_c:TabS 23 a H=sCm a H:=rfl
theorem TabS_b:TabS 10 a H=s1 dD Z4 BB a H:=rfl
theorem TabS_d:TabS 14 a H=s1 dKn (λk=>Z4 k.d/\DgOK k) CD a H:=rfl
theorem TabS_r:TabS 15 a H=s1 dKn (λk=>FewR k.d/\FewKr k/\DgOK k) CD a H:=rfl
theorem TabS_k:TabS 16 a H=s1 dKn (λk=>Z4 k.d) (λk=>.int .i64 (CN k)) a H:=rfl
theorem TabS_s:TabS 18 a H=s2 dKn dKn (λ_ b=>FewKn b) (λa b=>.bool (decide (a=b))) a H:=rfl
theorem TabS_l:TabS 25 a H=s2 dLw dLw (λa _=>few a/\∀x∈a,wide x) (λa b=>.bool (decide (a=b))) a H:=rfl
end
abbrev zD:Fs:=.agg [.str [],.int .i64 0,.int .i64 0,.int .i64 0,.int .i64 0,.sl .nil [],.sl .nil [],.sl .nil [],.sl .nil [],.sl .nil []]
abbrev zK:Fs:=.agg [.str [],.int .i64 0,.int .i64 0,.int .i64 0,.int .i64 0,.sl .nil [],.sl .nil [],.sl .nil [],.sl .nil [],.sl .nil [],.int .i64 0,.int .i64 0,.int .i64 0,.sl .nil [],.sl .nil [],.sl .nil [],.sl .nil []]
def zD_ok:dD.ok zD=True:=V1 (show Wk zD (encD dcl0)from Wk.agg (.cons (Wk.refl _) (.cons (Wk.refl _) (.cons (Wk.refl _) (.cons (Wk.refl _) (.cons (Wk.refl _) (.cons (Wk.sl (.inr rfl)) (.cons (Wk.sl (.inr rfl)) (.cons (Wk.sl (.inr rfl)) (.cons (Wk.sl (.inr rfl)) (.cons (Wk.sl (.inr rfl)) .nil)))))))))))
theorem zD_dec:dD.dec zD=dcl0:=rfl
def zK_ok:dKn.ok zK=True:=V1 (show Wk zK (BR knd0)from Wk.agg (.cons (Wk.refl _) (.cons (Wk.refl _) (.cons (Wk.refl _) (.cons (Wk.refl _) (.cons (Wk.refl _) (.cons (Wk.sl (.inr rfl)) (.cons (Wk.sl (.inr rfl)) (.cons (Wk.sl (.inr rfl)) (.cons (Wk.sl (.inr rfl)) (.cons (Wk.sl (.inr rfl)) (.cons (Wk.refl _) (.cons (Wk.refl _) (.cons (Wk.refl _) (.cons (Wk.sl (.inr rfl)) (.cons (Wk.sl (.inr rfl)) (.cons (Wk.sl (.inr rfl)) (.cons (Wk.sl (.inr rfl)) .nil))))))))))))))))))
theorem zK_dec:dKn.dec zK=knd0:=rfl
def Ph:CD kk1= .tup [eDg (B5 O8 (encB (valD kk1.d))),.int .i64 0]:=by unfold CD;rw[V5 (by rw[ck1];decide)]
def Pi:CD knd0= .tup [MJ,.int .i64 180]:=by unfold CD;rw[Vv (by rw[ck0];decide)]
def p8:Pur prog 8 [] (.bool true):=by
 refine .mk trivial trivial (a8 (AE U4 (AF ?_)));have u1:dKn.ok (.agg (Ah kk1))=True:=GK kk1;have u2:dKn.dec (.agg (Ah kk1))=kk1:=Eg kk1;have hb1:FewR kk1.d:=⟨Jo _ zd,zd⟩;have hd0:Z4 dcl0:=Jo _ zd;have hk1:FewKn kk1:=⟨hb1.1,zd,zd,zd,zd,zd⟩;have e1:exB [49] [114,111,119,115] [59]=ex1:=rfl;have e2:exB [48] [114,111,119,115] [59]=ex2:=rfl;have e3:exB [49] [108,105,110,101,115] [59]=ex3:=rfl;have e4:exB [49] [114,111,119,115] []=ex4:=rfl;simp only[Ah,AH,AK,Ww,Wi]at u1 u2;have l8:kk1.ls.length=8:=rfl;have l4:kk1.g.cells.length=4:=rfl;have lx:kk1.ls[1]?=some [[0,1],[2,3]]:=rfl;have e5:ex4.length=90:=rfl;have n8:((8:Nat):Int)=8:=rfl;have n4:((4:Nat):Int)=4:=rfl;have n90:((90:Nat):Int)=90:=rfl;have hkr:FewKr kk1:=few_kr hk1;simp only[eZ,seval,V3,eY,c8,TabS_e,TabS_c,TabS_b,TabS_d,TabS_r,TabS_k,TabS_s,TabS_l,sEx,sCm,e1,e2,e3,e4,e5,n8,n4,n90,cmR_1,cmR_2,cmR_3,cmR_4,s1,s2,zD_ok,zD_dec,zK_ok,zK_dec,u1,u2,bv0,Pi,Ph,MJ,V1 dg0,V1 dg1,V1 hd0,V1 hb1,V1 hb1.1,V1 hkr,ck1,ck0,l8,l4,lx,Jl,lw_ok1,U2,lw_ok2,U3,AD];have hw:89=IntKind.i64.wrap (90-1):=zd
 have ht:List.take 32 ((B5 O8 (encB (valD kk1.d))).map eB)=(B5 O8 (encB (valD kk1.d))).map eB:=We (by rw[V0,Jl];exact V4 _);have hc:=TJ (B5 O8 (encB (valD kk1.d)));rw[Jl]at hc;rw[ht];refine⟨λ_=>hc,λ_=>⟨zd,λx hx=>?_⟩,λ_=>RV,hw,TK _⟩;rcases Wp.1 hx with rfl|hx
 ·decide
 ·rw[WV.1 hx];decide
def Tkz:Tab:=tadd 8 (s0v (.bool true)) (tadd 9 (s1 dD any1 λd=>.bool (HW d)) (tadd 10 (s1 dD Z4 BB) (tadd 19 (s1 dD Z4 Bh) (tadd 20 (s1 dD Z4 λd=>.int .i64 (chkD d)) (tadd 21 (s2 dD dD (λ_ b=>Z4 b) λa b=>.bool (decide (a=b))) (tadd 16 (s1 dKn (λk=>Z4 k.d) λk=>.int .i64 (CN k)) tnil))))))
def Tkz_ok:AI prog Tkz:=((((((AI.tnil.add (q1 λk h=>p16 k h)).add (q2 λa b h=>p21 a b h)).add (q1 p20)).add (q1 λd h=>p19 d h)).add (q1 λd h=>p10 d h)).add (q1 λd _=>p9 d)).add (q0v p8)
section
variable (a:List Fs) (H:AC)
end
def p5(d:Z8):Pur prog 5 [encD d] (.bool true):=by
 refine .mk ⟨AW 0 d,trivial⟩ trivial (c5.a (AE Tkz_ok (AF ?_)));cases hf:HW d with
 |false=>simp only[eZ,seval,V3,V6,c5,Tkz,s0v,s1,A0,Aj,hf,V6,V3,tadd]
 |true=>
 have hD:=Kb hf;rcases Ku d with⟨e,he,hr,hb⟩|⟨x,hr,hc,hb⟩|⟨x,k,hr,hc,hb,rfl,hk⟩
 ·have hv:BB d= .tup [BR knd0,.int .i64 e]:=by unfold BB;rw[hb]
  have hn:Bh d= .tup [encD dcl0,.int .i64 e]:=by unfold Bh;rw[hr]
  simp only[eZ,seval,V3,V6,eY,c5,Tkz,s0v,s1,A0,Aj,hf,V6,V3,V1 hD,hv,hn,Vs he,Y9,Ah,AH,AK,tadd]
 ·have hv:BB d= .tup [BR knd0,.int .i64 (chkD x)]:=by unfold BB;rw[hb]
  have hn:Bh d= .tup [encD x,.int .i64 0]:=by unfold Bh;rw[hr]
  have hx:=ED hD hr;simp only[eZ,seval,V3,V6,eY,c5,Tkz,s0v,s1,A0,Aj,hf,V6,V3,V1 hD,V1 hx,hv,hn,Vs hc,Y9,Ah,AH,AK,tadd]
 ·have hv:BB d= .tup [BR k,.int .i64 0]:=by unfold BB;rw[hb]
  have hn:Bh d= .tup [encD k.d,.int .i64 0]:=by unfold Bh;rw[hr]
  have hx:=ED hD hr;have u1:dKn.ok (.agg (Ah k))=True:=GK k;have u2:dKn.dec (.agg (Ah k))=k:=Eg k;simp only[Ah,AH,AK,Ww,Wi]at u1 u2;have v1:dD.ok (.agg (AK k.d))=True:=A0 k.d;have v2:dD.dec (.agg (AK k.d))=k.d:=Aj k.d;simp only[AK]at v1 v2;simp only[eZ,seval,V3,eY,c5,Tkz,s0v,s1,s2,A0,Aj,hf,V3,V1 hD,V1 hx,hv,hn,hc,hk,Y9,u1,u2,v1,v2,Ah,AH,AK,tadd]
end Go.AM
namespace Go.AM
open Go.ChangeAt Go.ChangeShapes Go.Lib Go.Proofs Go.RowKit Go.WideElems Go.WideMaps Go.WideShapes Go.Proofs.Tryz
section
def own:ownKnob prog.godebug=none:=by kernel_rfl
abbrev LM:List (String×DataW Unit):=Go.Proofs.YtbohiinkdkoacaaGreatDoor.Rows.kindsBuildSpecRow.laid
def gStart:prog.globalNamed ((LM[3]?.map (·.1)).getD "")=some 0:=by kernel_rfl
def gNums:prog.globalNamed ((LM[4]?.map (·.1)).getD "")=some 1:=by kernel_rfl
def Ry(os:Os)(args:Array Value):laidMetH prog LM ((World.doorLaid prog 400 os).forCall (λ_ _=>0) ⟨#[],args,[]⟩).memory:=
 laidMetH_of_parts3 (fuel:=8) (laidMet_of_run' 8 (by kernel_rfl) (by kernel_rfl)) (by kernel_rfl) (by kernel_rfl)
def Pj:List Int:=[1779033703,3144134277,1013904242,2773480762,1359893119,2600822924,528734635,1541459225]
def nbrL:List Int:=[1116352408,1899447441,3049323471,3921009573,961987163,1508970993,2453635748,2870763221,3624381080,310598401,607225278,1426881987,1925078388,2162078206,2614888103,3248222580,3835390401,4022224774,264347078,604807628,770255983,1249150122,1555081692,1996064986,2554220882,2821834349,2952996808,3210313671,3336571891,3584528711,113926993,338241895,666307205,773529912,1294757372,1396182291,1695183700,1986661051,2177026350,2456956037,2730485921,2820302411,3259730800,3345764771,3516065817,3600352804,4094571909,275423344,430227734,506948616,659060556,883997877,958139571,1322822218,1537002063,1747873779,1955562222,2024104815,2227730452,2361852424,2428436474,2756734187,3204031479,3329325298]
def J7{W:World}{n:String}{g:Nat}{cs:Array Value}(hg:prog.globalNamed n=some g)(h:W.var? prog n=some cs):∃e fz,W.heap[g]?=some (.cells cs e fz):=by
 simp only[World.var?,hg,Ya]at h;split at h
 ·rename_i c e fz hh;cases h;exact⟨e,fz,hh⟩
 ·cases h
def Mc{W:World}(h:laidMetH prog LM W):Dg (gW W)/\Ft W:=by
 rw[MakeChecks.laidMetH_plain _ _ _ (by kernel_rfl)]at h;obtain⟨ps,⟨g0,t0,cs0,f0,p0,q0,hg0,ht0,hv0,hd0,⟨g1,t1,cs1,f1,p1,q1,hg1,j0,hv1,hd1,⟨g2,t2,cs2,f2,p2,q2,hg2,k9,hv2,o9,⟨g3,t3,cs3,f3,p3,q3,hg3,ht3,hv3,hd3,⟨g4,t4,cs4,f4,p4,q4,hg4,ht4,hv4,hd4,⟨g5,t5,cs5,f5,p5,q5,hg5,ht5,hv5,hd5,⟨g6,t6,cs6,f6,p6,q6,hg6,ht6,hv6,hd6,z6,w6⟩,w5⟩,w4⟩,w3⟩,w2⟩,w1⟩,w0⟩,m0,hrows⟩:=h;obtain rfl:=Option.some.inj (gStart.symm.trans hg3);obtain rfl:=Option.some.inj (gNums.symm.trans hg4);obtain rfl:=Option.some.inj ((show(prog.globals[0]?).map (·.type)=some 200 by kernel_rfl).symm.trans ht3);obtain rfl:=Option.some.inj ((show(prog.globals[1]?).map (·.type)=some 243 by kernel_rfl).symm.trans ht4);have c3:=λoff=>World.var?_cell hg3 hv3 off
 have c4:=λoff=>World.var?_cell hg4 hv4 off
 have s3:PStab (gW W) ((gW W).σ 0) 0 (Pj.map (.int .u32)):=HF (ns:=Pj) underlying200 underlying199 (by kernel_rfl) c3 hd3;have s4:PStab (gW W) ((gW W).σ 1) 0 (nbrL.map (.int .u32)):=HF (ns:=nbrL) underlying243 underlying199 (by kernel_rfl) c4 hd4;have z3:cs3.size=8:=by
  have:=Go.Lib.cells_of_tab (zs:=Pj) (k:=.u32) underlying200 underlying199 (by kernel_rfl) (by kernel_rfl) hd3;rw[<-Ws,this];rfl
 have z4':cs4.size=64:=by
  have:=Go.Lib.cells_of_tab (zs:=nbrL) (k:=.u32) underlying243 underlying199 (by kernel_rfl) (by kernel_rfl) hd4;rw[<-Ws,this];rfl
 constructor
 ·intro i cs hi
  match i,hi with
  |0,hi=>obtain rfl:=Option.some.inj hi;exact s3
  |1,hi=>obtain rfl:=Option.some.inj hi;exact s4
 ·intro i cs hi
  match i,hi with
  |0,hi=>obtain rfl:=Option.some.inj hi;obtain⟨e,fz,k⟩:=J7 hg3 hv3;exact⟨_,_,_,k,z3⟩
  |1,hi=>obtain rfl:=Option.some.inj hi;obtain⟨e,fz,k⟩:=J7 hg4 hv4;exact⟨_,_,_,k,z4'⟩
abbrev big(n:Nat):Prop:=n<=140737488355328
variable {av:List Fs} {α:Type}
theorem I5{l:List α}(h:big l.length):wide l:=by show l.length<_;omega
abbrev shIs:Sh:=.sl (.int .i64)
abbrev shSy:Sh:=.st [.str,.int .i64]
abbrev shRg:Sh:=.st [.str,.sl shIs]
abbrev shCl:Sh:=.st [.str,.str,.int .i64,.int .i64,.int .i64,.int .i64]
abbrev shRu:Sh:=.st [.str,.str,.int .i64,.int .i64,.sl .str,.sl .str,.int .i64,.int .i64,.int .i64,.int .i64,.str,.int .i64]
abbrev shD:Sh:=.st [.str,.int .i64,.int .i64,.int .i64,.int .i64,shIs,.sl shSy,.sl shRg,.sl shCl,.sl shRu]
theorem rb{n:Nat}(h:n<=reachBytes):big n:=WD h zd
theorem Gs{e:Sh}{enc:α->Fs}{Q:α->Prop}(he:∀vs,e.rd vs->∃a,Q a/\e.wrap vs=enc a)(h:(Sh.sl e).rd av):∃l:List α,big l.length/\(∀x∈l,Q x)/\av=[.sl (.none e.size) (l.map enc)]:=by
 simp only[Sh.rd]at h;obtain⟨l,rfl,hln,h⟩:=h
 suffices ∃m:List α,m.length=l.length/\(∀x∈m,Q x)/\l.map e.wrap=m.map enc by
  obtain⟨m,hm,hq,hm2⟩:=this;exact⟨m,by rw[hm];exact rb hln,hq,by rw[hm2]⟩
 clear hln;induction l with
 |nil=>exact⟨[],rfl,(λx hx=>by cases hx),rfl⟩
 |cons x l ih=>
  obtain⟨m,h1,h2,h3⟩:=ih λy hy=>h y (by simp [hy])
  obtain⟨a,hq,ha⟩:=he x (h x zw);exact⟨a::m,by simp [h1],λy hy=>by
   rcases Wp.1 hy with rfl|hy
   ·exact hq
   ·exact h2 y hy,by rw[W6,W6,h3,ha]⟩
theorem rdI'(vs:List Fs)(h:(Sh.int .i64).rd vs):∃n:Int,True/\(Sh.int .i64).wrap vs=eI n:=by
 obtain⟨n,rfl,_⟩:=h;exact⟨n,trivial,rfl⟩
theorem rdS'(vs:List Fs)(h:Sh.str.rd vs):∃s:Bs,big s.length/\Sh.str.wrap vs= .str s:=by
 obtain⟨s,rfl,hs⟩:=h;exact⟨s,rb hs,rfl⟩
theorem rdIs'(vs:List Fs)(h:(Sh.sl (.int .i64)).rd vs):∃l:List Int,big l.length/\(Sh.sl (.int .i64)).wrap vs=eIs l:=by
 obtain⟨l,h1,-,rfl⟩:=Gs rdI' h;exact⟨l,h1,rfl⟩
theorem rdM0{e:Sh}{enc:α->Fs}(he:∀vs,e.rd vs->∃a,e.wrap vs=enc a)(h:(Sh.sl e).rd av):∃l:List α,av=[.sl (.none e.size) (l.map enc)]:=by
 obtain⟨l,-,-,h⟩:=Gs (Q:=λ_=>True) (λvs h=>by obtain⟨a,ha⟩:=he vs h;exact⟨a,trivial,ha⟩) h;exact⟨l,h⟩
theorem rdI0(vs:List Fs)(h:(Sh.int .i64).rd vs):∃n:Int,(Sh.int .i64).wrap vs=eI n:=by
 obtain⟨n,-,h⟩:=rdI' vs h;exact⟨n,h⟩
theorem rdIsW(vs:List Fs)(h:(Sh.sl (.int .i64)).rd vs):∃l:List Int,wide l/\(Sh.sl (.int .i64)).wrap vs=eIs l:=by
 obtain⟨l,h1,h2⟩:=rdIs' vs h;exact⟨l,I5 h1,h2⟩
theorem rdSy(vs:List Fs)(h:shSy.rd vs):∃s:Za,shSy.wrap vs=HK s:=by
 simp only[Sh.rd.eq_5,Sh.rdL]at h;obtain⟨_,_,rfl,⟨nm,rfl,h1⟩,_,_,rfl,⟨v,rfl,_⟩,rfl⟩:=h;exact⟨⟨nm,v⟩,rfl⟩
theorem rdRg(vs:List Fs)(h:shRg.rd vs):∃r:Z6,(∀l∈r.ls,wide l)/\shRg.wrap vs=FF r:=by
 simp only[Sh.rd.eq_5,Sh.rdL]at h;obtain⟨_,_,rfl,⟨nm,rfl,h1⟩,_,_,rfl,h2,rfl⟩:=h;obtain⟨ls,-,l2,rfl⟩:=Gs rdIsW h2;exact⟨⟨nm,ls⟩,l2,rfl⟩
theorem rdCl(vs:List Fs)(h:shCl.rd vs):∃c:Z5,shCl.wrap vs=B0 c:=by
 simp only[Sh.rd.eq_5,Sh.rdL]at h;obtain⟨_,_,rfl,⟨nm,rfl,h1⟩,_,_,rfl,⟨on,rfl,h2⟩,_,_,rfl,⟨a,rfl,_⟩,_,_,rfl,⟨b,rfl,_⟩,_,_,rfl,⟨c,rfl,_⟩,_,_,rfl,⟨d,rfl,_⟩,rfl⟩:=h;exact⟨⟨nm,on,a,b,c,d⟩,rfl⟩
theorem rdRu(vs:List Fs)(h:shRu.rd vs):∃r:Yz,(wide r.ns/\wide r.os)/\shRu.wrap vs=BQ r:=by
 simp only[Sh.rd.eq_5,Sh.rdL]at h;obtain⟨_,_,rfl,⟨nm,rfl,h1⟩,_,_,rfl,⟨on,rfl,h2⟩,_,_,rfl,⟨k,rfl,_⟩,_,_,rfl,⟨f,rfl,_⟩,_,_,rfl,h3,_,_,rfl,h4,_,_,rfl,⟨set,rfl,_⟩,_,_,rfl,⟨oth,rfl,_⟩,_,_,rfl,⟨op,rfl,_⟩,_,_,rfl,⟨n,rfl,_⟩,_,_,rfl,⟨b,rfl,h5⟩,_,_,rfl,⟨c,rfl,_⟩,rfl⟩:=h;obtain⟨ns,n1,n2,rfl⟩:=Gs rdS' h3;obtain⟨os,o1,o2,rfl⟩:=Gs rdS' h4;exact⟨⟨nm,on,k,f,ns,os,set,oth,op,n,b,c⟩,⟨I5 n1,I5 o1⟩,rfl⟩
theorem rdD(vs:List Fs)(h:shD.rd vs):∃d:Z8,((∀r∈d.regs,∀l∈r.ls,wide l)/\∀r∈d.ruls,wide r.ns/\wide r.os)/\vs=AK d:=by
 simp only[Sh.rd.eq_5,Sh.rdL]at h;obtain⟨_,_,rfl,⟨nm,rfl,h1⟩,_,_,rfl,⟨v,rfl,_⟩,_,_,rfl,⟨sh,rfl,_⟩,_,_,rfl,⟨w,rfl,_⟩,_,_,rfl,⟨hh,rfl,_⟩,_,_,rfl,h2,_,_,rfl,h3,_,_,rfl,h4,_,_,rfl,h5,_,_,rfl,h6,rfl⟩:=h;obtain⟨ho,rfl⟩:=rdM0 rdI0 h2;obtain⟨sy,rfl⟩:=rdM0 rdSy h3;obtain⟨rg,-,c2,rfl⟩:=Gs rdRg h4;obtain⟨cl,rfl⟩:=rdM0 rdCl h5;obtain⟨ru,-,e2,rfl⟩:=Gs rdRu h6;exact⟨⟨nm,v,sh,w,hh,ho,sy,rg,cl,ru⟩,⟨c2,e2⟩,rfl⟩
theorem argD(h:Sh.rdA [shD] av):∃d:Z8,av=[encD d]:=by
 simp only[Sh.rdA]at h;obtain⟨_,_,rfl,h1,rfl⟩:=h;obtain⟨d,-,e⟩:=rdD _ h1;exact⟨d,by rw[e];rfl⟩
end
end Go.AM
