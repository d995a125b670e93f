/-
  The program's values of numbers, texts and lists · The program's writer of texts · The program's writer of lists · The p.
  Conditions: none beyond those of its parts.
-/
import Derived.Test.YtbngedlokkndkaaGreatDoorB14
import Derived.Test.YtbngedlokkndkaaGreatDoorB8

set_option maxRecDepth 20000
set_option linter.all false
namespace Go.AM
open Go.Lib Go.Proofs Go.Proofs.Tryz
def p44(n:Int):A6 prog 44 [.int .i64 n] (eV (.int n)):=by
 refine .mk ⟨zt,zt⟩ (Ar 0 _) (c44.a (AE AG.sE (AF ?_)));simp only[eE,eN,seval,Au,c44,AH,x0.sF,Bz];exact Wk.agg (.cons (Wk.refl _) (.cons (Wk.refl _) (.cons (Wk.refl _) (.cons (Wk.sl (.inr rfl)) .nil))))
def p48(s:List UInt8):A6 prog 48 [.str s] (eV (.text s)):=by
 refine .mk ⟨zt,zt⟩ (Ar 0 _) (c48.a (AE AG.sE (AF ?_)));simp only[eE,eN,seval,Au,c48,AH,x0.sF,Bz];exact Wk.agg (.cons (Wk.refl _) (.cons (Wk.refl _) (.cons (Wk.refl _) (.cons (Wk.sl (.inr rfl)) .nil))))
def p47(l:List zk):A6 prog 47 [.sl (.none 4) (l.map eV)] (eV (.list l)):=by
 refine .mk ⟨⟨zt,by rw[<-DQ];exact uX 0 l⟩,zt⟩ (Ar 0 _) (c47.a (AE AG.sE (AF ?_)));simp only[eE,eN,seval,Au,c47,AH,x0.sF,Bz];rw[eV,DQ];exact Wk.refl _
def t_W2{H:AB}{m:Nat}{tk:xv}(l s:List UInt8)(hl:l.length+s.length<3998000000)(hf:AU H m)(hk:At H 1 tk)(ho:∀id e,tk= .own id e->id<m):AO prog 96 [.sl tk (l.map eB),eV (.text s)] H m (MH H m tk (l++B7 (.text s))):=by
 refine c96.a (AE AG.sE (AF ?_));have k1:At (sA H m (.box [.int .i64 2,.int .i64 0,.str s,.sl (.none 4) []])) 1 tk=True:=o7 (by
  unfold At at hk⊢;split at hk
  ·trivial
  ·exact hk.elim
  ·exact hk
  ·exact⟨hk.1,by rw[AA _ _ _ _ (by have:=ho _ _ rfl;omega)];exact hk.2⟩)
 have q2:(l.length+1<=35184372088832)=True:=o7 zo;have q3:small (l.length+1) 1=True:=o7 (Bn zo zd);have f4:AD (sA H m (.box [.int .i64 2,.int .i64 0,.str s,.sl (.none 4) []])) (m+4)=none:=by rw[AA _ _ _ _ zo];exact hf _ zo
 have f0:=hf m (od _);have ga:=PL (H:=H) (b:=.box [.int .i64 2,.int .i64 0,.str s,.sl (.none 4) []]) ho;have wl:IntKind.wrap .u64 (s.length:Int)=(s.length:Int):=GO zo;have lt2:(m<m+2)=True:=o7 zo;have ne4:(m+4=m)=False:=oA zo;simp only[eE,eN,eX,seval,o6,c96,eV,ga,wl,k1,q2,q3,f0,f4,lt2,ne4,x0.sF,Bz];have hmp:l.map eB++[Fs.int .u8 2]=(l++[2]).map eB:=by rw[oD];rfl
 rw[hmp];generalize hHb:sA (AR (sA H m (.box [.int .i64 2,.int .i64 0,.str s,.sl (.none 4) []])) tk) (m+4) .tok=Hb;have hbt:AD Hb (m+4)=some .tok:=by rw[<-hHb,AC]
 have hbn:∀i,i≠m+4->AD Hb i=AD (AR (sA H m (.box [.int .i64 2,.int .i64 0,.str s,.sl (.none 4) []])) tk) i:=λi hi=>by rw[<-hHb,AA _ _ _ _ (Ne.symm hi)]
 have hfk:AU Hb (m+14):=by
  rw[<-hHb];exact(Ek (hf.sA (m:=m+1) zo zo) (λid e h=>by have:=ho id e h;omega)).sA zo zo
 have hfz:∀i,m<i->i≠m+4->AD Hb i=none:=λi hi hi4=>by
  rw[hbn i hi4];exact Ek (hf.sA (m:=m+1) zo zo) (λid e h=>by have:=ho id e h;omega) _ zo
 have hnl:=Ce (u:=s.length) zo;refine(KD (tk:=.own (m+4) 1) (l++[2]) s.length zo (by rw[ou];simp only[oI,pd];omega) hfk ⟨rfl,hbt⟩ rfl (λid e h=>by cases h;omega)).mono ?_;rintro o H' n' ⟨id,s5,hid2,rfl,ht,hf',si⟩;have hkp:Gt (.ptr (m+4) 0) Hb H':=λi hi hn=>by
  have h4:i≠m+4:=λe=>hi e.symm
  have e9:i<m+14:=by
   by_cases h:i<m+14
   ·exact h
   ·exact absurd (hfk i zo) hn
  rw[si i e9];show AD (sA Hb (m+4) .dead) i=_;rw[AA _ _ _ _ (Ne.symm h4)]
 have f12:AD H' (m+12)=none:=by
  rw[si _ zo];show AD (sA Hb (m+4) .dead) (m+12)=none;rw[AA _ _ _ _ zo];exact hfz _ zo zo
 have e1:(l++[2]++CQ s.length).length=l.length+1+(CQ s.length).length:=by simp only[ou,oI,pd]
 have a1:At H' 1 (.own id 1)=True:=o7 ⟨rfl,ht⟩;have q4:(l.length+1+(CQ s.length).length+s.length<=35184372088832)=True:=o7 zo;have q5:small (l.length+1+(CQ s.length).length+s.length) 1=True:=o7 (Bn zo zd);simp only[eE,eN,eX,seval,o6,EW,e1,a1,f12];refine⟨hkp,⟨Bn zo zd,zo⟩,m+12,zo,zo,?_,AC ..,?_,λi hi=>?_⟩
 ·rw[B7,show l++2::(CQ s.length++s)=(l++[2]++CQ s.length)++s by simp];simp only[oD]
 ·exact(hf'.sA (m:=n') (od _) hid2).sA (od _) zo
 ·rw[AA _ _ _ _ zo,AA _ _ _ _ zo,si i zo];show AD (sA Hb (m+4) .dead) i=_;rw[AA _ _ _ _ zo,hbn i zo];exact PJ zo
structure WrE(wc wa:Nat)(H:AB):Prop where
 c:AD H wc=some (.box [.ptr wa 0])
 a:AD H wa=some (.box [.tG,.fn (.func 93) [] [],.fn (.func 96) [] [],.fn (.func 97) [] [.ptr wc 0]])
def wrF:zk->FuncId
 | .int _=>93
 | .text _=>96
 | .list _=>97
def wrC(wc:Nat):zk->List Fs
 | .list _=>[.ptr wc 0]
 |_=>[]
def N7{H:AB}{tk:xv}{i e:Nat}{ob:xq}(hk:At H e tk)(hn:ob≠ .tok)(h:AD H i=some ob):AD (AR H tk) i=some ob:=by
 cases tk with
 |own id e'=>
  show AD (sA H id .dead) i=_;rw[AA _ _ _ _ (by rintro rfl;rw[hk.2]at h;cases h;exact hn rfl)];exact h
 |_=>exact h
structure VWr where
 j:Nat
 id:Nat
 H:AB
 n:Nat
structure IWr(H:AB)(m:Nat)(tk:xv)(len:Nat)(v:VWr):Prop where
 hj:v.j<=len
 fr:AU v.H v.n
 le:m<=v.id
 lt:v.id<v.n
 ok:AD v.H v.id=some .tok
 low:∀i,i<m->AD v.H i=AD (AR H tk) i
theorem t_W{v:zk}(hv:FewV v):∀{H:AB} {m wc wa:Nat} {tk:xv} (l:List UInt8),l.length+(B7 v).length<3990000000->WrE wc wa H->wc<m->wa<m->AU H m->At H 1 tk->(∀id e,tk= .own id e->id<m)->
  AO prog (wrF v) ([.sl tk (l.map eB),eV v]++wrC wc v) H m (MH H m tk (l++B7 v)):=by
 induction hv with
 | @int n h1 h2=>
  intro H m wc wa tk l hl hw hc ha hf hk ho;exact t_W1 l n h1 h2 zo hf hk ho
 | @text s h=>
  intro H m wc wa tk l hl hw hc ha hf hk ho;exact t_W2 l s (by have:=hl;rw[B7,oI,ou]at this;omega) hf hk ho
 | @list L hL hx ih=>
  intro H m wc wa tk l hl hw hc ha hf hk ho;show AO prog 97 [.sl tk (l.map eB),eV (.list L),.ptr wc 0] H m _;rw[B7,oI,ou]at hl;refine c97.a (AE AG.sE (AF ?_));have k1:At (sA H m (.box [.int .i64 3,.int .i64 0,.str [],.sl (.none 4) (L.map eV)])) 1 tk=True:=o7 (by
   unfold At at hk⊢;split at hk
   ·trivial
   ·exact hk.elim
   ·exact hk
   ·exact⟨hk.1,by rw[AA _ _ _ _ (by have:=ho _ _ rfl;omega)];exact hk.2⟩)
  have q2:(l.length+1<=35184372088832)=True:=o7 zo;have q3:small (l.length+1) 1=True:=o7 (Bn zo zd);have f4:AD (sA H m (.box [.int .i64 3,.int .i64 0,.str [],.sl (.none 4) (L.map eV)])) (m+4)=none:=by rw[AA _ _ _ _ zo];exact hf _ zo
  have f0:=hf m (od _);have ga:=PL (H:=H) (b:=.box [.int .i64 3,.int .i64 0,.str [],.sl (.none 4) (L.map eV)]) ho;have wl:IntKind.wrap .u64 (L.length:Int)=(L.length:Int):=GO zo;simp only[eE,eN,reduceCtorEq,Nat.reduceEqDiff,↓reduceIte,Nat.reduceAdd,Nat.reduceLeDiff,Nat.reduceMul,Nat.reduceLT,o6,c97,eV,DQ,ga,wl,k1,q2,q3,f0,f4];have hmp:l.map eB++[Fs.int .u8 3]=(l++[3]).map eB:=by rw[oD];rfl
  rw[hmp];generalize hHb:sA (AR (sA H m (.box [.int .i64 3,.int .i64 0,.str [],.sl (.none 4) (L.map eV)])) tk) (m+4) .tok=Hb;have hbt:AD Hb (m+4)=some .tok:=by rw[<-hHb,AC]
  have hbm:AD Hb m=some (.box [.int .i64 3,.int .i64 0,.str [],.sl (.none 4) (L.map eV)]):=by rw[<-hHb,AA _ _ _ _ zo];exact ga
  have tp:∀i,i<m->AD Hb i=AD (AR H tk) i:=λi hi=>by rw[<-hHb,AA _ _ _ _ zo];exact PJ zo
  have hfk:AU Hb (m+11):=by
   rw[<-hHb];exact(Ek (hf.sA (m:=m+1) zo zo) (λid e h=>by have:=ho id e h;omega)).sA zo zo
  clear hHb;have hnl:=Ce (u:=L.length) zo;refine(KD (tk:=.own (m+4) 1) (l++[3]) L.length zo (by rw[ou];simp only[oI,pd];omega) hfk ⟨rfl,hbt⟩ rfl (λid e h=>by cases h;omega)).mono ?_;rintro o H1 n1 ⟨id,s5,hid2,rfl,ht,t7,si⟩;have h1m:AD H1 m=some (.box [.int .i64 3,.int .i64 0,.str [],.sl (.none 4) (L.map eV)]):=by
   rw[si m zo];show AD (sA Hb (m+4) .dead) m=_;rw[AA _ _ _ _ zo];exact hbm
  have h1l:∀i,i<m->AD H1 i=AD (AR H tk) i:=λi hi=>by
   rw[si i zo];show AD (sA Hb (m+4) .dead) i=_;rw[AA _ _ _ _ zo];exact tp i hi
  simp only[eE,eN,reduceCtorEq,Nat.reduceEqDiff,↓reduceIte,Nat.reduceAdd,o6,BG,h1m];refine AQ (λv:VWr=>⟨[(0,true,.sl (.own v.id 1) ((l++[3]++CQ L.length++tC (L.take v.j)).map eB)),(2,true,.ptr wc 0),(17,true,.sl (.none 4) (L.map eV)),(18,true,.int .i64 L.length),(19,true,.int .i64 v.j)],v.H,v.n⟩) (IWr H m tk L.length) (λv=>L.length-v.j) ⟨0,id,H1,n1⟩ (by rw[pZ,tC,oR];rfl) ⟨oq _,t7,by show m<=id;omega,hid2,ht,h1l⟩ ?_;rintro⟨j,id,H2,n2⟩ ⟨hj,hf2,hle,v8,y9,hlow2⟩;simp only at hj hf2 hle v8 y9 hlow2;by_cases e9:j<L.length
  ·have hg:=o8 e9;have hm:=oK e9;have ihx:= @ih _ hm;have e:=AI (k:=j) zo;have nx:=MJ e9;have hle2:=Qf L (j+1);rw[nx,ou]at hle2;have hYl:(l++[3]++CQ L.length++tC (L.take j)).length+(B7 L[j]).length<3990000000:=by simp only[ou,oI,pd];omega
   have hnx:l++[3]++CQ L.length++tC (L.take (j+1))=l++[3]++CQ L.length++tC (L.take j)++B7 L[j]:=by rw[nx,<-oT]
   generalize l++[3]++CQ L.length++tC (L.take j)=Y at hYl hnx;generalize L[j]=x at hg ihx hYl hnx;have hw2:WrE wc wa H2:=⟨by rw[hlow2 _ hc];exact N7 hk zw hw.c,by rw[hlow2 _ ha];exact N7 hk zw hw.a⟩;have f2:=hf2 (n2+2) zo;have c1':=hw2.c;have c2':=hw2.a;have wne:(n2+2=wc)=False:=oA zo;have ane:(n2+2=wa)=False:=oA zo;have hwN:∀ob,WrE wc wa (sA H2 (n2+2) ob):=λob=>⟨by rw[AA _ _ _ _ zo];exact hw2.c,by rw[AA _ _ _ _ zo];exact hw2.a⟩
   have hfN:∀ob,AU (sA H2 (n2+2) ob) (n2+4):=λob=>hf2.sA (m:=n2+4) zo zo
   have htN:∀ob,AD (sA H2 (n2+2) ob) id=some .tok:=λob=>by rw[AA _ _ _ _ zo];exact y9
   have key:∀ob,AO prog (wrF x) ([.sl (.own id 1) (Y.map eB),eV x]++wrC wc x) (sA H2 (n2+2) ob) (n2+4) (MH (sA H2 (n2+2) ob) (n2+4) (.own id 1) (Y++B7 x)):=λob=>ihx Y hYl (hwN ob) zo zo (hfN ob) ⟨rfl,htN ob⟩ (λi e h=>by cases h;omega)
   clear ihx;cases x<;>(
    simp only[eZ,reduceCtorEq,Nat.reduceEqDiff,↓reduceIte,Nat.reduceAdd,Nat.reduceLeDiff,Nat.reduceMul,Int.reduceLE,Int.reduceToNat,eY,AT e9,hg,f2,c1',c2',wne,ane,AH,eV];refine⟨zd,(key _).mono ?_⟩;rintro o H3 n3 ⟨id3,hi1,ui,rfl,ht3,hf3,hlow3⟩;simp only[eE,eN,reduceCtorEq,Nat.reduceEqDiff,↓reduceIte,Int.reduceEq,BG,e];refine .mk ⟨j+1,id3,H3,n3⟩ (by rw[hnx]) ⟨e9,hf3,by show m<=id3;omega,ui,ht3,λi hi=>?_⟩ (by show L.length-(j+1)<L.length-j;omega);rw[hlow3 i zo];show AD (sA (sA H2 (n2+2) _) id .dead) i=_;rw[AA _ _ _ _ zo,AA _ _ _ _ zo];exact hlow2 i hi)
  obtain rfl:j=L.length:=zo
  rw[oF];simp only[eZ,reduceCtorEq,Nat.reduceEqDiff,↓reduceIte,Ah e9];refine⟨id,hle,v8,?_,y9,hf2,hlow2⟩;rw[B7,show l++[3]++CQ L.length++tC L=l++3::(CQ L.length++tC L)by simp]
section
variable {P:Program} {T:Bk} {b:Nat} {cx:Nat->Fs} {rx:List (Nat×xj)} {kp:List Nat} {k:List Item} {Q:x5->AS->Prop} {s:AS}
def Xx(P:Program)(T:Bk)(b:Nat)(cx:Nat->Fs)(d:Option Nat)(r:List (Nat×xj))(kp:List Nat)(k:List Item)(Q:x5->AS->Prop)(s:AS):xx->AB->Nat->Prop
 | .ret v,H',n'=>BI P T b cx r kp k Q ({s with H:=H',n:=n'}.put d true v)
 | .tJ v,H',n'=>CS P T Q k (.tJ v) ⟨[],H',n'⟩
def fR(P:Program)(T:Bk)(b:Nat)(cx:Nat->Fs)(d:Option Nat)(r:List (Nat×xj))(kp:List Nat)(k:List Item)(Q:x5->AS->Prop)(s:AS)(x:Bool)(H':AB)(n':Nat):Prop:=BI P T b cx r kp k Q ({s with H:=H',n:=n'}.put d true (.bool x))
theorem Vq{d:Option Nat}{f:zx}{xs:List zx}:BI P T b cx ((0,⟨d,none,.call false f xs⟩)::rx) kp k Q s=((lk s.env f).1=true/\Bz s.env xs/\M4 P (xs.map (AV s.env)) s.H s.n (Xx P T b cx d rx kp k Q s) (fR P T b cx d rx kp k Q s) (AV s.env f)):=by
 simp only[BI,DV,BW,AX,GQ,Be,BB,Bz,Io.sF,Bg,pR,pT,seval,qr,qz,qm];refine congrArg (λz=>(lk s.env f).1=true/\Bz s.env xs/\z) ?_;generalize AV s.env f=v;cases v<;>try rfl
 rename_i ff first cap
 cases ff<;>try rfl
 ·refine congrArg (AO P _ _ s.H s.n) ?_;funext o H' n';cases o with
  |ret v=>simp only[Xx,FF,pR];rfl
  |tJ v=>rfl
 ·cases first<;>cases cap<;>try rfl
  refine congrArg (Cf P _ _ s.H s.n) ?_;funext o H' n';simp only[fR,FF,pR];rfl
end
def jS{H:AB}{m:Nat}(hf:AU H m):AO prog 41 [] H m λo H' n'=>o= .ret (.ptr (m+1) 0)/\WrE (m+2) (m+1) H'/\n'=m+4/\AU H' n'/\∀i,i≠m+1->i≠m+2->AD H' i=AD H i:=by
 refine c41.a (AE AG.sE (AF ?_));have n12:(m+1=m+2)=False:=oA zo;have n21:(m+2=m+1)=False:=oA zo;simp only[eE,eN,Nat.reduceEqDiff,↓reduceIte,Nat.reduceAdd,Nat.reduceLeDiff,Nat.reduceMul,Int.reduceLE,Int.reduceToNat,Int.toNat_one,c41,Bx hf,n12,n21,AH];refine⟨zd,zd,zd,⟨by rw[AA _ _ _ _ zo];exact AC ..,AC ..⟩,?_,λi h1 h2=>?_⟩
 ·exact((hf.sA (m:=m+4) zo zo).sA (od _) zo).sA (od _) zo
 ·rw[og (Ne.symm h1),og (Ne.symm h2),og (Ne.symm h1)]
noncomputable def Tab8:Bk:=AJ 40 (LZ Qe λ_=>.int .i64 0) sE
def bO:AG prog Tab8:=AG.sE.add (fP λv h=>p40 v h)
theorem jT(a:List Fs)(H:AB):Tab8 40 a H=LZ Qe (λ_=>.int .i64 0) a H:=rfl
def p21(v:zk)(hv:FM v):A6 prog 21 [eV v] (.sH [F4 (B7 v),.int .i64 0]):=by
 refine .mk ⟨Ar 0 _,zt⟩ ⟨⟨zt,Af (f:=eB) (λ_=>zt) _⟩,zt,zt⟩ (c21.a (AE bO (AF ?_)));have hm:(∃u,Qe u/\eV u=eV v)=True:=o7 ⟨v,hv.1,rfl⟩;have hfb:∀ob,AU (sA Ac 0 ob) 3:=λob=>AU.nil.sA (m:=3) (oq _) zd
 have key:=λ(H:AB) (m wc wa:Nat)=>t_W hv.1.1 (H:=H) (m:=m) (wc:=wc) (wa:=wa) (tk:=.nil) [] (by rw[pd,pn];have:=hv.2;omega)
 cases v<;>(
  simp only[eV]at hm;simp only[eZ,eX,reduceCtorEq,Nat.reduceEqDiff,↓reduceIte,Nat.reduceAdd,Nat.reduceLeDiff,Nat.reduceLT,Nat.reduceMod,Nat.reduceSub,Nat.reduceDiv,o9,c21,jT,LZ,eV,hm];refine(jS (hfb _)).mono ?_;rintro o H' n' ⟨rfl,hw,rfl,hf',hk⟩;have h0:=hk 0 zd zd;have ha:=hw.a;simp only[eE,eX,reduceCtorEq,Nat.reduceEqDiff,↓reduceIte,Nat.reduceAdd,Nat.reduceLeDiff,Nat.reduceMul,Nat.reduceLT,Int.reduceLE,Int.reduceToNat,Nat.reduceMod,Nat.reduceSub,Nat.reduceDiv,Int.toNat_one,EW,Vq,ha];refine⟨λi hi hn=>hk i (λe=>?_) (λe=>?_),zd,(key H' 7 5 4 hw zd zd hf' zt (λid e h=>by cases h)).mono ?_⟩
  ·subst e;exact absurd (hfb _ _ zd) hn
  ·subst e;exact absurd (hfb _ _ zd) hn
  rintro o H3 n3 ⟨id3,hi1,ui,rfl,ht3,hf3,hlow3⟩;simp only[eE,eN,Nat.reduceEqDiff,↓reduceIte,Xx];exact Wk.sH (.cons (Wk.sl (.inl rfl)) (.cons (Wk.refl _) .nil)))
abbrev zV:Fs:=.agg [z0,z0,zr,zs]
def SL{α:Type}(f:α->Fs)(l:List α)(j:Nat):List Fs:=(l.take j).map f++List.replicate (l.length-j) zV
section
variable {α:Type} {f:α->Fs} {l:List α} {j:Nat}
theorem eaL_0:SL f l 0=List.replicate l.length zV:=by unfold SL;simp
theorem Gp(h:j<=l.length):(SL f l j).length=l.length:=by unfold SL;simp;omega
theorem Gq:SL f l l.length=l.map f:=by unfold SL;simp
theorem Gr(h:j<l.length):(SL f l j).set j (f l[j])=SL f l (j+1):=by
 unfold SL;have h1:((l.take j).map f).length=j:=by simp;omega
 rw[qG _ _ zo,h1,sa,show l.length-j=(l.length-(j+1))+1 by omega,rX,List.set_cons_zero,oG,o8 h,oD,oT];rfl
end
structure VEa where
 j:Nat
 H:AB
 n:Nat
structure IEa{α:Type}(H:AB)(n:Nat)(f:α->Fs)(l:List α)(v:VEa):Prop where
 hj:v.j<=l.length
 fr:AU v.H v.n
 le:n+5<=v.n
 b:AD v.H n=some (.box [z0,z0,zr,zs])
 a:AD v.H (n+3)=some (.arr 4 (SL f l v.j))
 low:∀i,i<n->AD v.H i=AD H i
def IEa.init{α:Type}{H:AB}{n:Nat}{f:α->Fs}{l:List α}(hf:AU H n):IEa H n f l ⟨0,sA (sA H n (.box [z0,z0,zr,zs])) (n+3) (.arr 4 (List.replicate l.length zV)),n+5⟩:=
 ⟨oq _,(hf.sA (m:=n+5) zo zo).sA (od _) (by show n+3<n+5;omega),od _,by rw[AA _ _ _ _ zo];exact AC ..,by rw[eaL_0];exact AC ..,λi hi=>by rw[AA _ _ _ _ zo,AA _ _ _ _ zo]⟩
def IEa.next{α:Type}{H H1:AB}{n n1 j:Nat}{f:α->Fs}{l:List α}(h:IEa H n f l ⟨j,H1,n1⟩)(e9:j<l.length){x:Fs}(hx:(SL f l j).set j x=SL f l (j+1)):IEa H n f l ⟨j+1,sA H1 (n+3) (.arr 4 ((SL f l j).set j x)),n1⟩:=
 have hl:=h.le
 ⟨e9,h.fr.sA (od _) (by show n+3<n1;simp only[]at hl;omega),h.le,by rw[AA _ _ _ _ zo];exact h.b,by rw[hx];exact AC ..,λi hi=>by rw[AA _ _ _ _ zo];exact h.low i hi⟩
def IEa.nextS{α:Type}{H H1:AB}{n n1 j:Nat}{f:α->Fs}{l:List α}(h:IEa H n f l ⟨j,H1,n1⟩)(e9:j<l.length){x:Fs}{ob:xq}(hx:(SL f l j).set j x=SL f l (j+1)):IEa H n f l ⟨j+1,sA (sA H1 (n1+3) ob) (n+3) (.arr 4 ((SL f l j).set j x)),n1+6⟩:=
 have hl:=h.le
 ⟨e9,(h.fr.sA (m:=n1+6) (by show n1<=n1+6;omega) zo).sA (od _) (by show n+3<n1+6;simp only[]at hl;omega),by show n+5<=n1+6;simp only[]at hl;omega,by rw[AA _ _ _ _ zo,AA _ _ _ _ (by simp only[]at hl;omega)];exact h.b,by rw[hx];exact AC ..,λi hi=>by rw[AA _ _ _ _ zo,AA _ _ _ _ (by simp only[]at hl;omega)];exact h.low i hi⟩
def Fm{H:AB}{id n k:Nat}{Q:xx->AB->Nat->Prop}{A:List Fs}(L:List zk)(ha:AD H id=some (.arr 4 A))(hA:A=L.map eV)(hk:L.length=k)(h:Q (.ret (eV (.list L))) (sA H id (.frz 4 A)) n):AO prog 47 [.ref id 4 0 k k] H n Q:=by
 subst hA hk;have hn:(L.map eV).length=L.length:=by rw[o6]
 refine AO.freeze ha ?_;have hq:=(p47 L).frozen (H:=sA H id (.frz 4 (L.map eV))) (args':=[.ref id 4 0 L.length L.length]) (.cons (by
  have:=FV.ref (H:=sA H id (.frz 4 (L.map eV))) (id:=id) (e:=4) (off:=0) (len:=L.length) (cap:=L.length) (AC ..) (by rw[hn];omega) (od _);rw[qC,oY (by rw[hn];exact od _)]at this;exact this) .nil) n
 refine AO.mono hq ?_;rintro o H' n' ⟨rfl,rfl,rfl⟩;exact h
def El{H H1:AB}{n:Nat}{o1 o2:xq}(hf:AU H n)(low:∀i,i<n->AD H1 i=AD H i):Cr H (sA (sA H1 (n+3) o1) n o2):=λi o h=>by
 have hi:=hf.lt h;rw[AA _ _ _ _ zo,AA _ _ _ _ zo,low i hi];exact h
def qNb:∀args H n,(Lp args H).1->Ad prog 44 args H n (Lp args H).2:=by
 intro args H n hh;unfold Lp at hh⊢;split at hh
 ·exact(p44 _).quiet H n
 ·exact hh.elim
def qTx:∀args H n,(K1 args H).1->Ad prog 48 args H n (K1 args H).2:=by
 intro args H n hh;unfold K1 at hh⊢;split at hh
 ·exact(p48 _).quiet H n
 ·exact hh.elim
noncomputable def PM:List Fs->AB->Prop×Fs:=λa _=>match a with
 |[.sl t L]=>(t.esz=4/\(L.map dV).map eV=L,eV (.list (L.map dV)))
 |_=>(False,.sH [])
def qLs{tF:FuncId}(h:∀l:List zk,A6 prog tF [.sl (.none 4) (l.map eV)] (eV (.list l))):∀args H n,(PM args H).1->Ad prog tF args H n (PM args H).2:=by
 intro args H n hh;unfold PM at hh⊢;split at hh
 ·rename_i t L;refine AO.args ((h (L.map dV)).quiet H n) ?_;rintro g vs ⟨v,r,rfl,k1,k2⟩;refine⟨v,_,rfl,?_,k2⟩;rw[hh.2];exact Wk.sl (.inl hh.1) g v k1
 ·exact hh.elim
def DF(l:List Int):zk:=.list (l.map .int)
def MK(l:List Bs):zk:=.list (l.map .text)
def GZ(s:xz):zk:=.list [.text s.nm,.int s.v]
def HM(r:x9):zk:=.list [.text r.nm,.list (r.ls.map DF)]
def HX(c:x7):zk:=.list [.text c.nm,.text c.on,.int c.ty,.int c.lo,.int c.hi]
def Ic(r:zj):zk:=.list [.text r.nm,.text r.on,.int r.kind,MK r.ns,MK r.os,.int r.op,.int r.n,.text r.tY]
noncomputable def bP:Bk:=AJ 44 Lp (AJ 48 K1 (AJ 47 PM sE))
def PN:AG prog bP:=((AG.sE.add (qLs p47)).add qTx).add qNb
theorem jU(a:List Fs)(H:AB):bP 44 a H=Lp a H:=rfl
theorem jV(a:List Fs)(H:AB):bP 48 a H=K1 a H:=rfl
abbrev KG{α:Type}(l:List α):Prop:=l.length<100000
def q43{H:AB}{n:Nat}(l:List (Int))(hl:KG l)(hx:∀x∈l,True):Ad prog 43 [BY l,.fn (.func 44) [] []] H n (eV (.list (l.map zk.int))):=by
 refine Ad.of c43.l (Ar _ _) λhf=>c43.a (AE PN (AF ?_))
 have hl':l.length<100000:=hl;have m1:((l.length:Int)<=35184372088832)=True:=o7 zo;have m2:small l.length 56=True:=o7 (AY zo zd);have f0:=hf n (od _);simp only[eE,eN,seval,eY,c43,m1,m2,Bx hf,f0];refine AQ (λv:VEa=>⟨[(1,true,.fn (.func 44) [] []),(4,true,.ptr n 0),(5,true,.ref (n+3) 4 0 l.length l.length),(11,true,BY l),(12,true,.int .i64 l.length),(13,true,.int .i64 v.j)],v.H,v.n⟩) (IEa H n (λx=>eV (zk.int x)) l) (λv=>l.length-v.j) ⟨0,sA (sA H n (.box [z0,z0,zr,zs])) (n+3) (.arr 4 (List.replicate l.length zV)),n+5⟩ rfl (IEa.init hf) ?_;rintro⟨j,H1,n1⟩ hI;have hj:j<=l.length:=hI.hj;have ha:=hI.a;have hb:=hI.b;have t7:=hI.fr;have hle:n+5<=n1:=hI.le;simp only at ha hb t7;by_cases e9:j<l.length
 ·have hg:=o8 e9;have e:=AI (k:=j) zo;have nx:=Gr (f:=λx=>eV (zk.int x)) e9;have ln:=Gp (f:=λx=>eV (zk.int x)) hj;have hxx:=hx _ (oK e9);generalize l[j]=x at hg nx hxx;simp only[eZ,seval,eY,AT e9,e9,hg,jU,Lp,e,ha,Bc,CN,ln];exact .mk ⟨j+1,_,_⟩ rfl (hI.next e9 nx) (by show l.length-(j+1)<l.length-j;omega)
 obtain rfl:j=l.length:=zo
 rw[Gq]at ha;simp only[eZ,seval,Ah e9];refine Fm (l.map zk.int) ha (by rw[pO];rfl) (o6 _) ?_;have n30:(n+3=n)=False:=oA zo;simp only[eE,eN,seval,Au,BG,Bc,CN,n30,hb];exact⟨Wk.refl _,El hf hI.low⟩
def q56{H:AB}{n:Nat}(l:List (Bs))(hl:KG l)(hx:∀x∈l,True):Ad prog 56 [Fw l,.fn (.func 48) [] []] H n (eV (.list (l.map zk.text))):=by
 refine Ad.of c56.l (Ar _ _) λhf=>c56.a (AE PN (AF ?_))
 have hl':l.length<100000:=hl;have m1:((l.length:Int)<=35184372088832)=True:=o7 zo;have m2:small l.length 56=True:=o7 (AY zo zd);have f0:=hf n (od _);simp only[eE,eN,seval,eY,c56,m1,m2,Bx hf,f0];refine AQ (λv:VEa=>⟨[(1,true,.fn (.func 48) [] []),(4,true,.ptr n 0),(5,true,.ref (n+3) 4 0 l.length l.length),(11,true,Fw l),(12,true,.int .i64 l.length),(13,true,.int .i64 v.j)],v.H,v.n⟩) (IEa H n (λx=>eV (zk.text x)) l) (λv=>l.length-v.j) ⟨0,sA (sA H n (.box [z0,z0,zr,zs])) (n+3) (.arr 4 (List.replicate l.length zV)),n+5⟩ rfl (IEa.init hf) ?_;rintro⟨j,H1,n1⟩ hI;have hj:j<=l.length:=hI.hj;have ha:=hI.a;have hb:=hI.b;have t7:=hI.fr;have hle:n+5<=n1:=hI.le;simp only at ha hb t7;by_cases e9:j<l.length
 ·have hg:=o8 e9;have e:=AI (k:=j) zo;have nx:=Gr (f:=λx=>eV (zk.text x)) e9;have ln:=Gp (f:=λx=>eV (zk.text x)) hj;have hxx:=hx _ (oK e9);generalize l[j]=x at hg nx hxx;simp only[eZ,seval,eY,AT e9,e9,hg,jV,K1,e,ha,Bc,CN,ln];exact .mk ⟨j+1,_,_⟩ rfl (hI.next e9 nx) (by show l.length-(j+1)<l.length-j;omega)
 obtain rfl:j=l.length:=zo
 rw[Gq]at ha;simp only[eZ,seval,Ah e9];refine Fm (l.map zk.text) ha (by rw[pO];rfl) (o6 _) ?_;have n30:(n+3=n)=False:=oA zo;simp only[eE,eN,seval,Au,BG,Bc,CN,n30,hb];exact⟨Wk.refl _,El hf hI.low⟩
def q42(l:List Int)(hl:KG l)(H:AB)(n:Nat):Ad prog 42 [BY l] H n (eV (DF l)):=by
 refine Ad.of c42.l (Ar _ _) λhf=>c42.a (AE (T:=AJ 43 (λa _=>(a=[BY l,.fn (.func 44) [] []],eV (DF l))) sE) (AG.sE.add λa H n h=>by simp only at h;subst h;exact q43 l hl λ_ _=>zt) (AF ?_))
 have f0:=hf n (od _);have ht:∀a H,AJ 43 (λa _=>(a=[BY l,.fn (.func 44) [] []],eV (DF l))) sE 43 a H=(a=[BY l,.fn (.func 44) [] []],eV (DF l)):=λa H=>by unfold AJ;rw[oE rfl]
 generalize AJ 43 (λa _=>(a=[BY l,.fn (.func 44) [] []],eV (DF l))) sE=T at ht;simp only[eE,eN,seval,Au,c42,ht,f0,AH,Bc,CN];exact⟨Wk.refl _,Cr.new hf (od _) (Cr.refl _)⟩
def Qg:List Fs->AB->Prop×Fs:=s1 Cj (λl=>KG l) λl=>eV (DF l)
def qV1a:∀args H n,(Qg args H).1->Ad prog 42 args H n (Qg args H).2:=by
 intro args H n hh;unfold Qg s1 at hh⊢;split at hh
 ·refine AO.args (q42 _ hh.2 H n) ?_;rintro g vs ⟨v,r,rfl,k1,k2⟩;exact⟨v,_,rfl,Cj.wk _ hh.1 _ _ k1,k2⟩
 ·exact hh.elim
noncomputable def Vr:Bk:=AJ 42 Qg bP
def Lq:AG prog Vr:=PN.add qV1a
theorem jW(a:List Fs)(H:AB):Vr 42 a H=Qg a H:=rfl
theorem Xy(a:List Fs)(H:AB):Vr 48 a H=K1 a H:=rfl
theorem Xz(a:List Fs)(H:AB):Vr 44 a H=Lp a H:=rfl
theorem X0(a:List Fs)(H:AB):Vr 47 a H=PM a H:=rfl
def q51{H:AB}{n:Nat}(l:List (List Int))(hl:KG l)(hx:∀x∈l,KG x):Ad prog 51 [Bm l,.fn (.func 42) [] []] H n (eV (.list (l.map DF))):=by
 refine Ad.of c51.l (Ar _ _) λhf=>c51.a (AE Lq (AF ?_))
 have hl':l.length<100000:=hl;have m1:((l.length:Int)<=35184372088832)=True:=o7 zo;have m2:small l.length 56=True:=o7 (AY zo zd);have f0:=hf n (od _);simp only[eE,eN,seval,eY,c51,m1,m2,Bx hf,f0];refine AQ (λv:VEa=>⟨[(1,true,.fn (.func 42) [] []),(4,true,.ptr n 0),(5,true,.ref (n+3) 4 0 l.length l.length),(11,true,Bm l),(12,true,.int .i64 l.length),(13,true,.int .i64 v.j)],v.H,v.n⟩) (IEa H n (λx=>eV (DF x)) l) (λv=>l.length-v.j) ⟨0,sA (sA H n (.box [z0,z0,zr,zs])) (n+3) (.arr 4 (List.replicate l.length zV)),n+5⟩ rfl (IEa.init hf) ?_;rintro⟨j,H1,n1⟩ hI;have hj:j<=l.length:=hI.hj;have ha:=hI.a;have hb:=hI.b;have t7:=hI.fr;have hle:n+5<=n1:=hI.le;simp only at ha hb t7;by_cases e9:j<l.length
 ·have hg:=o8 e9;have e:=AI (k:=j) zo;have nx:=Gr (f:=λx=>eV (DF x)) e9;have ln:=Gp (f:=λx=>eV (DF x)) hj;have hxx:=hx _ (oK e9);generalize l[j]=x at hg nx hxx;simp only[eZ,seval,eY,AT e9,e9,hg,jW,Qg,s1,As,Al,o7 hxx,e,ha,Bc,CN,ln];exact .mk ⟨j+1,_,_⟩ rfl (hI.next e9 nx) (by show l.length-(j+1)<l.length-j;omega)
 obtain rfl:j=l.length:=zo
 rw[Gq]at ha;simp only[eZ,seval,Ah e9];refine Fm (l.map DF) ha (by rw[pO];rfl) (o6 _) ?_;have n30:(n+3=n)=False:=oA zo;simp only[eE,eN,seval,Au,BG,Bc,CN,n30,hb];exact⟨Wk.refl _,El hf hI.low⟩
def p46(x:xz):A6 prog 46 [Cb x] (eV (GZ x)):=by
 refine .mk ⟨⟨zt,zt,zt⟩,zt⟩ (Ar 0 _) (c46.a (AE Lq (AF ?_)));simp only[eE,eN,seval,Au,c46,Xy,Xz,X0,K1,Lp,PM,AH,Bc,CN,De,ri];exact Wk.refl _
def p53(x:x7):A6 prog 53 [BO x] (eV (HX x)):=by
 refine .mk ⟨⟨zt,zt,zt,zt,zt,zt,zt⟩,zt⟩ (Ar 0 _) (c53.a (AE Lq (AF ?_)));simp only[eE,eN,seval,Au,c53,Xy,Xz,X0,K1,Lp,PM,AH,Bc,CN,De,ri];exact Wk.refl _
def sV2:List Fs->AB->Prop×Fs:=s1 dSy I7 λs=>eV (GZ s)
def sV4:List Fs->AB->Prop×Fs:=s1 nr I7 λc=>eV (HX c)
noncomputable def bQ:Bk:=AJ 46 sV2 (AJ 53 sV4 Vr)
def PO:AG prog bQ:=(Lq.add (q1 λc _=>p53 c)).add (q1 λs _=>p46 s)
theorem jX(a:List Fs)(H:AB):bQ 46 a H=sV2 a H:=rfl
theorem jY(a:List Fs)(H:AB):bQ 53 a H=sV4 a H:=rfl
def q45{H:AB}{n:Nat}(l:List (xz))(hl:KG l)(hx:∀x∈l,True):Ad prog 45 [HP l,.fn (.func 46) [] []] H n (eV (.list (l.map GZ))):=by
 refine Ad.of c45.l (Ar _ _) λhf=>c45.a (AE PO (AF ?_))
 have hl':l.length<100000:=hl;have m1:((l.length:Int)<=35184372088832)=True:=o7 zo;have m2:small l.length 56=True:=o7 (AY zo zd);have f0:=hf n (od _);simp only[eE,eN,seval,eY,c45,m1,m2,Bx hf,f0];refine AQ (λv:VEa=>⟨[(1,true,.fn (.func 46) [] []),(4,true,.ptr n 0),(5,true,.ref (n+3) 4 0 l.length l.length),(11,true,HP l),(12,true,.int .i64 l.length),(13,true,.int .i64 v.j)],v.H,v.n⟩) (IEa H n (λx=>eV (GZ x)) l) (λv=>l.length-v.j) ⟨0,sA (sA H n (.box [z0,z0,zr,zs])) (n+3) (.arr 4 (List.replicate l.length zV)),n+5⟩ rfl (IEa.init hf) ?_;rintro⟨j,H1,n1⟩ hI;have hj:j<=l.length:=hI.hj;have ha:=hI.a;have hb:=hI.b;have t7:=hI.fr;have hle:n+5<=n1:=hI.le;simp only at ha hb t7;by_cases e9:j<l.length
 ·have hg:=o8 e9;have e:=AI (k:=j) zo;have nx:=Gr (f:=λx=>eV (GZ x)) e9;have ln:=Gp (f:=λx=>eV (GZ x)) hj;have hxx:=hx _ (oK e9);generalize l[j]=x at hg nx hxx;have f3:=t7 (n1+3) zo;have ne3:(n1+3=n+3)=False:=oA zo;simp only[eZ,seval,eY,AT e9,e9,hg,jX,sV2,s1,Tf,P4,e,ha,f3,ne3,AH,Bc,CN,ln];exact .mk ⟨j+1,_,_⟩ rfl (hI.nextS e9 nx) (by show l.length-(j+1)<l.length-j;omega)
 obtain rfl:j=l.length:=zo
 rw[Gq]at ha;simp only[eZ,seval,Ah e9];refine Fm (l.map GZ) ha (by rw[pO];rfl) (o6 _) ?_;have n30:(n+3=n)=False:=oA zo;simp only[eE,eN,seval,Au,BG,Bc,CN,n30,hb];exact⟨Wk.refl _,El hf hI.low⟩
def q52{H:AB}{n:Nat}(l:List (x7))(hl:KG l)(hx:∀x∈l,True):Ad prog 52 [EY l,.fn (.func 53) [] []] H n (eV (.list (l.map HX))):=by
 refine Ad.of c52.l (Ar _ _) λhf=>c52.a (AE PO (AF ?_))
 have hl':l.length<100000:=hl;have m1:((l.length:Int)<=35184372088832)=True:=o7 zo;have m2:small l.length 56=True:=o7 (AY zo zd);have f0:=hf n (od _);simp only[eE,eN,seval,eY,c52,m1,m2,Bx hf,f0];refine AQ (λv:VEa=>⟨[(1,true,.fn (.func 53) [] []),(4,true,.ptr n 0),(5,true,.ref (n+3) 4 0 l.length l.length),(11,true,EY l),(12,true,.int .i64 l.length),(13,true,.int .i64 v.j)],v.H,v.n⟩) (IEa H n (λx=>eV (HX x)) l) (λv=>l.length-v.j) ⟨0,sA (sA H n (.box [z0,z0,zr,zs])) (n+3) (.arr 4 (List.replicate l.length zV)),n+5⟩ rfl (IEa.init hf) ?_;rintro⟨j,H1,n1⟩ hI;have hj:j<=l.length:=hI.hj;have ha:=hI.a;have hb:=hI.b;have t7:=hI.fr;have hle:n+5<=n1:=hI.le;simp only at ha hb t7;by_cases e9:j<l.length
 ·have hg:=o8 e9;have e:=AI (k:=j) zo;have nx:=Gr (f:=λx=>eV (HX x)) e9;have ln:=Gp (f:=λx=>eV (HX x)) hj;have hxx:=hx _ (oK e9);generalize l[j]=x at hg nx hxx;have f3:=t7 (n1+3) zo;have ne3:(n1+3=n+3)=False:=oA zo;simp only[eZ,seval,eY,AT e9,e9,hg,jY,sV4,s1,H8,GJ,e,ha,f3,ne3,AH,Bc,CN,ln];exact .mk ⟨j+1,_,_⟩ rfl (hI.nextS e9 nx) (by show l.length-(j+1)<l.length-j;omega)
 obtain rfl:j=l.length:=zo
 rw[Gq]at ha;simp only[eZ,seval,Ah e9];refine Fm (l.map HX) ha (by rw[pO];rfl) (o6 _) ?_;have n30:(n+3=n)=False:=oA zo;simp only[eE,eN,seval,Au,BG,Bc,CN,n30,hb];exact⟨Wk.refl _,El hf hI.low⟩
end Go.AM
