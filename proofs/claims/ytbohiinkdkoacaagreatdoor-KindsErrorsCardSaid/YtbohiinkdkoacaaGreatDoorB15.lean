/-
  Parts of the proof. Conditions: none.
-/
import Derived.Test.YtbohiinkdkoacaaGreatDoorB14
set_option maxRecDepth 20000
set_option linter.all false
namespace Go.AM
open Go.Lib Go.Proofs Go.Proofs.Tryz
def p110(n:Int):Pur prog 110 [.int .i64 n] (eV (.int n)):=by
 refine .mk ⟨trivial,trivial⟩ (Af 0 _) (c110.a (AE AI.tnil (AF ?_)));simp only[eE,eN,seval,Au,c110,AD,Z1.opds,oks];exact Wk.agg (.cons (Wk.refl _) (.cons (Wk.refl _) (.cons (Wk.refl _) (.cons (Wk.sl (.inr rfl)) .nil))))
def p114(s:List UInt8):Pur prog 114 [.str s] (eV (.text s)):=by
 refine .mk ⟨trivial,trivial⟩ (Af 0 _) (c114.a (AE AI.tnil (AF ?_)));simp only[eE,eN,seval,Au,c114,AD,Z1.opds,oks];exact Wk.agg (.cons (Wk.refl _) (.cons (Wk.refl _) (.cons (Wk.refl _) (.cons (Wk.sl (.inr rfl)) .nil))))
def p113(l:List Z0):Pur prog 113 [.sl (.none 4) (l.map eV)] (eV (.list l)):=by
 refine .mk ⟨⟨trivial,by rw[<-CO];exact eVs_under 0 l⟩,trivial⟩ (Af 0 _) (c113.a (AE AI.tnil (AF ?_)));simp only[eE,eN,seval,Au,c113,AD,Z1.opds,oks];rw[eV,CO];exact Wk.refl _
def t_W2{H:AC}{m:Nat}{tk:Zd}(l s:List UInt8)(hl:l.length+s.length<998000000)(hf:AR H m)(hk:At H 1 tk)(ho:∀id e,tk= .own id e->id<m):AN prog 169 [.sl tk (l.map eB),eV (.text s)] H m (Jd H m tk (l++encB (.text s))):=by
 refine c169.a (AE AI.tnil (AF ?_));have k1:At (hset H m (.box [.int .i64 2,.int .i64 0,.str s,.sl (.none 4) []])) 1 tk=True:=V1 (by
  unfold At at hk⊢;split at hk
  ·trivial
  ·exact hk.elim
  ·exact hk
  ·exact⟨hk.1,by rw[AA _ _ _ _ (by have:=ho _ _ rfl;omega)];exact hk.2⟩)
 have q2:(l.length+1<=35184372088832)=True:=V1 zo;have q3:small (l.length+1) 1=True:=V1 (AP zo zd);have f4:hget (hset H m (.box [.int .i64 2,.int .i64 0,.str s,.sl (.none 4) []])) (m+4)=none:=by rw[AA _ _ _ _ zo];exact hf _ zo
 have f0:=hf m (V4 _);have ga:=K0 (H:=H) (b:=.box [.int .i64 2,.int .i64 0,.str s,.sl (.none 4) []]) ho;have wl:IntKind.wrap .u64 (s.length:Int)=(s.length:Int):=wu64 zo;have lt2:(m<m+2)=True:=V1 zo;have ne4:(m+4=m)=False:=Vs zo;simp only[eE,eN,eX,seval,V0,c169,eV,ga,wl,k1,q2,q3,f0,f4,lt2,ne4,Z1.opds,oks];have hmp:l.map eB++[Fs.int .u8 2]=(l++[2]).map eB:=by rw[Vt];rfl
 rw[hmp];generalize hHb:hset (AL (hset H m (.box [.int .i64 2,.int .i64 0,.str s,.sl (.none 4) []])) tk) (m+4) .tok=Hb;have hbt:hget Hb (m+4)=some .tok:=by rw[<-hHb,AB]
 have hbn:∀i,i≠m+4->hget Hb i=hget (AL (hset H m (.box [.int .i64 2,.int .i64 0,.str s,.sl (.none 4) []])) tk) i:=λi hi=>by rw[<-hHb,AA _ _ _ _ (Ne.symm hi)]
 have hfk:AR Hb (m+14):=by
  rw[<-hHb];exact(C6 (hf.hset (m:=m+1) zo zo) (λid e h=>by have:=ho id e h;omega)).hset zo zo
 have hfz:∀i,m<i->i≠m+4->hget Hb i=none:=λi hi hi4=>by
  rw[hbn i hi4];exact C6 (hf.hset (m:=m+1) zo zo) (λid e h=>by have:=ho id e h;omega) _ zo
 have hnl:=Bi (u:=s.length) zo;refine(Ge (tk:=.own (m+4) 1) (l++[2]) s.length zo (by rw[V9];simp only[Vz,Wq];omega) hfk ⟨rfl,hbt⟩ rfl (λid e h=>by cases h;omega)).mono ?_;rintro o H' n' ⟨id,d7,hid2,rfl,ht,hf',m4⟩;have hkp:FW (.ptr (m+4) 0) Hb H':=λi hi hn=>by
  have h4:i≠m+4:=λe=>hi e.symm
  have c6:i<m+14:=by
   by_cases h:i<m+14
   ·exact h
   ·exact absurd (hfk i zo) hn
  rw[m4 i c6];show hget (hset Hb (m+4) .dead) i=_;rw[AA _ _ _ _ (Ne.symm h4)]
 have f12:hget H' (m+12)=none:=by
  rw[m4 _ zo];show hget (hset Hb (m+4) .dead) (m+12)=none;rw[AA _ _ _ _ zo];exact hfz _ zo zo
 have e1:(l++[2]++numB s.length).length=l.length+1+(numB s.length).length:=by simp only[V9,Vz,Wq]
 have a1:At H' 1 (.own id 1)=True:=V1 ⟨rfl,ht⟩;have q4:(l.length+1+(numB s.length).length+s.length<=35184372088832)=True:=V1 zo;have q5:small (l.length+1+(numB s.length).length+s.length) 1=True:=V1 (AP zo zd);simp only[eE,eN,eX,seval,V0,Dz,e1,a1,f12];refine⟨hkp,⟨AP zo zd,zo⟩,m+12,zo,zo,?_,AB ..,?_,λi hi=>?_⟩
 ·rw[encB,show l++2::(numB s.length++s)=(l++[2]++numB s.length)++s by simp];simp only[Vt]
 ·exact(hf'.hset (m:=n') (V4 _) hid2).hset (V4 _) zo
 ·rw[AA _ _ _ _ zo,AA _ _ _ _ zo,m4 i zo];show hget (hset Hb (m+4) .dead) i=_;rw[AA _ _ _ _ zo,hbn i zo];exact Kz zo
structure WrE(wc wa:Nat)(H:AC):Prop where
 c:hget H wc=some (.box [.ptr wa 0])
 a:hget H wa=some (.box [.nilfn,.fn (.func 166) [] [],.fn (.func 169) [] [],.fn (.func 170) [] [.ptr wc 0]])
def wrF:Z0->FuncId
 | .int _=>166
 | .text _=>169
 | .list _=>170
def wrC(wc:Nat):Z0->List Fs
 | .list _=>[.ptr wc 0]
 |_=>[]
def Jg{H:AC}{tk:Zd}{i e:Nat}{ob:Z7}(hk:At H e tk)(hn:ob≠ .tok)(h:hget H i=some ob):hget (AL H tk) i=some ob:=by
 cases tk with
 |own id e'=>
  show hget (hset H id .dead) i=_;rw[AA _ _ _ _ (by rintro rfl;rw[hk.2]at h;cases h;exact hn rfl)];exact h
 |_=>exact h
structure VWr where
 j:Nat
 id:Nat
 H:AC
 n:Nat
structure IWr(H:AC)(m:Nat)(tk:Zd)(len:Nat)(v:VWr):Prop where
 hj:v.j<=len
 fr:AR v.H v.n
 le:m<=v.id
 lt:v.id<v.n
 ok:hget v.H v.id=some .tok
 low:∀i,i<m->hget v.H i=hget (AL H tk) i
theorem t_W{v:Z0}(hv:FewV v):∀{H:AC} {m wc wa:Nat} {tk:Zd} (l:List UInt8),l.length+(encB v).length<990000000->WrE wc wa H->wc<m->wa<m->AR H m->At H 1 tk->(∀id e,tk= .own id e->id<m)->
  AN prog (wrF v) ([.sl tk (l.map eB),eV v]++wrC wc v) H m (Jd H m tk (l++encB v)):=by
 induction hv with
 | @int n h1 h2=>
  intro H m wc wa tk l hl hw hc ha hf hk ho;exact t_W1 l n h1 h2 zo hf hk ho
 | @text s h=>
  intro H m wc wa tk l hl hw hc ha hf hk ho;exact t_W2 l s (by have:=hl;rw[encB,Vz,V9]at this;omega) hf hk ho
 | @list L hL hx ih=>
  intro H m wc wa tk l hl hw hc ha hf hk ho;show AN prog 170 [.sl tk (l.map eB),eV (.list L),.ptr wc 0] H m _;rw[encB,Vz,V9]at hl;refine c170.a (AE AI.tnil (AF ?_));have k1:At (hset H m (.box [.int .i64 3,.int .i64 0,.str [],.sl (.none 4) (L.map eV)])) 1 tk=True:=V1 (by
   unfold At at hk⊢;split at hk
   ·trivial
   ·exact hk.elim
   ·exact hk
   ·exact⟨hk.1,by rw[AA _ _ _ _ (by have:=ho _ _ rfl;omega)];exact hk.2⟩)
  have q2:(l.length+1<=35184372088832)=True:=V1 zo;have q3:small (l.length+1) 1=True:=V1 (AP zo zd);have f4:hget (hset H m (.box [.int .i64 3,.int .i64 0,.str [],.sl (.none 4) (L.map eV)])) (m+4)=none:=by rw[AA _ _ _ _ zo];exact hf _ zo
  have f0:=hf m (V4 _);have ga:=K0 (H:=H) (b:=.box [.int .i64 3,.int .i64 0,.str [],.sl (.none 4) (L.map eV)]) ho;have wl:IntKind.wrap .u64 (L.length:Int)=(L.length:Int):=wu64 zo;simp only[eE,eN,reduceCtorEq,Nat.reduceEqDiff,↓reduceIte,Nat.reduceAdd,Nat.reduceLeDiff,Nat.reduceMul,Nat.reduceLT,V0,c170,eV,CO,ga,wl,k1,q2,q3,f0,f4];have hmp:l.map eB++[Fs.int .u8 3]=(l++[3]).map eB:=by rw[Vt];rfl
  rw[hmp];generalize hHb:hset (AL (hset H m (.box [.int .i64 3,.int .i64 0,.str [],.sl (.none 4) (L.map eV)])) tk) (m+4) .tok=Hb;have hbt:hget Hb (m+4)=some .tok:=by rw[<-hHb,AB]
  have hbm:hget Hb m=some (.box [.int .i64 3,.int .i64 0,.str [],.sl (.none 4) (L.map eV)]):=by rw[<-hHb,AA _ _ _ _ zo];exact ga
  have s9:∀i,i<m->hget Hb i=hget (AL H tk) i:=λi hi=>by rw[<-hHb,AA _ _ _ _ zo];exact Kz zo
  have hfk:AR Hb (m+11):=by
   rw[<-hHb];exact(C6 (hf.hset (m:=m+1) zo zo) (λid e h=>by have:=ho id e h;omega)).hset zo zo
  clear hHb;have hnl:=Bi (u:=L.length) zo;refine(Ge (tk:=.own (m+4) 1) (l++[3]) L.length zo (by rw[V9];simp only[Vz,Wq];omega) hfk ⟨rfl,hbt⟩ rfl (λid e h=>by cases h;omega)).mono ?_;rintro o H1 n1 ⟨id,d7,hid2,rfl,ht,e9,m4⟩;have h1m:hget H1 m=some (.box [.int .i64 3,.int .i64 0,.str [],.sl (.none 4) (L.map eV)]):=by
   rw[m4 m zo];show hget (hset Hb (m+4) .dead) m=_;rw[AA _ _ _ _ zo];exact hbm
  have h1l:∀i,i<m->hget H1 i=hget (AL H tk) i:=λi hi=>by
   rw[m4 i zo];show hget (hset Hb (m+4) .dead) i=_;rw[AA _ _ _ _ zo];exact s9 i hi
  simp only[eE,eN,reduceCtorEq,Nat.reduceEqDiff,↓reduceIte,Nat.reduceAdd,V0,retK,h1m];refine AO (λv:VWr=>⟨[(0,true,.sl (.own v.id 1) ((l++[3]++numB L.length++encBs (L.take v.j)).map eB)),(2,true,.ptr wc 0),(17,true,.sl (.none 4) (L.map eV)),(18,true,.int .i64 L.length),(19,true,.int .i64 v.j)],v.H,v.n⟩) (IWr H m tk L.length) (λv=>L.length-v.j) ⟨0,id,H1,n1⟩ (by rw[WZ,encBs,W9];rfl) ⟨V8 _,e9,by show m<=id;omega,hid2,ht,h1l⟩ ?_;rintro⟨j,id,H2,n2⟩ ⟨hj,hf2,hle,i9,k9,hlow2⟩;simp only at hj hf2 hle i9 k9 hlow2;by_cases c6:j<L.length
  ·have hg:=V2 c6;have hm:=W1 c6;have ihx:= @ih _ hm;have e:=AG (k:=j) zo;have nx:=Hv c6;have hle2:=MG L (j+1);rw[nx,V9]at hle2;have hYl:(l++[3]++numB L.length++encBs (L.take j)).length+(encB L[j]).length<990000000:=by simp only[V9,Vz,Wq];omega
   have hnx:l++[3]++numB L.length++encBs (L.take (j+1))=l++[3]++numB L.length++encBs (L.take j)++encB L[j]:=by rw[nx,<-Wb]
   generalize l++[3]++numB L.length++encBs (L.take j)=Y at hYl hnx;generalize L[j]=x at hg ihx hYl hnx;have hw2:WrE wc wa H2:=⟨by rw[hlow2 _ hc];exact Jg hk zw hw.c,by rw[hlow2 _ ha];exact Jg hk zw hw.a⟩;have f2:=hf2 (n2+2) zo;have c1':=hw2.c;have c2':=hw2.a;have wne:(n2+2=wc)=False:=Vs zo;have ane:(n2+2=wa)=False:=Vs zo;have hwN:∀ob,WrE wc wa (hset H2 (n2+2) ob):=λob=>⟨by rw[AA _ _ _ _ zo];exact hw2.c,by rw[AA _ _ _ _ zo];exact hw2.a⟩
   have hfN:∀ob,AR (hset H2 (n2+2) ob) (n2+4):=λob=>hf2.hset (m:=n2+4) zo zo
   have htN:∀ob,hget (hset H2 (n2+2) ob) id=some .tok:=λob=>by rw[AA _ _ _ _ zo];exact k9
   have key:∀ob,AN prog (wrF x) ([.sl (.own id 1) (Y.map eB),eV x]++wrC wc x) (hset H2 (n2+2) ob) (n2+4) (Jd (hset H2 (n2+2) ob) (n2+4) (.own id 1) (Y++encB x)):=λob=>ihx Y hYl (hwN ob) zo zo (hfN ob) ⟨rfl,htN ob⟩ (λi e h=>by cases h;omega)
   clear ihx;cases x<;>(
    simp only[eZ,reduceCtorEq,Nat.reduceEqDiff,↓reduceIte,Nat.reduceAdd,Nat.reduceLeDiff,Nat.reduceMul,Int.reduceLE,Int.reduceToNat,eY,lt_T c6,hg,f2,c1',c2',wne,ane,AD,eV];refine⟨zd,(key _).mono ?_⟩;rintro o H3 n3 ⟨id3,hi1,hi2,rfl,ht3,hf3,hlow3⟩;simp only[eE,eN,reduceCtorEq,Nat.reduceEqDiff,↓reduceIte,Int.reduceEq,retK,e];refine .mk ⟨j+1,id3,H3,n3⟩ (by rw[hnx]) ⟨c6,hf3,by show m<=id3;omega,hi2,ht3,λi hi=>?_⟩ (by show L.length-(j+1)<L.length-j;omega);rw[hlow3 i zo];show hget (hset (hset H2 (n2+2) _) id .dead) i=_;rw[AA _ _ _ _ zo,AA _ _ _ _ zo];exact hlow2 i hi)
  obtain rfl:j=L.length:=zo
  rw[Vw];simp only[eZ,reduceCtorEq,Nat.reduceEqDiff,↓reduceIte,lt_F c6];refine⟨id,hle,i9,?_,k9,hf2,hlow2⟩;rw[encB,show l++[3]++numB L.length++encBs L=l++3::(numB L.length++encBs L)by simp]
section
variable {P:Program} {T:Tab} {b:Nat} {cx:Nat->Fs} {rx:List (Nat×Z9)} {kp:List Nat} {k:List Item} {Q:Z3->AS->Prop} {s:AS}
def UM(P:Program)(T:Tab)(b:Nat)(cx:Nat->Fs)(d:Option Nat)(r:List (Nat×Z9))(kp:List Nat)(k:List Item)(Q:Z3->AS->Prop)(s:AS):Zb->AC->Nat->Prop
 | .ret v,H',n'=>A9 P T b cx r kp k Q ({s with H:=H',n:=n'}.put d true v)
 | .pan v,H',n'=>kont P T Q k (.pan v) ⟨[],H',n'⟩
def yldX0(P:Program)(T:Tab)(b:Nat)(cx:Nat->Fs)(d:Option Nat)(r:List (Nat×Z9))(kp:List Nat)(k:List Item)(Q:Z3->AS->Prop)(s:AS)(x:Bool)(H':AC)(n':Nat):Prop:=A9 P T b cx r kp k Q ({s with H:=H',n:=n'}.put d true (.bool x))
theorem O7{d:Option Nat}{f:Yy}{xs:List Yy}:A9 P T b cx ((0,⟨d,none,.call false f xs⟩)::rx) kp k Q s=((lk s.env f).1=true/\oks s.env xs/\Lc P (xs.map (lkv s.env)) s.H s.n (UM P T b cx d rx kp k Q s) (yldX0 P T b cx d rx kp k Q s) (lkv s.env f)):=by
 simp only[A9,DM,BJ,AU,gok,gvb,A5,oks,Io.opds,BS,WQ,WS,seval,Xg,Xk,Xa];refine congrArg (λz=>(lk s.env f).1=true/\oks s.env xs/\z) ?_;generalize lkv s.env f=v;cases v<;>try rfl
 rename_i ff first cap
 cases ff<;>try rfl
 ·refine congrArg (AN P _ _ s.H s.n) ?_;funext o H' n';cases o with
  |ret v=>simp only[UM,EJ,WQ];rfl
  |pan v=>rfl
 ·cases first<;>cases cap<;>try rfl
  refine congrArg (B2 P _ _ s.H s.n) ?_;funext o H' n';simp only[yldX0,EJ,WQ];rfl
end
def t_newW{H:AC}{m:Nat}(hf:AR H m):AN prog 107 [] H m λo H' n'=>o= .ret (.ptr (m+1) 0)/\WrE (m+2) (m+1) H'/\n'=m+4/\AR H' n'/\∀i,i≠m+1->i≠m+2->hget H' i=hget H i:=by
 refine c107.a (AE AI.tnil (AF ?_));have n12:(m+1=m+2)=False:=Vs zo;have n21:(m+2=m+1)=False:=Vs zo;simp only[eE,eN,Nat.reduceEqDiff,↓reduceIte,Nat.reduceAdd,Nat.reduceLeDiff,Nat.reduceMul,Int.reduceLE,Int.reduceToNat,Int.toNat_one,c107,fr1 hf,n12,n21,AD];refine⟨zd,zd,zd,⟨by rw[AA _ _ _ _ zo];exact AB ..,AB ..⟩,?_,λi h1 h2=>?_⟩
 ·exact((hf.hset (m:=m+4) zo zo).hset (V4 _) zo).hset (V4 _) zo
 ·rw[V5 (Ne.symm h1),V5 (Ne.symm h2),V5 (Ne.symm h1)]
noncomputable def Tab8:Tab:=tadd 106 (sV1 OkV λ_=>.int .i64 0) tnil
def UN:AI prog Tab8:=AI.tnil.add (qV1 λv h=>p106 v h)
theorem Tab8_a(a:List Fs)(H:AC):Tab8 106 a H=sV1 OkV (λ_=>.int .i64 0) a H:=rfl
def p39(v:Z0)(hv:D6 v):Pur prog 39 [eV v] (.tup [eBy (encB v),.int .i64 0]):=by
 refine .mk ⟨Af 0 _,trivial⟩ ⟨⟨trivial,AV (f:=eB) (λ_=>trivial) _⟩,trivial,trivial⟩ (c39.a (AE UN (AF ?_)));have hm:(∃u,OkV u/\eV u=eV v)=True:=V1 ⟨v,hv.1,rfl⟩;have hfb:∀ob,AR (hset hnil 0 ob) 3:=λob=>AR.nil.hset (m:=3) (V8 _) zd
 have key:=λ(H:AC) (m wc wa:Nat)=>t_W hv.1.1 (H:=H) (m:=m) (wc:=wc) (wa:=wa) (tk:=.nil) [] (by rw[Wq,Wr];have:=hv.2;omega)
 cases v<;>(
  simp only[eV]at hm;simp only[eZ,eX,reduceCtorEq,Nat.reduceEqDiff,↓reduceIte,Nat.reduceAdd,Nat.reduceLeDiff,Nat.reduceLT,Nat.reduceMod,Nat.reduceSub,Nat.reduceDiv,V3,c39,Tab8_a,sV1,eV,hm];refine(t_newW (hfb _)).mono ?_;rintro o H' n' ⟨rfl,hw,rfl,hf',hk⟩;have h0:=hk 0 zd zd;have ha:=hw.a;simp only[eE,eX,reduceCtorEq,Nat.reduceEqDiff,↓reduceIte,Nat.reduceAdd,Nat.reduceLeDiff,Nat.reduceMul,Nat.reduceLT,Int.reduceLE,Int.reduceToNat,Nat.reduceMod,Nat.reduceSub,Nat.reduceDiv,Int.toNat_one,Dz,O7,ha];refine⟨λi hi hn=>hk i (λe=>?_) (λe=>?_),zd,(key H' 7 5 4 hw zd zd hf' trivial (λid e h=>by cases h)).mono ?_⟩
  ·subst e;exact absurd (hfb _ _ zd) hn
  ·subst e;exact absurd (hfb _ _ zd) hn
  rintro o H3 n3 ⟨id3,hi1,hi2,rfl,ht3,hf3,hlow3⟩;simp only[eE,eN,Nat.reduceEqDiff,↓reduceIte,UM];exact Wk.tup (.cons (Wk.sl (.inl rfl)) (.cons (Wk.refl _) .nil)))
abbrev zV:Fs:=.agg [z0,z0,zr,zs]
def eaL{α:Type}(f:α->Fs)(l:List α)(j:Nat):List Fs:=(l.take j).map f++List.replicate (l.length-j) zV
section
variable {α:Type} {f:α->Fs} {l:List α} {j:Nat}
theorem eaL_0:eaL f l 0=List.replicate l.length zV:=by unfold eaL;simp
theorem Ez(h:j<=l.length):(eaL f l j).length=l.length:=by unfold eaL;simp;omega
theorem E4:eaL f l l.length=l.map f:=by unfold eaL;simp
theorem E5(h:j<l.length):(eaL f l j).set j (f l[j])=eaL f l (j+1):=by
 unfold eaL;have h1:((l.take j).map f).length=j:=by simp;omega
 rw[XB _ _ zo,h1,Nat.sub_self,show l.length-j=(l.length-(j+1))+1 by omega,Yo,List.set_cons_zero,Vx,V2 h,Vt,Wb];rfl
end
structure VEa where
 j:Nat
 H:AC
 n:Nat
structure IEa{α:Type}(H:AC)(n:Nat)(f:α->Fs)(l:List α)(v:VEa):Prop where
 hj:v.j<=l.length
 fr:AR v.H v.n
 le:n+5<=v.n
 b:hget v.H n=some (.box [z0,z0,zr,zs])
 a:hget v.H (n+3)=some (.arr 4 (eaL f l v.j))
 low:∀i,i<n->hget v.H i=hget H i
def IEa.init{α:Type}{H:AC}{n:Nat}{f:α->Fs}{l:List α}(hf:AR H n):IEa H n f l ⟨0,hset (hset H n (.box [z0,z0,zr,zs])) (n+3) (.arr 4 (List.replicate l.length zV)),n+5⟩:=
 ⟨V8 _,(hf.hset (m:=n+5) zo zo).hset (V4 _) (by show n+3<n+5;omega),V4 _,by rw[AA _ _ _ _ zo];exact AB ..,by rw[eaL_0];exact AB ..,λi hi=>by rw[AA _ _ _ _ zo,AA _ _ _ _ zo]⟩
def IEa.next{α:Type}{H H1:AC}{n n1 j:Nat}{f:α->Fs}{l:List α}(h:IEa H n f l ⟨j,H1,n1⟩)(c6:j<l.length){x:Fs}(hx:(eaL f l j).set j x=eaL f l (j+1)):IEa H n f l ⟨j+1,hset H1 (n+3) (.arr 4 ((eaL f l j).set j x)),n1⟩:=
 have hl:=h.le
 ⟨c6,h.fr.hset (V4 _) (by show n+3<n1;simp only[]at hl;omega),h.le,by rw[AA _ _ _ _ zo];exact h.b,by rw[hx];exact AB ..,λi hi=>by rw[AA _ _ _ _ zo];exact h.low i hi⟩
def IEa.nextS{α:Type}{H H1:AC}{n n1 j:Nat}{f:α->Fs}{l:List α}(h:IEa H n f l ⟨j,H1,n1⟩)(c6:j<l.length){x:Fs}{ob:Z7}(hx:(eaL f l j).set j x=eaL f l (j+1)):IEa H n f l ⟨j+1,hset (hset H1 (n1+3) ob) (n+3) (.arr 4 ((eaL f l j).set j x)),n1+6⟩:=
 have hl:=h.le
 ⟨c6,(h.fr.hset (m:=n1+6) (by show n1<=n1+6;omega) zo).hset (V4 _) (by show n+3<n1+6;simp only[]at hl;omega),by show n+5<=n1+6;simp only[]at hl;omega,by rw[AA _ _ _ _ zo,AA _ _ _ _ (by simp only[]at hl;omega)];exact h.b,by rw[hx];exact AB ..,λi hi=>by rw[AA _ _ _ _ zo,AA _ _ _ _ (by simp only[]at hl;omega)];exact h.low i hi⟩
def Do{H:AC}{id n k:Nat}{Q:Zb->AC->Nat->Prop}{A:List Fs}(L:List Z0)(ha:hget H id=some (.arr 4 A))(hA:A=L.map eV)(hk:L.length=k)(h:Q (.ret (eV (.list L))) (hset H id (.frz 4 A)) n):AN prog 113 [.ref id 4 0 k k] H n Q:=by
 subst hA hk;have hn:(L.map eV).length=L.length:=by rw[V0]
 refine AN.freeze ha ?_;have hq:=(p113 L).frozen (H:=hset H id (.frz 4 (L.map eV))) (args':=[.ref id 4 0 L.length L.length]) (.cons (by
  have:=FV.ref (H:=hset H id (.frz 4 (L.map eV))) (id:=id) (e:=4) (off:=0) (len:=L.length) (cap:=L.length) (AB ..) (by rw[hn];omega) (V4 _);rw[Xt,We (by rw[hn];exact V4 _)]at this;exact this) .nil) n
 refine AN.mono hq ?_;rintro o H' n' ⟨rfl,rfl,rfl⟩;exact h
def C7{H H1:AC}{n:Nat}{o1 o2:Z7}(hf:AR H n)(low:∀i,i<n->hget H1 i=hget H i):Ce H (hset (hset H1 (n+3) o1) n o2):=λi o h=>by
 have hi:=hf.lt h;rw[AA _ _ _ _ zo,AA _ _ _ _ zo,low i hi];exact h
def qNb:∀args H n,(sI1 args H).1->Ab prog 110 args H n (sI1 args H).2:=by
 intro args H n hh;unfold sI1 at hh⊢;split at hh
 ·exact(p110 _).quiet H n
 ·exact hh.elim
def qTx:∀args H n,(sT1 args H).1->Ab prog 114 args H n (sT1 args H).2:=by
 intro args H n hh;unfold sT1 at hh⊢;split at hh
 ·exact(p114 _).quiet H n
 ·exact hh.elim
noncomputable def sLs:List Fs->AC->Prop×Fs:=λa _=>match a with
 |[.sl t L]=>(t.esz=4/\(L.map dV).map eV=L,eV (.list (L.map dV)))
 |_=>(False,.tup [])
def qLs{fid:FuncId}(h:∀l:List Z0,Pur prog fid [.sl (.none 4) (l.map eV)] (eV (.list l))):∀args H n,(sLs args H).1->Ab prog fid args H n (sLs args H).2:=by
 intro args H n hh;unfold sLs at hh⊢;split at hh
 ·rename_i t L;refine AN.args ((h (L.map dV)).quiet H n) ?_;rintro g vs ⟨v,r,rfl,k1,k2⟩;refine⟨v,_,rfl,?_,k2⟩;rw[hh.2];exact Wk.sl (.inl hh.1) g v k1
 ·exact hh.elim
def DK(l:List Int):Z0:=.list (l.map .int)
def MH(l:List Bs):Z0:=.list (l.map .text)
def symV(s:Za):Z0:=.list [.text s.nm,.int s.v]
def regV(r:Z6):Z0:=.list [.text r.nm,.list (r.ls.map DK)]
def cluV(c:Z5):Z0:=.list [.text c.nm,.text c.on,.int c.ty,.int c.lo,.int c.hi]
def rleV(r:Yz):Z0:=.list [.text r.nm,.text r.on,.int r.kind,MH r.ns,MH r.os,.int r.op,.int r.n,.text r.byN]
noncomputable def TabE:Tab:=tadd 110 sI1 (tadd 114 sT1 (tadd 113 sLs tnil))
def K1:AI prog TabE:=((AI.tnil.add (qLs p113)).add qTx).add qNb
theorem TabE_i(a:List Fs)(H:AC):TabE 110 a H=sI1 a H:=rfl
theorem TabE_t(a:List Fs)(H:AC):TabE 114 a H=sT1 a H:=rfl
abbrev lt5{α:Type}(l:List α):Prop:=l.length<100000
def q109{H:AC}{n:Nat}(l:List (Int))(hl:lt5 l)(hx:∀x∈l,True):Ab prog 109 [eIs l,.fn (.func 110) [] []] H n (eV (.list (l.map Z0.int))):=by
 refine Ab.of c109.l (Af _ _) λhf=>c109.a (AE K1 (AF ?_))
 have hl':l.length<100000:=hl;have m1:((l.length:Int)<=35184372088832)=True:=V1 zo;have m2:small l.length 56=True:=V1 (AP zo zd);have f0:=hf n (V4 _);simp only[eE,eN,seval,eY,c109,m1,m2,fr1 hf,f0];refine AO (λv:VEa=>⟨[(1,true,.fn (.func 110) [] []),(4,true,.ptr n 0),(5,true,.ref (n+3) 4 0 l.length l.length),(11,true,eIs l),(12,true,.int .i64 l.length),(13,true,.int .i64 v.j)],v.H,v.n⟩) (IEa H n (λx=>eV (Z0.int x)) l) (λv=>l.length-v.j) ⟨0,hset (hset H n (.box [z0,z0,zr,zs])) (n+3) (.arr 4 (List.replicate l.length zV)),n+5⟩ rfl (IEa.init hf) ?_;rintro⟨j,H1,n1⟩ hI;have hj:j<=l.length:=hI.hj;have ha:=hI.a;have hb:=hI.b;have e9:=hI.fr;have hle:n+5<=n1:=hI.le;simp only at ha hb e9;by_cases c6:j<l.length
 ·have hg:=V2 c6;have e:=AG (k:=j) zo;have nx:=E5 (f:=λx=>eV (Z0.int x)) c6;have ln:=Ez (f:=λx=>eV (Z0.int x)) hj;have hxx:=hx _ (W1 c6);generalize l[j]=x at hg nx hxx;simp only[eZ,seval,eY,lt_T c6,c6,hg,TabE_i,sI1,e,ha,BD,B1,ln];exact .mk ⟨j+1,_,_⟩ rfl (hI.next c6 nx) (by show l.length-(j+1)<l.length-j;omega)
 obtain rfl:j=l.length:=zo
 rw[E4]at ha;simp only[eZ,seval,lt_F c6];refine Do (l.map Z0.int) ha (by rw[X2];rfl) (V0 _) ?_;have n30:(n+3=n)=False:=Vs zo;simp only[eE,eN,seval,Au,retK,BD,B1,n30,hb];exact⟨Wk.refl _,C7 hf hI.low⟩
def q122{H:AC}{n:Nat}(l:List (Bs))(hl:lt5 l)(hx:∀x∈l,True):Ab prog 122 [eSs l,.fn (.func 114) [] []] H n (eV (.list (l.map Z0.text))):=by
 refine Ab.of c122.l (Af _ _) λhf=>c122.a (AE K1 (AF ?_))
 have hl':l.length<100000:=hl;have m1:((l.length:Int)<=35184372088832)=True:=V1 zo;have m2:small l.length 56=True:=V1 (AP zo zd);have f0:=hf n (V4 _);simp only[eE,eN,seval,eY,c122,m1,m2,fr1 hf,f0];refine AO (λv:VEa=>⟨[(1,true,.fn (.func 114) [] []),(4,true,.ptr n 0),(5,true,.ref (n+3) 4 0 l.length l.length),(11,true,eSs l),(12,true,.int .i64 l.length),(13,true,.int .i64 v.j)],v.H,v.n⟩) (IEa H n (λx=>eV (Z0.text x)) l) (λv=>l.length-v.j) ⟨0,hset (hset H n (.box [z0,z0,zr,zs])) (n+3) (.arr 4 (List.replicate l.length zV)),n+5⟩ rfl (IEa.init hf) ?_;rintro⟨j,H1,n1⟩ hI;have hj:j<=l.length:=hI.hj;have ha:=hI.a;have hb:=hI.b;have e9:=hI.fr;have hle:n+5<=n1:=hI.le;simp only at ha hb e9;by_cases c6:j<l.length
 ·have hg:=V2 c6;have e:=AG (k:=j) zo;have nx:=E5 (f:=λx=>eV (Z0.text x)) c6;have ln:=Ez (f:=λx=>eV (Z0.text x)) hj;have hxx:=hx _ (W1 c6);generalize l[j]=x at hg nx hxx;simp only[eZ,seval,eY,lt_T c6,c6,hg,TabE_t,sT1,e,ha,BD,B1,ln];exact .mk ⟨j+1,_,_⟩ rfl (hI.next c6 nx) (by show l.length-(j+1)<l.length-j;omega)
 obtain rfl:j=l.length:=zo
 rw[E4]at ha;simp only[eZ,seval,lt_F c6];refine Do (l.map Z0.text) ha (by rw[X2];rfl) (V0 _) ?_;have n30:(n+3=n)=False:=Vs zo;simp only[eE,eN,seval,Au,retK,BD,B1,n30,hb];exact⟨Wk.refl _,C7 hf hI.low⟩
def q108(l:List Int)(hl:lt5 l)(H:AC)(n:Nat):Ab prog 108 [eIs l] H n (eV (DK l)):=by
 refine Ab.of c108.l (Af _ _) λhf=>c108.a (AE (T:=tadd 109 (λa _=>(a=[eIs l,.fn (.func 110) [] []],eV (DK l))) tnil) (AI.tnil.add λa H n h=>by simp only at h;subst h;exact q109 l hl λ_ _=>trivial) (AF ?_))
 have f0:=hf n (V4 _);have ht:∀a H,tadd 109 (λa _=>(a=[eIs l,.fn (.func 110) [] []],eV (DK l))) tnil 109 a H=(a=[eIs l,.fn (.func 110) [] []],eV (DK l)):=λa H=>by unfold tadd;rw[Vv rfl]
 generalize tadd 109 (λa _=>(a=[eIs l,.fn (.func 110) [] []],eV (DK l))) tnil=T at ht;simp only[eE,eN,seval,Au,c108,ht,f0,AD,BD,B1];exact⟨Wk.refl _,Ce.new hf (V4 _) (Ce.refl _)⟩
def sV1a:List Fs->AC->Prop×Fs:=s1 dIs (λl=>lt5 l) λl=>eV (DK l)
def qV1a:∀args H n,(sV1a args H).1->Ab prog 108 args H n (sV1a args H).2:=by
 intro args H n hh;unfold sV1a s1 at hh⊢;split at hh
 ·refine AN.args (q108 _ hh.2 H n) ?_;rintro g vs ⟨v,r,rfl,k1,k2⟩;exact⟨v,_,rfl,dIs.wk _ hh.1 _ _ k1,k2⟩
 ·exact hh.elim
noncomputable def TabF:Tab:=tadd 108 sV1a TabE
def Ix:AI prog TabF:=K1.add qV1a
theorem TabF_v(a:List Fs)(H:AC):TabF 108 a H=sV1a a H:=rfl
theorem S4(a:List Fs)(H:AC):TabF 114 a H=sT1 a H:=rfl
theorem S5(a:List Fs)(H:AC):TabF 110 a H=sI1 a H:=rfl
theorem S6(a:List Fs)(H:AC):TabF 113 a H=sLs a H:=rfl
def q117{H:AC}{n:Nat}(l:List (List Int))(hl:lt5 l)(hx:∀x∈l,lt5 x):Ab prog 117 [eLl l,.fn (.func 108) [] []] H n (eV (.list (l.map DK))):=by
 refine Ab.of c117.l (Af _ _) λhf=>c117.a (AE Ix (AF ?_))
 have hl':l.length<100000:=hl;have m1:((l.length:Int)<=35184372088832)=True:=V1 zo;have m2:small l.length 56=True:=V1 (AP zo zd);have f0:=hf n (V4 _);simp only[eE,eN,seval,eY,c117,m1,m2,fr1 hf,f0];refine AO (λv:VEa=>⟨[(1,true,.fn (.func 108) [] []),(4,true,.ptr n 0),(5,true,.ref (n+3) 4 0 l.length l.length),(11,true,eLl l),(12,true,.int .i64 l.length),(13,true,.int .i64 v.j)],v.H,v.n⟩) (IEa H n (λx=>eV (DK x)) l) (λv=>l.length-v.j) ⟨0,hset (hset H n (.box [z0,z0,zr,zs])) (n+3) (.arr 4 (List.replicate l.length zV)),n+5⟩ rfl (IEa.init hf) ?_;rintro⟨j,H1,n1⟩ hI;have hj:j<=l.length:=hI.hj;have ha:=hI.a;have hb:=hI.b;have e9:=hI.fr;have hle:n+5<=n1:=hI.le;simp only at ha hb e9;by_cases c6:j<l.length
 ·have hg:=V2 c6;have e:=AG (k:=j) zo;have nx:=E5 (f:=λx=>eV (DK x)) c6;have ln:=Ez (f:=λx=>eV (DK x)) hj;have hxx:=hx _ (W1 c6);generalize l[j]=x at hg nx hxx;simp only[eZ,seval,eY,lt_T c6,c6,hg,TabF_v,sV1a,s1,Al,AZ,V1 hxx,e,ha,BD,B1,ln];exact .mk ⟨j+1,_,_⟩ rfl (hI.next c6 nx) (by show l.length-(j+1)<l.length-j;omega)
 obtain rfl:j=l.length:=zo
 rw[E4]at ha;simp only[eZ,seval,lt_F c6];refine Do (l.map DK) ha (by rw[X2];rfl) (V0 _) ?_;have n30:(n+3=n)=False:=Vs zo;simp only[eE,eN,seval,Au,retK,BD,B1,n30,hb];exact⟨Wk.refl _,C7 hf hI.low⟩
def p112(x:Za):Pur prog 112 [HK x] (eV (symV x)):=by
 refine .mk ⟨⟨trivial,trivial,trivial⟩,trivial⟩ (Af 0 _) (c112.a (AE Ix (AF ?_)));simp only[eE,eN,seval,Au,c112,S4,S5,S6,sT1,sI1,sLs,AD,BD,B1,DY,Y9];exact Wk.refl _
def p119(x:Z5):Pur prog 119 [B0 x] (eV (cluV x)):=by
 refine .mk ⟨⟨trivial,trivial,trivial,trivial,trivial,trivial,trivial⟩,trivial⟩ (Af 0 _) (c119.a (AE Ix (AF ?_)));simp only[eE,eN,seval,Au,c119,S4,S5,S6,sT1,sI1,sLs,AD,BD,B1,DY,Y9];exact Wk.refl _
def sV2:List Fs->AC->Prop×Fs:=s1 dSy any1 λs=>eV (symV s)
def sV4:List Fs->AC->Prop×Fs:=s1 dCl any1 λc=>eV (cluV c)
noncomputable def TabG:Tab:=tadd 112 sV2 (tadd 119 sV4 TabF)
def K3:AI prog TabG:=(Ix.add (q1 λc _=>p119 c)).add (q1 λs _=>p112 s)
theorem TabG_a(a:List Fs)(H:AC):TabG 112 a H=sV2 a H:=rfl
theorem TabG_b(a:List Fs)(H:AC):TabG 119 a H=sV4 a H:=rfl
def q111{H:AC}{n:Nat}(l:List (Za))(hl:lt5 l)(hx:∀x∈l,True):Ab prog 111 [eSys l,.fn (.func 112) [] []] H n (eV (.list (l.map symV))):=by
 refine Ab.of c111.l (Af _ _) λhf=>c111.a (AE K3 (AF ?_))
 have hl':l.length<100000:=hl;have m1:((l.length:Int)<=35184372088832)=True:=V1 zo;have m2:small l.length 56=True:=V1 (AP zo zd);have f0:=hf n (V4 _);simp only[eE,eN,seval,eY,c111,m1,m2,fr1 hf,f0];refine AO (λv:VEa=>⟨[(1,true,.fn (.func 112) [] []),(4,true,.ptr n 0),(5,true,.ref (n+3) 4 0 l.length l.length),(11,true,eSys l),(12,true,.int .i64 l.length),(13,true,.int .i64 v.j)],v.H,v.n⟩) (IEa H n (λx=>eV (symV x)) l) (λv=>l.length-v.j) ⟨0,hset (hset H n (.box [z0,z0,zr,zs])) (n+3) (.arr 4 (List.replicate l.length zV)),n+5⟩ rfl (IEa.init hf) ?_;rintro⟨j,H1,n1⟩ hI;have hj:j<=l.length:=hI.hj;have ha:=hI.a;have hb:=hI.b;have e9:=hI.fr;have hle:n+5<=n1:=hI.le;simp only at ha hb e9;by_cases c6:j<l.length
 ·have hg:=V2 c6;have e:=AG (k:=j) zo;have nx:=E5 (f:=λx=>eV (symV x)) c6;have ln:=Ez (f:=λx=>eV (symV x)) hj;have hxx:=hx _ (W1 c6);generalize l[j]=x at hg nx hxx;have f3:=e9 (n1+3) zo;have ne3:(n1+3=n+3)=False:=Vs zo;simp only[eZ,seval,eY,lt_T c6,c6,hg,TabG_a,sV2,s1,Qj,Lq,e,ha,f3,ne3,AD,BD,B1,ln];exact .mk ⟨j+1,_,_⟩ rfl (hI.nextS c6 nx) (by show l.length-(j+1)<l.length-j;omega)
 obtain rfl:j=l.length:=zo
 rw[E4]at ha;simp only[eZ,seval,lt_F c6];refine Do (l.map symV) ha (by rw[X2];rfl) (V0 _) ?_;have n30:(n+3=n)=False:=Vs zo;simp only[eE,eN,seval,Au,retK,BD,B1,n30,hb];exact⟨Wk.refl _,C7 hf hI.low⟩
def q118{H:AC}{n:Nat}(l:List (Z5))(hl:lt5 l)(hx:∀x∈l,True):Ab prog 118 [eCls l,.fn (.func 119) [] []] H n (eV (.list (l.map cluV))):=by
 refine Ab.of c118.l (Af _ _) λhf=>c118.a (AE K3 (AF ?_))
 have hl':l.length<100000:=hl;have m1:((l.length:Int)<=35184372088832)=True:=V1 zo;have m2:small l.length 56=True:=V1 (AP zo zd);have f0:=hf n (V4 _);simp only[eE,eN,seval,eY,c118,m1,m2,fr1 hf,f0];refine AO (λv:VEa=>⟨[(1,true,.fn (.func 119) [] []),(4,true,.ptr n 0),(5,true,.ref (n+3) 4 0 l.length l.length),(11,true,eCls l),(12,true,.int .i64 l.length),(13,true,.int .i64 v.j)],v.H,v.n⟩) (IEa H n (λx=>eV (cluV x)) l) (λv=>l.length-v.j) ⟨0,hset (hset H n (.box [z0,z0,zr,zs])) (n+3) (.arr 4 (List.replicate l.length zV)),n+5⟩ rfl (IEa.init hf) ?_;rintro⟨j,H1,n1⟩ hI;have hj:j<=l.length:=hI.hj;have ha:=hI.a;have hb:=hI.b;have e9:=hI.fr;have hle:n+5<=n1:=hI.le;simp only at ha hb e9;by_cases c6:j<l.length
 ·have hg:=V2 c6;have e:=AG (k:=j) zo;have nx:=E5 (f:=λx=>eV (cluV x)) c6;have ln:=Ez (f:=λx=>eV (cluV x)) hj;have hxx:=hx _ (W1 c6);generalize l[j]=x at hg nx hxx;have f3:=e9 (n1+3) zo;have ne3:(n1+3=n+3)=False:=Vs zo;simp only[eZ,seval,eY,lt_T c6,c6,hg,TabG_b,sV4,s1,GH,Ec,e,ha,f3,ne3,AD,BD,B1,ln];exact .mk ⟨j+1,_,_⟩ rfl (hI.nextS c6 nx) (by show l.length-(j+1)<l.length-j;omega)
 obtain rfl:j=l.length:=zo
 rw[E4]at ha;simp only[eZ,seval,lt_F c6];refine Do (l.map cluV) ha (by rw[X2];rfl) (V0 _) ?_;have n30:(n+3=n)=False:=Vs zo;simp only[eE,eN,seval,Au,retK,BD,B1,n30,hb];exact⟨Wk.refl _,C7 hf hI.low⟩
end Go.AM
