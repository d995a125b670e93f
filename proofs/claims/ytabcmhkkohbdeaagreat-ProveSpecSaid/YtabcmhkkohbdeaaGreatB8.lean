/-
  Parts of the proof. Conditions: none.
-/
import Derived.Test.YtabcmhkkohbdeaaGreatShelf
import Derived.Test.YtabcmhkkohbdeaaGreatB6
set_option maxRecDepth 20000
set_option linter.all false
set_option maxHeartbeats 1000000
namespace Go.AM
open Go.Lib Go.Proofs Go.Proofs.Tryz
section
abbrev Bs:=List UInt8
abbrev eI(n:Int):Fs:=.int .i64 n
abbrev FN(l:List Bs):Fs:=.sl (.none 1) (l.map .str)
abbrev Aj(l:List Int):Fs:=.sl (.none 1) (l.map eI)
def D9(n:Nat)(l:List Bs):wN n (l.map Fs.str):=BW (f:=Fs.str) (λx=>zt) _
def Dq(n:Nat)(l:List Int):wN n (l.map eI):=BW (f:=eI) (λx=>zt) _
def Ct(l:List Bs):(l.map Fs.str).map GR=l:=by rw[uP];exact List.map_id _
def Aw(l:List Int):(l.map eI).map A9=l:=by rw[uP];exact List.map_id _
inductive zn:List Fs->List Fs->Prop
 |nil:zn [] []
 |cons {a b:Fs} {ws us:List Fs}:Wk a b->zn ws us->zn (a::ws) (b::us)
theorem zn.rel{g:q8}:∀{ws us:List Fs},zn ws us->∀vs,wI g ws vs->wI g us vs
 |_,_,.nil,vs,h=>h
 |_,_,.cons h t,vs,⟨v,r,e,k1,k2⟩=>⟨v,r,e,h _ _ k1,t.rel r k2⟩
def Wk.agg{ws us:List Fs}(h:zn ws us):Wk (.agg ws) (.agg us):=by
 rintro g v ⟨vs,rfl,h1,h2⟩;exact⟨vs,rfl,h.rel _ h1,h2⟩
def Wk.wJ{ws us:List Fs}(h:zn ws us):Wk (.wJ ws) (.wJ us):=by
 rintro g v ⟨vs,rfl,h1⟩;exact⟨vs,rfl,h.rel _ h1⟩
def Wk.trans{a b c:Fs}(h:Wk a b)(k:Wk b c):Wk a c:=λg v q=>k g v (h g v q)
def DX(pid:Nat)(H H':AB):Prop:=∀id ob,id≠pid->AD H id=some ob->AD H' id=some ob
variable {H:AB} {ob:x9} {y9:FuncId} {pid n i a b e lo:Nat} {tk:v8} {α β:Type}
theorem DX.refl(H:AB):DX pid H H:=λ_ _ _ h=>h
theorem DX.set{H':AB}(h:DX pid H H'):DX pid H (wB H' pid ob):=λid o s8 x=>by
 rw[AA _ _ _ _ (Ne.symm s8)];exact h id o s8 x
theorem DX.new{H':AB}(hf:AO H n)(hi:n<=i)(h:DX pid H H'):DX pid H (wB H' i ob):=λid o s8 x=>by
 have:=hf.lt x;rw[AA _ _ _ _ zo];exact h id o s8 x
section
variable {n pid:Nat} {H:AB}
theorem Bq(h:AO H n)(k:Nat):AD H (n+k)=none:=h _ zo
theorem OZ(h:AO H n):AD H n=none:=h _ (sj _)
end
theorem natE3{c:Nat}:(a+b=a+c)=(b=c):=propext ⟨λh=>zo,λh=>zo⟩
structure Dc(α:Type) where
 enc:α->Fs
 dec:Fs->α
 ok:Fs->Prop
 wk:∀v,ok v->Wk v (enc (dec v))
def CG:Fs->Prop
 | .int .i64 _=>True
 |_=>False
theorem cY(v:Fs)(h:CG v):Wk v (eI (A9 v)):=by
 unfold CG at h;split at h
 ·exact Wk.refl _
 ·exact h.elim
def dI:Dc Int:=⟨eI,A9,CG,cY⟩
theorem qz(v:Fs)(h:JR v):Wk v (.str (GR v)):=by
 cases v<;>first|exact Wk.refl _|exact h.elim
def dS:Dc Bs:=⟨.str,GR,JR,qz⟩
def HL(e:Nat)(enc:α->Fs)(dec:Fs->α):Fs->Prop
 | .sl t L=>(t.esz=e\/L=[])/\L=(L.map dec).map enc
 |_=>False
def C1(dec:Fs->α):Fs->List α
 | .sl _ L=>L.map dec
 |_=>[]
theorem U4{enc:α->Fs}{dec:Fs->α}(v:Fs)(h:HL e enc dec v):Wk v (.sl (.none e) ((C1 dec v).map enc)):=by
 cases v<;>simp only[HL]at h<;>try exact h.elim
 simp only[C1];rw[<-h.2];exact Wk.sl h.1
def Kj:Dc (List Bs):=⟨FN,C1 GR,HL 1 .str GR,U4⟩
def A3:Dc (List Int):=⟨Aj,C1 A9,HL 1 eI A9,U4⟩
def s1(A:Dc α)(c:α->Prop)(f:α->Fs):List Fs->AB->Prop×Fs:=λa _=>match a with
 |[x]=>(A.ok x/\c (A.dec x),f (A.dec x))
 |_=>(False,.wJ [])
def s2(A:Dc α)(B:Dc β)(c:α->β->Prop)(f:α->β->Fs):List Fs->AB->Prop×Fs:=λa _=>match a with
 |[x,y]=>(A.ok x/\B.ok y/\c (A.dec x) (B.dec y),f (A.dec x) (B.dec y))
 |_=>(False,.wJ [])
def s3{γ:Type}(A:Dc α)(B:Dc β)(C:Dc γ)(c:α->β->γ->Prop)(f:α->β->γ->Fs):List Fs->AB->Prop×Fs:=λa _=>match a with
 |[x,y,z]=>(A.ok x/\B.ok y/\C.ok z/\c (A.dec x) (B.dec y) (C.dec z),f (A.dec x) (B.dec y) (C.dec z))
 |_=>(False,.wJ [])
theorem q1{A:Dc α}{c:α->Prop}{f:α->Fs}(h:∀x,c x->Av prog y9 [A.enc x] (f x)):∀args H n,(s1 A c f args H).1->Ao prog y9 args H n (s1 A c f args H).2:=by
 intro args H n hh;unfold s1 at hh⊢;split at hh
 ·obtain⟨h1,h2⟩:=hh;refine AX.args ((h _ h2).quiet H n) ?_;rintro g vs ⟨v,r,rfl,k1,k2⟩;exact⟨v,_,rfl,A.wk _ h1 _ _ k1,k2⟩
 ·exact hh.elim
theorem q2{A:Dc α}{B:Dc β}{c:α->β->Prop}{f:α->β->Fs}(h:∀x y,c x y->Av prog y9 [A.enc x,B.enc y] (f x y)):∀args H n,(s2 A B c f args H).1->Ao prog y9 args H n (s2 A B c f args H).2:=by
 intro args H n hh;unfold s2 at hh⊢;split at hh
 ·obtain⟨h1,h2,h3⟩:=hh;refine AX.args ((h _ _ h3).quiet H n) ?_;rintro g vs ⟨v,r,rfl,k1,w,r',rfl,k2,k3⟩;exact⟨v,_,rfl,A.wk _ h1 _ _ k1,w,_,rfl,B.wk _ h2 _ _ k2,k3⟩
 ·exact hh.elim
theorem q3{γ:Type}{A:Dc α}{B:Dc β}{C:Dc γ}{c:α->β->γ->Prop}{f:α->β->γ->Fs}(h:∀x y z,c x y z->Av prog y9 [A.enc x,B.enc y,C.enc z] (f x y z)):∀args H n,(s3 A B C c f args H).1->Ao prog y9 args H n (s3 A B C c f args H).2:=by
 intro args H n hh;unfold s3 at hh⊢;split at hh
 ·obtain⟨h1,h2,h3,h4⟩:=hh;refine AX.args ((h _ _ _ h4).quiet H n) ?_;rintro g vs ⟨v,r,rfl,k1,w,r',rfl,k2,u,r'',rfl,k3,k4⟩;exact⟨v,_,rfl,A.wk _ h1 _ _ k1,w,_,rfl,B.wk _ h2 _ _ k2,u,_,rfl,C.wk _ h3 _ _ k3,k4⟩
 ·exact hh.elim
theorem Av.all{P:Program}{f:FuncId}{args:List Fs}{r r':Fs}(h:Av P f args r)(e:r=r'):Av P f args r':=e▸h
abbrev KS(_:α):Prop:=True
abbrev cZ(_:α)(_:β):Prop:=True
theorem TH{p:α->Bool}{l:List α}(h:i<l.length):(l.take (i+1)).all p=((l.take i).all p&&p l[i]):=by
 rw[sG,rz h,List.all_append];simp
theorem map_take{f:α->β}{l:List α}(h:i<l.length):(l.take (i+1)).map f=(l.take i).map f++[f l[i]]:=by
 rw[sG,rz h,su];rfl
theorem AN(h:a<b):((a:Int)<(b:Int))=True:=r9 zo
theorem Ag(h:¬a<b):((a:Int)<(b:Int))=False:=sb zo
theorem A4{x:Int}(h1: -9223372036854775808<=x)(h2:x<=9223372036854775807):IntKind.wrap .i64 x=x:=by rw[IntKind.wrap_i64];omega
theorem AK{k:Nat}(h:k<9000000000000000000):IntKind.wrap .i64 ((k:Int)+1)=((k+1:Nat):Int):=by rw[A4 zo zo];rfl
theorem c0:((0:Nat):Int)=0:=rfl
theorem c1:((1:Nat):Int)=1:=rfl
theorem cS0:(((n+1:Nat):Int)=0)=False:=sb zo
theorem cS1:((0:Int)<((n+1:Nat):Int))=True:=r9 zo
theorem i00:((0:Int)<0)=False:=sb zd
def C8(e lo:Nat)(H:AB)(tk:v8):Prop:=tk= .nil\/tk= .exact e\/∃id,tk= .own id e/\lo<=id/\AD H id=some .tok
theorem C8.app(h:C8 e lo H tk):BB H e tk:=by
 rcases h with rfl|rfl|⟨id,rfl,h1,h2⟩
 ·trivial
 ·rfl
 ·exact⟨rfl,h2⟩
theorem C8.set(h:C8 e lo H tk)(hi:i<lo\/(∃cs,AD H i=some (.box cs))\/AD H i=none):C8 e lo (wB H i ob) tk:=by
 rcases h with rfl|rfl|⟨id,rfl,h1,h2⟩
 ·exact .inl rfl
 ·exact .inr (.inl rfl)
 ·refine .inr (.inr ⟨id,rfl,h1,?_⟩);rw[AA _ _ _ _ ?_]
  ·exact h2
  ·rintro rfl;rcases hi with q|⟨cs,q⟩|q
   ·omega
   ·rw[h2]at q;cases q
   ·rw[h2]at q;cases q
theorem Ac(h:C8 e lo H tk)(hi:i<lo\/∃cs,AD H i=some (.box cs)):AD (AU H tk) i=AD H i:=by
 rcases h with rfl|rfl|⟨id,rfl,h1,h2⟩
 ·rfl
 ·rfl
 ·simp only[AU];rw[AA _ _ _ _ ?_];rintro rfl;rcases hi with q|⟨cs,q⟩
  ·omega
  ·rw[h2]at q;cases q
theorem Ab(h:C8 e lo H tk)(hf:AO H n):AO (AU H tk) n:=by
 rcases h with rfl|rfl|⟨id,rfl,h1,h2⟩
 ·exact hf
 ·exact hf
 ·exact hf.wB (sj _) (hf.lt h2)
theorem P8(h:C8 e lo H tk)(hi:AD H i=none):AD (AU H tk) i=none:=by
 rcases h with rfl|rfl|⟨id,rfl,h1,h2⟩
 ·exact hi
 ·exact hi
 ·simp only[AU];rw[AA _ _ _ _ ?_]
  ·exact hi
  ·rintro rfl;rw[h2]at hi;cases hi
theorem C8.kill{e' lo':Nat}{tk':v8}(h:C8 e lo H tk)(h':C8 e' lo' H tk')(hd:∀i,tk= .own i e->tk'≠ .own i e'):C8 e lo (AU H tk') tk:=by
 rcases h' with rfl|rfl|⟨j,rfl,h1,h2⟩
 ·exact h
 ·exact h
 ·rcases h with rfl|rfl|⟨id,rfl,h3,h4⟩
  ·exact .inl rfl
  ·exact .inr (.inl rfl)
  ·refine .inr (.inr ⟨id,rfl,h3,?_⟩);simp only[AU];rw[AA _ _ _ _ (λe=>hd id rfl (by rw[e]))];exact h4
abbrev Aq(l:List α):Prop:=l.length<1000000000
abbrev wide(l:List α):Prop:=l.length<1125899906842624
theorem Dr{l:List α}(h:Aq l):wide l:=by
 have:l.length<1000000000:=h;show l.length<_;omega
theorem Ed{a b:List α}(hl:a.length=b.length)(h:∀j,j<a.length->a[j]?=b[j]?):a=b:=uM λj=>by
 rcases Nat.lt_or_ge j a.length with q|q
 ·exact h j q
 ·rw[uG q,uG zo]
theorem HY(h:a≠b):((a:Int)=(b:Int))=False:=sb zo
theorem HZ(h:a=b):((a:Int)=(b:Int))=True:=r9 zo
theorem Ae(h:n<=1000000000)(hb:b<=1000):Al n b:=by
 have:n*b<=1000000000*1000:=Nat.mul_le_mul h hb;unfold Al;omega
theorem Dx{enc:α->Fs}{dec:Fs->α}(h:∀x,dec (enc x)=x)(l:List α):(l.map enc).map dec=l:=by
 rw[uP];exact(tG λx _=>h x).trans (List.map_id _)
def dEx(enc:α->Fs)(dec:Fs->α):Dc α:=⟨enc,dec,λv=>v=enc (dec v),λv h=>h▸Wk.refl _⟩
theorem D8.mono{P:Program}{args:List Fs}{rv:Fs}{Rc Rc':AB->Nat->Prop}(h:D8 P y9 args rv H n Rc)(hr:∀H' n',Rc H' n'->Rc' H' n'):D8 P y9 args rv H n Rc':=
 λg w vs u hR hV hu=>CallsDIn.mono (h g w vs u hR hV hu) λe u' w' ⟨h1,h2,g',H',n',h3,h4⟩=>⟨h1,h2,g',H',n',hr _ _ h3,h4⟩
def eY:=A @Option.getD_none.{0}<|A @sw.{0}<|A @Option.isSome_none.{0}<|A @Option.isSome_some.{0}<|A @c0<|A @c1<|A @i00<|A @Int.toNat_zero<|A @Int.toNat_one<|A @vA<|A @sm<|A @sr<|A @ry.{0,0}<|A @sF.{0,0}<|A @u9.{0}<| @ut.{0}
end
end Go.AM
namespace Go.AM
open Go.Lib Go.Proofs Go.RowKit Go.Sort Go.Proofs.Tryz
def cd:List Fs->AB->Prop×Fs:=λa H=>match a with
 |[.str l,.int .u8 c]=>(0<=c/\c<256,.int .i64 (indexByte l (UInt8.ofNat c.toNat)))
 |_=>(False,.wJ [])
def q145:∀args H n,(cd args H).1->Ao prog 145 args H n (cd args H).2:=by
 intro args H n h;unfold cd at h⊢;split at h
 ·rename_i l c;refine Av.quiet ?_ H n;refine KO c145.l ⟨zt,zt,zt⟩ zt ?_;rintro g w vs hR ⟨v,r,rfl,k1,v2,r2,rfl,k2,k3⟩;have k1':v= .string ⟨l.toArray⟩:=k1;have k2':v2= .int .u8 c:=k2;have k3':r2=[]:=k3;subst k1';subst k2';subst k3';refine(strings_IndexByte ⟨l.toArray⟩ c w).mono ?_;rintro e w' ⟨rfl,rfl⟩;exact⟨⟨_,rfl,rfl⟩,Below.refl _ _⟩
 ·exact h.elim
def T1:Bg:=AF 145 cd wD
def kN:AH prog T1:=AH.wD.add q145
def EM(x:Int):Bool:=(decide (97<=x)&&decide (x<=122))||(decide (65<=x)&&decide (x<=90))
def Fq(x:Int):Bool:=decide (48<=x)&&decide (x<=57)
def RL(x:Int):Bool:=decide (x=32)||decide (x=9)||decide (x=10)||decide (x=13)
abbrev sgnL:List UInt8:=[123,125,40,41,59,44,61,58,46,60,62,33,43,45,42,47]
def N9(x:Int):Bool:=decide (0<=indexByte sgnL (UInt8.ofNat x.toNat))
def KU(x:Int):Int:=if EM x then 2 else if Fq x then 3 else if x=95 then 5 else if RL x then 1 else if N9 x then 4 else 0
def Gy(x:Int):Bool:=EM x||Fq x||decide (x=95)
def p148(x:Int):Av prog 148 [.int .u8 x] (.bool (EM x)):=by
 refine .mk (by simp [wN,Fs.under]) zt (c148.a (AI AH.wD (AJ ?_)));simp only[eE,eN,Lv,seval,c148];rfl
def p192(x:Int):Av prog 192 [.int .u8 x] (.bool (Fq x)):=by
 refine .mk (by simp [wN,Fs.under]) zt (c192.a (AI AH.wD (AJ ?_)));simp only[eE,eN,Lv,seval,c192];rfl
def p94(x:Int)(h0:0<=x)(h1:x<256):Av prog 94 [.int .u8 x] (.int .i64 (KU x)):=by
 refine .mk (by simp [wN,Fs.under]) zt (c94.a (AI kN (AJ ?_)));simp only[eE,eN,Ic,Lv,seval,c94,T1,cd,AF];refine⟨λh=>?_,λg1=>⟨λh=>?_,λg2=>⟨λh=>?_,λg3=>⟨λh=>?_,λg4=>⟨⟨h0,h1⟩,λh=>?_,λh=>?_⟩⟩⟩⟩⟩
 ·have:EM x=true:=by simp [EM];omega
  simp [KU,this]
 ·have k1:EM x=false:=by simp [EM];simp at g1;omega
  have:Fq x=true:=by simp [Fq];omega
  simp [KU,this,k1]
 ·have k1:EM x=false:=by simp [EM];simp at g1;omega
  have k2:Fq x=false:=by simp [Fq];simp at g2;omega
  simp only[KU,h,tD];subst h;rfl
 ·have k1:EM x=false:=by simp [EM];simp at g1;omega
  have k2:Fq x=false:=by simp [Fq];simp at g2;omega
  have:RL x=true:=by simp [RL];omega
  simp [KU,g3,this,k1,k2]
 ·have k1:EM x=false:=by simp [EM];simp at g1;omega
  have k2:Fq x=false:=by simp [Fq];simp at g2;omega
  have k4:RL x=false:=by simp [RL];omega
  have k5:N9 x=true:=by simpa [N9]using h
  simp [KU,g3,k4,k5,k1,k2]
 ·have k1:EM x=false:=by simp [EM];simp at g1;omega
  have k2:Fq x=false:=by simp [Fq];simp at g2;omega
  have k4:RL x=false:=by simp [RL];omega
  have k5:N9 x=false:=by simpa [N9]using h
  simp [KU,g3,k4,k5,k1,k2]
def sB(f:Int->Fs):List Fs->AB->Prop×Fs:=λa H=>match a with
 |[.int .u8 x]=>(0<=x/\x<256,f x)
 |_=>(False,.wJ [])
def qB{y9:FuncId}{f:Int->Fs}(h:∀x,0<=x->x<256->Av prog y9 [.int .u8 x] (f x)):∀args H n,(sB f args H).1->Ao prog y9 args H n (sB f args H).2:=by
 intro args H n hh;unfold sB at hh⊢;split at hh
 ·exact(h _ hh.1 hh.2).quiet H n
 ·exact hh.elim
abbrev s94:=sB λx=>.int .i64 (KU x)
abbrev s148:=sB λx=>.bool (EM x)
abbrev s192:=sB λx=>.bool (Fq x)
def T2:Bg:=AF 94 s94 (AF 148 s148 (AF 192 s192 T1))
def kO:AH prog T2:=((kN.add (qB λx _ _=>p192 x)).add (qB λx _ _=>p148 x)).add (qB p94)
def p149(x:Int)(h0:0<=x)(h1:x<256):Av prog 149 [.int .u8 x] (.bool (Gy x)):=by
 refine .mk (by simp [wN,Fs.under]) zt (c149.a (AI kO (AJ ?_)));simp only[eE,eN,Lv,seval,c149,T2,sB,h0,h1,AF];rfl
abbrev s149:=sB λx=>.bool (Gy x)
def iW(b:UInt8):Bool:=EM b.toNat
def Wm(b:UInt8):Bool:=Gy b.toNat
def Wn(x:Int):KU x=2↔EM x=true:=by
 unfold KU;cases EM x<;>cases Fq x<;>cases RL x<;>cases N9 x<;>simp<;>split<;>simp
def TI(x:Int):(KU x=2\/KU x=3\/KU x=5)↔Gy x=true:=by
 unfold KU Gy;cases EM x<;>cases Fq x<;>cases RL x<;>cases N9 x<;>by_cases h:x=95<;>simp [h]
def Wo(b:UInt8):(0:Int)<=b.toNat/\(b.toNat:Int)<256:=⟨zo,by have:=b.toNat_lt;omega⟩
def CH(s:List UInt8):Bool:=decide (1<=s.length)&&decide (s.length<=32)&&iW (s[0]?.getD 0)&&s.all Wm
def T3:Bg:=AF 149 s149 T2
def kP:AH prog T3:=kO.add (qB p149)
theorem kQ(a:List Fs)(H:AB):T3 94 a H=s94 a H:=rfl
theorem rA(a:List Fs)(H:AB):T3 148 a H=s148 a H:=rfl
theorem rB(a:List Fs)(H:AB):T3 149 a H=s149 a H:=rfl
def TJ{s:List UInt8}{i:Nat}(hi:i<s.length)(h:Gy ((s[i]).toNat:Int)=false):s.all Wm=false:=by
 refine uF.2 λhh=>?_
 have:=sE.1 hh s[i] (sC hi);unfold Wm at this;rw[h]at this;cases this
def TK{s:List UInt8}(h:∀j (hj:j<s.length),Gy ((s[j]).toNat:Int)=true):s.all Wm=true:=by
 refine sE.2 λx hx=>?_
 obtain⟨j,hj,rfl⟩:=sV.1 hx;exact h j hj
def p99(s:List UInt8):Av prog 99 [.str s] (.bool (CH s)):=by
 refine .mk (by simp [wN,Fs.under]) zt (c99.a (AI kP (AJ ?_)));simp only[eE,eN,Ic,Lv,seval,c99,rA,sB,sr,Wo];refine⟨zo,λh=>?_,λh=>?_⟩
 ·refine(uF.2 λhh=>?_).symm;simp only[CH,sf,si]at hh;obtain⟨⟨⟨h1,h2⟩,h3⟩,-⟩:=hh;rcases h with(h|h)|h
  ·omega
  ·omega
  ·rw[iW,h]at h3;cases h3
 refine AQ (λi:Nat=>⟨[(0,true,.str s),(3,true,.int .i64 i)],Ak,0⟩)
  (λi=>i<=s.length/\∀j (hj:j<s.length),j<i->Gy ((s[j]).toNat:Int)=true) (λi=>s.length-i) 0 rfl ⟨zo,λj _ hj=>zo⟩ ?_
 rintro i ⟨hi,l5⟩;by_cases e9:i<s.length
 ·have e:=AK (k:=i) zo;simp only[eE,eN,Ic,seval,rB,sB,Wo,Int.ofNat_lt,e9,sr,sm,e,rz e9,sw];refine⟨λhp=>?_,λhp=>.mk (i+1) rfl ⟨zo,λj hj hji=>?_⟩ zo⟩
  ·simp only[CH,TJ e9 hp,vh]
  ·by_cases q:j=i
   ·subst q;exact hp
   ·exact l5 j hj zo
 ·simp only[eE,eN,Ic,seval,Int.ofNat_lt,e9];rw[CH,TK λj hj=>l5 j hj zo];simp [iW,h.2];omega
def cf(s:List UInt8):scmp .eql s []=decide (s.length=0):=by cases s<;>rfl
def p61(s:List UInt8):Av prog 61 [.str s] (.bool (CH s)):=by
 refine .mk (by simp [wN,Fs.under]) zt (c61.a (AI kP (AJ ?_)));simp only[eE,eN,Ic,Lv,seval,c61,kQ,sB,Wo,cf];refine⟨zo,λh=>?_,λh=>?_⟩
 ·refine(uF.2 λhh=>?_).symm;simp only[CH,sf,si]at hh;obtain⟨⟨⟨h1,h2⟩,h3⟩,-⟩:=hh;rcases h with(h|h)|h
  ·omega
  ·omega
  ·rw[Wn]at h;exact h h3
 refine AQ (λi:Nat=>⟨[(0,true,.str s),(19,true,.int .i64 s.length),(20,true,.int .i64 i)],Ak,0⟩)
  (λi=>i<=s.length/\∀j (hj:j<s.length),j<i->Gy ((s[j]).toNat:Int)=true) (λi=>s.length-i) 0 rfl ⟨zo,λj _ hj=>zo⟩ ?_
 rintro i ⟨hi,l5⟩;by_cases e9:i<s.length
 ·have e:=AK (k:=i) zo;simp only[eE,eN,Ic,Lv,seval,kQ,sB,Wo,Int.ofNat_lt,e9,sr,sm,e,rz e9,sw];refine⟨λhp=>?_,λhp=>.mk (i+1) rfl ⟨zo,λj hj hji=>?_⟩ zo⟩
  ·have:Gy ((s[i]).toNat:Int)=false:=uF.2 λhh=>by rw[<-TI]at hh;simp [hp]at hh
   simp only[CH,TJ e9 this,vh]
  ·by_cases q:j=i
   ·subst q;rw[<-TI];simp at hp;omega
   ·exact l5 j hj zo
 ·simp only[eE,eN,Ic,Lv,seval,Int.ofNat_lt,e9];rw[CH,TK λj hj=>l5 j hj zo];have h3:=h.2;rw[Wn]at h3;simp [iW,h3];omega
structure Cnd where
 k:Int
 cs:List Int
 ls:List Int
 n:Int
structure Prm where
 c:Int
 ls:List Int
structure zk where
 nm:Bs
 lv:Int
 cs:List Bs
 ls:List Bs
 qs:List Cnd
 ps:List Prm
 c:Int
 l:Int
def OA(l:List Bs)(s:Bs):Int:=match l.findIdx? (λx=>decide (x=s))with
 |some k=>k
 |none=>-1
def Bn{α:Type}[DecidableEq α]:List α->Bool
 |[]=>true
 |x::r=>!(r.any λy=>decide (y=x))&&Bn r
def Cm(l:List Bs)(most:Nat):Bool:=l.all CH&&Bn l&&decide (1<=l.length)&&decide (l.length<=most)
def CI(l:List Int)(n:Nat):Bool:=(l.all λk=>decide (0<=k)&&decide (k<n))&&Bn l
def CJ(q:Cnd)(nc nl:Nat):Bool:=CI q.cs nc&&decide (1<=q.cs.length)&&CI q.ls nl&&
 (if q.k=1\/q.k=4 then decide (2<=q.cs.length)&&decide (q.ls.length=0)&&decide (q.n=0)
  else if q.k=2 then decide (q.ls.length=1)&&decide (q.n=0)
  else if q.k=3 then decide (q.cs.length=2)&&decide (q.ls.length=0)&&decide (1<=q.n)&&decide (q.n<=99)
  else if q.k=5 then decide (q.cs.length=2)&&decide (q.ls.length=0)&&decide (q.n=0)
  else if q.k=6 then decide (1<=q.ls.length)&&decide (0<=q.n)&&decide (q.n<=q.cs.length)
  else false)
def FY(x:zk):Bool:=CH x.nm&&decide (1<=x.lv)&&decide (x.lv<=8)&&Cm x.cs 4&&Cm x.ls 3&&decide (x.qs.length<=6)&&
 CI [x.c] x.cs.length&&CI [x.l] x.ls.length&&(x.qs.all λq=>CJ q x.cs.length x.ls.length)&&
 (x.ps.all λp=>CI p.ls x.ls.length&&decide (1<=p.ls.length))&&CI (x.ps.map (·.c)) x.cs.length
structure OKL(x:zk):Prop where
 nm:CH x.nm=true
 lv:1<=x.lv/\x.lv<=8
 cs:x.cs.all CH=true/\Bn x.cs=true/\1<=x.cs.length/\x.cs.length<=4
 ls:x.ls.all CH=true/\Bn x.ls=true/\1<=x.ls.length/\x.ls.length<=3
 nq:x.qs.length<=6
 c:0<=x.c/\x.c<x.cs.length
 l:0<=x.l/\x.l<x.ls.length
 qs:∀q∈x.qs,CJ q x.cs.length x.ls.length=true
 ps:∀p∈x.ps,CI p.ls x.ls.length=true/\1<=p.ls.length
 pc:CI (x.ps.map (·.c)) x.cs.length=true
def RM(x:zk):FY x=true↔OKL x:=by
 unfold FY Cm;simp only[sf,si,sE (p:=λq=>CJ q x.cs.length x.ls.length),sE (p:=λp:Prm=>CI p.ls x.ls.length&&decide (1<=p.ls.length))];constructor
 ·rintro⟨⟨⟨⟨⟨⟨⟨⟨⟨⟨h1,h2⟩,h3⟩,⟨⟨⟨c1,c2⟩,c3⟩,c4⟩⟩,⟨⟨⟨l1,l2⟩,l3⟩,l4⟩⟩,h6⟩,h7⟩,h8⟩,h9⟩,h10⟩,h11⟩;refine⟨h1,⟨h2,h3⟩,⟨c1,c2,c3,c4⟩,⟨l1,l2,l3,l4⟩,h6,?_,?_,h9,λp hp=>h10 p hp,h11⟩
  ·simp [CI]at h7;exact h7.1
  ·simp [CI]at h8;exact h8.1
 ·rintro⟨h1,⟨h2,h3⟩,⟨c1,c2,c3,c4⟩,⟨l1,l2,l3,l4⟩,h6,h7,h8,h9,h10,h11⟩;exact⟨⟨⟨⟨⟨⟨⟨⟨⟨⟨h1,h2⟩,h3⟩,⟨⟨⟨c1,c2⟩,c3⟩,c4⟩⟩,⟨⟨⟨l1,l2⟩,l3⟩,l4⟩⟩,h6⟩,by simp [CI,Bn,h7.1,h7.2]⟩,by simp [CI,Bn,h8.1,h8.2]⟩,h9⟩,λp hp=>h10 p hp⟩,h11⟩
def Fy{l:List Int}{n:Nat}(h:CI l n=true):(l.all λk=>decide (0<=k)&&decide (k<n))=true:=by
 unfold CI at h;rw[sf]at h;exact h.1
structure CndOK(q:Cnd)(nc nl:Nat):Prop where
 cs:CI q.cs nc=true
 ne:1<=q.cs.length
 ls:CI q.ls nl=true
 kind:((q.k=1\/q.k=4)/\2<=q.cs.length/\q.ls.length=0/\q.n=0)\/(q.k=2/\q.ls.length=1/\q.n=0)\/(q.k=3/\q.cs.length=2/\q.ls.length=0/\1<=q.n/\q.n<=99)\/(q.k=5/\q.cs.length=2/\q.ls.length=0/\q.n=0)\/(q.k=6/\1<=q.ls.length/\0<=q.n/\q.n<=q.cs.length)
def RN{q:Cnd}{nc nl:Nat}(h:CJ q nc nl=true):CndOK q nc nl:=by
 unfold CJ at h;simp only[sf,si]at h;obtain⟨⟨⟨h1,h2⟩,h3⟩,h4⟩:=h;refine⟨h1,h2,h3,?_⟩;split at h4
 ·rename_i hk;simp only[sf,si]at h4;exact .inl ⟨hk,h4.1.1,h4.1.2,h4.2⟩
 split at h4
 ·rename_i hk;simp only[sf,si]at h4;exact .inr (.inl ⟨hk,h4.1,h4.2⟩)
 split at h4
 ·rename_i hk;simp only[sf,si]at h4;exact .inr (.inr (.inl ⟨hk,h4.1.1.1,h4.1.1.2,h4.1.2,h4.2⟩))
 split at h4
 ·rename_i hk;simp only[sf,si]at h4;exact .inr (.inr (.inr (.inl ⟨hk,h4.1.1,h4.1.2,h4.2⟩)))
 split at h4
 ·rename_i hk;simp only[sf,si]at h4;exact .inr (.inr (.inr (.inr ⟨hk,h4.1.1,h4.1.2,h4.2⟩)))
 ·cases h4
structure xk where
 nm:List UInt8
 v:Int
 deriving DecidableEq
structure xz where
 nm:List UInt8
 ls:List (List Int)
 deriving DecidableEq
structure x8 where
 nm:List UInt8
 on:List UInt8
 xX:Int
 ty:Int
 lo:Int
 hi:Int
 deriving DecidableEq
structure zj where
 nm:List UInt8
 on:List UInt8
 kind:Int
 xX:Int
 ns:List (List UInt8)
 os:List (List UInt8)
 set:Int
 wU:Int
 op:Int
 n:Int
 yI:List UInt8
 wP:Int
 deriving DecidableEq
structure xj where
 nm:List UInt8
 yN:Int
 sh:Int
 w:Int
 h:Int
 wC:List Int
 wE:List xk
 wK:List xz
 wG:List x8
 wF:List zj
 deriving DecidableEq
def CZ:List (List UInt8):=[[99,101,108,108,115],[114,111,119,115],[99,111,108,117,109,110,115],[100,105,97,103,111,110,97,108,115],[97,114,111,117,110,100],[110,101,97,114],[112,97,105,114,115],[97,108,108]]
def Ap{α:Type}[DecidableEq α]:List α->Bool
 |[]=>false
 |x::r=>(r.any λy=>decide (y=x))||Ap r
def B0(d:xj):List (List UInt8):=CZ++d.wK.map (·.nm)
def Bb(l:List (List UInt8))(s:List UInt8):Option Int:=(l.findIdx? λx=>decide (x=s)).map λ(i:Nat)=>(i:Int)
def Cu(l:List (List UInt8)):List (List UInt8)->Option Int
 |[]=>some 0
 |s::r=>match l.findIdx? (λx=>decide (x=s)),Cu l r with
  |some i,some n=>some (Int.ofNat (Nat.lor (1<<<i) n.toNat))
  |_,_=>none
def CK(d:xj)(c:x8):Option x8:=(Bb (B0 d) c.on).map λf=>{c with xX:=f}
def Bh(d:xj)(r:zj):Option zj:=
 match (if r.on=[]then some 0 else Bb (B0 d) r.on),Cu (d.wE.map (·.nm)) r.ns,Cu (d.wE.map (·.nm)) r.os,(if r.yI=[]then some (-1)else Bb (d.wG.map (·.nm)) r.yI)with
 |some f,some a,some b,some c=>some {r with xX:=f,set:=a,wU:=b,wP:=c}
 |_,_,_,_=>none
def Ar{α β:Type}(f:α->Option β):List α->Option (List β)
 |[]=>some []
 |x::r=>match f x,Ar f r with
  |some y,some s=>some (y::s)
  |_,_=>none
def CL(d:xj):Except Int xj:=
 if 16<d.wE.length then .error 2 else if Ap (d.wE.map (·.nm))then .error 161 else if Ap (B0 d)then .error 161 else if Ap (d.wG.map (·.nm))then .error 161
 else match Ar (CK d) d.wG with
  |none=>.error 160
  |some cs=>if Ap (d.wF.map (·.nm))then .error 161 else match Ar (Bh d) d.wF with
   |none=>.error 160
   |some rs=>.ok {d with wG:=cs,wF:=rs}
def Cn:Int->List Int->Bool
 |_,[]=>true
 |a,x::r=>decide (a<x)&&Cn x r
def Au(sh w h:Int)(wC:List Int):Option (List Int):=
 if(sh=1\/sh=2)/\1<=w/\w<=16/\1<=h/\h<=16/\(wC.length:Int)<w*h/\Cn (-1) wC=true/\(wC.all λp=>decide (p<w*h))=true then
  some (((List.range (w*h).toNat).map λ(i:Nat)=>(i:Int)).filter λp=>!wC.contains p)
 else none
def Ee(cells l:List Int):Bool:=(l.all λp=>cells.contains p)&& !Ap l&&decide (1<=l.length)
def DY(a b:List Int):Bool:=(a.all λx=>b.contains x)&&b.all λx=>a.contains x
def Cq:List (List Int)->Bool
 |[]=>false
 |x::r=>(r.any λy=>DY y x)||Cq r
def LK(cells:List Int)(r:xz):Int:=if(decide (r.ls.length<=64)&&r.ls.all (Ee cells))=false then 130 else if Cq r.ls=true then 161 else 0
def DO(cells:List Int):List xz->Int
 |[]=>0
 |r::s=>if LK cells r=0 then DO cells s else LK cells r
def Ds(c:x8):Bool:=
 if c.ty=1 then decide (c.xX=0)&&decide (c.lo=0)&&decide (c.hi=0)
 else if c.ty=2 then decide (0<=c.lo)&&decide (c.lo<=c.hi)&&decide (c.hi<=65536)
 else if c.ty=3 then(decide (1<=c.xX)&&decide (c.xX<=3)||decide (8<=c.xX))&&decide (c.lo=0)&&decide (c.hi=0)
 else false
structure FormD where
 on:Bool:=false
 set:Bool:=false
 wU:Bool:=false
 wT:Bool:=false
 num:Bool:=false
 rdb:Bool:=false
 knw:Bool:=false
 wP:Int:=0
def DJ(k:Int):FormD:=
 if k=1 then{on:=true,rdb:=true,knw:=true}else if k=2 then{on:=true,set:=true,wT:=true,rdb:=true,knw:=true}
 else if k=3 then{on:=true,wT:=true,rdb:=true,knw:=true}else if k=4 then{on:=true,rdb:=true,knw:=true}
 else if k=5 then{on:=true,set:=true,rdb:=true,knw:=true,wP:=3}else if k=6 then{rdb:=true,knw:=true}
 else if k=7 then{num:=true,rdb:=true,knw:=true}else if k=8 then{set:=true,wU:=true,rdb:=true,knw:=true}
 else if k=9 then{set:=true,rdb:=true,knw:=true}else if k=10 then{set:=true,rdb:=true,knw:=true}
 else if k=11 then{rdb:=true,knw:=true,wP:=1}else if k=12 then{on:=true,knw:=true}else if k=13 then{wT:=true,knw:=true}else{}
def MZ(cl:List x8)(r:zj)(w:Int):Bool:=if r.wP<0\/(cl.length:Int)<=r.wP then false else match cl[r.wP.toNat]? with
 |some c=>decide (c.ty=w)&&(decide (w=1)||decide (c.xX=r.xX))
 |none=>false
def FZ(cl:List x8)(r:zj):Bool:=
 let f:=DJ r.kind
 if f.knw=false then false
 else if(f.on !=decide (r.on≠[]))||(f.set !=decide (r.set≠0))||(f.wU !=decide (r.wU≠0))||(!f.on&&decide (r.xX≠0))||(!f.set&&decide (0<r.ns.length))||(!f.wU&&decide (0<r.os.length))then false
 else if(f.wT !=(decide (1<=r.op)&&decide (r.op<=3)))||(!f.wT&&decide (r.op≠0))||decide (r.n<0)||decide (65536<r.n)then false
 else if !(f.num||f.wT&&decide (r.yI=[]))&&decide (r.n≠0)then false
 else
  let want:=if f.wT&&decide (r.yI≠[])then 2 else f.wP
  if want=0 then decide (r.yI=[])&&decide (r.wP= -1)else MZ cl r want
def Ef(rs:List zj)(i:Nat):Nat:=(rs.filter λr=>decide (r.wP=(i:Int))).length
def CA(d:xj):Bool:=(d.wE.all λs=>decide (0<=s.v)&&decide (s.v<=99))&&d.wF.all (FZ d.wG)&&((List.range d.wG.length).all λi=>decide (Ef d.wF i=1))&&d.wG.all Ds
def Id(r:zj):Bool:=decide (1<=r.kind)&&decide (r.kind<=11)
def B2(rs:List zj):List Int:=((List.range rs.length).filter λi=>match rs[i]? with|some r=>!Id r|none=>false).map λ(i:Nat)=>(i:Int)
def KV(d:xj):Bool:=decide (0<d.wE.length)&&decide (d.wE.length<=16)&&decide (d.wK.length<=4)&&decide (d.wG.length<=4)&&decide (d.wF.length<=16)
def Dt(d:xj):Int:=
 if KV d=false then 2 else match CL d with
  | .error e=>e
  | .ok x=>if x≠d then 170 else if d.yN<1\/255<d.yN then 170 else match Au d.sh d.w d.h d.wC with
   |none=>130
   |some cells=>if DO cells d.wK≠0 then DO cells d.wK else if CA d=false then 170 else if B2 d.wF≠[]then 171 else 0
abbrev Ft(x y:Int):Bool:=decide (x<=y)
theorem C9{α:Type}[DecidableEq α]:∀{l:List α},Ap l=false↔l.Nodup
 |[]=>by simp [Ap]
 |x::r=>by
  have ih:=C9 (l:=r);simp only[Ap,tY,vH,si,uH,ih];constructor
  ·exact λ⟨h1,h2⟩=>⟨λhx=>h1 x hx rfl,h2⟩
  ·exact λ⟨h1,h2⟩=>⟨λy hy e=>h1 (e▸hy),h2⟩
def YO{a b:List Int}:DY a b=true↔∀x,x∈a↔x∈b:=by
 unfold DY;simp only[sf,sE,t9];exact⟨λ⟨h1,h2⟩ x=>⟨h1 x,h2 x⟩,λh=>⟨λx hx=>(h x).1 hx,λx hx=>(h x).2 hx⟩⟩
def Ie(l:List Int):List.Pairwise (λx y=>x<=y) (l.mergeSort Ft):=by
 have:=List.pairwise_mergeSort (le:=Ft) (λa b c h1 h2=>by simp only[Ft,si]at*;omega) (λa b=>by simp only[Ft,sQ,si];omega) l;exact this.imp λh=>by simpa using h
def OB{a b:List Int}(ha:a.Nodup)(hb:b.Nodup):DY a b=decide (a.mergeSort Ft=b.mergeSort Ft):=by
 rw[sP,YO,si,<-vT ha hb];constructor
 ·intro h;have p:(a.mergeSort Ft).Perm (b.mergeSort Ft):=(uO a Ft).trans (h.trans (uO b Ft).symm);exact p.eq_of_pairwise (le:=λx y:Int=>x<=y) (λx y _ _ h1 h2=>zo) (Ie a) (Ie b)
 ·intro h;exact(uO a Ft).symm.trans (h▸uO b Ft)
def DQ(cl:List x8)(r:zj)(kind:Int)(on:Bool):Bool:=
 if r.wP<0\/(cl.length:Int)<=r.wP then false else match cl[r.wP.toNat]? with
  |some c=>decide (c.ty=kind)&&(!on||decide (c.xX=r.xX))
  |none=>false
def Fh(cl:List x8)(r:zj):Bool:=
 if r.op<1\/3<r.op then false else if r.yI=[]then decide (0<=r.n)&&decide (r.n<=65536)&&decide (r.wP= -1)else decide (r.n=0)&&DQ cl r 2 true
def LL(cl:List x8)(r:zj):Bool:=
 let f:=DJ r.kind
 let yE:=decide (f.wP≠0)
 if f.knw=false then false
 else if(!f.on&&(decide (r.on≠[])||decide (r.xX≠0)))||(!f.set&&(decide (0<r.ns.length)||decide (r.set≠0)))||(!f.wU&&(decide (0<r.os.length)||decide (r.wU≠0)))then false
 else if(f.on&&decide (r.on=[]))||(f.set&&decide (r.set=0))||(f.wU&&decide (r.wU=0))then false
 else if !f.wT&&(decide (r.op≠0)||(!f.num&&decide (r.n≠0))||(!yE&&(decide (r.yI≠[])||decide (r.wP≠ -1))))then false
 else if(f.wT&& !Fh cl r)||(f.num&&(decide (r.n<0)||decide (65536<r.n)))then false
 else if r.kind=5 then DQ cl r 3 true
 else if r.kind=11 then DQ cl r 1 false else true
def U5(k:Int):(DJ k).knw=false\/((k=5/\(DJ k).wP=3/\(DJ k).wT=false/\(DJ k).num=false)\/(k=11/\(DJ k).wP=1/\(DJ k).wT=false/\(DJ k).num=false)\/(k≠5/\k≠11/\(DJ k).wP=0/\((DJ k).wT=true->(DJ k).num=false))):=by
 by_cases h:1<=k/\k<=13
 ·have:k=1\/k=2\/k=3\/k=4\/k=5\/k=6\/k=7\/k=8\/k=9\/k=10\/k=11\/k=12\/k=13:=zo
  rcases this with rfl|rfl|rfl|rfl|rfl|rfl|rfl|rfl|rfl|rfl|rfl|rfl|rfl<;>decide
 ·left;unfold DJ;repeat rw[sg zo]
def cj(cl:List x8)(r:zj)(w:Int):MZ cl r w=DQ cl r w (!decide (w=1)):=by
 unfold DQ MZ;split
 ·rfl
 ·cases cl[r.wP.toNat]?<;>simp
def bA:∀(on set wU o s t f n m:Bool),((on !=o)||(set !=s)||(wU !=t)||(!on&&f)||(!set&&n)||(!wU&&m))=
  (((!on&&(o||f))||(!set&&(n||s))||(!wU&&(m||t)))||((on&& !o)||(set&& !s)||(wU&& !t))):=zd
def bB:∀(wT num p q lo hi nn b0 cm c2:Bool),(!p||q)=true->(!lo||nn)=true->(!hi||nn)=true->(!wT|| !num)=true->
  (if((wT !=p)||(!wT&&q)||lo||hi)=true then false else if(!(num||wT&&b0)&&nn)=true then false else if(wT&& !b0)=true then c2 else b0&&cm)=
  (if(!wT&&(q||(!num&&nn)||(!b0|| !cm)))=true then false else if((wT&& !(if p=false then false else if b0=true then !lo&& !hi&&cm else !nn&&c2))||(num&&(lo||hi)))=true then false else true):=zd
def bC:∀(p q lo hi nn c3:Bool),(!p||q)=true->(!lo||nn)=true->(!hi||nn)=true->
  (if((false !=p)||q||lo||hi)=true then false else if nn=true then false else c3)=(if(q||nn)=true then false else c3):=zd
def nd{α:Prop}[Decidable α]:decide α= !decide (¬α):=by by_cases h:α<;>simp [h]
def iX(cl:List x8)(r:zj):FZ cl r=LL cl r:=by
 unfold FZ LL;simp only[];rcases U5 r.kind with hk|hk
 ·rw[sn hk,sn hk]
 by_cases hkw:(DJ r.kind).knw=false
 ·rw[sn hkw,sn hkw]
 rw[sg hkw,sg hkw,cj,bA];generalize hf:DJ r.kind=f at hk hkw;rw[nd (α:=r.on=[]),nd (α:=r.set=0),nd (α:=r.wU=0)];generalize hA1:(!f.on&&(decide (r.on≠[])||decide (r.xX≠0))|| !f.set&&(decide (0<r.ns.length)||decide (r.set≠0))|| !f.wU&&(decide (0<r.os.length)||decide (r.wU≠0)))=A1;generalize hA2:(f.on&& !decide (¬r.on=[])||f.set&& !decide (¬r.set=0)||f.wU&& !decide (¬r.wU=0))=A2;cases A1;case true=>simp
 cases A2;case true=>simp
 simp only[Bool.or_false,sN,sY];have i1:(!(decide (1<=r.op)&&decide (r.op<=3))||decide (r.op≠0))=true:=by by_cases h:r.op=0<;>simp [h]
 have i2:(!decide (r.n<0)||decide (r.n≠0))=true:=by by_cases h:r.n=0<;>simp [h]
 have i3:(!decide (65536<r.n)||decide (r.n≠0))=true:=by by_cases h:r.n=0<;>simp [h]
 have n1:decide (r.yI≠[])= !decide (r.yI=[]):=by by_cases h:r.yI=[]<;>simp [h]
 have n2:decide (r.wP≠ -1)= !decide (r.wP= -1):=by by_cases h:r.wP= -1<;>simp [h]
 have n3:decide (r.n=0)= !decide (r.n≠0):=by by_cases h:r.n=0<;>simp [h]
 have n4:decide (0<=r.n)= !decide (r.n<0):=by by_cases h:r.n<0<;>simp [h]<;>omega
 have n5:decide (r.n<=65536)= !decide (65536<r.n):=by by_cases h:65536<r.n<;>simp [h]<;>omega
 have n6:(if r.op<1\/3<r.op then false else if r.yI=[]then decide (0<=r.n)&&decide (r.n<=65536)&&decide (r.wP= -1)else decide (r.n=0)&&DQ cl r 2 true)=
   (if(decide (1<=r.op)&&decide (r.op<=3))=false then false else if decide (r.yI=[])=true then !decide (r.n<0)&& !decide (65536<r.n)&&decide (r.wP= -1)else !decide (r.n≠0)&&DQ cl r 2 true):=by
  rw[n3,n4,n5];by_cases h:r.op<1\/3<r.op
  ·have hp:(decide (1<=r.op)&&decide (r.op<=3))=false:=by rcases h with h|h<;>simp<;>omega
   rw[sn h,hp];rfl
  ·have hp:(decide (1<=r.op)&&decide (r.op<=3))=true:=by simp;omega
   rw[sg h,hp];by_cases hb:r.yI=[]
   ·rw[sn hb,sg zd,sn (by simp [hb])]
   ·rw[sg hb,sg zd,sg (by simp [hb])]
 rw[n1,n2];unfold Fh;rw[n6];have to:decide (r.n≠0)=decide (r.n≠0):=rfl;generalize (decide (1<=r.op)&&decide (r.op<=3))=p at i1⊢;generalize decide (r.op≠0)=q at i1⊢;generalize decide (r.n≠0)=nn at i2 i3⊢;generalize decide (r.n<0)=lo at i2⊢;generalize decide (65536<r.n)=hi at i3⊢;generalize decide (r.yI=[])=b0;generalize decide (r.wP= -1)=cm;obtain⟨on,set,wU,wT,num,rdb,knw,wP⟩:=f;simp only at hk⊢;rcases hk with⟨h1,rfl,rfl,rfl⟩|⟨h1,rfl,rfl,rfl⟩|⟨h1,h2,rfl,h3⟩
 ·have:=bC p q lo hi nn (DQ cl r 3 true) i1 i2 i3;simpa [h1]using this
 ·have:=bC p q lo hi nn (DQ cl r 1 false) i1 i2 i3;simpa [h1]using this
 ·have:=bB wT num p q lo hi nn b0 cm (DQ cl r 2 true) i1 i2 i3 (by cases wT<;>cases num<;>simp_all);rw[sg h1,sg h2];cases wT<;>cases b0<;>first|simpa using this|simp
section
theorem Eg{α:Type}{f:α->Option α}:∀{l:List α},Ar f l=some l↔∀x∈l,f x=some x
 |[]=>by simp [Ar]
 |x::r=>by
  have ih:=Eg (f:=f) (l:=r);simp only[Ar,tg,vR,<-ih];cases h1:f x with
  |none=>simp
  |some y=>
   cases h2:Ar f r with
   |none=>simp
   |some s=>simp
structure ResOK(d:xj):Prop where
 n16:d.wE.length<=16
 ts:Ap (d.wE.map (·.nm))=false
 tf:Ap (B0 d)=false
 tc:Ap (d.wG.map (·.nm))=false
 tr:Ap (d.wF.map (·.nm))=false
 cl:∀c∈d.wG,CK d c=some c
 ru:∀r∈d.wF,Bh d r=some r
variable {d:xj}
theorem P9:CL d= .ok d↔ResOK d:=by
 constructor
 ·intro h;unfold CL at h;split at h
  ·cases h
  split at h
  ·cases h
  split at h
  ·cases h
  split at h
  ·cases h
  rename_i h1 h2 h3 h4;cases hc:Ar (CK d) d.wG with
  |none=>rw[hc]at h;cases h
  |some cs=>
   rw[hc]at h;simp only at h;split at h
   ·cases h
   rename_i h5;cases hr:Ar (Bh d) d.wF with
   |none=>rw[hr]at h;cases h
   |some rs=>
    rw[hr]at h;simp only[Except.ok.injEq]at h;have e1:cs=d.wG:=congrArg xj.wG h;have e2:rs=d.wF:=congrArg xj.wF h;subst e1;subst e2;exact⟨zo,by simpa using h2,by simpa using h3,by simpa using h4,by simpa using h5,Eg.1 hc,Eg.1 hr⟩
 ·intro h;unfold CL;rw[sg (by have:=h.n16;omega),h.ts,h.tf,h.tc,Eg.2 h.cl];simp only[sN,sY];rw[h.tr,Eg.2 h.ru];rfl
structure DclOK(d:xj):Prop where
 lim:KV d=true
 res:ResOK d
 yN:1<=d.yN/\d.yN<=255
 reg:∃cells,Au d.sh d.w d.h d.wC=some cells/\DO cells d.wK=0
 form:CA d=true
theorem iY(h:DclOK d):Dt d=if B2 d.wF≠[]then 171 else 0:=by
 obtain⟨cells,h1,h2⟩:=h.reg;unfold Dt;rw[h.lim,P9.2 h.res];simp only[vW,sY,ne_eq,uN];rw[sg (by have:=h.yN;omega),h1];simp only[h2,h.form,uN,sY,vW]
theorem co:Dt d=0↔DclOK d/\B2 d.wF=[]:=by
 constructor
 ·intro h;unfold Dt at h;split at h
  ·cases h
  rename_i h1;cases hr:CL d with
  |error e=>
   rw[hr]at h;simp only at h;unfold CL at hr;subst h;split at hr
   ·cases hr
   split at hr
   ·cases hr
   split at hr
   ·cases hr
   split at hr
   ·cases hr
   split at hr
   ·cases hr
   split at hr
   ·cases hr
   split at hr<;>cases hr
  |ok x=>
   rw[hr]at h;simp only at h;split at h
   ·cases h
   rename_i h2;have h2:x=d:=by simpa using h2
   subst h2;split at h
   ·cases h
   rename_i h3;cases hc:Au x.sh x.w x.h x.wC with
   |none=>rw[hc]at h;cases h
   |some cells=>
    rw[hc]at h;simp only at h;split at h
    ·rename_i h4;exact absurd h h4
    rename_i h4;split at h
    ·cases h
    rename_i h5;split at h
    ·cases h
    rename_i h6;exact⟨⟨by simpa using h1,P9.1 hr,zo,⟨cells,hc,by simpa using h4⟩,by simpa using h5⟩,by simpa using h6⟩
 ·rintro⟨h1,h2⟩;rw[iY h1,sg (by rw[h2];exact λh=>h rfl)]
theorem TL{x:xj}(h:CL d= .ok x):x.nm=d.nm/\x.yN=d.yN/\x.sh=d.sh/\x.w=d.w/\x.h=d.h/\x.wC=d.wC/\x.wE=d.wE/\x.wK=d.wK:=by
 unfold CL at h;split at h
 ·cases h
 split at h
 ·cases h
 split at h
 ·cases h
 split at h
 ·cases h
 split at h
 ·cases h
 split at h
 ·cases h
 split at h
 ·cases h
 ·cases h;exact⟨rfl,rfl,rfl,rfl,rfl,rfl,rfl,rfl⟩
end
def U6(rs:List zj)(r:zj):B2 (rs++[r])=B2 rs++(if Id r=true then[]else[(rs.length:Int)]):=by
 unfold B2;rw[sH,List.length_singleton,uc,uh,su];congr 1
 ·congr 1;apply List.filter_congr;intro i hi;have:=tF.1 hi;rw[tQ this]
 ·rw[tE,tR (sj _),Nat.sub_self];simp only[u9,uV];by_cases h:Id r=true
  ·simp [h]
  ·simp [show Id r=false by simpa using h]
def YP{α:Type}[DecidableEq α]{l:List α}{x:α}:Ap (l++[x])=false↔Ap l=false/\x∉l:=by
 rw[C9,C9,uD];simp only[uH,ve,vu,wd,and_self,uf,tB];constructor
 ·exact λ⟨h1,h2⟩=>⟨h1,λhx=>h2 x hx x rfl rfl⟩
 ·exact λ⟨h1,h2⟩=>⟨h1,λa ha b hb e=>h2 (by rw[<-hb,<-e];exact ha)⟩
def QA{l:List (List UInt8)}{s:List UInt8}{n:Int}(h:Bb l s=some n):0<=n/\n<l.length:=by
 unfold Bb at h;rw[tt]at h;obtain⟨i,h1,rfl⟩:=h;have:=t7.1 h1;obtain⟨hi,-⟩:=this;omega
structure SmallD(d:xj):Prop where
 top:d.nm.length+d.wC.length+d.wE.length+d.wK.length+d.wG.length+d.wF.length<2000
 sy:∀s∈d.wE,s.nm.length<2000
 rg:∀r∈d.wK,r.nm.length+r.ls.length<2000/\∀l∈r.ls,l.length<2000
 cl:∀c∈d.wG,c.nm.length+c.on.length<2000
 ru:∀r∈d.wF,r.nm.length+r.on.length+r.yI.length+r.ns.length+r.os.length<2000/\(∀s∈r.ns,s.length<2000)/\∀s∈r.os,s.length<2000
theorem Hc:∀{a:Int} {l:List Int},Cn a l=true↔(∀x∈l,a<x)/\List.Pairwise (λx y=>x<y) l
 |a,[]=>by simp [Cn]
 |a,x::r=>by
  have ih:=Hc (a:=x) (l:=r);simp only[Cn,sf,si,ih,tg,vR,uQ];constructor
  ·exact λ⟨h1,h2,h3⟩=>⟨⟨h1,λy hy=>by have:=h2 y hy;omega⟩,h2,h3⟩
  ·exact λ⟨⟨h1,h2⟩,h3,h4⟩=>⟨h1,h3,h4⟩
def Ca(n:Int):List Int:=(List.range n.toNat).map λ(i:Nat)=>(i:Int)
def RO{n x:Int}:x∈Ca n↔0<=x/\x<n:=by
 unfold Ca;rw[tn];constructor
 ·rintro⟨i,hi,rfl⟩;have:=tF.1 hi;omega
 ·intro h;exact⟨x.toNat,tF.2 zo,zo⟩
def YQ(n:Int):(Ca n).Nodup:=by
 unfold Ca;rw[List.Nodup,vt];exact(List.nodup_range (n:=n.toNat)).imp λh e=>h zo
def Wp(n:Int):(Ca n).length=n.toNat:=by simp [Ca]
theorem QB{α:Type}(p:α->Bool):∀l:List α,l.length=(l.filter p).length+(l.filter λx=>!p x).length
 |[]=>rfl
 |x::r=>by
  have ih:=QB p r;rw[tE,tE,sM];cases p x<;>simp<;>omega
def cq{n:Int}{wC:List Int}(hd:wC.Nodup)(hr:∀x∈wC,0<=x/\x<n):((Ca n).filter λp=>!wC.contains p).length+wC.length=n.toNat:=by
 have h1:((Ca n).filter λp=>wC.contains p).Perm wC:=by
  rw[vT ((YQ n).sublist vC) hd];intro x;rw[tV,t9,RO];exact⟨λh=>h.2,λh=>⟨hr x h,h⟩⟩
 have h2:=QB (λp=>wC.contains p) (Ca n);rw[h1.length_eq,Wp]at h2;omega
def U7(sh w h:Int)(wC:List Int):Option (List Int):=
 if(sh=1\/sh=2)/\1<=w/\w<=16/\1<=h/\h<=16/\(∀x∈wC,0<=x/\x<w*h)/\List.Pairwise (λx y=>x<y) wC/\((Ca (w*h)).filter λp=>!wC.contains p)≠[]then
  some ((Ca (w*h)).filter λp=>!wC.contains p)
 else none
def YR(sh w h:Int)(wC:List Int):U7 sh w h wC=Au sh w h wC:=by
 unfold U7 Au;have e:∀(p q:Prop) [Decidable p] [Decidable q] (x:Option (List Int)),(p↔q)->(if p then x else none)=if q then x else none:=λp q _ _ x hpq=>by
  by_cases hp:p
  ·rw[sn hp,sn (hpq.1 hp)]
  ·rw[sg hp,sg λhq=>hp (hpq.2 hq)]
 refine e _ _ _ ?_;have hk:∀(h1:∀x∈wC,0<=x/\x<w*h) (h2:List.Pairwise (λx y=>x<y) wC),(((Ca (w*h)).filter λp=>!wC.contains p)≠[]↔(wC.length:Int)<w*h):=by
  intro h1 h2;have hl:=cq (h2.imp λq=>zo) h1;rw[<-List.length_pos_iff];omega
 rw[Hc];simp only[sE,si];constructor
 ·rintro⟨a,b,c,d,e,f,g,i⟩;exact⟨a,b,c,d,e,(hk f g).1 i,⟨λx hx=>by have:=f x hx;omega,g⟩,λx hx=>(f x hx).2⟩
 ·rintro⟨a,b,c,d,e,f,⟨g,g2⟩,i⟩;have hr:∀x∈wC,0<=x/\x<w*h:=λx hx=>⟨by have:=g x hx;omega,i x hx⟩
  exact⟨a,b,c,d,e,hr,g2,(hk hr g2).2 f⟩
def Ba{sh w h:Int}{wC cells:List Int}(hc:Au sh w h wC=some cells):List.Pairwise (λx y=>x<y) cells/\cells.length<=256/\∀x∈cells,0<=x/\x<256:=by
 unfold Au at hc;split at hc
 ·rename_i hcond;obtain⟨-,a,b,c,d,-⟩:=hcond;cases hc;have hwh:w*h<=256:=by
   have:w*h<=16*16:=Int.mul_le_mul b d zo zo;omega
  have hpw:List.Pairwise (λx y:Int=>x<y) (Ca (w*h)):=by
   unfold Ca;rw[vt];exact vo.imp λq=>zo
  refine⟨hpw.sublist vC,?_,λx hx=>?_⟩
  ·have h1:=tN (λp=>!wC.contains p) (Ca (w*h));rw[Wp]at h1;have:((Ca (w*h)).filter λp=>!wC.contains p).length<=256:=zo
   exact this
  ·have:=RO.1 (tV.1 hx).1;omega
 ·cases hc
def Fi(l:List Int)(x:Int):Nat:=(l.filter λy=>decide (y<x)).length
theorem RP:∀{l:List Int} {x:Int} {i:Nat},i<=l.length->(∀k (hk:k<l.length),k<i->l[k]<x)->(∀k (hk:k<l.length),i<=k->x<=l[k])->Fi l x=i
 |[],x,i,hi,_,_=>by simp at hi;subst hi;rfl
 |y::r,x,0,_,_,h2=>by
  have h0:=h2 0 zw (sj 0);have ih:=RP (l:=r) (x:=x) (i:=0) (sk _) (λk hk h=>zo) (λk hk _=>h2 (k+1) (by simp;omega) (sk _));unfold Fi at ih⊢;rw[tE,sg (by simp at h0;simp;omega)];exact ih
 |y::r,x,i+1,hi,h1,h2=>by
  have h0:=h1 0 zw zo;have ih:=RP (l:=r) (x:=x) (i:=i) (by simp at hi;omega) (λk hk h=>h1 (k+1) (by simp;omega) zo) (λk hk h=>h2 (k+1) (by simp;omega) zo);unfold Fi at ih⊢;rw[tE,sn (by simpa using h0),sM,ih]
def iZ{l:List Int}(hp:List.Pairwise (λx y=>x<y) l){i j:Nat}(hj:j<l.length)(hij:i<=j):l[i]<=l[j]:=by
 by_cases e:i=j
 ·subst e;exact vA _
 ·have:=ul.1 hp i j zo hj zo;omega
def HE(cells:List Int):List Int->List Int->Bool
 |_,[]=>true
 |met,p::r=>cells.contains p&& !met.contains p&&HE cells (met++[p]) r
theorem Wq(cells:List Int):∀(l met:List Int),HE cells met l=true↔(∀p∈l,p∈cells/\p∉met)/\l.Nodup
 |[],met=>by simp [HE]
 |p::r,met=>by
  have ih:=Wq cells r (met++[p]);simp only[HE,sf,tJ,t9,ih,tg,vR,uH,tP,ve,vZ,not_or];rw[<-Bool.not_eq_true,t9];constructor
  ·exact λ⟨⟨a,b⟩,c,d⟩=>⟨⟨⟨a,b⟩,λx hx=>⟨(c x hx).1,(c x hx).2.1⟩⟩,λhm=>(c p hm).2.2 rfl,d⟩
  ·exact λ⟨⟨⟨a,b⟩,c⟩,d,e⟩=>⟨⟨a,b⟩,λx hx=>⟨(c x hx).1,(c x hx).2,λq=>d (q▸hx)⟩,e⟩
def HF(cells l:List Int):Ee cells l=(HE cells [] l&&decide (1<=l.length)):=by
 unfold Ee;congr 1;rw[sP,Wq,sf,sE];simp only[t9,ve,vu,uJ,tJ,C9]
section
theorem YS(a b:List (List UInt8))(s:List UInt8):Bb (a++b) s=match Bb a s with
  |some i=>some i
  |none=>(Bb b s).map λi=>(a.length:Int)+i:=by
 unfold Bb;rw[List.findIdx?_append];cases h:a.findIdx? λx=>decide (x=s)with
 |some i=>rfl
 |none=>
  simp only[Option.none_or,tU];cases b.findIdx? λx=>decide (x=s)with
  |none=>rfl
  |some i=>simp [Int.add_comm]
variable {l:List (List UInt8)}
theorem Ck{s:List UInt8}:Bb l s=none↔s∉l:=by
 unfold Bb;rw[uL,ui];simp only[ti];exact⟨λh hm=>h s hm rfl,λh x hx e=>h (e▸hx)⟩
theorem ib(d:xj)(s:List UInt8):Bb (B0 d) s=match Bb CZ s with
  |some i=>some i
  |none=>(Bb (d.wK.map (·.nm)) s).map λi=>8+i:=by
 unfold B0;rw[YS];rfl
theorem OC{s:List UInt8}{r:List (List UInt8)}:Cu l (s::r)=match l.findIdx? (λx=>decide (x=s)),Cu l r with
  |some i,some n=>some (Int.ofNat (Nat.lor (1<<<i) n.toNat))
  |_,_=>none:=rfl
def bits(is:List Nat):Nat:=is.foldr (λi n=>Nat.lor (1<<<i) n) 0
theorem U8{ss:List (List UInt8)}:Cu l ss=(Ar (λs=>l.findIdx? λx=>decide (x=s)) ss).map λis=>(bits is:Int):=by
 induction ss with
 |nil=>rfl
 |cons s r ih=>
  rw[OC,ih];simp only[Ar];cases l.findIdx? λx=>decide (x=s)with
  |none=>rfl
  |some i=>
   cases Ar (λs=>l.findIdx? λx=>decide (x=s)) r with
   |none=>rfl
   |some is=>rfl
end
section
theorem OD:∀{a b:List Int},List.Pairwise (λx y=>x<y) a->List.Pairwise (λx y=>x<y) b->(∀x,x∈a↔x∈b)->a=b
 |[],[],_,_,_=>rfl
 |[],y::s,_,_,h=>by have:=(h y).2 zw;cases this
 |x::r,[],_,_,h=>by have:=(h x).1 zw;cases this
 |x::r,y::s,ha,hb,h=>by
  obtain⟨a1,a2⟩:=uQ.1 ha;obtain⟨b1,b2⟩:=uQ.1 hb;have e:x=y:=by
   rcases tg.1 ((h x).1 zw)with q|q
   ·exact q
   ·rcases tg.1 ((h y).2 zw)with p|p
    ·exact p.symm
    ·have:=a1 y p;have:=b1 x q;omega
  subst e;refine congrArg _ (OD a2 b2 λz=>?_);constructor
  ·intro hz;rcases tg.1 ((h z).1 (by simp [hz]))with q|q
   ·subst q;have:=a1 z hz;omega
   ·exact q
  ·intro hz;rcases tg.1 ((h z).2 (by simp [hz]))with q|q
   ·subst q;have:=b1 z hz;omega
   ·exact q
def cr(n:Int):List.Pairwise (λx y:Int=>x<y) (Ca n):=by
 unfold Ca;rw[vt];exact vo.imp λq=>zo
def YT{n:Int}{wC:List Int}(h1:∀x∈wC,0<=x/\x<n)(h2:List.Pairwise (λx y=>x<y) wC):((Ca n).filter λp=>wC.contains p)=wC:=by
 refine OD ((cr n).sublist vC) h2 λx=>?_
 rw[tV,t9,RO];exact⟨λh=>h.2,λh=>⟨h1 x h,h⟩⟩
def If{sh w h:Int}{wC cells:List Int}(hc:Au sh w h wC=some cells):(sh=1\/sh=2)/\1<=w/\w<=16/\1<=h/\h<=16/\(wC.length:Int)<w*h/\(∀x∈wC,0<=x/\x<w*h)/\List.Pairwise (λx y=>x<y) wC/\cells=(Ca (w*h)).filter λp=>!wC.contains p:=by
 unfold Au at hc;split at hc
 ·rename_i hq;obtain⟨a,b,c,d,e,f,g,i⟩:=hq;cases hc;rw[Hc]at g;simp only[sE,si]at i;exact⟨a,b,c,d,e,f,λx hx=>⟨by have:=g.1 x hx;omega,i x hx⟩,g.2,rfl⟩
 ·cases hc
def cu{w h:Int}(h1:1<=w)(h2:w<=16)(h3:1<=h)(h4:h<=16):1<=w*h/\w*h<=256:=by
 have a:w*h<=16*16:=Int.mul_le_mul h2 h4 zo zo;have b:1*1<=w*h:=Int.mul_le_mul h1 h3 zo zo;omega
def Bo(cells l:List Int):List Int:=l.map λp=>(Fi cells p:Int)
variable {l:List Int}
theorem U9(hp:List.Pairwise (λx y=>x<y) l){i:Nat}(hi:i<l.length):Fi l l[i]=i:=by
 refine RP (Nat.le_of_lt hi) (λk hk h=>ul.1 hp k i hk hi h) λk hk h=>iZ hp hk h
theorem ic(hp:List.Pairwise (λx y=>x<y) l){x y:Int}(hx:x∈l)(hy:y∈l)(h:Fi l x=Fi l y):x=y:=by
 obtain⟨i,hi,rfl⟩:=sV.1 hx;obtain⟨j,hj,rfl⟩:=sV.1 hy;rw[U9 hp hi,U9 hp hj]at h;subst h;rfl
theorem Ii:∀{l:List (List Int)},Cq l=true↔∃(a b:Nat) (ha:a<l.length) (hb:b<l.length),b<a/\DY l[a] l[b]=true
 |[]=>by simp [Cq]
 |x::r=>by
  have ih:=Ii (l:=r);simp only[Cq,sQ,ih,vf];constructor
  ·rintro(⟨y,hy,h⟩|⟨a,b,ha,hb,xd,h⟩)
   ·obtain⟨i,hi,rfl⟩:=sV.1 hy;exact⟨i+1,0,by simp;omega,zw,zo,h⟩
   ·exact⟨a+1,b+1,by simp;omega,by simp;omega,zo,h⟩
  ·rintro⟨a,b,ha,hb,xd,h⟩;cases a with
   |zero=>omega
   |succ a=>
    cases b with
    |zero=>exact .inl ⟨r[a]'(by simp at ha;omega),sC _,h⟩
    |succ b=>exact .inr ⟨a,b,by simp at ha;omega,by simp at hb;omega,zo,h⟩
theorem QC(cells:List Int)(l:List xz)(i:Nat)(hi:i<l.length):DO cells (l.drop i)=if LK cells l[i]=0 then DO cells (l.drop (i+1))else LK cells l[i]:=by
 rw[sO hi];rfl
theorem Hd{cells:List Int}(h:Ee cells l=true):l.Nodup/\1<=l.length/\∀p∈l,p∈cells:=by
 unfold Ee at h;simp only[sf,tJ,si,C9,sE,t9]at h;exact⟨h.1.2,h.2,h.1.1⟩
end
section
abbrev Br(l:List (List Int)):Fs:=.sl (.none 1) (l.map Aj)
abbrev JK(s:xk):Fs:=.agg [.str s.nm,.int .i64 s.v]
abbrev Gj(r:xz):Fs:=.agg [.str r.nm,Br r.ls]
abbrev Cb(c:x8):Fs:=.agg [.str c.nm,.str c.on,.int .i64 c.xX,.int .i64 c.ty,.int .i64 c.lo,.int .i64 c.hi]
abbrev B3(r:zj):List Fs:=[.str r.nm,.str r.on,.int .i64 r.kind,.int .i64 r.xX,FN r.ns,FN r.os,.int .i64 r.set,.int .i64 r.wU,.int .i64 r.op,.int .i64 r.n,.str r.yI,.int .i64 r.wP]
abbrev Bt(r:zj):Fs:=.agg (B3 r)
abbrev He(l:List xk):Fs:=.sl (.none 2) (l.map JK)
abbrev Gz(l:List xz):Fs:=.sl (.none 2) (l.map Gj)
abbrev Eh(l:List x8):Fs:=.sl (.none 6) (l.map Cb)
abbrev DZ(l:List zj):Fs:=.sl (.none 12) (l.map Bt)
abbrev AL(d:xj):List Fs:=[.str d.nm,.int .i64 d.yN,.int .i64 d.sh,.int .i64 d.w,.int .i64 d.h,Aj d.wC,He d.wE,Gz d.wK,Eh d.wG,DZ d.wF]
abbrev B6(d:xj):Fs:=.agg (AL d)
def AV(n:Nat)(l:List Int):(Aj l).under n:=⟨zt,Dq n _⟩
def CR(n:Nat)(l:List Bs):(FN l).under n:=⟨zt,D9 n _⟩
def BC(n:Nat)(l:List (List Int)):(Br l).under n:=⟨zt,BW (AV n) _⟩
def MI(n:Nat)(s:xk):(JK s).under n:=⟨zt,zt,zt⟩
def EN(n:Nat)(r:xz):(Gj r).under n:=⟨zt,BC n _,zt⟩
def Gk(n:Nat)(c:x8):(Cb c).under n:=⟨zt,zt,zt,zt,zt,zt,zt⟩
def BP(n:Nat)(r:zj):(Bt r).under n:=⟨zt,zt,zt,zt,CR n _,CR n _,zt,zt,zt,zt,zt,zt,zt⟩
def Hf(n:Nat)(l:List xk):(He l).under n:=⟨zt,BW (MI n) _⟩
def E6(n:Nat)(l:List xz):(Gz l).under n:=⟨zt,BW (EN n) _⟩
def E7(n:Nat)(l:List x8):(Eh l).under n:=⟨zt,BW (Gk n) _⟩
def Da(n:Nat)(l:List zj):(DZ l).under n:=⟨zt,BW (BP n) _⟩
def At(n:Nat)(d:xj):(B6 d).under n:=⟨zt,zt,zt,zt,zt,AV n _,Hf n _,E6 n _,E7 n _,Da n _,zt⟩
def Hy:Fs->List Int
 | .sl _ L=>L.map A9
 |_=>[]
def QD:Fs->List Bs
 | .sl _ L=>L.map GR
 |_=>[]
def QE:Fs->List (List Int)
 | .sl _ L=>L.map Hy
 |_=>[]
def Wr:Fs->xk
 | .agg [.str nm,.int _ v]=>⟨nm,v⟩
 |_=>⟨[],0⟩
def TM:Fs->xz
 | .agg [.str nm,l]=>⟨nm,QE l⟩
 |_=>⟨[],[]⟩
def Ws:Fs->x8
 | .agg [.str nm,.str on,.int _ f,.int _ t,.int _ lo,.int _ hi]=>⟨nm,on,f,t,lo,hi⟩
 |_=>⟨[],[],0,0,0,0⟩
def TN:Fs->zj
 | .agg [.str nm,.str on,.int _ k,.int _ f,ns,os,.int _ s,.int _ o,.int _ op,.int _ n,.str b,.int _ c]=>⟨nm,on,k,f,QD ns,QD os,s,o,op,n,b,c⟩
 |_=>⟨[],[],0,0,[],[],0,0,0,0,[],0⟩
variable {α:Type}
def MJ(f:Fs->α):Fs->List α
 | .sl _ L=>L.map f
 |_=>[]
def cw:Fs->xj
 | .agg [.str nm,.int _ v,.int _ sh,.int _ w,.int _ h,ho,sy,rg,cl,ru]=>⟨nm,v,sh,w,h,Hy ho,MJ Wr sy,MJ TM rg,MJ Ws cl,MJ TN ru⟩
 |_=>⟨[],0,0,0,0,[],[],[],[],[]⟩
theorem F5(l:List Int):Hy (Aj l)=l:=Aw l
theorem HG(l:List (List Int)):QE (Br l)=l:=Dx F5 l
theorem I1(s:xk):Wr (JK s)=s:=rfl
theorem HH(r:xz):TM (Gj r)=r:=by simp only[TM,HG]
theorem I2(c:x8):Ws (Cb c)=c:=rfl
theorem HI(r:zj):TN (Bt r)=r:=by simp only[TN,QD,Ct]
theorem OE(d:xj):cw (B6 d)=d:=by
 simp only[cw,Hy,MJ,Aw,Dx I1,Dx HH,Dx I2,Dx HI]
def ig(enc:α->Fs)(dec:Fs->α):Dc α:=⟨enc,dec,λv=>Wk v (enc (dec v)),λ_ h=>h⟩
theorem Ij{enc:α->Fs}{dec:Fs->α}(h:∀x,dec (enc x)=x)(x:α):(ig enc dec).ok (enc x)=True:=r9 (by show Wk _ _;rw[h];exact Wk.refl _)
def dSy:Dc xk:=ig JK Wr
def rC:Dc xz:=ig Gj TM
def dCl:Dc x8:=ig Cb Ws
def Mq:Dc zj:=ig Bt TN
def dD:Dc xj:=ig B6 cw
theorem cz(x:xk):dSy.ok (JK x)=True:=Ij I1 x
theorem Wt(x:xk):dSy.dec (JK x)=x:=rfl
theorem LM(x:xz):rC.ok (Gj x)=True:=Ij HH x
theorem I3(x:xz):rC.dec (Gj x)=x:=HH x
theorem Je(x:x8):dCl.ok (Cb x)=True:=Ij I2 x
theorem Hg(x:x8):dCl.dec (Cb x)=x:=rfl
theorem CC(x:zj):Mq.ok (Bt x)=True:=Ij HI x
theorem Bi(x:zj):Mq.dec (Bt x)=x:=HI x
theorem BT(x:xj):dD.ok (B6 x)=True:=Ij OE x
theorem Ax(x:xj):dD.dec (B6 x)=x:=OE x
def kR(e:Nat)(enc:α->Fs)(dec:Fs->α):Dc (List α):=⟨λl=>.sl (.none e) (l.map enc),C1 dec,HL e enc dec,U4⟩
theorem Jf{e:Nat}{enc:α->Fs}{dec:Fs->α}(h:∀x,dec (enc x)=x){t:v8}{l:List α}(ht:t.esz=e\/l=[]):(kR e enc dec).ok (.sl t (l.map enc))=True:=r9 (by
 refine⟨ht.imp id λq=>by rw[q];rfl,?_⟩;rw[Dx h])
theorem Hh{e:Nat}{enc:α->Fs}{dec:Fs->α}(h:∀x,dec (enc x)=x){t:v8}{l:List α}:(kR e enc dec).dec (.sl t (l.map enc))=l:=Dx h l
def OF:Dc (List (List Int)):=kR 1 Aj Hy
def ij:Dc (List xk):=kR 2 JK Wr
def ik:Dc (List xz):=kR 2 Gj TM
def ip:Dc (List x8):=kR 6 Cb Ws
def iq:Dc (List zj):=kR 12 Bt TN
theorem Ah(l:List Int):A3.ok (Aj l)=True:=r9 ⟨.inl rfl,by rw[Aw]⟩
theorem Ad(l:List Int):A3.dec (Aj l)=l:=Aw l
theorem Hi(l:List Bs):Kj.ok (FN l)=True:=r9 ⟨.inl rfl,by rw[Ct]⟩
theorem Fz(l:List Bs):Kj.dec (FN l)=l:=Ct l
theorem Ay(x:Int):dI.ok (.int .i64 x)=True:=r9 zt
theorem An(x:Int):dI.dec (.int .i64 x)=x:=rfl
theorem Hz(x:Bs):dS.ok (.str x)=True:=r9 zt
theorem Fj(x:Bs):dS.dec (.str x)=x:=rfl
theorem wk_Dk{nm:Bs}{yN sh w h:Int}{ho:List Int}{sy:List xk}{rg:List xz}{cl:List x8}{ru:List zj}{a b c e f:Fs}(ha:Wk a (Aj ho))(hb:Wk b (He sy))(hc:Wk c (Gz rg))(he:Wk e (Eh cl))(hf:Wk f (DZ ru)):
  Wk (.agg [.str nm,.int .i64 yN,.int .i64 sh,.int .i64 w,.int .i64 h,a,b,c,e,f]) (B6 ⟨nm,yN,sh,w,h,ho,sy,rg,cl,ru⟩):=
 Wk.agg (.cons (Wk.refl _) (.cons (Wk.refl _) (.cons (Wk.refl _) (.cons (Wk.refl _) (.cons (Wk.refl _) (.cons ha (.cons hb (.cons hc (.cons he (.cons hf .nil))))))))))
abbrev KW:xj:=⟨[],0,0,0,0,[],[],[],[],[]⟩
end
section
def Hj:List Bs->Nat->List (Fs×Fs×Nat)
 |[],_=>[]
 |s::r,i=>(.str s,.int .i64 (i:Int),i)::Hj r (i+1)
theorem E8:∀(l:List Bs) (i:Nat),EG .str (Hj l i)=True
 |[],_=>rfl
 |s::r,i=>by rw[Hj,EG,E8 r (i+1)];simp [KT.is]
def VA(x:Bs)(r:List Bs)(s:Bs):Bb (x::r) s=if x=s then some 0 else(Bb r s).map (· +1):=by
 unfold Bb;rw[vD];by_cases h:x=s
 ·simp [h]
 ·simp only[h,wc,sN,sY];cases List.findIdx? (λx=>decide (x=s)) r<;>simp
theorem Wu:∀(l:List Bs) (s:Bs) (i:Nat),Bm (.str s) (Hj l i)=(Bb l s).map λn=>.int .i64 (n+(i:Int))
 |[],s,i=>rfl
 |x::r,s,i=>by
  rw[Hj,Bm,VA,Wu r s (i+1)];by_cases h:x=s
  ·subst h;simp [ID]
  ·have:¬s=x:=λq=>h q.symm
   simp only[ID,h,this,wc,sN,sY];cases Bb r s with
   |none=>rfl
   |some n=>simp only[td];congr 2;omega
def GL(l:List Bs)(s:Bs):Bm (.str s) (Hj l 0)=(Bb l s).map λn=>.int .i64 n:=by
 rw[Wu];congr 1;funext n;simp
theorem dA:∀(l:List Bs) (s:Bs) (i:Nat),Hj (l++[s]) i=Hj l i++[(.str s,.int .i64 ((i+l.length:Nat):Int),i+l.length)]
 |[],s,i=>rfl
 |x::r,s,i=>by
  rw[sJ,Hj,dA r s (i+1),Hj,sJ,sM,show i+1+r.length=i+(r.length+1)by omega]
variable {v:Fs} {c:Nat}
theorem KX{k:Fs}:∀{es:List (Fs×Fs×Nat)},Bm k es=none->EQ k v c es=es++[(k,v,c)]
 |[],_=>rfl
 |(k',v',b)::r,h=>by
  rw[Bm]at h;split at h
  ·cases h
  ·rename_i q;rw[EQ,sg q,KX h];rfl
theorem OG{l:List Bs}{s:Bs}(h:Bb l s=none):EQ (.str s) (.int .i64 (l.length:Int)) l.length (Hj l 0)=Hj (l++[s]) 0:=by
 rw[KX (by rw[GL,h];rfl),dA];simp
theorem dC{α:Type}[DecidableEq α]{a b:List α}{x:α}(h:x∈a):Ap (a++x::b)=true:=by
 cases q:Ap (a++x::b)with
 |true=>rfl
 |false=>exact absurd rfl ((uD.1 (C9.1 q)).2.2 x h x zw)
def Ik:List Int->Nat->List (Fs×Fs×Nat)
 |[],_=>[]
 |s::r,i=>(.int .i64 s,.bool true,i)::Ik r (i+1)
theorem VB:∀(l:List Int) (i:Nat),EG (.int .i64) (Ik l i)=True
 |[],_=>rfl
 |s::r,i=>by rw[Ik,EG,VB r (i+1)];simp [KT.is]
theorem RQ:∀(l:List Int) (x:Int) (i:Nat),Bm (.int .i64 x) (Ik l i)=if l.contains x then some (.bool true)else none
 |[],x,i=>rfl
 |y::r,x,i=>by
  rw[Ik,Bm,RQ r x (i+1),List.contains_cons];by_cases h:x=y
  ·subst h;simp [ID]
  ·simp only[ID,h,wc,sN,sY,beq_eq_false_iff_ne.2 h,ub]
theorem dF:∀(l:List Int) (s:Int) (i:Nat),Ik (l++[s]) i=Ik l i++[(.int .i64 s,.bool true,i+l.length)]
 |[],s,i=>rfl
 |x::r,s,i=>by
  rw[sJ,Ik,dF r s (i+1),Ik,sJ,sM,show i+1+r.length=i+(r.length+1)by omega]
theorem rD{l:List Int}{x:Int}(h:l.contains x=false):EQ (.int .i64 x) (.bool true) l.length (Ik l 0)=Ik (l++[x]) 0:=by
 rw[KX (by rw[RQ,h];rfl),dF];simp
theorem LN{x y:Int}{v:Fs}{c:Nat}:∀{es:List (Fs×Fs×Nat)},EG (.int .i64) es->Bm (.int .i64 x) (EQ (.int .i64 y) v c es)=if x=y then some v else Bm (.int .i64 x) es
 |[],_=>by
  rw[EQ,Bm,Bm];by_cases h:x=y<;>simp [ID,h,Bm]
 |(k',v',b)::r,hf=>by
  obtain⟨h1,h2⟩:=hf;have ih:=LN (x:=x) (y:=y) (v:=v) (c:=c) h2;cases k'<;>simp only[KT.is]at h1;rename_i kk z;subst h1;rw[EQ];by_cases hy:y=z
  ·subst hy;rw[sn (by simp [ID])];rw[Bm,Bm];by_cases hx:x=y
   ·subst hx;simp [ID]
   ·simp [ID,hx]
  ·rw[sg (by simp [ID,hy])];rw[Bm,ih,Bm];by_cases hx:x=z
   ·subst hx;have:¬x=y:=λq=>hy q.symm
    simp [ID,this]
   ·simp [ID,hx]
theorem LO{y:Int}:∀{es:List (Fs×Fs×Nat)},EG (.int .i64) es->EG (.int .i64) (EQ (.int .i64 y) v c es)
 |[],_=>⟨rfl,zt⟩
 |(k',v',b)::r,⟨h1,h2⟩=>by
  rw[EQ];split
  ·exact⟨h1,h2⟩
  ·exact⟨h1,LO h2⟩
def Jg(rs:List zj)(z:Int):Nat:=(rs.filter λr=>decide (r.wP=z)).length
theorem TO(rs:List zj)(i:Nat):Jg rs (i:Int)=Ef rs i:=rfl
theorem Wv(rs:List zj)(r:zj)(z:Int):Jg (rs++[r]) z=Jg rs z+if r.wP=z then 1 else 0:=by
 unfold Jg;rw[uh,sH];by_cases h:r.wP=z<;>simp [h]
theorem dG(rs:List zj)(z:Int):Jg rs z<=rs.length:=tN ..
def OH(rs:List zj)(es:List (Fs×Fs×Nat)):Prop:=EG (.int .i64) es/\∀z:Int,(Bm (.int .i64 z) es).getD (.int .i64 0)= .int .i64 (Jg rs z:Int)
theorem OH.next{rs:List zj}{es:List (Fs×Fs×Nat)}{r:zj}(h:OH rs es):OH (rs++[r]) (EQ (.int .i64 r.wP) (.int .i64 ((Jg rs r.wP+1:Nat):Int)) c es):=by
 refine⟨LO h.1,λz=>?_⟩;rw[LN h.1,Wv];by_cases q:z=r.wP
 ·subst q;rw[sn rfl,sn rfl];rfl
 ·rw[sg q,sg (λe=>q e.symm)];exact h.2 z
end
theorem LP{g:q8}{f:Nat->Option Value}:∀(ws:List Int) (o:Nat),wL g 1 f o (ws.map eI)->∀(j:Nat) x,ws[j]?=some x->f (o+j)=some (.int .i64 x)
 |[],_,_,j,x,h=>by simp at h
 |y::ws,o,⟨⟨v,q1,q2,q3⟩,h'⟩,j,x,h=>by
  cases j with
  |zero=>
   simp at h;subst h;have q1':v= .int .i64 y:=q1;subst q1';exact q3 0 _ rfl
  |succ j=>rw[show o+(j+1)=o+1+j by omega];exact LP ws (o+1) h' j x (by simpa using h)
theorem KY{g:q8}{f:Nat->Option Value}:∀(ws:List Int) (o:Nat),(∀(j:Nat) x,ws[j]?=some x->f (o+j)=some (.int .i64 x))->wL g 1 f o (ws.map eI)
 |[],_,_=>trivial
 |y::ws,o,h=>by
  refine⟨⟨.int .i64 y,rfl,⟨rfl,λx hx=>by simp [Value.cells]at hx;subst hx;rfl⟩,λj x hx=>?_⟩,KY ws (o+1) λj x hx=>by
   have:=h (j+1) x (by simpa using hx);rw[<-this];congr 1;omega⟩
  cases j with
  |zero=>
   have hx':some (Value.int .i64 y)=some x:=hx;cases hx';exact h 0 y rfl
  |succ j=>simp [Value.cells]at hx
def VC(w:World)(k:Nat):Below w.heap.size w (w.drewN k) where
 os:=rfl
 tape:=rfl
 output:=rfl
 size:=sj _
 block:=λi hi=>rfl
def p223(l:List Int)(x:Int)(hl:l.length<1000000000)(hs:List.Pairwise (λx y=>x<y) l):Av prog 223 [Aj l,.int .i64 x] (.wJ [.int .i64 (Fi l x),.bool (l.contains x)]):=by
 refine KO c223.l ⟨⟨zt,Dq 0 l⟩,zt,zt⟩ ⟨zt,zt,zt⟩ ?_;rintro g w vs hR ⟨v,r,rfl,k1,v2,r2,rfl,k2,k3⟩;have k2':v2= .int .i64 x:=k2;have k3':r2=[]:=k3;subst k2';subst k3';have xR:∀q,l=[]\/q=l.take l.length->AR g (.wJ [.int .i64 (Fi l x),.bool (l.contains x)]) (.tuple #[.int .i64 (((l.take l.length).countP (· <x):Nat):Int),.bool ((l.take l.length).contains x)]):=λq _=>by
  rw[sD];have e:(l.countP λy=>decide (y<x))=Fi l x:=List.countP_eq_length_filter;rw[e];exact⟨_,rfl,_,_,rfl,rfl,_,_,rfl,rfl,rfl⟩
 have xR:=xR l (.inr (sD).symm);rcases k1 with⟨k1,rfl,-⟩|⟨-,b,o,cap,⟨sp,rfl,yS⟩,hc,wX,-⟩
 ·have:l=[]:=by simpa using k1
  subst this;refine(slices_BinarySearch_int_empty none 0 x w).mono ?_;rintro e w' ⟨rfl,rfl⟩;exact⟨⟨_,rfl,xR⟩,Below.refl _ _⟩
 ·cases l with
  |nil=>
   refine(slices_BinarySearch_int_empty _ _ x w).mono ?_;rintro e w' ⟨rfl,rfl⟩;exact⟨⟨_,rfl,xR⟩,Below.refl _ _⟩
  |cons y ys=>
   obtain rfl:sp=none:=yS.resolve_right λq=>by cases q.1
   have xZ:=LP _ _ wX;have hk:=slices_BinarySearch_int b o (y::ys).length cap (y::ys) x w (sj _) zo (λj hj=>hR.σw _ _ _ (xZ j _ (by rw[rz hj];simp [List.getD,rz hj]))) (by rw[sD];exact hs.imp λq=>zo);simp only[ry]at hk⊢;refine hk.mono ?_;rintro e w' ⟨rfl,q,rfl⟩;exact⟨⟨_,rfl,xR⟩,VC _ _⟩
def kS:C3 prog 226:=⟨f226,by kernel_rfl,by kernel_rfl,by kernel_rfl⟩
def RU{H:AB}{n id len cap:Nat}{zs:List Int}(ho:AD H id=some (.arr 1 (zs.map eI)))(hl:len<=zs.length)(hz:len<1000000000):
  AX prog 226 [.ref id 1 0 len cap] H n λo H' n'=>o= .ret (.wJ [])/\H'=wB H id (.arr 1 (((zs.take len).mergeSort Ft++zs.drop len).map eI))/\n'=n:=by
 refine⟨kS,λg w vs hR hv=>?_⟩;obtain⟨v,r,rfl,k1,k2⟩:=hv;have k2':r=[]:=k2;subst k2';obtain⟨L,h1,h2,rfl⟩:=k1;obtain⟨L',c,e,j1,j2,j3,j4,j5,j6⟩:=hR.obj id _ ho;rw[h1]at j1;cases j1;have xZ:=LP _ _ j6;simp only[tx]at xZ;have xG:c.size=zs.length:=by rw[<-j5];simp
 have xN:(zs.take len).length=len:=by simp;omega
 have hb:L.wR<w.heap.size:=(sW.1 j4).1;have hc:=slices_Sort_int L.wR 0 cap (zs.take len) w (λj hj=>by
  have hj':j<(zs.take len).length:=by simpa using hj
  refine⟨?_,?_⟩
  ·rw[tx,getElem!_pos _ j hj];simp only[World.cell?,j4];rw[xZ j _ (show zs[j]?=some zs[j]from rz zo)];simp
  ·simp [World.frozen?,j4]) hb zo
 rw[xN]at hc;simp only[vi]at hc⊢;refine hc.mono ?_;rintro ee w' ⟨rfl,k,os,rfl⟩;generalize hS:(zs.take len).mergeSort (λx y=>decide (x<=y))=S;have hSl:S.length=len:=by rw[<-hS,List.length_mergeSort,xN]
 have hblk:(putRow (Value.int .i64) (Sort.ahead w k) L.wR 0 S.toArray).heap[L.wR]?=some (.cells (Go.Sort.putCells (Value.int .i64) 0 S.toArray c) e (0,0)):=by
  simp only[putRow,mapBlock,Sort.ahead,Array.getElem?_modify,tD,j4,td,onCells]
 have AD:∀j:Nat,(Go.Sort.putCells (Value.int .i64) 0 S.toArray c)[j]?=if j<len then(S[j]?).map (Value.int .i64)else c[j]?:=λj=>by
  simp only[Go.Sort.putCells,Array.getElem?_mapIdx,sk,uf,tx,Nat.sub_zero,List.size_toArray,hSl];by_cases q:j<len
  ·simp only[q,tD];have hjc:j<c.size:=zo
   have hjS:j<S.length:=zo
   rw[uu hjc,rz hjS];simp [hjS]
  ·simp only[q,sY];cases c[j]?<;>rfl
 obtain⟨r1,r2⟩:=hR.upd (m:=n) (w':=putRow (Value.int .i64) (Sort.ahead w k) L.wR 0 S.toArray) (ob':=.arr 1 ((S++zs.drop len).map eI)) ho rfl h1 rfl rfl rfl (by simp [putRow,mapBlock,Sort.ahead])
  (λb s8=>by simp only[putRow,mapBlock,Sort.ahead,Array.getElem?_modify];rw[sg (Ne.symm s8)])
  (.inl ⟨c,e,(0,0),_,j4,hblk,by simp [Go.Sort.putCells],λo ho'=>by
   rw[AD,sg (by rcases ho' with q|q<;>omega)]⟩)
  ⟨L,_,e,h1,h2,by rw[j3];simp [Go.Sort.putCells],hblk,by simp [Go.Sort.putCells,hSl];omega,KY _ _ λj x hx=>by
   rw[tx,AD];by_cases q:j<len
   ·rw[sn q];rw[tQ zo]at hx;rw[hx];rfl
   ·rw[sg q];rw[tR zo,vY]at hx;exact xZ j x (by rw[<-hx];congr 1;omega)⟩
 have hx:JW (putRow (Value.int .i64) (Sort.ahead w k) L.wR 0 S.toArray) (grow (putRow (Value.int .i64) (Sort.ahead w k) L.wR 0 S.toArray) os):=λb ob hb=>by
  show(_++os)[b]?=some ob;rw[Array.getElem?_append_left (sW.1 hb).1];exact hb
 have r3:=r1.grow hx (σ':=g.σ) (λ_ _ _ q=>q) (λ_ _ _ q=>.inl q);exact⟨g,.ret (.wJ []),_,n,⟨rfl,rfl,rfl⟩,⟨_,rfl,rfl⟩,r3,sj _,r2.trans (q9.grow hx rfl rfl rfl (λ_ _ _ q=>q) (λ_ _ _ q=>.inl q))⟩
def LV(e:Nat)(v:Fs)(H:AB)(l:List Fs):Prop:=
 (l=[]/\∃t,v= .sl t []/\(t= .nil\/t= .exact e))\/(l≠[]/\∃id cap rest,v= .ref id e 0 l.length cap/\AD H id=some (.arr e (l++rest))/\l.length+rest.length=cap)
def dH(e:Nat)(H:AB)(n:Nat)(l:List Fs):xw->AB->Nat->Prop:=λo H' n'=>
 (l=[]/\H'=H/\n<=n'/\∃t,o= .ret (.sl t [])/\(t= .nil\/t= .exact e))\/(l≠[]/\n'=n+4/\∃cap rest,o= .ret (.ref (n+2) e 0 l.length cap)/\H'=wB H (n+2) (.arr e (l++rest))/\l.length+rest.length=cap)
def AX.out{P:Program}{f:FuncId}{args:List Fs}{H:AB}{n:Nat}{R R':xw->AB->Nat->Prop}(h:AX P f args H n R)
  (hr:∀o H' n',R o H' n'->∃o2,R' o2 H' n'/\∀g w e,x7 g H' n' w->Xl g o e->Xl g o2 e):AX P f args H n R':=
 ⟨h.1,λg w vs r v=>(h.2 g w vs r v).mono λe w' ⟨g',out,H',n',q,he,hR,hn,ht⟩=>
  let ⟨o2,q2,hw⟩:=hr _ _ _ q;⟨g',o2,H',n',q2,hw _ _ _ hR he,hR,hn,ht⟩⟩
def AX.seal{P:Program}{f:FuncId}{args:List Fs}{H:AB}{n:Nat}{R R':xw->AB->Nat->Prop}(h:AX P f args H n R)
  (hr:∀o H' n',R o H' n'->R' o H' n'\/∃id e l,AD H' id=some (.arr e l)/\R' o (wB H' id (.frz e l)) n'):AX P f args H n R':=by
 refine⟨h.1,λg w vs r v=>(h.2 g w vs r v).mono ?_⟩;rintro e w' ⟨g',out,H',n',q,he,hR,hn,ht⟩;rcases hr _ _ _ q with q|⟨id,es,l,h0,q⟩
 ·exact⟨g',out,H',n',q,he,hR,hn,ht⟩
 ·obtain⟨σ',r1,t1⟩:=hR.freeze (m:=n) h0;refine⟨_,out,_,n',q,?_,r1,hn,ht.trans t1⟩;cases out<;>cases e<;>first|exact he.elim|skip
  ·exact AR.mono t1.le _ _ he
  ·obtain⟨v,hv,hr⟩:=he;exact⟨v,hv,AR.mono t1.le _ _ hr⟩
def LF(e:Nat)(v:Fs)(H:AB)(l:List Fs):Prop:=
 (l=[]/\∃t,v= .sl t []/\(t= .nil\/t= .exact e))\/(l≠[]/\∃id cap rest,v= .ref id e 0 l.length cap/\AD H id=some (.frz e (l++rest))/\l.length+rest.length=cap)
def LQ{e:Nat}{v:Fs}{H:AB}{l:List Fs}(h:LF e v H l){g:q8}{n:Nat}{w:World}{x:Value}(hR:x7 g H n w)(hv:AR g v x):AR g (.sl (.none e) l) x:=by
 rcases h with⟨rfl,t,rfl,ht⟩|⟨s8,id,cap,rest,rfl,ho,hc⟩
 ·exact Wk.sl (.inr rfl) _ _ hv
 ·obtain⟨L,h1,h2,rfl⟩:=hv;obtain⟨L',j1,j2,j3⟩:=hR.obj id _ ho;rw[h1]at j1;cases j1;refine .inr ⟨zt,L.wR,0,cap,⟨none,zw,.inl rfl⟩,zo,?_,zt⟩;have:=wL.take l.length _ _ j3;rw[vJ]at this;exact this
def Rk{α:Type}(enc:α->Fs)(e lo:Nat)(H:AB)(lv:Fs)(qs:List α):Prop:=(lv= .sl .nil []/\qs=[])\/qs≠[]/\∃id rest,lv= .ref id e 0 qs.length (qs.length+rest.length)/\lo<=id/\AD H id=some (.arr e ((qs++rest).map enc))
section
variable {α:Type} {enc:α->Fs} {e lo:Nat}
theorem RV{H:AB}{m b:Nat}{lv z v:Fs}{z0:α}{qs:List α}{q:α}{K:AB->Fs->Prop}(h:Rk enc e lo H lv qs)(hv:v=enc q)(he:0<e)(hz:z.cells.length=e)(hz0:z=enc z0)(hb:Al (qs.length+1) b)(hm:AD H m=none)(yh:lo<=m)(hk:qs.length+1<=35184372088832)
  (hK:∀id (rest:List α),lo<=id->(id=m\/∃L,AD H id=some (.arr e L))->K (wB H id (.arr e (((qs++[q])++rest).map enc))) (.ref id e 0 (qs++[q]).length ((qs++[q]).length+rest.length))):JJ H m e b z K lv (some [v]):=by
 subst hv;subst hz0;have el:(qs++[q]).length=qs.length+1:=zw
 rcases h with⟨rfl,rfl⟩|⟨-,id,rest,rfl,h2,h3⟩
 ·rw[DW];refine⟨hm,he,hz,.inl rfl,hb,zw,(λe=>by cases e),λ_ cap xO=>?_⟩;have:=hK m (List.replicate (cap-1) z0) yh (.inl rfl);simp only[sI,sS,sM,tI,tK,sJ,ud]at this xO⊢;rw[show 0+1+(cap-1)=cap by omega]at this;exact this
 ·rw[LG h3];refine⟨hm,he,hz,rfl,rfl,hb,hk,rfl,zw,zo,λhr=>?_,λhr yK hc=>?_⟩
  ·have:=hK id (rest.drop 1) h2 (.inr ⟨_,h3⟩);simp only[sM,tI]at hr⊢;have e1:List.take qs.length ((qs++rest).map enc)=qs.map enc:=by rw[su,uC zw,tL zw]
   have e2:List.drop (qs.length+(0+1)) ((qs++rest).map enc)=(rest.drop 1).map enc:=by rw[su,List.drop_append,uy zw];simp
   rw[e1,e2];rw[el,su,su,ue,show qs.length+1+(rest.length-1)=qs.length+rest.length by omega]at this;exact this
  ·have:=hK m (List.replicate (yK-(qs.length+1)) z0) yh (.inl rfl);simp only[sM,tI]at hr hc⊢;have e1:List.take qs.length ((qs++rest).map enc)=qs.map enc:=by rw[su,uC zw,tL zw]
   rw[e1];rw[el,su,su,ud,tK,show qs.length+1+(yK-(qs.length+1))=yK by omega]at this;exact this
end
structure VF where
 i:Nat
 H:AB
 n:Nat
def LR{P:Program}{T:Bg}{b:Nat}{cx:Nat->Fs}{rx:List (Nat×xq)}{kp:List Nat}{k:List Item}{Q:x6->AS->Prop}{s:AS}{d:Option Nat}{sz:Nat}{a x:zz}:A8 P T b cx ((0,⟨d,none,.st sz a x⟩)::rx) kp k Q s=((lk s.env a).1=true/\(lk s.env x).1=true/\nT (AY s.env x)/\(AY s.env x).cells.length=sz/\(Q5 s.H sz (AY s.env x) (AY s.env a)).1/\A8 P T b cx rx kp k Q ({s with H:=(Q5 s.H sz (AY s.env x) (AY s.env a)).2}.put d true (.wJ []))):=by
 rw[Uv,Mi,N5];simp only[Bl,tX,Bp,uf];rfl
def ir{H:AB}{n:Nat}(l:List x8)(hl:Aq l):AX prog 206 [Eh l] H n (dH 6 H n (l.map Cb)):=by
 refine AX.fresh gr.l λhf=>gr.a (AI AH.wD (AJ ?_))
 have wm:l.length<1000000000:=hl;cases l with
 |nil=>
  simp only[eZ,seval,gr];refine⟨?_,?_⟩
  ·simp only[eZ,seval,DW,Fg,Bq hf,Al,vi,sk];exact .inl ⟨rfl,rfl,tO _ _,.exact 6,rfl,.inr rfl⟩
  ·simp only[eZ,seval,se];exact .inl ⟨rfl,rfl,sj _,.nil,rfl,.inl rfl⟩
 |cons x r=>
  rw[sM]at wm;simp only[eZ,seval,ry,gr,Eh,DW,Fg,Bq hf];refine⟨Ae zo zd,zo,λcap xO=>.inr ⟨zw,rfl,cap,List.replicate (cap-(r.length+1)) (.agg [.str [],.str [],.int .i64 0,.int .i64 0,.int .i64 0,.int .i64 0]),?_,?_,?_⟩⟩
  ·simp
  ·simp
  ·simp;omega
def iu{H:AB}{n:Nat}(l:List zj)(hl:Aq l):AX prog 210 [DZ l] H n (dH 12 H n (l.map Bt)):=by
 refine AX.fresh gu.l λhf=>gu.a (AI AH.wD (AJ ?_))
 have wm:l.length<1000000000:=hl;cases l with
 |nil=>
  simp only[eZ,seval,gu];refine⟨?_,?_⟩
  ·simp only[eZ,seval,DW,Fg,Bq hf,Al,vi,sk];exact .inl ⟨rfl,rfl,tO _ _,.exact 12,rfl,.inr rfl⟩
  ·simp only[eZ,seval,se];exact .inl ⟨rfl,rfl,sj _,.nil,rfl,.inl rfl⟩
 |cons x r=>
  rw[sM]at wm;simp only[eZ,seval,ry,gu,DZ,DW,Fg,Bq hf];refine⟨Ae zo zd,zo,λcap xO=>.inr ⟨zw,rfl,cap,List.replicate (cap-(r.length+1)) (.agg [.str [],.str [],.int .i64 0,.int .i64 0,.sl .nil [],.sl .nil [],.int .i64 0,.int .i64 0,.int .i64 0,.int .i64 0,.str [],.int .i64 0]),?_,?_,?_⟩⟩
  ·simp
  ·simp
  ·simp;omega
end Go.AM
