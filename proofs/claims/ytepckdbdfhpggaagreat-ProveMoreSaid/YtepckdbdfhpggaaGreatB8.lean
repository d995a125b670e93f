/-
  What is told of functions, argument by argument; lists that grow, and objects beside one another · Bytes and names (a pa.
  Conditions: none beyond those of its parts.
-/
import Derived.Test.YtepckdbdfhpggaaGreatB5
import Derived.Test.YtepckdbdfhpggaaGreatProg
import Derived.Test.YtepckdbdfhpggaaGreatShelf
import Derived.Test.YtepckdbdfhpggaaGreatB6

set_option maxRecDepth 20000
set_option linter.all false
set_option maxHeartbeats 1000000
namespace Go.AM
open Go.Proofs Go.Lib
abbrev Bs:=List UInt8
abbrev eI (n:Int):AVal:=.int .i64 n
abbrev eSs (l:List Bs):AVal:=.sl (.none 1) (l.map .str)
abbrev eIs (l:List Int):AVal:=.sl (.none 1) (l.map eI)
theorem DG (n:Nat) (l:List Bs):unders n (l.map AVal.str):=AY (f:=AVal.str) (λx=>trivial) _
theorem Cg (n:Nat) (l:List Int):unders n (l.map eI):=AY (f:=eI) (λx=>trivial) _
theorem C3 (l:List Bs):(l.map AVal.str).map toS=l:=by rw[YP];exact List.map_id _
theorem As (l:List Int):(l.map eI).map toI=l:=by rw[YP];exact List.map_id _
inductive Wks:List AVal->List AVal->Prop
 |nil:Wks [] []
 |cons {a b:AVal} {ws us:List AVal}:Wk a b->Wks ws us->Wks (a::ws) (b::us)
theorem Wks.rel {g:Ghost}:∀{ws us:List AVal},Wks ws us->∀vs,VRels g ws vs->VRels g us vs
 |_,_,.nil,vs,h=>h
 |_,_,.cons h t,vs,⟨v,r,e,k1,k2⟩=>⟨v,r,e,h _ _ k1,t.rel r k2⟩
theorem Wk.agg {ws us:List AVal} (h:Wks ws us):Wk (.agg ws) (.agg us):=by
 rintro g v ⟨vs,rfl,h1,h2⟩
 exact⟨vs,rfl,h.rel _ h1,h2⟩
theorem Wk.tup {ws us:List AVal} (h:Wks ws us):Wk (.tup ws) (.tup us):=by
 rintro g v ⟨vs,rfl,h1⟩
 exact⟨vs,rfl,h.rel _ h1⟩
theorem Wk.trans {a b c:AVal} (h:Wk a b) (k:Wk b c):Wk a c:=λg v q=>k g v (h g v q)
def CL (pid:Nat) (H H':AB):Prop:=∀id ob,id≠pid->hget H id=some ob->hget H' id=some ob
theorem CL.refl {pid:Nat} (H:AB):CL pid H H:=λ_ _ _ h=>h
theorem CL.set {pid:Nat} {H H':AB} {ob:AObj} (h:CL pid H H'):CL pid H (hset H' pid ob):=λid o hne x=>by
 rw[AA _ _ _ _ (Ne.symm hne)];exact h id o hne x
theorem CL.new {pid:Nat} {H H':AB} {n i:Nat} {ob:AObj} (hf:AN H n) (hi:n<=i) (h:CL pid H H'):CL pid H (hset H' i ob):=λid o hne x=>by
 have:=hf.lt x
 rw[AA _ _ _ _ (by omega)];exact h id o hne x
section
variable {n pid:Nat} {H:AB}
theorem fr1 (h:AN H n) (k:Nat):hget H (n+k)=none:=h _ (by omega)
theorem fr0 (h:AN H n):hget H n=none:=h _ (Wu _)
end
theorem natE3 {a b c:Nat}:(a+b=a+c)=(b=c):=propext ⟨λh=>by omega,λh=>by omega⟩
structure Dc (α:Type) where
 enc:α->AVal
 dec:AVal->α
 ok:AVal->Prop
 wk:∀v,ok v->Wk v (enc (dec v))
def Df:AVal->Prop
 | .int .i64 _=>True
 |_=>False
theorem TJ (v:AVal) (h:Df v):Wk v (eI (toI v)):=by
 unfold Df at h
 split at h
 ·exact Wk.refl _
 ·exact h.elim
def dI:Dc Int:=⟨eI,toI,Df,TJ⟩
theorem isS_wk (v:AVal) (h:isS v):Wk v (.str (toS v)):=by
 cases v<;>first|exact Wk.refl _|exact h.elim
def dS:Dc Bs:=⟨.str,toS,isS,isS_wk⟩
def okL {α:Type} (e:Nat) (enc:α->AVal) (dec:AVal->α):AVal->Prop
 | .sl t L=>(t.esz=e\/L=[])/\L=(L.map dec).map enc
 |_=>False
def decL {α:Type} (dec:AVal->α):AVal->List α
 | .sl _ L=>L.map dec
 |_=>[]
theorem Q2 {α:Type} {e:Nat} {enc:α->AVal} {dec:AVal->α} (v:AVal) (h:okL e enc dec v):Wk v (.sl (.none e) ((decL dec v).map enc)):=by
 cases v<;>simp only[okL]at h<;>try exact h.elim
 simp only[decL]
 rw[<-h.2];exact Wk.sl h.1
def dSs:Dc (List Bs):=⟨eSs,decL toS,okL 1 .str toS,Q2⟩
def dIs:Dc (List Int):=⟨eIs,decL toI,okL 1 eI toI,Q2⟩
def s1 {α:Type} (A:Dc α) (c:α->Prop) (f:α->AVal):List AVal->AB->Prop×AVal:=λa _=>match a with
 |[x]=>(A.ok x/\c (A.dec x),f (A.dec x))
 |_=>(False,.tup [])
def s2 {α β:Type} (A:Dc α) (B:Dc β) (c:α->β->Prop) (f:α->β->AVal):List AVal->AB->Prop×AVal:=λa _=>match a with
 |[x,y]=>(A.ok x/\B.ok y/\c (A.dec x) (B.dec y),f (A.dec x) (B.dec y))
 |_=>(False,.tup [])
def s3 {α β γ:Type} (A:Dc α) (B:Dc β) (C:Dc γ) (c:α->β->γ->Prop) (f:α->β->γ->AVal):List AVal->AB->Prop×AVal:=λa _=>match a with
 |[x,y,z]=>(A.ok x/\B.ok y/\C.ok z/\c (A.dec x) (B.dec y) (C.dec z),f (A.dec x) (B.dec y) (C.dec z))
 |_=>(False,.tup [])
theorem q1 {α:Type} {A:Dc α} {c:α->Prop} {f:α->AVal} {fid:FuncId} (h:∀x,c x->Pur Tryz.prog fid [A.enc x] (f x)):∀args H n,(s1 A c f args H).1->Ab Tryz.prog fid args H n (s1 A c f args H).2:=by
 intro args H n hh
 unfold s1 at hh⊢
 split at hh
 ·obtain⟨h1,h2⟩:=hh
  refine AO.args ((h _ h2).quiet H n) ?_
  rintro g vs ⟨v,r,rfl,k1,k2⟩
  exact⟨v,_,rfl,A.wk _ h1 _ _ k1,k2⟩
 ·exact hh.elim
theorem q2 {α β:Type} {A:Dc α} {B:Dc β} {c:α->β->Prop} {f:α->β->AVal} {fid:FuncId} (h:∀x y,c x y->Pur Tryz.prog fid [A.enc x,B.enc y] (f x y)):∀args H n,(s2 A B c f args H).1->Ab Tryz.prog fid args H n (s2 A B c f args H).2:=by
 intro args H n hh
 unfold s2 at hh⊢
 split at hh
 ·obtain⟨h1,h2,h3⟩:=hh
  refine AO.args ((h _ _ h3).quiet H n) ?_
  rintro g vs ⟨v,r,rfl,k1,w,r',rfl,k2,k3⟩
  exact⟨v,_,rfl,A.wk _ h1 _ _ k1,w,_,rfl,B.wk _ h2 _ _ k2,k3⟩
 ·exact hh.elim
theorem q3 {α β γ:Type} {A:Dc α} {B:Dc β} {C:Dc γ} {c:α->β->γ->Prop} {f:α->β->γ->AVal} {fid:FuncId} (h:∀x y z,c x y z->Pur Tryz.prog fid [A.enc x,B.enc y,C.enc z] (f x y z)):∀args H n,(s3 A B C c f args H).1->Ab Tryz.prog fid args H n (s3 A B C c f args H).2:=by
 intro args H n hh
 unfold s3 at hh⊢
 split at hh
 ·obtain⟨h1,h2,h3,h4⟩:=hh
  refine AO.args ((h _ _ _ h4).quiet H n) ?_
  rintro g vs ⟨v,r,rfl,k1,w,r',rfl,k2,u,r'',rfl,k3,k4⟩
  exact⟨v,_,rfl,A.wk _ h1 _ _ k1,w,_,rfl,B.wk _ h2 _ _ k2,u,_,rfl,C.wk _ h3 _ _ k3,k4⟩
 ·exact hh.elim
abbrev any1 {α:Type} (_:α):Prop:=True
abbrev any2 {α β:Type} (_:α) (_:β):Prop:=True
theorem NH {α:Type} {p:α->Bool} {l:List α} {i:Nat} (h:i<l.length):(l.take (i+1)).all p=((l.take i).all p&&p l[i]):=by
 rw[XA,W4 h,List.all_append];simp
theorem map_take {α β:Type} {f:α->β} {l:List α} {i:Nat} (h:i<l.length):(l.take (i+1)).map f=(l.take i).map f++[f l[i]]:=by
 rw[XA,W4 h,X3];rfl
theorem lt_T {a b:Nat} (h:a<b):((a:Int)<(b:Int))=True:=W1 (by omega)
theorem lt_F {a b:Nat} (h:¬a<b):((a:Int)<(b:Int))=False:=W9 (by omega)
theorem A2 {x:Int} (h1: -9223372036854775808<=x) (h2:x<=9223372036854775807):IntKind.wrap .i64 x=x:=by rw[IntKind.wrap_i64];omega
theorem AL {k:Nat} (h:k<9000000000000000000):IntKind.wrap .i64 ((k:Int)+1)=((k+1:Nat):Int):=by rw[A2 (by omega) (by omega)];rfl
theorem c0:((0:Nat):Int)=0:=rfl
theorem c1:((1:Nat):Int)=1:=rfl
theorem cS0 {n:Nat}:(((n+1:Nat):Int)=0)=False:=W9 (by omega)
theorem cS1 {n:Nat}:((0:Int)<((n+1:Nat):Int))=True:=W1 (by omega)
theorem i00:((0:Int)<0)=False:=W9 (by decide)
def tkG (e lo:Nat) (H:AB) (tk:Tok):Prop:=tk= .nil\/tk= .exact e\/∃id,tk= .own id e/\lo<=id/\hget H id=some .tok
theorem tkG.app {e lo:Nat} {H:AB} {tk:Tok} (h:tkG e lo H tk):Bi H e tk:=by
 rcases h with rfl|rfl|⟨id,rfl,h1,h2⟩
 ·trivial
 ·rfl
 ·exact⟨rfl,h2⟩
theorem tkG.set {e lo i:Nat} {H:AB} {tk:Tok} {ob:AObj} (h:tkG e lo H tk) (hi:i<lo\/(∃cs,hget H i=some (.box cs))\/hget H i=none):tkG e lo (hset H i ob) tk:=by
 rcases h with rfl|rfl|⟨id,rfl,h1,h2⟩
 ·exact .inl rfl
 ·exact .inr (.inl rfl)
 ·refine .inr (.inr ⟨id,rfl,h1,?_⟩)
  rw[AA _ _ _ _ ?_]
  ·exact h2
  ·rintro rfl
   rcases hi with q|⟨cs,q⟩|q
   ·omega
   ·rw[h2]at q;cases q
   ·rw[h2]at q;cases q
theorem Ad {e lo i:Nat} {H:AB} {tk:Tok} (h:tkG e lo H tk) (hi:i<lo\/∃cs,hget H i=some (.box cs)):hget (AU H tk) i=hget H i:=by
 rcases h with rfl|rfl|⟨id,rfl,h1,h2⟩
 ·rfl
 ·rfl
 ·simp only[AU]
  rw[AA _ _ _ _ ?_]
  rintro rfl
  rcases hi with q|⟨cs,q⟩
  ·omega
  ·rw[h2]at q;cases q
theorem Ag {e lo n:Nat} {H:AB} {tk:Tok} (h:tkG e lo H tk) (hf:AN H n):AN (AU H tk) n:=by
 rcases h with rfl|rfl|⟨id,rfl,h1,h2⟩
 ·exact hf
 ·exact hf
 ·exact hf.hset (Wu _) (hf.lt h2)
abbrev few {α:Type} (l:List α):Prop:=l.length<1000000000
abbrev wide {α:Type} (l:List α):Prop:=l.length<1125899906842624
theorem Jd {α:Type} {l:List α} (h:few l):wide l:=by
 have:l.length<1000000000:=h
 show l.length<_
 omega
theorem Ch {α:Type} {a b:List α} (hl:a.length=b.length) (h:∀j,j<a.length->a[j]?=b[j]?):a=b:=YN λj=>by
 rcases Nat.lt_or_ge j a.length with q|q
 ·exact h j q
 ·rw[XU q,XU (by omega)]
theorem FT {a b:Nat} (h:a≠b):((a:Int)=(b:Int))=False:=W9 (by omega)
theorem FU {a b:Nat} (h:a=b):((a:Int)=(b:Int))=True:=W1 (by omega)
theorem AX {n b:Nat} (h:n<=1000000000) (hb:b<=1000):An n b:=by
 have:n*b<=1000000000*1000:=Nat.mul_le_mul h hb
 unfold An;omega
theorem Bw {α:Type} {enc:α->AVal} {dec:AVal->α} (h:∀x,dec (enc x)=x) (l:List α):(l.map enc).map dec=l:=by
 rw[YP];exact(XO λx _=>h x).trans (List.map_id _)
def dEx {α:Type} (enc:α->AVal) (dec:AVal->α):Dc α:=⟨enc,dec,λv=>v=enc (dec v),λv h=>h▸Wk.refl _⟩
theorem C2.mono {P:Program} {fid:FuncId} {args:List AVal} {rv:AVal} {H:AB} {n:Nat} {Rc Rc':AB->Nat->Prop} (h:C2 P fid args rv H n Rc) (hr:∀H' n',Rc H' n'->Rc' H' n'):C2 P fid args rv H n Rc':=
 λg w vs u hR hV hu=>CallsDIn.mono (h g w vs u hR hV hu) λe u' w' ⟨h1,h2,g',H',n',h3,h4⟩=>⟨h1,h2,g',H',n',hr _ _ h3,h4⟩
end Go.AM
namespace Go.AM
open Go.Proofs Go.Lib Go.RowKit Go.Sort
def s155:List AVal->AB->Prop×AVal:=λa H=>match a with
 |[.str l,.int .u8 c]=>(0<=c/\c<256,.int .i64 (indexByte l (UInt8.ofNat c.toNat)))
 |_=>(False,.tup [])
theorem q155:∀args H n,(s155 args H).1->Ab Tryz.prog 155 args H n (s155 args H).2:=by
 intro args H n h
 unfold s155 at h⊢
 split at h
 ·rename_i l c
  refine Pur.quiet ?_ H n
  refine GB l155 ⟨trivial,trivial,trivial⟩ trivial ?_
  rintro g w vs hR ⟨v,r,rfl,k1,v2,r2,rfl,k2,k3⟩
  have k1':v= .string ⟨l.toArray⟩:=k1
  have k2':v2= .int .u8 c:=k2
  have k3':r2=[]:=k3
  subst k1';subst k2';subst k3'
  refine(Tryz.strings_IndexByte ⟨l.toArray⟩ c w).mono ?_
  rintro e w' ⟨rfl,rfl⟩
  exact⟨⟨_,rfl,rfl⟩,Below.refl _ _⟩
 ·exact h.elim
def T1:Tab:=tadd 155 s155 tnil
theorem T1_ok:AH Tryz.prog T1:=AH.tnil.add q155
theorem T1_155 (a:List AVal) (H:AB):T1 155 a H=s155 a H:=rfl
def DH (x:Int):Bool:=(decide (97<=x)&&decide (x<=122))||(decide (65<=x)&&decide (x<=90))
def Ef (x:Int):Bool:=decide (48<=x)&&decide (x<=57)
def isSp (x:Int):Bool:=decide (x=32)||decide (x=9)||decide (x=10)||decide (x=13)
abbrev sgnL:List UInt8:=[123,125,40,41,59,44,61,58,46,60,62,33,43,45,42,47]
def MC (x:Int):Bool:=decide (0<=indexByte sgnL (UInt8.ofNat x.toNat))
def clsI (x:Int):Int:=if DH x then 2 else if Ef x then 3 else if x=95 then 5 else if isSp x then 1 else if MC x then 4 else 0
def FV (x:Int):Bool:=DH x||Ef x||decide (x=95)
theorem p156 (x:Int):Pur Tryz.prog 156 [.int .u8 x] (.bool (DH x)):=by
 refine .mk (by simp [unders,AVal.under]) trivial (a156 (AF AH.tnil (AG ?_)))
 simp only[eE,eN,sel,reduceCtorEq,Nat.reduceEqDiff,↓reduceIte,c156]
 rfl
theorem p200 (x:Int):Pur Tryz.prog 200 [.int .u8 x] (.bool (Ef x)):=by
 refine .mk (by simp [unders,AVal.under]) trivial (a200 (AF AH.tnil (AG ?_)))
 simp only[eE,eN,sel,reduceCtorEq,Nat.reduceEqDiff,↓reduceIte,c200]
 rfl
theorem p108 (x:Int) (h0:0<=x) (h1:x<256):Pur Tryz.prog 108 [.int .u8 x] (.int .i64 (clsI x)):=by
 refine .mk (by simp [unders,AVal.under]) trivial (a108 (AF T1_ok (AG ?_)))
 simp only[eE,eN,Kk,sel,reduceCtorEq,Nat.reduceEqDiff,↓reduceIte,c108,T1_155,s155]
 refine⟨λh=>?_,λg1=>⟨λh=>?_,λg2=>⟨λh=>?_,λg3=>⟨λh=>?_,λg4=>⟨⟨h0,h1⟩,λh=>?_,λh=>?_⟩⟩⟩⟩⟩
 ·have:DH x=true:=by simp [DH];omega
  simp [clsI,this]
 ·have k1:DH x=false:=by simp [DH];simp at g1;omega
  have:Ef x=true:=by simp [Ef];omega
  simp [clsI,this,k1]
 ·have k1:DH x=false:=by simp [DH];simp at g1;omega
  have k2:Ef x=false:=by simp [Ef];simp at g2;omega
  simp only[clsI,h,Y6]
  subst h;rfl
 ·have k1:DH x=false:=by simp [DH];simp at g1;omega
  have k2:Ef x=false:=by simp [Ef];simp at g2;omega
  have:isSp x=true:=by simp [isSp];omega
  simp [clsI,g3,this,k1,k2]
 ·have k1:DH x=false:=by simp [DH];simp at g1;omega
  have k2:Ef x=false:=by simp [Ef];simp at g2;omega
  have k4:isSp x=false:=by simp [isSp];omega
  have k5:MC x=true:=by simpa [MC]using h
  simp [clsI,g3,k4,k5,k1,k2]
 ·have k1:DH x=false:=by simp [DH];simp at g1;omega
  have k2:Ef x=false:=by simp [Ef];simp at g2;omega
  have k4:isSp x=false:=by simp [isSp];omega
  have k5:MC x=false:=by simpa [MC]using h
  simp [clsI,g3,k4,k5,k1,k2]
def sB (f:Int->AVal):List AVal->AB->Prop×AVal:=λa H=>match a with
 |[.int .u8 x]=>(0<=x/\x<256,f x)
 |_=>(False,.tup [])
theorem qB {fid:FuncId} {f:Int->AVal} (h:∀x,0<=x->x<256->Pur Tryz.prog fid [.int .u8 x] (f x)):∀args H n,(sB f args H).1->Ab Tryz.prog fid args H n (sB f args H).2:=by
 intro args H n hh
 unfold sB at hh⊢
 split at hh
 ·exact(h _ hh.1 hh.2).quiet H n
 ·exact hh.elim
abbrev s108:=sB λx=>.int .i64 (clsI x)
abbrev s156:=sB λx=>.bool (DH x)
abbrev s200:=sB λx=>.bool (Ef x)
def T2:Tab:=tadd 108 s108 (tadd 156 s156 (tadd 200 s200 T1))
theorem T2_ok:AH Tryz.prog T2:=((T1_ok.add (qB λx _ _=>p200 x)).add (qB λx _ _=>p156 x)).add (qB p108)
theorem T2_156 (a:List AVal) (H:AB):T2 156 a H=s156 a H:=rfl
theorem T2_200 (a:List AVal) (H:AB):T2 200 a H=s200 a H:=rfl
theorem p157 (x:Int) (h0:0<=x) (h1:x<256):Pur Tryz.prog 157 [.int .u8 x] (.bool (FV x)):=by
 refine .mk (by simp [unders,AVal.under]) trivial (a157 (AF T2_ok (AG ?_)))
 simp only[eE,eN,sel,reduceCtorEq,Nat.reduceEqDiff,↓reduceIte,c157,T2_156,T2_200,sB,h0,h1]
 rfl
abbrev s157:=sB λx=>.bool (FV x)
def letB (b:UInt8):Bool:=DH b.toNat
def TK (b:UInt8):Bool:=FV b.toNat
theorem Q3 (x:Int):clsI x=2↔DH x=true:=by
 unfold clsI
 cases DH x<;>cases Ef x<;>cases isSp x<;>cases MC x<;>simp<;>split<;>simp
theorem NI (x:Int):(clsI x=2\/clsI x=3\/clsI x=5)↔FV x=true:=by
 unfold clsI FV
 cases DH x<;>cases Ef x<;>cases isSp x<;>cases MC x<;>by_cases h:x=95<;>simp [h]
theorem u8_lt (b:UInt8):(0:Int)<=b.toNat/\(b.toNat:Int)<256:=⟨by omega,by have:=b.toNat_lt;omega⟩
def CC (s:List UInt8):Bool:=decide (1<=s.length)&&decide (s.length<=32)&&letB (s[0]?.getD 0)&&s.all TK
def T3:Tab:=tadd 157 s157 T2
theorem T3_ok:AH Tryz.prog T3:=T2_ok.add (qB p157)
theorem UR (a:List AVal) (H:AB):T3 108 a H=s108 a H:=rfl
theorem TL {s:List UInt8} {i:Nat} (hi:i<s.length) (h:FV ((s[i]).toNat:Int)=false):s.all TK=false:=by
 refine YZ.2 λhh=>?_
 have:=X2.1 hh s[i] (X4 hi)
 unfold TK at this
 rw[h]at this;cases this
theorem TM {s:List UInt8} (h:∀j (hj:j<s.length),FV ((s[j]).toNat:Int)=true):s.all TK=true:=by
 refine X2.2 λx hx=>?_
 obtain⟨j,hj,rfl⟩:=Xk.1 hx
 exact h j hj
theorem TN (s:List UInt8):scmp .eql s []=decide (s.length=0):=by cases s<;>rfl
theorem p74 (s:List UInt8):Pur Tryz.prog 74 [.str s] (.bool (CC s)):=by
 refine .mk (by simp [unders,AVal.under]) trivial (a74 (AF T3_ok (AG ?_)))
 simp only[eE,eN,Kk,sel,reduceCtorEq,Nat.reduceEqDiff,↓reduceIte,Int.reduceLE,Int.reduceToNat,c74,UR,sB,u8_lt,TN]
 refine⟨by omega,λh=>?_,λh=>?_⟩
 ·refine(YZ.2 λhh=>?_).symm
  simp only[CC,W8,Wy]at hh
  obtain⟨⟨⟨h1,h2⟩,h3⟩,-⟩:=hh
  rcases h with(h|h)|h
  ·omega
  ·omega
  ·rw[Q3]at h;exact h h3
 refine AV (λi:Nat=>⟨[(0,true,.str s),(19,true,.int .i64 s.length),(20,true,.int .i64 i)],hnil,0⟩)
  (λi=>i<=s.length/\∀j (hj:j<s.length),j<i->FV ((s[j]).toNat:Int)=true) (λi=>s.length-i) 0 rfl ⟨by omega,λj _ hj=>by omega⟩ ?_
 rintro i ⟨hi,hall⟩
 by_cases hlt:i<s.length
 ·have e:=AL (k:=i) (by omega)
  simp only[eE,eN,Kk,sel,reduceCtorEq,Nat.reduceEqDiff,↓reduceIte,Int.reduceEq,UR,sB,u8_lt,Int.ofNat_lt,hlt,W5,W3,e,W4 hlt,W2]
  refine⟨λhp=>?_,λhp=>.mk (i+1) rfl ⟨by omega,λj hj hji=>?_⟩ (by omega)⟩
  ·have:FV ((s[i]).toNat:Int)=false:=YZ.2 λhh=>by rw[<-NI]at hh;simp [hp]at hh
   simp only[CC,TL hlt this,Bool.and_false]
  ·by_cases q:j=i
   ·subst q;rw[<-NI];simp at hp;omega
   ·exact hall j hj (by omega)
 ·simp only[eE,eN,Kk,sel,reduceCtorEq,Nat.reduceEqDiff,↓reduceIte,Int.reduceEq,Int.ofNat_lt,hlt]
  rw[CC,TM λj hj=>hall j hj (by omega)]
  have h3:=h.2
  rw[Q3]at h3
  simp [letB,h3];omega
end Go.AM
namespace Go.AM
open Go.Proofs Go.Lib
structure Cnd where
 k:Int
 cs:List Int
 ls:List Int
 n:Int
structure Prm where
 c:Int
 ls:List Int
structure Lma where
 nm:Bs
 lv:Int
 cs:List Bs
 ls:List Bs
 qs:List Cnd
 ps:List Prm
 c:Int
 l:Int
def idxS (l:List Bs) (s:Bs):Int:=match l.findIdx? (λx=>decide (x=s))with
 |some k=>k
 |none=>-1
def Av {α:Type} [DecidableEq α]:List α->Bool
 |[]=>true
 |x::r=>!(r.any λy=>decide (y=x))&&Av r
def CR (l:List Bs) (most:Nat):Bool:=l.all CC&&Av l&&decide (1<=l.length)&&decide (l.length<=most)
def difI (l:List Int) (n:Nat):Bool:=(l.all λk=>decide (0<=k)&&decide (k<n))&&Av l
def CM (q:Cnd) (nc nl:Nat):Bool:=difI q.cs nc&&decide (1<=q.cs.length)&&difI q.ls nl&&
 (if q.k=1\/q.k=4 then decide (2<=q.cs.length)&&decide (q.ls.length=0)&&decide (q.n=0)
  else if q.k=2 then decide (q.ls.length=1)&&decide (q.n=0)
  else if q.k=3 then decide (q.cs.length=2)&&decide (q.ls.length=0)&&decide (1<=q.n)&&decide (q.n<=99)
  else if q.k=5 then decide (q.cs.length=2)&&decide (q.ls.length=0)&&decide (q.n=0)
  else if q.k=6 then decide (1<=q.ls.length)&&decide (0<=q.n)&&decide (q.n<=q.cs.length)
  else false)
def HU (x:Lma):Bool:=CC x.nm&&decide (1<=x.lv)&&decide (x.lv<=8)&&CR x.cs 4&&CR x.ls 3&&decide (x.qs.length<=6)&&
 difI [x.c] x.cs.length&&difI [x.l] x.ls.length&&(x.qs.all λq=>CM q x.cs.length x.ls.length)&&
 (x.ps.all λp=>difI p.ls x.ls.length&&decide (1<=p.ls.length))&&difI (x.ps.map (·.c)) x.cs.length
structure OKL (x:Lma):Prop where
 nm:CC x.nm=true
 lv:1<=x.lv/\x.lv<=8
 cs:x.cs.all CC=true/\Av x.cs=true/\1<=x.cs.length/\x.cs.length<=4
 ls:x.ls.all CC=true/\Av x.ls=true/\1<=x.ls.length/\x.ls.length<=3
 nq:x.qs.length<=6
 c:0<=x.c/\x.c<x.cs.length
 l:0<=x.l/\x.l<x.ls.length
 qs:∀q∈x.qs,CM q x.cs.length x.ls.length=true
 ps:∀p∈x.ps,difI p.ls x.ls.length=true/\1<=p.ls.length
 pc:difI (x.ps.map (·.c)) x.cs.length=true
theorem MD (x:Lma):HU x=true↔OKL x:=by
 unfold HU CR
 simp only[W8,Wy,X2 (p:=λq=>CM q x.cs.length x.ls.length),X2 (p:=λp:Prm=>difI p.ls x.ls.length&&decide (1<=p.ls.length))]
 constructor
 ·rintro⟨⟨⟨⟨⟨⟨⟨⟨⟨⟨h1,h2⟩,h3⟩,⟨⟨⟨c1,c2⟩,c3⟩,c4⟩⟩,⟨⟨⟨l1,l2⟩,l3⟩,l4⟩⟩,h6⟩,h7⟩,h8⟩,h9⟩,h10⟩,h11⟩
  refine⟨h1,⟨h2,h3⟩,⟨c1,c2,c3,c4⟩,⟨l1,l2,l3,l4⟩,h6,?_,?_,h9,λp hp=>h10 p hp,h11⟩
  ·simp [difI]at h7;exact h7.1
  ·simp [difI]at h8;exact h8.1
 ·rintro⟨h1,⟨h2,h3⟩,⟨c1,c2,c3,c4⟩,⟨l1,l2,l3,l4⟩,h6,h7,h8,h9,h10,h11⟩
  exact⟨⟨⟨⟨⟨⟨⟨⟨⟨⟨h1,h2⟩,h3⟩,⟨⟨⟨c1,c2⟩,c3⟩,c4⟩⟩,⟨⟨⟨l1,l2⟩,l3⟩,l4⟩⟩,h6⟩,by simp [difI,Av,h7.1,h7.2]⟩,by simp [difI,Av,h8.1,h8.2]⟩,h9⟩,λp hp=>h10 p hp⟩,h11⟩
theorem Dg {l:List Int} {n:Nat} (h:difI l n=true):(l.all λk=>decide (0<=k)&&decide (k<n))=true:=by
 unfold difI at h
 rw[W8]at h;exact h.1
structure CndOK (q:Cnd) (nc nl:Nat):Prop where
 cs:difI q.cs nc=true
 ne:1<=q.cs.length
 ls:difI q.ls nl=true
 kind:((q.k=1\/q.k=4)/\2<=q.cs.length/\q.ls.length=0/\q.n=0)\/(q.k=2/\q.ls.length=1/\q.n=0)\/(q.k=3/\q.cs.length=2/\q.ls.length=0/\1<=q.n/\q.n<=99)\/(q.k=5/\q.cs.length=2/\q.ls.length=0/\q.n=0)\/(q.k=6/\1<=q.ls.length/\0<=q.n/\q.n<=q.cs.length)
theorem Q4 {q:Cnd} {nc nl:Nat} (h:CM q nc nl=true):CndOK q nc nl:=by
 unfold CM at h
 simp only[W8,Wy]at h
 obtain⟨⟨⟨h1,h2⟩,h3⟩,h4⟩:=h
 refine⟨h1,h2,h3,?_⟩
 split at h4
 ·rename_i hk
  simp only[W8,Wy]at h4
  exact .inl ⟨hk,h4.1.1,h4.1.2,h4.2⟩
 split at h4
 ·rename_i hk
  simp only[W8,Wy]at h4
  exact .inr (.inl ⟨hk,h4.1,h4.2⟩)
 split at h4
 ·rename_i hk
  simp only[W8,Wy]at h4
  exact .inr (.inr (.inl ⟨hk,h4.1.1.1,h4.1.1.2,h4.1.2,h4.2⟩))
 split at h4
 ·rename_i hk
  simp only[W8,Wy]at h4
  exact .inr (.inr (.inr (.inl ⟨hk,h4.1.1,h4.1.2,h4.2⟩)))
 split at h4
 ·rename_i hk
  simp only[W8,Wy]at h4
  exact .inr (.inr (.inr (.inr ⟨hk,h4.1.1,h4.1.2,h4.2⟩)))
 ·cases h4
end Go.AM
namespace Go.AM
open Go.Proofs Go.Lib
structure DSym where
 nm:List UInt8
 v:Int
 deriving DecidableEq
structure DReg where
 nm:List UInt8
 ls:List (List Int)
 deriving DecidableEq
structure DClu where
 nm:List UInt8
 on:List UInt8
 fam:Int
 ty:Int
 lo:Int
 hi:Int
 deriving DecidableEq
structure DRul where
 nm:List UInt8
 on:List UInt8
 kind:Int
 fam:Int
 ns:List (List UInt8)
 os:List (List UInt8)
 set:Int
 oth:Int
 op:Int
 n:Int
 byN:List UInt8
 clue:Int
 deriving DecidableEq
structure Dcl where
 nm:List UInt8
 ver:Int
 sh:Int
 w:Int
 h:Int
 holes:List Int
 syms:List DSym
 regs:List DReg
 clus:List DClu
 ruls:List DRul
 deriving DecidableEq
def GC:List (List UInt8):=[[99,101,108,108,115],[114,111,119,115],[99,111,108,117,109,110,115],[100,105,97,103,111,110,97,108,115],[97,114,111,117,110,100],[110,101,97,114],[112,97,105,114,115],[97,108,108]]
def Ai {α:Type} [DecidableEq α]:List α->Bool
 |[]=>false
 |x::r=>(r.any λy=>decide (y=x))||Ai r
def GP (d:Dcl):List (List UInt8):=GC++d.regs.map (·.nm)
def B3 (l:List (List UInt8)) (s:List UInt8):Option Int:=(l.findIdx? λx=>decide (x=s)).map λ(i:Nat)=>(i:Int)
def FA (l:List (List UInt8)):List (List UInt8)->Option Int
 |[]=>some 0
 |s::r=>match l.findIdx? (λx=>decide (x=s)),FA l r with
  |some i,some n=>some (Int.ofNat (Nat.lor (1<<<i) n.toNat))
  |_,_=>none
def C4 (d:Dcl) (c:DClu):Option DClu:=(B3 (GP d) c.on).map λf=>{c with fam:=f}
def BS (d:Dcl) (r:DRul):Option DRul:=
 match (if r.on=[]then some 0 else B3 (GP d) r.on),FA (d.syms.map (·.nm)) r.ns,FA (d.syms.map (·.nm)) r.os,(if r.byN=[]then some (-1)else B3 (d.clus.map (·.nm)) r.byN)with
 |some f,some a,some b,some c=>some {r with fam:=f,set:=a,oth:=b,clue:=c}
 |_,_,_,_=>none
def Ae {α β:Type} (f:α->Option β):List α->Option (List β)
 |[]=>some []
 |x::r=>match f x,Ae f r with
  |some y,some s=>some (y::s)
  |_,_=>none
def resD (d:Dcl):Except Int Dcl:=
 if 16<d.syms.length then .error 2 else if Ai (d.syms.map (·.nm))then .error 161 else if Ai (GP d)then .error 161 else if Ai (d.clus.map (·.nm))then .error 161
 else match Ae (C4 d) d.clus with
  |none=>.error 160
  |some cs=>if Ai (d.ruls.map (·.nm))then .error 161 else match Ae (BS d) d.ruls with
   |none=>.error 160
   |some rs=>.ok {d with clus:=cs,ruls:=rs}
def C9:Int->List Int->Bool
 |_,[]=>true
 |a,x::r=>decide (a<x)&&C9 x r
def Aj (sh w h:Int) (holes:List Int):Option (List Int):=
 if(sh=1\/sh=2)/\1<=w/\w<=16/\1<=h/\h<=16/\(holes.length:Int)<w*h/\C9 (-1) holes=true/\(holes.all λp=>decide (p<w*h))=true then
  some (((List.range (w*h).toNat).map λ(i:Nat)=>(i:Int)).filter λp=>!holes.contains p)
 else none
def EG (cells l:List Int):Bool:=(l.all λp=>cells.contains p)&& !Ai l&&decide (1<=l.length)
def Kl (a b:List Int):Bool:=(a.all λx=>b.contains x)&&b.all λx=>a.contains x
def Bx:List (List Int)->Bool
 |[]=>false
 |x::r=>(r.any λy=>Kl y x)||Bx r
def regE (cells:List Int) (r:DReg):Int:=if(decide (r.ls.length<=64)&&r.ls.all (EG cells))=false then 130 else if Bx r.ls=true then 161 else 0
def Dh (cells:List Int):List DReg->Int
 |[]=>0
 |r::s=>if regE cells r=0 then Dh cells s else regE cells r
def GQ (c:DClu):Bool:=
 if c.ty=1 then decide (c.fam=0)&&decide (c.lo=0)&&decide (c.hi=0)
 else if c.ty=2 then decide (0<=c.lo)&&decide (c.lo<=c.hi)&&decide (c.hi<=65536)
 else if c.ty=3 then(decide (1<=c.fam)&&decide (c.fam<=3)||decide (8<=c.fam))&&decide (c.lo=0)&&decide (c.hi=0)
 else false
structure FormD where
 on:Bool:=false
 set:Bool:=false
 oth:Bool:=false
 bnd:Bool:=false
 num:Bool:=false
 rdb:Bool:=false
 knw:Bool:=false
 clue:Int:=0
def Je (k:Int):FormD:=
 if k=1 then{on:=true,rdb:=true,knw:=true}else if k=2 then{on:=true,set:=true,bnd:=true,rdb:=true,knw:=true}
 else if k=3 then{on:=true,bnd:=true,rdb:=true,knw:=true}else if k=4 then{on:=true,rdb:=true,knw:=true}
 else if k=5 then{on:=true,set:=true,rdb:=true,knw:=true,clue:=3}else if k=6 then{rdb:=true,knw:=true}
 else if k=7 then{num:=true,rdb:=true,knw:=true}else if k=8 then{set:=true,oth:=true,rdb:=true,knw:=true}
 else if k=9 then{set:=true,rdb:=true,knw:=true}else if k=10 then{set:=true,rdb:=true,knw:=true}
 else if k=11 then{rdb:=true,knw:=true,clue:=1}else if k=12 then{on:=true,knw:=true}else if k=13 then{bnd:=true,knw:=true}else{}
def cluP (cl:List DClu) (r:DRul) (w:Int):Bool:=if r.clue<0\/(cl.length:Int)<=r.clue then false else match cl[r.clue.toNat]? with
 |some c=>decide (c.ty=w)&&(decide (w=1)||decide (c.fam=r.fam))
 |none=>false
def HV (cl:List DClu) (r:DRul):Bool:=
 let f:=Je r.kind
 if f.knw=false then false
 else if(f.on !=decide (r.on≠[]))||(f.set !=decide (r.set≠0))||(f.oth !=decide (r.oth≠0))||(!f.on&&decide (r.fam≠0))||(!f.set&&decide (0<r.ns.length))||(!f.oth&&decide (0<r.os.length))then false
 else if(f.bnd !=(decide (1<=r.op)&&decide (r.op<=3)))||(!f.bnd&&decide (r.op≠0))||decide (r.n<0)||decide (65536<r.n)then false
 else if !(f.num||f.bnd&&decide (r.byN=[]))&&decide (r.n≠0)then false
 else
  let want:=if f.bnd&&decide (r.byN≠[])then 2 else f.clue
  if want=0 then decide (r.byN=[])&&decide (r.clue= -1)else cluP cl r want
def IB (rs:List DRul) (i:Nat):Nat:=(rs.filter λr=>decide (r.clue=(i:Int))).length
def CT (d:Dcl):Bool:=(d.syms.all λs=>decide (0<=s.v)&&decide (s.v<=99))&&d.ruls.all (HV d.clus)&&((List.range d.clus.length).all λi=>decide (IB d.ruls i=1))&&d.clus.all GQ
def Jf (r:DRul):Bool:=decide (1<=r.kind)&&decide (r.kind<=11)
def Bd (rs:List DRul):List Int:=((List.range rs.length).filter λi=>match rs[i]? with|some r=>!Jf r|none=>false).map λ(i:Nat)=>(i:Int)
def limD (d:Dcl):Bool:=decide (0<d.syms.length)&&decide (d.syms.length<=16)&&decide (d.regs.length<=4)&&decide (d.clus.length<=4)&&decide (d.ruls.length<=16)
def chkD (d:Dcl):Int:=
 if limD d=false then 2 else match resD d with
  | .error e=>e
  | .ok x=>if x≠d then 170 else if d.ver<1\/255<d.ver then 170 else match Aj d.sh d.w d.h d.holes with
   |none=>130
   |some cells=>if Dh cells d.regs≠0 then Dh cells d.regs else if CT d=false then 170 else if Bd d.ruls≠[]then 171 else 0
end Go.AM
namespace Go.AM
open Go.Proofs Go.Lib
abbrev leI (x y:Int):Bool:=decide (x<=y)
theorem CD {α:Type} [DecidableEq α]:∀{l:List α},Ai l=false↔l.Nodup
 |[]=>by simp [Ai]
 |x::r=>by
  have ih:=CD (l:=r)
  simp only[Ai,Yy,YE,Wy,Yo,ih]
  constructor
  ·exact λ⟨h1,h2⟩=>⟨λhx=>h1 x hx rfl,h2⟩
  ·exact λ⟨h1,h2⟩=>⟨λy hy e=>h1 (e▸hy),h2⟩
theorem Q5 {a b:List Int}:Kl a b=true↔∀x,x∈a↔x∈b:=by
 unfold Kl
 simp only[W8,X2,XS]
 exact⟨λ⟨h1,h2⟩ x=>⟨h1 x,h2 x⟩,λh=>⟨λx hx=>(h x).1 hx,λx hx=>(h x).2 hx⟩⟩
theorem FW (l:List Int):List.Pairwise (λx y=>x<=y) (l.mergeSort leI):=by
 have:=List.pairwise_mergeSort (le:=leI) (λa b c h1 h2=>by simp only[leI,Wy]at*;omega) (λa b=>by simp only[leI,X9,Wy];omega) l
 exact this.imp λh=>by simpa using h
theorem Iu {a b:List Int} (ha:a.Nodup) (hb:b.Nodup):Kl a b=decide (a.mergeSort leI=b.mergeSort leI):=by
 rw[XI,Q5,Wy,<-List.perm_ext_iff_of_nodup ha hb]
 constructor
 ·intro h
  have p:(a.mergeSort leI).Perm (b.mergeSort leI):=(YG a leI).trans (h.trans (YG b leI).symm)
  exact p.eq_of_pairwise (le:=λx y:Int=>x<=y) (λx y _ _ h1 h2=>by omega) (FW a) (FW b)
 ·intro h
  exact(YG a leI).symm.trans (h▸YG b leI)
theorem nd {α:Prop} [Decidable α]:decide α= !decide (¬α):=by by_cases h:α<;>simp [h]
end Go.AM
namespace Go.AM
open Go.Proofs Go.Lib
theorem CN {α:Type} {f:α->Option α}:∀{l:List α},Ae f l=some l↔∀x∈l,f x=some x
 |[]=>by simp [Ae]
 |x::r=>by
  have ih:=CN (f:=f) (l:=r)
  simp only[Ae,Xo,Zc,<-ih]
  cases h1:f x with
  |none=>simp
  |some y=>
   cases h2:Ae f r with
   |none=>simp
   |some s=>simp
structure ResOK (d:Dcl):Prop where
 n16:d.syms.length<=16
 ts:Ai (d.syms.map (·.nm))=false
 tf:Ai (GP d)=false
 tc:Ai (d.clus.map (·.nm))=false
 tr:Ai (d.ruls.map (·.nm))=false
 cl:∀c∈d.clus,C4 d c=some c
 ru:∀r∈d.ruls,BS d r=some r
theorem Km {d:Dcl}:resD d= .ok d↔ResOK d:=by
 constructor
 ·intro h
  unfold resD at h
  split at h
  ·cases h
  split at h
  ·cases h
  split at h
  ·cases h
  split at h
  ·cases h
  rename_i h1 h2 h3 h4
  cases hc:Ae (C4 d) d.clus with
  |none=>rw[hc]at h;cases h
  |some cs=>
   rw[hc]at h
   simp only at h
   split at h
   ·cases h
   rename_i h5
   cases hr:Ae (BS d) d.ruls with
   |none=>rw[hr]at h;cases h
   |some rs=>
    rw[hr]at h
    simp only[Except.ok.injEq]at h
    have e1:cs=d.clus:=congrArg Dcl.clus h
    have e2:rs=d.ruls:=congrArg Dcl.ruls h
    subst e1;subst e2
    exact⟨by omega,by simpa using h2,by simpa using h3,by simpa using h4,by simpa using h5,CN.1 hc,CN.1 hr⟩
 ·intro h
  unfold resD
  rw[Ww (by have:=h.n16;omega),h.ts,h.tf,h.tc,CN.2 h.cl]
  simp only[Xa,Xl]
  rw[h.tr,CN.2 h.ru]
  rfl
structure DclOK (d:Dcl):Prop where
 lim:limD d=true
 res:ResOK d
 ver:1<=d.ver/\d.ver<=255
 reg:∃cells,Aj d.sh d.w d.h d.holes=some cells/\Dh cells d.regs=0
 form:CT d=true
theorem WO {d:Dcl} (h:DclOK d):chkD d=if Bd d.ruls≠[]then 171 else 0:=by
 obtain⟨cells,h1,h2⟩:=h.reg
 unfold chkD
 rw[h.lim,Km.2 h.res]
 simp only[Bool.true_eq_false,Xl,ne_eq,YF]
 rw[Ww (by have:=h.ver;omega),h1]
 simp only[h2,h.form,YF,Xl,Bool.true_eq_false]
theorem TO {d:Dcl}:chkD d=0↔DclOK d/\Bd d.ruls=[]:=by
 constructor
 ·intro h
  unfold chkD at h
  split at h
  ·cases h
  rename_i h1
  cases hr:resD d with
  |error e=>
   rw[hr]at h
   simp only at h
   unfold resD at hr
   subst h
   split at hr
   ·cases hr
   split at hr
   ·cases hr
   split at hr
   ·cases hr
   split at hr
   ·cases hr
   split at hr
   ·cases hr
   split at hr
   ·cases hr
   split at hr<;>cases hr
  |ok x=>
   rw[hr]at h
   simp only at h
   split at h
   ·cases h
   rename_i h2
   have h2:x=d:=by simpa using h2
   subst h2
   split at h
   ·cases h
   rename_i h3
   cases hc:Aj x.sh x.w x.h x.holes with
   |none=>rw[hc]at h;cases h
   |some cells=>
    rw[hc]at h
    simp only at h
    split at h
    ·rename_i h4;exact absurd h h4
    rename_i h4
    split at h
    ·cases h
    rename_i h5
    split at h
    ·cases h
    rename_i h6
    exact⟨⟨by simpa using h1,Km.1 hr,by omega,⟨cells,hc,by simpa using h4⟩,by simpa using h5⟩,by simpa using h6⟩
 ·rintro⟨h1,h2⟩
  rw[WO h1,Ww (by rw[h2];exact λh=>h rfl)]
theorem NJ {d x:Dcl} (h:resD d= .ok x):x.nm=d.nm/\x.ver=d.ver/\x.sh=d.sh/\x.w=d.w/\x.h=d.h/\x.holes=d.holes/\x.syms=d.syms/\x.regs=d.regs:=by
 unfold resD at h
 split at h
 ·cases h
 split at h
 ·cases h
 split at h
 ·cases h
 split at h
 ·cases h
 split at h
 ·cases h
 split at h
 ·cases h
 split at h
 ·cases h
 ·cases h;exact⟨rfl,rfl,rfl,rfl,rfl,rfl,rfl,rfl⟩
end Go.AM
namespace Go.AM
open Go.Proofs Go.Lib
theorem Oc (rs:List DRul) (r:DRul):Bd (rs++[r])=Bd rs++(if Jf r=true then[]else[(rs.length:Int)]):=by
 unfold Bd
 rw[X8,List.length_singleton,YH,Yb,X3]
 congr 1
 ·congr 1
  apply Z6
  intro i hi
  have:=XG.1 hi
  rw[XW this]
 ·rw[XY,XQ (Wu _),Nat.sub_self]
  simp only[Wv,List.filter_nil]
  by_cases h:Jf r=true
  ·simp [h]
  ·simp [show Jf r=false by simpa using h]
theorem Q6 {α:Type} [DecidableEq α] {l:List α} {x:α}:Ai (l++[x])=false↔Ai l=false/\x∉l:=by
 rw[CD,CD,Yi]
 simp only[Yo,YV,Z0,Zi,and_self,Y9,Xh]
 constructor
 ·exact λ⟨h1,h2⟩=>⟨h1,λhx=>h2 x hx x rfl rfl⟩
 ·exact λ⟨h1,h2⟩=>⟨h1,λa ha b hb e=>h2 (by rw[<-hb,<-e];exact ha)⟩
theorem Q7 {l:List (List UInt8)} {s:List UInt8} {n:Int} (h:B3 l s=some n):0<=n/\n<l.length:=by
 unfold B3 at h
 rw[XE]at h
 obtain⟨i,h1,rfl⟩:=h
 have:=Xi.1 h1
 obtain⟨hi,-⟩:=this
 omega
end Go.AM
namespace Go.AM
open Go.Proofs Go.Lib
end Go.AM
namespace Go.AM
open Go.Proofs Go.Lib
end Go.AM
namespace Go.AM
open Go.Proofs Go.Lib
structure SmallD (d:Dcl):Prop where
 top:d.nm.length+d.holes.length+d.syms.length+d.regs.length+d.clus.length+d.ruls.length<2000
 sy:∀s∈d.syms,s.nm.length<2000
 rg:∀r∈d.regs,r.nm.length+r.ls.length<2000/\∀l∈r.ls,l.length<2000
 cl:∀c∈d.clus,c.nm.length+c.on.length<2000
 ru:∀r∈d.ruls,r.nm.length+r.on.length+r.byN.length+r.ns.length+r.os.length<2000/\(∀s∈r.ns,s.length<2000)/\∀s∈r.os,s.length<2000
end Go.AM
namespace Go.AM
open Go.Proofs Go.Lib
theorem Iv:∀{a:Int} {l:List Int},C9 a l=true↔(∀x∈l,a<x)/\List.Pairwise (λx y=>x<y) l
 |a,[]=>by simp [C9]
 |a,x::r=>by
  have ih:=Iv (a:=x) (l:=r)
  simp only[C9,W8,Wy,ih,Xo,Zc,YI]
  constructor
  ·exact λ⟨h1,h2,h3⟩=>⟨⟨h1,λy hy=>by have:=h2 y hy;omega⟩,h2,h3⟩
  ·exact λ⟨⟨h1,h2⟩,h3,h4⟩=>⟨h1,h3,h4⟩
def Eo (n:Int):List Int:=(List.range n.toNat).map λ(i:Nat)=>(i:Int)
theorem WP {n x:Int}:x∈Eo n↔0<=x/\x<n:=by
 unfold Eo
 rw[Xg]
 constructor
 ·rintro⟨i,hi,rfl⟩
  have:=XG.1 hi
  omega
 ·intro h
  exact⟨x.toNat,XG.2 (by omega),by omega⟩
theorem WQ (n:Int):(Eo n).length=n.toNat:=by simp [Eo]
theorem BG {sh w h:Int} {holes cells:List Int} (hc:Aj sh w h holes=some cells):List.Pairwise (λx y=>x<y) cells/\cells.length<=256/\∀x∈cells,0<=x/\x<256:=by
 unfold Aj at hc
 split at hc
 ·rename_i hcond
  obtain⟨-,a,b,c,d,-⟩:=hcond
  cases hc
  have hwh:w*h<=256:=by
   have:w*h<=16*16:=Int.mul_le_mul b d (by omega) (by omega)
   omega
  have hpw:List.Pairwise (λx y:Int=>x<y) (Eo (w*h)):=by
   unfold Eo
   rw[List.pairwise_map]
   exact Z5.imp λq=>by omega
  refine⟨hpw.sublist List.filter_sublist,?_,λx hx=>?_⟩
  ·have h1:=XR (λp=>!holes.contains p) (Eo (w*h))
   rw[WQ]at h1
   have:((Eo (w*h)).filter λp=>!holes.contains p).length<=256:=by omega
   exact this
  ·have:=WP.1 (Y0.1 hx).1
   omega
 ·cases hc
end Go.AM
namespace Go.AM
open Go.Proofs Go.Lib
def lowB (l:List Int) (x:Int):Nat:=(l.filter λy=>decide (y<x)).length
theorem ME:∀{l:List Int} {x:Int} {i:Nat},i<=l.length->(∀k (hk:k<l.length),k<i->l[k]<x)->(∀k (hk:k<l.length),i<=k->x<=l[k])->lowB l x=i
 |[],x,i,hi,_,_=>by simp at hi;subst hi;rfl
 |y::r,x,0,_,_,h2=>by
  have h0:=h2 0 (by simp) (Wu 0)
  have ih:=ME (l:=r) (x:=x) (i:=0) (X1 _) (λk hk h=>by omega) (λk hk _=>h2 (k+1) (by simp;omega) (X1 _))
  unfold lowB at ih⊢
  rw[XY,Ww (by simp at h0;simp;omega)];exact ih
 |y::r,x,i+1,hi,h1,h2=>by
  have h0:=h1 0 (by simp) (by omega)
  have ih:=ME (l:=r) (x:=x) (i:=i) (by simp at hi;omega) (λk hk h=>h1 (k+1) (by simp;omega) (by omega)) (λk hk h=>h2 (k+1) (by simp;omega) (by omega))
  unfold lowB at ih⊢
  rw[XY,X0 (by simpa using h0),X6,ih]
theorem WR {l:List Int} (hp:List.Pairwise (λx y=>x<y) l) {i j:Nat} (hj:j<l.length) (hij:i<=j):l[i]<=l[j]:=by
 by_cases e:i=j
 ·subst e;exact Xn _
 ·have:=Yr.1 hp i j (by omega) hj (by omega)
  omega
def HW (cells:List Int):List Int->List Int->Bool
 |_,[]=>true
 |met,p::r=>cells.contains p&& !met.contains p&&HW cells (met++[p]) r
theorem Q8 (cells:List Int):∀(l met:List Int),HW cells met l=true↔(∀p∈l,p∈cells/\p∉met)/\l.Nodup
 |[],met=>by simp [HW]
 |p::r,met=>by
  have ih:=Q8 cells r (met++[p])
  simp only[HW,W8,XK,XS,ih,Xo,Zc,Yo,XB,YV,or_false,not_or]
  rw[<-Bool.not_eq_true,XS]
  constructor
  ·exact λ⟨⟨a,b⟩,c,d⟩=>⟨⟨⟨a,b⟩,λx hx=>⟨(c x hx).1,(c x hx).2.1⟩⟩,λhm=>(c p hm).2.2 rfl,d⟩
  ·exact λ⟨⟨⟨a,b⟩,c⟩,d,e⟩=>⟨⟨a,b⟩,λx hx=>⟨(c x hx).1,(c x hx).2,λq=>d (q▸hx)⟩,e⟩
theorem Jg (cells l:List Int):EG cells l=(HW cells [] l&&decide (1<=l.length)):=by
 unfold EG
 congr 1
 rw[XI,Q8,W8,X2]
 simp only[XS,YV,Z0,YA,XK,CD]
end Go.AM
namespace Go.AM
open Go.Proofs Go.Lib
theorem BP {l:List (List UInt8)} {s:List UInt8}:B3 l s=none↔s∉l:=by
 unfold B3
 rw[YD,XN]
 simp only[XX]
 exact⟨λh hm=>h s hm rfl,λh x hx e=>h (e▸hx)⟩
theorem Iw {l:List (List UInt8)} {s:List UInt8} {r:List (List UInt8)}:FA l (s::r)=match l.findIdx? (λx=>decide (x=s)),FA l r with
  |some i,some n=>some (Int.ofNat (Nat.lor (1<<<i) n.toNat))
  |_,_=>none:=rfl
def bits (is:List Nat):Nat:=is.foldr (λi n=>Nat.lor (1<<<i) n) 0
theorem Od {l ss:List (List UInt8)}:FA l ss=(Ae (λs=>l.findIdx? λx=>decide (x=s)) ss).map λis=>(bits is:Int):=by
 induction ss with
 |nil=>rfl
 |cons s r ih=>
  rw[Iw,ih]
  simp only[Ae]
  cases l.findIdx? λx=>decide (x=s)with
  |none=>rfl
  |some i=>
   cases Ae (λs=>l.findIdx? λx=>decide (x=s)) r with
   |none=>rfl
   |some is=>rfl
end Go.AM
namespace Go.AM
open Go.Proofs Go.Lib
theorem NK:∀{a b:List Int},List.Pairwise (λx y=>x<y) a->List.Pairwise (λx y=>x<y) b->(∀x,x∈a↔x∈b)->a=b
 |[],[],_,_,_=>rfl
 |[],y::s,_,_,h=>by have:=(h y).2 (by simp);cases this
 |x::r,[],_,_,h=>by have:=(h x).1 (by simp);cases this
 |x::r,y::s,ha,hb,h=>by
  obtain⟨a1,a2⟩:=YI.1 ha
  obtain⟨b1,b2⟩:=YI.1 hb
  have e:x=y:=by
   rcases Xo.1 ((h x).1 (by simp))with q|q
   ·exact q
   ·rcases Xo.1 ((h y).2 (by simp))with p|p
    ·exact p.symm
    ·have:=a1 y p;have:=b1 x q;omega
  subst e
  refine congrArg _ (NK a2 b2 λz=>?_)
  constructor
  ·intro hz
   rcases Xo.1 ((h z).1 (by simp [hz]))with q|q
   ·subst q;have:=a1 z hz;omega
   ·exact q
  ·intro hz
   rcases Xo.1 ((h z).2 (by simp [hz]))with q|q
   ·subst q;have:=b1 z hz;omega
   ·exact q
theorem Gb {sh w h:Int} {holes cells:List Int} (hc:Aj sh w h holes=some cells):(sh=1\/sh=2)/\1<=w/\w<=16/\1<=h/\h<=16/\(holes.length:Int)<w*h/\(∀x∈holes,0<=x/\x<w*h)/\List.Pairwise (λx y=>x<y) holes/\cells=(Eo (w*h)).filter λp=>!holes.contains p:=by
 unfold Aj at hc
 split at hc
 ·rename_i hq
  obtain⟨a,b,c,d,e,f,g,i⟩:=hq
  cases hc
  rw[Iv]at g
  simp only[X2,Wy]at i
  exact⟨a,b,c,d,e,f,λx hx=>⟨by have:=g.1 x hx;omega,i x hx⟩,g.2,rfl⟩
 ·cases hc
theorem wh_le {w h:Int} (h1:1<=w) (h2:w<=16) (h3:1<=h) (h4:h<=16):1<=w*h/\w*h<=256:=by
 have a:w*h<=16*16:=Int.mul_le_mul h2 h4 (by omega) (by omega)
 have b:1*1<=w*h:=Int.mul_le_mul h1 h3 (by omega) (by omega)
 omega
def B4 (cells l:List Int):List Int:=l.map λp=>(lowB cells p:Int)
theorem US {l:List Int} (hp:List.Pairwise (λx y=>x<y) l) {i:Nat} (hi:i<l.length):lowB l l[i]=i:=by
 refine ME (Nat.le_of_lt hi) (λk hk h=>Yr.1 hp k i hk hi h) λk hk h=>WR hp hk h
theorem WS {l:List Int} (hp:List.Pairwise (λx y=>x<y) l) {x y:Int} (hx:x∈l) (hy:y∈l) (h:lowB l x=lowB l y):x=y:=by
 obtain⟨i,hi,rfl⟩:=Xk.1 hx
 obtain⟨j,hj,rfl⟩:=Xk.1 hy
 rw[US hp hi,US hp hj]at h
 subst h;rfl
theorem Jh:∀{l:List (List Int)},Bx l=true↔∃(a b:Nat) (ha:a<l.length) (hb:b<l.length),b<a/\Kl l[a] l[b]=true
 |[]=>by simp [Bx]
 |x::r=>by
  have ih:=Jh (l:=r)
  simp only[Bx,X9,ih,Yz]
  constructor
  ·rintro(⟨y,hy,h⟩|⟨a,b,ha,hb,hab,h⟩)
   ·obtain⟨i,hi,rfl⟩:=Xk.1 hy
    exact⟨i+1,0,by simp;omega,by simp,by omega,h⟩
   ·exact⟨a+1,b+1,by simp;omega,by simp;omega,by omega,h⟩
  ·rintro⟨a,b,ha,hb,hab,h⟩
   cases a with
   |zero=>omega
   |succ a=>
    cases b with
    |zero=>exact .inl ⟨r[a]'(by simp at ha;omega),X4 _,h⟩
    |succ b=>exact .inr ⟨a,b,by simp at ha;omega,by simp at hb;omega,by omega,h⟩
theorem Q9 (cells:List Int) (l:List DReg) (i:Nat) (hi:i<l.length):Dh cells (l.drop i)=if regE cells l[i]=0 then Dh cells (l.drop (i+1))else regE cells l[i]:=by
 rw[Xj hi];rfl
theorem GD {cells l:List Int} (h:EG cells l=true):l.Nodup/\1<=l.length/\∀p∈l,p∈cells:=by
 unfold EG at h
 simp only[W8,XK,Wy,CD,X2,XS]at h
 exact⟨h.1.2,h.2,h.1.1⟩
end Go.AM
namespace Go.AM
open Go.Proofs Go.Lib
abbrev eLl (l:List (List Int)):AVal:=.sl (.none 1) (l.map eIs)
abbrev IC (s:DSym):AVal:=.agg [.str s.nm,.int .i64 s.v]
abbrev GR (r:DReg):AVal:=.agg [.str r.nm,eLl r.ls]
abbrev By (c:DClu):AVal:=.agg [.str c.nm,.str c.on,.int .i64 c.fam,.int .i64 c.ty,.int .i64 c.lo,.int .i64 c.hi]
abbrev Di (r:DRul):List AVal:=[.str r.nm,.str r.on,.int .i64 r.kind,.int .i64 r.fam,eSs r.ns,eSs r.os,.int .i64 r.set,.int .i64 r.oth,.int .i64 r.op,.int .i64 r.n,.str r.byN,.int .i64 r.clue]
abbrev Bk (r:DRul):AVal:=.agg (Di r)
abbrev eSys (l:List DSym):AVal:=.sl (.none 2) (l.map IC)
abbrev eRgs (l:List DReg):AVal:=.sl (.none 2) (l.map GR)
abbrev eCls (l:List DClu):AVal:=.sl (.none 6) (l.map By)
abbrev eRus (l:List DRul):AVal:=.sl (.none 12) (l.map Bk)
abbrev AK (d:Dcl):List AVal:=[.str d.nm,.int .i64 d.ver,.int .i64 d.sh,.int .i64 d.w,.int .i64 d.h,eIs d.holes,eSys d.syms,eRgs d.regs,eCls d.clus,eRus d.ruls]
abbrev encD (d:Dcl):AVal:=.agg (AK d)
theorem AW (n:Nat) (l:List Int):(eIs l).under n:=⟨trivial,Cg n _⟩
theorem DI (n:Nat) (l:List Bs):(eSs l).under n:=⟨trivial,DG n _⟩
theorem Ay (n:Nat) (l:List (List Int)):(eLl l).under n:=⟨trivial,AY (AW n) _⟩
theorem HX (n:Nat) (s:DSym):(IC s).under n:=⟨trivial,trivial,trivial⟩
theorem Dj (n:Nat) (r:DReg):(GR r).under n:=⟨trivial,Ay n _,trivial⟩
theorem FB (n:Nat) (c:DClu):(By c).under n:=⟨trivial,trivial,trivial,trivial,trivial,trivial,trivial⟩
theorem CE (n:Nat) (r:DRul):(Bk r).under n:=⟨trivial,trivial,trivial,trivial,DI n _,DI n _,trivial,trivial,trivial,trivial,trivial,trivial,trivial⟩
theorem EW (n:Nat) (l:List DSym):(eSys l).under n:=⟨trivial,AY (HX n) _⟩
theorem Cn (n:Nat) (l:List DReg):(eRgs l).under n:=⟨trivial,AY (Dj n) _⟩
theorem EX (n:Nat) (l:List DClu):(eCls l).under n:=⟨trivial,AY (FB n) _⟩
theorem Co (n:Nat) (l:List DRul):(eRus l).under n:=⟨trivial,AY (CE n) _⟩
theorem BQ (n:Nat) (d:Dcl):(encD d).under n:=⟨trivial,trivial,trivial,trivial,trivial,AW n _,EW n _,Cn n _,EX n _,Co n _,trivial⟩
def GS:AVal->List Int
 | .sl _ L=>L.map toI
 |_=>[]
def Oe:AVal->List Bs
 | .sl _ L=>L.map toS
 |_=>[]
def Of:AVal->List (List Int)
 | .sl _ L=>L.map GS
 |_=>[]
def TP:AVal->DSym
 | .agg [.str nm,.int _ v]=>⟨nm,v⟩
 |_=>⟨[],0⟩
def RA:AVal->DReg
 | .agg [.str nm,l]=>⟨nm,Of l⟩
 |_=>⟨[],[]⟩
def TQ:AVal->DClu
 | .agg [.str nm,.str on,.int _ f,.int _ t,.int _ lo,.int _ hi]=>⟨nm,on,f,t,lo,hi⟩
 |_=>⟨[],[],0,0,0,0⟩
def RB:AVal->DRul
 | .agg [.str nm,.str on,.int _ k,.int _ f,ns,os,.int _ s,.int _ o,.int _ op,.int _ n,.str b,.int _ c]=>⟨nm,on,k,f,Oe ns,Oe os,s,o,op,n,b,c⟩
 |_=>⟨[],[],0,0,[],[],0,0,0,0,[],0⟩
def ID {α:Type} (f:AVal->α):AVal->List α
 | .sl _ L=>L.map f
 |_=>[]
def decD:AVal->Dcl
 | .agg [.str nm,.int _ v,.int _ sh,.int _ w,.int _ h,ho,sy,rg,cl,ru]=>⟨nm,v,sh,w,h,GS ho,ID TP sy,ID RA rg,ID TQ cl,ID RB ru⟩
 |_=>⟨[],0,0,0,0,[],[],[],[],[]⟩
theorem DJ (l:List Int):GS (eIs l)=l:=As l
theorem EH (l:List (List Int)):Of (eLl l)=l:=Bw DJ l
theorem FX (s:DSym):TP (IC s)=s:=rfl
theorem EI (r:DReg):RA (GR r)=r:=by simp only[RA,EH]
theorem FY (c:DClu):TQ (By c)=c:=rfl
theorem EJ (r:DRul):RB (Bk r)=r:=by simp only[RB,Oe,C3]
theorem Ji (d:Dcl):decD (encD d)=d:=by
 simp only[decD,GS,ID,As,Bw FX,Bw EI,Bw FY,Bw EJ]
def dWk {α:Type} (enc:α->AVal) (dec:AVal->α):Dc α:=⟨enc,dec,λv=>Wk v (enc (dec v)),λ_ h=>h⟩
theorem Ep {α:Type} {enc:α->AVal} {dec:AVal->α} (h:∀x,dec (enc x)=x) (x:α):(dWk enc dec).ok (enc x)=True:=W1 (by show Wk _ _;rw[h];exact Wk.refl _)
def dSy:Dc DSym:=dWk IC TP
def dRg:Dc DReg:=dWk GR RA
def dCl:Dc DClu:=dWk By TQ
def dRu:Dc DRul:=dWk Bk RB
def dD:Dc Dcl:=dWk encD decD
theorem UT (x:DSym):dSy.ok (IC x)=True:=Ep FX x
theorem RD (x:DSym):dSy.dec (IC x)=x:=rfl
theorem NL (x:DReg):dRg.ok (GR x)=True:=Ep EI x
theorem Jj (x:DReg):dRg.dec (GR x)=x:=EI x
theorem Kn (x:DClu):dCl.ok (By x)=True:=Ep FY x
theorem HY (x:DClu):dCl.dec (By x)=x:=rfl
theorem GE (x:DRul):dRu.ok (Bk x)=True:=Ep EJ x
theorem EK (x:DRul):dRu.dec (Bk x)=x:=EJ x
theorem GT (x:Dcl):dD.ok (encD x)=True:=Ep Ji x
theorem Dr (x:Dcl):dD.dec (encD x)=x:=Ji x
def dLi {α:Type} (e:Nat) (enc:α->AVal) (dec:AVal->α):Dc (List α):=⟨λl=>.sl (.none e) (l.map enc),decL dec,okL e enc dec,Q2⟩
theorem HZ {α:Type} {e:Nat} {enc:α->AVal} {dec:AVal->α} (h:∀x,dec (enc x)=x) {t:Tok} {l:List α} (ht:t.esz=e\/l=[]):(dLi e enc dec).ok (.sl t (l.map enc))=True:=W1 (by
 refine⟨ht.imp id λq=>by rw[q];rfl,?_⟩
 rw[Bw h])
theorem FC {α:Type} {e:Nat} {enc:α->AVal} {dec:AVal->α} (h:∀x,dec (enc x)=x) {t:Tok} {l:List α}:(dLi e enc dec).dec (.sl t (l.map enc))=l:=Bw h l
def dLl:Dc (List (List Int)):=dLi 1 eIs GS
def dSys:Dc (List DSym):=dLi 2 IC TP
def dRgs:Dc (List DReg):=dLi 2 GR RA
def dCls:Dc (List DClu):=dLi 6 By TQ
def dRus:Dc (List DRul):=dLi 12 Bk RB
theorem Ax (l:List Int):dIs.ok (eIs l)=True:=W1 ⟨.inl rfl,by rw[As]⟩
theorem At (l:List Int):dIs.dec (eIs l)=l:=As l
theorem dSs_ok (l:List Bs):dSs.ok (eSs l)=True:=W1 ⟨.inl rfl,by rw[C3]⟩
theorem WT (l:List Bs):dSs.dec (eSs l)=l:=C3 l
theorem Ci (x:Int):dI.ok (.int .i64 x)=True:=W1 trivial
theorem BT (x:Int):dI.dec (.int .i64 x)=x:=rfl
theorem dS_ok (x:Bs):dS.ok (.str x)=True:=W1 trivial
theorem UU (x:Bs):dS.dec (.str x)=x:=rfl
abbrev dcl0:Dcl:=⟨[],0,0,0,0,[],[],[],[],[]⟩
end Go.AM
namespace Go.AM
open Go.Proofs Go.Lib
def nmEs:List Bs->Nat->List (AVal×AVal×Nat)
 |[],_=>[]
 |s::r,i=>(.str s,.int .i64 (i:Int),i)::nmEs r (i+1)
theorem DK:∀(l:List Bs) (i:Nat),DS .str (nmEs l i)=True
 |[],_=>rfl
 |s::r,i=>by rw[nmEs,DS,DK r (i+1)];simp [KT.is]
theorem Og (x:Bs) (r:List Bs) (s:Bs):B3 (x::r) s=if x=s then some 0 else(B3 r s).map (· +1):=by
 unfold B3
 rw[Z3]
 by_cases h:x=s
 ·simp [h]
 ·simp only[h,Zh,Xa,Xl]
  cases List.findIdx? (λx=>decide (x=s)) r<;>simp
theorem RE:∀(l:List Bs) (s:Bs) (i:Nat),A4 (.str s) (nmEs l i)=(B3 l s).map λn=>.int .i64 (n+(i:Int))
 |[],s,i=>rfl
 |x::r,s,i=>by
  rw[nmEs,A4,Og,RE r s (i+1)]
  by_cases h:x=s
  ·subst h;simp [ceq]
  ·have:¬s=x:=λq=>h q.symm
   simp only[ceq,h,this,Zh,Xa,Xl]
   cases B3 r s with
   |none=>rfl
   |some n=>simp only[Xr];congr 2;omega
theorem Dk (l:List Bs) (s:Bs):A4 (.str s) (nmEs l 0)=(B3 l s).map λn=>.int .i64 n:=by
 rw[RE];congr 1;funext n;simp
theorem UV:∀(l:List Bs) (s:Bs) (i:Nat),nmEs (l++[s]) i=nmEs l i++[(.str s,.int .i64 ((i+l.length:Nat):Int),i+l.length)]
 |[],s,i=>rfl
 |x::r,s,i=>by
  rw[X5,nmEs,UV r s (i+1),nmEs,X5,X6,show i+1+r.length=i+(r.length+1)by omega]
theorem Gc {k v:AVal} {c:Nat}:∀{es:List (AVal×AVal×Nat)},A4 k es=none->mset k v c es=es++[(k,v,c)]
 |[],_=>rfl
 |(k',v',b)::r,h=>by
  rw[A4]at h
  split at h
  ·cases h
  ·rename_i q
   rw[mset,Ww q,Gc h];rfl
theorem Ko {l:List Bs} {s:Bs} (h:B3 l s=none):mset (.str s) (.int .i64 (l.length:Int)) l.length (nmEs l 0)=nmEs (l++[s]) 0:=by
 rw[Gc (by rw[Dk,h];rfl),UV];simp
theorem TR {α:Type} [DecidableEq α] {a b:List α} {x:α} (h:x∈a):Ai (a++x::b)=true:=by
 cases q:Ai (a++x::b)with
 |true=>rfl
 |false=>exact absurd rfl ((Yi.1 (CD.1 q)).2.2 x h x (by simp))
def ctEs:List Int->Nat->List (AVal×AVal×Nat)
 |[],_=>[]
 |s::r,i=>(.int .i64 s,.bool true,i)::ctEs r (i+1)
theorem RF:∀(l:List Int) (i:Nat),DS (.int .i64) (ctEs l i)=True
 |[],_=>rfl
 |s::r,i=>by rw[ctEs,DS,RF r (i+1)];simp [KT.is]
theorem MF:∀(l:List Int) (x:Int) (i:Nat),A4 (.int .i64 x) (ctEs l i)=if l.contains x then some (.bool true)else none
 |[],x,i=>rfl
 |y::r,x,i=>by
  rw[ctEs,A4,MF r x (i+1),List.contains_cons]
  by_cases h:x=y
  ·subst h;simp [ceq]
  ·simp only[ceq,h,Zh,Xa,Xl,beq_eq_false_iff_ne.2 h,YJ]
theorem UW:∀(l:List Int) (s:Int) (i:Nat),ctEs (l++[s]) i=ctEs l i++[(.int .i64 s,.bool true,i+l.length)]
 |[],s,i=>rfl
 |x::r,s,i=>by
  rw[X5,ctEs,UW r s (i+1),ctEs,X5,X6,show i+1+r.length=i+(r.length+1)by omega]
theorem ct_set {l:List Int} {x:Int} (h:l.contains x=false):mset (.int .i64 x) (.bool true) l.length (ctEs l 0)=ctEs (l++[x]) 0:=by
 rw[Gc (by rw[MF,h];rfl),UW];simp
theorem Hc {x y:Int} {v:AVal} {c:Nat}:∀{es:List (AVal×AVal×Nat)},DS (.int .i64) es->A4 (.int .i64 x) (mset (.int .i64 y) v c es)=if x=y then some v else A4 (.int .i64 x) es
 |[],_=>by
  rw[mset,A4,A4]
  by_cases h:x=y<;>simp [ceq,h,A4]
 |(k',v',b)::r,hf=>by
  obtain⟨h1,h2⟩:=hf
  have ih:=Hc (x:=x) (y:=y) (v:=v) (c:=c) h2
  cases k'<;>simp only[KT.is]at h1
  rename_i kk z
  subst h1
  rw[mset]
  by_cases hy:y=z
  ·subst hy
   rw[X0 (by simp [ceq])]
   rw[A4,A4]
   by_cases hx:x=y
   ·subst hx;simp [ceq]
   ·simp [ceq,hx]
  ·rw[Ww (by simp [ceq,hy])]
   rw[A4,ih,A4]
   by_cases hx:x=z
   ·subst hx
    have:¬x=y:=λq=>hy q.symm
    simp [ceq,this]
   ·simp [ceq,hx]
theorem Hd {y:Int} {v:AVal} {c:Nat}:∀{es:List (AVal×AVal×Nat)},DS (.int .i64) es->DS (.int .i64) (mset (.int .i64 y) v c es)
 |[],_=>⟨rfl,trivial⟩
 |(k',v',b)::r,⟨h1,h2⟩=>by
  rw[mset]
  split
  ·exact⟨h1,h2⟩
  ·exact⟨h1,Hd h2⟩
def cntZ (rs:List DRul) (z:Int):Nat:=(rs.filter λr=>decide (r.clue=z)).length
theorem TS (rs:List DRul) (i:Nat):cntZ rs (i:Int)=IB rs i:=rfl
theorem WU (rs:List DRul) (r:DRul) (z:Int):cntZ (rs++[r]) z=cntZ rs z+if r.clue=z then 1 else 0:=by
 unfold cntZ
 rw[Yb,X8]
 by_cases h:r.clue=z<;>simp [h]
theorem cnt_le (rs:List DRul) (z:Int):cntZ rs z<=rs.length:=XR ..
def MG (rs:List DRul) (es:List (AVal×AVal×Nat)):Prop:=DS (.int .i64) es/\∀z:Int,(A4 (.int .i64 z) es).getD (.int .i64 0)= .int .i64 (cntZ rs z:Int)
theorem MG.next {rs:List DRul} {es:List (AVal×AVal×Nat)} {r:DRul} {c:Nat} (h:MG rs es):MG (rs++[r]) (mset (.int .i64 r.clue) (.int .i64 ((cntZ rs r.clue+1:Nat):Int)) c es):=by
 refine⟨Hd h.1,λz=>?_⟩
 rw[Hc h.1,WU]
 by_cases q:z=r.clue
 ·subst q;rw[X0 rfl,X0 rfl];rfl
 ·rw[Ww q,Ww (λe=>q e.symm)];exact h.2 z
end Go.AM
namespace Go.AM
open Go.Proofs Go.Lib Go.RowKit Go.Sort
theorem He {g:Ghost} {f:Nat->Option Value}:∀(ws:List Int) (o:Nat),Stab g 1 f o (ws.map eI)->∀(j:Nat) x,ws[j]?=some x->f (o+j)=some (.int .i64 x)
 |[],_,_,j,x,h=>by simp at h
 |y::ws,o,⟨⟨v,q1,q2,q3⟩,h'⟩,j,x,h=>by
  cases j with
  |zero=>
   simp at h;subst h
   have q1':v= .int .i64 y:=q1
   subst q1'
   exact q3 0 _ rfl
  |succ j=>rw[show o+(j+1)=o+1+j by omega];exact He ws (o+1) h' j x (by simpa using h)
theorem GF {g:Ghost} {f:Nat->Option Value}:∀(ws:List Int) (o:Nat),(∀(j:Nat) x,ws[j]?=some x->f (o+j)=some (.int .i64 x))->Stab g 1 f o (ws.map eI)
 |[],_,_=>trivial
 |y::ws,o,h=>by
  refine⟨⟨.int .i64 y,rfl,⟨rfl,λx hx=>by simp [Value.cells]at hx;subst hx;rfl⟩,λj x hx=>?_⟩,GF ws (o+1) λj x hx=>by
   have:=h (j+1) x (by simpa using hx)
   rw[<-this];congr 1;omega⟩
  cases j with
  |zero=>
   have hx':some (Value.int .i64 y)=some x:=hx
   cases hx'
   exact h 0 y rfl
  |succ j=>simp [Value.cells]at hx
theorem Oh (w:World) (k:Nat):Below w.heap.size w (w.drewN k) where
 os:=rfl
 tape:=rfl
 output:=rfl
 size:=Wu _
 block:=λi hi=>rfl
theorem p231 (l:List Int) (x:Int) (hl:l.length<1000000000) (hs:List.Pairwise (λx y=>x<y) l):Pur Tryz.prog 231 [eIs l,.int .i64 x] (.tup [.int .i64 (lowB l x),.bool (l.contains x)]):=by
 refine GB l231 ⟨⟨trivial,Cg 0 l⟩,trivial,trivial⟩ ⟨trivial,trivial,trivial⟩ ?_
 rintro g w vs hR ⟨v,r,rfl,k1,v2,r2,rfl,k2,k3⟩
 have k2':v2= .int .i64 x:=k2
 have k3':r2=[]:=k3
 subst k2';subst k3'
 have hres:∀q,l=[]\/q=l.take l.length->VRel g (.tup [.int .i64 (lowB l x),.bool (l.contains x)]) (.tuple #[.int .i64 (((l.take l.length).countP (· <x):Nat):Int),.bool ((l.take l.length).contains x)]):=λq _=>by
  rw[Xx]
  have e:(l.countP λy=>decide (y<x))=lowB l x:=List.countP_eq_length_filter
  rw[e]
  exact⟨_,rfl,_,_,rfl,rfl,_,_,rfl,rfl,rfl⟩
 have hres:=hres l (.inr (Xx).symm)
 rcases k1 with⟨k1,rfl,-⟩|⟨-,b,o,cap,⟨sp,rfl,hsp⟩,hc,hst,-⟩
 ·have:l=[]:=by simpa using k1
  subst this
  refine(Tryz.slices_BinarySearch_int_empty none 0 x w).mono ?_
  rintro e w' ⟨rfl,rfl⟩
  exact⟨⟨_,rfl,hres⟩,Below.refl _ _⟩
 ·cases l with
  |nil=>
   refine(Tryz.slices_BinarySearch_int_empty _ _ x w).mono ?_
   rintro e w' ⟨rfl,rfl⟩
   exact⟨⟨_,rfl,hres⟩,Below.refl _ _⟩
  |cons y ys=>
   obtain rfl:sp=none:=hsp.resolve_right λq=>by cases q.1
   have hcell:=He _ _ hst
   have hk:=Tryz.slices_BinarySearch_int b o (y::ys).length cap (y::ys) x w (Wu _) (by omega) (λj hj=>hR.σw _ _ _ (hcell j _ (by rw[W4 hj];simp [List.getD,W4 hj]))) (by rw[Xx];exact hs.imp λq=>by omega)
   simp only[W0]at hk⊢
   refine hk.mono ?_
   rintro e w' ⟨rfl,q,rfl⟩
   exact⟨⟨_,rfl,hres⟩,Oh _ _⟩
theorem lSort:AZ Tryz.prog 234:=⟨Tryz.f234,by kernel_rfl,by kernel_rfl,by kernel_rfl⟩
theorem NN {H:AB} {n id len cap:Nat} {zs:List Int} (ho:hget H id=some (.arr 1 (zs.map eI))) (hl:len<=zs.length) (hz:len<1000000000):
  AO Tryz.prog 234 [.ref id 1 0 len cap] H n λo H' n'=>o= .ret (.tup [])/\H'=hset H id (.arr 1 (((zs.take len).mergeSort leI++zs.drop len).map eI))/\n'=n:=by
 refine⟨lSort,λg w vs hR hv=>?_⟩
 obtain⟨v,r,rfl,k1,k2⟩:=hv
 have k2':r=[]:=k2
 subst k2'
 obtain⟨L,h1,h2,rfl⟩:=k1
 obtain⟨L',c,e,j1,j2,j3,j4,j5,j6⟩:=hR.obj id _ ho
 rw[h1]at j1;cases j1
 have hcell:=He _ _ j6
 simp only[XH]at hcell
 have hsz:c.size=zs.length:=by rw[<-j5];simp
 have htl:(zs.take len).length=len:=by simp;omega
 have hb:L.blk<w.heap.size:=(Xc.1 j4).1
 have hc:=Tryz.slices_Sort_int L.blk 0 cap (zs.take len) w (λj hj=>by
  have hj':j<(zs.take len).length:=by simpa using hj
  refine⟨?_,?_⟩
  ·rw[XH,getElem!_pos _ j hj]
   simp only[World.cell?,j4]
   rw[hcell j _ (show zs[j]?=some zs[j]from W4 (by omega))]
   simp
  ·simp [World.frozen?,j4]) hb (by omega)
 rw[htl]at hc
 simp only[YQ]at hc⊢
 refine hc.mono ?_
 rintro ee w' ⟨rfl,k,os,rfl⟩
 generalize hS:(zs.take len).mergeSort (λx y=>decide (x<=y))=S
 have hSl:S.length=len:=by rw[<-hS,List.length_mergeSort,htl]
 have hblk:(putRow (Value.int .i64) (Sort.ahead w k) L.blk 0 S.toArray).heap[L.blk]?=some (.cells (Go.Sort.putCells (Value.int .i64) 0 S.toArray c) e (0,0)):=by
  simp only[putRow,mapBlock,Sort.ahead,Array.getElem?_modify,Y6,j4,Xr,onCells]
 have hget:∀j:Nat,(Go.Sort.putCells (Value.int .i64) 0 S.toArray c)[j]?=if j<len then(S[j]?).map (Value.int .i64)else c[j]?:=λj=>by
  simp only[Go.Sort.putCells,Array.getElem?_mapIdx,X1,Y9,XH,Nat.sub_zero,List.size_toArray,hSl]
  by_cases q:j<len
  ·simp only[q,Y6]
   have hjc:j<c.size:=by omega
   have hjS:j<S.length:=by omega
   rw[Yj hjc,W4 hjS]
   simp [hjS]
  ·simp only[q,Xl]
   cases c[j]?<;>rfl
 obtain⟨r1,r2⟩:=hR.upd (m:=n) (w':=putRow (Value.int .i64) (Sort.ahead w k) L.blk 0 S.toArray) (ob':=.arr 1 ((S++zs.drop len).map eI)) ho rfl h1 rfl rfl rfl (by simp [putRow,mapBlock,Sort.ahead])
  (λb hne=>by simp only[putRow,mapBlock,Sort.ahead,Array.getElem?_modify];rw[Ww (Ne.symm hne)])
  (.inl ⟨c,e,(0,0),_,j4,hblk,by simp [Go.Sort.putCells],λo ho'=>by
   rw[hget,Ww (by rcases ho' with q|q<;>omega)]⟩)
  ⟨L,_,e,h1,h2,by rw[j3];simp [Go.Sort.putCells],hblk,by simp [Go.Sort.putCells,hSl];omega,GF _ _ λj x hx=>by
   rw[XH,hget]
   by_cases q:j<len
   ·rw[X0 q]
    rw[XW (by omega)]at hx
    rw[hx];rfl
   ·rw[Ww q]
    rw[XQ (by omega),Zg]at hx
    exact hcell j x (by rw[<-hx];congr 1;omega)⟩
 have hx:HExt (putRow (Value.int .i64) (Sort.ahead w k) L.blk 0 S.toArray) (grow (putRow (Value.int .i64) (Sort.ahead w k) L.blk 0 S.toArray) os):=λb ob hb=>by
  show(_++os)[b]?=some ob
  rw[Array.getElem?_append_left (Xc.1 hb).1];exact hb
 have r3:=r1.grow hx (σ':=g.σ) (λ_ _ _ q=>q) (λ_ _ _ q=>.inl q)
 exact⟨g,.ret (.tup []),_,n,⟨rfl,rfl,rfl⟩,⟨_,rfl,rfl⟩,r3,Wu _,r2.trans (Trans.grow hx rfl rfl rfl (λ_ _ _ q=>q) (λ_ _ _ q=>.inl q))⟩
end Go.AM
namespace Go.AM
open Go.Proofs Go.Lib
def LV (e:Nat) (v:AVal) (H:AB) (l:List AVal):Prop:=
 (l=[]/\∃t,v= .sl t []/\(t= .nil\/t= .exact e))\/(l≠[]/\∃id cap rest,v= .ref id e 0 l.length cap/\hget H id=some (.arr e (l++rest))/\l.length+rest.length=cap)
def UX (e:Nat) (H:AB) (n:Nat) (l:List AVal):AOut->AB->Nat->Prop:=λo H' n'=>
 (l=[]/\H'=H/\n<=n'/\∃t,o= .ret (.sl t [])/\(t= .nil\/t= .exact e))\/(l≠[]/\n'=n+4/\∃cap rest,o= .ret (.ref (n+2) e 0 l.length cap)/\H'=hset H (n+2) (.arr e (l++rest))/\l.length+rest.length=cap)
theorem AO.out {P:Program} {f:FuncId} {args:List AVal} {H:AB} {n:Nat} {R R':AOut->AB->Nat->Prop} (h:AO P f args H n R)
  (hr:∀o H' n',R o H' n'->∃o2,R' o2 H' n'/\∀g w e,Rel g H' n' w->ERel g o e->ERel g o2 e):AO P f args H n R':=
 ⟨h.1,λg w vs r v=>(h.2 g w vs r v).mono λe w' ⟨g',out,H',n',q,he,hR,hn,ht⟩=>
  let ⟨o2,q2,hw⟩:=hr _ _ _ q;⟨g',o2,H',n',q2,hw _ _ _ hR he,hR,hn,ht⟩⟩
theorem AO.seal {P:Program} {f:FuncId} {args:List AVal} {H:AB} {n:Nat} {R R':AOut->AB->Nat->Prop} (h:AO P f args H n R)
  (hr:∀o H' n',R o H' n'->R' o H' n'\/∃id e l,hget H' id=some (.arr e l)/\R' o (hset H' id (.frz e l)) n'):AO P f args H n R':=by
 refine⟨h.1,λg w vs r v=>(h.2 g w vs r v).mono ?_⟩
 rintro e w' ⟨g',out,H',n',q,he,hR,hn,ht⟩
 rcases hr _ _ _ q with q|⟨id,es,l,h0,q⟩
 ·exact⟨g',out,H',n',q,he,hR,hn,ht⟩
 ·obtain⟨σ',r1,t1⟩:=hR.freeze (m:=n) h0
  refine⟨_,out,_,n',q,?_,r1,hn,ht.trans t1⟩
  cases out<;>cases e<;>first|exact he.elim|skip
  ·exact VRel.mono t1.le _ _ he
  ·obtain⟨v,hv,hr⟩:=he
   exact⟨v,hv,VRel.mono t1.le _ _ hr⟩
def LF (e:Nat) (v:AVal) (H:AB) (l:List AVal):Prop:=
 (l=[]/\∃t,v= .sl t []/\(t= .nil\/t= .exact e))\/(l≠[]/\∃id cap rest,v= .ref id e 0 l.length cap/\hget H id=some (.frz e (l++rest))/\l.length+rest.length=cap)
theorem Ix {e:Nat} {v:AVal} {H:AB} {l:List AVal} (h:LF e v H l) {g:Ghost} {n:Nat} {w:World} {x:Value} (hR:Rel g H n w) (hv:VRel g v x):VRel g (.sl (.none e) l) x:=by
 rcases h with⟨rfl,t,rfl,ht⟩|⟨hne,id,cap,rest,rfl,ho,hc⟩
 ·exact Wk.sl (.inr rfl) _ _ hv
 ·obtain⟨L,h1,h2,rfl⟩:=hv
  obtain⟨L',j1,j2,j3⟩:=hR.obj id _ ho
  rw[h1]at j1;cases j1
  refine .inr ⟨trivial,L.blk,0,cap,⟨none,by simp,.inl rfl⟩,by omega,?_,trivial⟩
  have:=Stab.take l.length _ _ j3
  rw[Z7]at this
  exact this
def LvG {α:Type} (enc:α->AVal) (e lo:Nat) (H:AB) (lv:AVal) (qs:List α):Prop:=(lv= .sl .nil []/\qs=[])\/qs≠[]/\∃id rest,lv= .ref id e 0 qs.length (qs.length+rest.length)/\lo<=id/\hget H id=some (.arr e ((qs++rest).map enc))
section
variable {α:Type} {enc:α->AVal} {e lo:Nat}
theorem MH {H:AB} {m b:Nat} {lv z v:AVal} {z0:α} {qs:List α} {q:α} {K:AB->AVal->Prop} (h:LvG enc e lo H lv qs) (hv:v=enc q) (he:0<e) (hz:z.cells.length=e) (hz0:z=enc z0) (hb:An (qs.length+1) b) (hm:hget H m=none) (hm2:lo<=m) (hk:qs.length+1<=35184372088832)
  (hK:∀id (rest:List α),lo<=id->(id=m\/∃L,hget H id=some (.arr e L))->K (hset H id (.arr e (((qs++[q])++rest).map enc))) (.ref id e 0 (qs++[q]).length ((qs++[q]).length+rest.length))):H9 H m e b z K lv (some [v]):=by
 subst hv
 subst hz0
 have el:(qs++[q]).length=qs.length+1:=by simp
 rcases h with⟨rfl,rfl⟩|⟨-,id,rest,rfl,h2,h3⟩
 ·rw[CI]
  refine⟨hm,he,hz,.inl rfl,hb,by simp,(λe=>by cases e),λ_ cap hcap=>?_⟩
  have:=hK m (List.replicate (cap-1) z0) hm2 (.inl rfl)
  simp only[X7,Xd,X6,XV,Y1,X5,Yu]at this hcap⊢
  rw[show 0+1+(cap-1)=cap by omega]at this
  exact this
 ·rw[HI h3]
  refine⟨hm,he,hz,rfl,rfl,hb,hk,rfl,by simp,by omega,λhr=>?_,λhr cap' hc=>?_⟩
  ·have:=hK id (rest.drop 1) h2 (.inr ⟨_,h3⟩)
   simp only[X6,XV]at hr⊢
   have e1:List.take qs.length ((qs++rest).map enc)=qs.map enc:=by rw[X3,Ys (by simp),XD (by simp)]
   have e2:List.drop (qs.length+(0+1)) ((qs++rest).map enc)=(rest.drop 1).map enc:=by rw[X3,List.drop_append,Yp (by simp)];simp
   rw[e1,e2]
   rw[el,X3,X3,Y8,show qs.length+1+(rest.length-1)=qs.length+rest.length by omega]at this
   exact this
  ·have:=hK m (List.replicate (cap'-(qs.length+1)) z0) hm2 (.inl rfl)
   simp only[X6,XV]at hr hc⊢
   have e1:List.take qs.length ((qs++rest).map enc)=qs.map enc:=by rw[X3,Ys (by simp),XD (by simp)]
   rw[e1]
   rw[el,X3,X3,Yu,Y1,show qs.length+1+(cap'-(qs.length+1))=cap' by omega]at this
   exact this
end
structure VF where
 i:Nat
 H:AB
 n:Nat
theorem Iy {P:Program} {T:Tab} {b:Nat} {cx:Nat->AVal} {rx:List (Nat×AOp)} {kp:List Nat} {k:List Item} {Q:AExit->AS->Prop} {s:AS} {d:Option Nat} {sz:Nat} {a x:Opd}:Am P T b cx ((0,⟨d,none,.st sz a x⟩)::rx) kp k Q s=((lk s.env a).1=true/\(lk s.env x).1=true/\nT (lkv s.env x)/\(lkv s.env x).cells.length=sz/\(stE s.H sz (lkv s.env x) (lkv s.env a)).1/\Am P T b cx rx kp k Q ({s with H:=(stE s.H sz (lkv s.env x) (lkv s.env a)).2}.put d true (.tup []))):=by
 rw[Qw,JJ,NA]
 simp only[gvb,Y4,BA,Y9];rfl
end Go.AM
namespace Go.AM
open Go.Proofs Go.Lib
theorem WV {H:AB} {n:Nat} (l:List DClu) (hl:few l):AO Tryz.prog 214 [eCls l] H n (UX 6 H n (l.map By)):=by
 refine AO.fresh l214 λhf=>a214 (AF AH.tnil (AG ?_))
 have hll:l.length<1000000000:=hl
 cases l with
 |nil=>
  simp only[eE,eC,eN,reduceCtorEq,↓reduceIte,c214]
  refine⟨?_,?_⟩
  ·simp only[eE,eC,eN,reduceCtorEq,Nat.reduceEqDiff,↓reduceIte,Nat.reduceAdd,Nat.reduceLT,CI,EA,fr1 hf,An,YQ,X1]
   exact .inl ⟨rfl,rfl,XT _ _,.exact 6,rfl,.inr rfl⟩
  ·simp only[eE,eC,eN,reduceCtorEq,↓reduceIte,Wz]
   exact .inl ⟨rfl,rfl,Wu _,.nil,rfl,.inl rfl⟩
 |cons x r=>
  rw[X6]at hll
  simp only[eE,eC,eN,reduceCtorEq,Nat.reduceEqDiff,↓reduceIte,Nat.reduceAdd,Nat.reduceLeDiff,Nat.reduceMul,Nat.reduceLT,W0,c214,eCls,CI,EA,fr1 hf]
  refine⟨AX (by omega) (by decide),by omega,λcap hcap=>.inr ⟨by simp,rfl,cap,List.replicate (cap-(r.length+1)) (.agg [.str [],.str [],.int .i64 0,.int .i64 0,.int .i64 0,.int .i64 0]),?_,?_,?_⟩⟩
  ·simp
  ·simp
  ·simp;omega
theorem WW {H:AB} {n:Nat} (l:List DRul) (hl:few l):AO Tryz.prog 218 [eRus l] H n (UX 12 H n (l.map Bk)):=by
 refine AO.fresh l218 λhf=>a218 (AF AH.tnil (AG ?_))
 have hll:l.length<1000000000:=hl
 cases l with
 |nil=>
  simp only[eE,eC,eN,reduceCtorEq,↓reduceIte,c218]
  refine⟨?_,?_⟩
  ·simp only[eE,eC,eN,reduceCtorEq,Nat.reduceEqDiff,↓reduceIte,Nat.reduceAdd,Nat.reduceLT,CI,EA,fr1 hf,An,YQ,X1]
   exact .inl ⟨rfl,rfl,XT _ _,.exact 12,rfl,.inr rfl⟩
  ·simp only[eE,eC,eN,reduceCtorEq,↓reduceIte,Wz]
   exact .inl ⟨rfl,rfl,Wu _,.nil,rfl,.inl rfl⟩
 |cons x r=>
  rw[X6]at hll
  simp only[eE,eC,eN,reduceCtorEq,Nat.reduceEqDiff,↓reduceIte,Nat.reduceAdd,Nat.reduceLeDiff,Nat.reduceMul,Nat.reduceLT,W0,c218,eRus,CI,EA,fr1 hf]
  refine⟨AX (by omega) (by decide),by omega,λcap hcap=>.inr ⟨by simp,rfl,cap,List.replicate (cap-(r.length+1)) (.agg [.str [],.str [],.int .i64 0,.int .i64 0,.sl .nil [],.sl .nil [],.int .i64 0,.int .i64 0,.int .i64 0,.int .i64 0,.str [],.int .i64 0]),?_,?_,?_⟩⟩
  ·simp
  ·simp
  ·simp;omega
end Go.AM
