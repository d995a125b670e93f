/-
  What is told of functions, argument by argument; lists that grow, and objects beside one another · Bytes and names (a pa.
  Conditions: none beyond those of its parts.
-/
import Derived.Test.YtepckdbdfhpggaaGreatB5
import Derived.Test.YtepckdbdfhpggaaGreatProg
import Derived.Test.YtepckdbdfhpggaaGreatShelf
import Derived.Test.YtepckdbdfhpggaaGreatB6

set_option maxRecDepth 20000
set_option linter.all false
set_option maxHeartbeats 1000000
namespace Go.AM
open Go.Proofs Go.Lib
abbrev Bs:=List UInt8
abbrev eI (n:Int):AVal:=.int .i64 n
abbrev eSs (l:List Bs):AVal:=.sl (.none 1) (l.map .str)
abbrev eIs (l:List Int):AVal:=.sl (.none 1) (l.map eI)
theorem DG (n:Nat) (l:List Bs):unders n (l.map AVal.str):=AY (f:=AVal.str) (λx=>trivial) _
theorem Cj (n:Nat) (l:List Int):unders n (l.map eI):=AY (f:=eI) (λx=>trivial) _
theorem C4 (l:List Bs):(l.map AVal.str).map toS=l:=by rw[Z2];exact List.map_id _
theorem As (l:List Int):(l.map eI).map toI=l:=by rw[Z2];exact List.map_id _
inductive Wks:List AVal->List AVal->Prop
 |nil:Wks [] []
 |cons {a b:AVal} {ws us:List AVal}:Wk a b->Wks ws us->Wks (a::ws) (b::us)
theorem Wks.rel {g:Ghost}:∀{ws us:List AVal},Wks ws us->∀vs,VRels g ws vs->VRels g us vs
 |_,_,.nil,vs,h=>h
 |_,_,.cons h t,vs,⟨v,r,e,k1,k2⟩=>⟨v,r,e,h _ _ k1,t.rel r k2⟩
theorem Wk.agg {ws us:List AVal} (h:Wks ws us):Wk (.agg ws) (.agg us):=by
 rintro g v ⟨vs,rfl,h1,h2⟩
 exact⟨vs,rfl,h.rel _ h1,h2⟩
theorem Wk.tup {ws us:List AVal} (h:Wks ws us):Wk (.tup ws) (.tup us):=by
 rintro g v ⟨vs,rfl,h1⟩
 exact⟨vs,rfl,h.rel _ h1⟩
theorem Wk.trans {a b c:AVal} (h:Wk a b) (k:Wk b c):Wk a c:=λg v q=>k g v (h g v q)
def CP (pid:Nat) (H H':AB):Prop:=∀id ob,id≠pid->hget H id=some ob->hget H' id=some ob
theorem CP.refl {pid:Nat} (H:AB):CP pid H H:=λ_ _ _ h=>h
theorem CP.set {pid:Nat} {H H':AB} {ob:AObj} (h:CP pid H H'):CP pid H (hset H' pid ob):=λid o hne x=>by
 rw[AA _ _ _ _ (Ne.symm hne)];exact h id o hne x
theorem CP.new {pid:Nat} {H H':AB} {n i:Nat} {ob:AObj} (hf:AN H n) (hi:n<=i) (h:CP pid H H'):CP pid H (hset H' i ob):=λid o hne x=>by
 have:=hf.lt x
 rw[AA _ _ _ _ (by omega)];exact h id o hne x
section
variable {n pid:Nat} {H:AB}
theorem fr1 (h:AN H n) (k:Nat):hget H (n+k)=none:=h _ (by omega)
theorem fr0 (h:AN H n):hget H n=none:=h _ (X4 _)
end
theorem natE3 {a b c:Nat}:(a+b=a+c)=(b=c):=propext ⟨λh=>by omega,λh=>by omega⟩
structure Dc (α:Type) where
 enc:α->AVal
 dec:AVal->α
 ok:AVal->Prop
 wk:∀v,ok v->Wk v (enc (dec v))
def Df:AVal->Prop
 | .int .i64 _=>True
 |_=>False
theorem TR (v:AVal) (h:Df v):Wk v (eI (toI v)):=by
 unfold Df at h
 split at h
 ·exact Wk.refl _
 ·exact h.elim
def dI:Dc Int:=⟨eI,toI,Df,TR⟩
theorem isS_wk (v:AVal) (h:isS v):Wk v (.str (toS v)):=by
 cases v<;>first|exact Wk.refl _|exact h.elim
def dS:Dc Bs:=⟨.str,toS,isS,isS_wk⟩
def okL {α:Type} (e:Nat) (enc:α->AVal) (dec:AVal->α):AVal->Prop
 | .sl t L=>(t.esz=e\/L=[])/\L=(L.map dec).map enc
 |_=>False
def decL {α:Type} (dec:AVal->α):AVal->List α
 | .sl _ L=>L.map dec
 |_=>[]
theorem Q8 {α:Type} {e:Nat} {enc:α->AVal} {dec:AVal->α} (v:AVal) (h:okL e enc dec v):Wk v (.sl (.none e) ((decL dec v).map enc)):=by
 cases v<;>simp only[okL]at h<;>try exact h.elim
 simp only[decL]
 rw[<-h.2];exact Wk.sl h.1
def dSs:Dc (List Bs):=⟨eSs,decL toS,okL 1 .str toS,Q8⟩
def dIs:Dc (List Int):=⟨eIs,decL toI,okL 1 eI toI,Q8⟩
def s1 {α:Type} (A:Dc α) (c:α->Prop) (f:α->AVal):List AVal->AB->Prop×AVal:=λa _=>match a with
 |[x]=>(A.ok x/\c (A.dec x),f (A.dec x))
 |_=>(False,.tup [])
def s2 {α β:Type} (A:Dc α) (B:Dc β) (c:α->β->Prop) (f:α->β->AVal):List AVal->AB->Prop×AVal:=λa _=>match a with
 |[x,y]=>(A.ok x/\B.ok y/\c (A.dec x) (B.dec y),f (A.dec x) (B.dec y))
 |_=>(False,.tup [])
def s3 {α β γ:Type} (A:Dc α) (B:Dc β) (C:Dc γ) (c:α->β->γ->Prop) (f:α->β->γ->AVal):List AVal->AB->Prop×AVal:=λa _=>match a with
 |[x,y,z]=>(A.ok x/\B.ok y/\C.ok z/\c (A.dec x) (B.dec y) (C.dec z),f (A.dec x) (B.dec y) (C.dec z))
 |_=>(False,.tup [])
theorem q1 {α:Type} {A:Dc α} {c:α->Prop} {f:α->AVal} {fid:FuncId} (h:∀x,c x->Pur Tryz.prog fid [A.enc x] (f x)):∀args H n,(s1 A c f args H).1->Ab Tryz.prog fid args H n (s1 A c f args H).2:=by
 intro args H n hh
 unfold s1 at hh⊢
 split at hh
 ·obtain⟨h1,h2⟩:=hh
  refine AO.args ((h _ h2).quiet H n) ?_
  rintro g vs ⟨v,r,rfl,k1,k2⟩
  exact⟨v,_,rfl,A.wk _ h1 _ _ k1,k2⟩
 ·exact hh.elim
theorem q2 {α β:Type} {A:Dc α} {B:Dc β} {c:α->β->Prop} {f:α->β->AVal} {fid:FuncId} (h:∀x y,c x y->Pur Tryz.prog fid [A.enc x,B.enc y] (f x y)):∀args H n,(s2 A B c f args H).1->Ab Tryz.prog fid args H n (s2 A B c f args H).2:=by
 intro args H n hh
 unfold s2 at hh⊢
 split at hh
 ·obtain⟨h1,h2,h3⟩:=hh
  refine AO.args ((h _ _ h3).quiet H n) ?_
  rintro g vs ⟨v,r,rfl,k1,w,r',rfl,k2,k3⟩
  exact⟨v,_,rfl,A.wk _ h1 _ _ k1,w,_,rfl,B.wk _ h2 _ _ k2,k3⟩
 ·exact hh.elim
theorem q3 {α β γ:Type} {A:Dc α} {B:Dc β} {C:Dc γ} {c:α->β->γ->Prop} {f:α->β->γ->AVal} {fid:FuncId} (h:∀x y z,c x y z->Pur Tryz.prog fid [A.enc x,B.enc y,C.enc z] (f x y z)):∀args H n,(s3 A B C c f args H).1->Ab Tryz.prog fid args H n (s3 A B C c f args H).2:=by
 intro args H n hh
 unfold s3 at hh⊢
 split at hh
 ·obtain⟨h1,h2,h3,h4⟩:=hh
  refine AO.args ((h _ _ _ h4).quiet H n) ?_
  rintro g vs ⟨v,r,rfl,k1,w,r',rfl,k2,u,r'',rfl,k3,k4⟩
  exact⟨v,_,rfl,A.wk _ h1 _ _ k1,w,_,rfl,B.wk _ h2 _ _ k2,u,_,rfl,C.wk _ h3 _ _ k3,k4⟩
 ·exact hh.elim
abbrev any1 {α:Type} (_:α):Prop:=True
abbrev any2 {α β:Type} (_:α) (_:β):Prop:=True
theorem NN {α:Type} {p:α->Bool} {l:List α} {i:Nat} (h:i<l.length):(l.take (i+1)).all p=((l.take i).all p&&p l[i]):=by
 rw[XP,X1 h,List.all_append];simp
theorem map_take {α β:Type} {f:α->β} {l:List α} {i:Nat} (h:i<l.length):(l.take (i+1)).map f=(l.take i).map f++[f l[i]]:=by
 rw[XP,X1 h,Xf];rfl
theorem lt_T {a b:Nat} (h:a<b):((a:Int)<(b:Int))=True:=W7 (by omega)
theorem lt_F {a b:Nat} (h:¬a<b):((a:Int)<(b:Int))=False:=X6 (by omega)
theorem A0 {x:Int} (h1: -9223372036854775808<=x) (h2:x<=9223372036854775807):IntKind.wrap .i64 x=x:=by rw[IntKind.wrap_i64];omega
theorem AL {k:Nat} (h:k<9000000000000000000):IntKind.wrap .i64 ((k:Int)+1)=((k+1:Nat):Int):=by rw[A0 (by omega) (by omega)];rfl
theorem c0:((0:Nat):Int)=0:=rfl
theorem c1:((1:Nat):Int)=1:=rfl
theorem cS0 {n:Nat}:(((n+1:Nat):Int)=0)=False:=X6 (by omega)
theorem cS1 {n:Nat}:((0:Int)<((n+1:Nat):Int))=True:=W7 (by omega)
theorem i00:((0:Int)<0)=False:=X6 (by decide)
def tkG (e lo:Nat) (H:AB) (tk:Tok):Prop:=tk= .nil\/tk= .exact e\/∃id,tk= .own id e/\lo<=id/\hget H id=some .tok
theorem tkG.app {e lo:Nat} {H:AB} {tk:Tok} (h:tkG e lo H tk):Bl H e tk:=by
 rcases h with rfl|rfl|⟨id,rfl,h1,h2⟩
 ·trivial
 ·rfl
 ·exact⟨rfl,h2⟩
theorem tkG.set {e lo i:Nat} {H:AB} {tk:Tok} {ob:AObj} (h:tkG e lo H tk) (hi:i<lo\/(∃cs,hget H i=some (.box cs))\/hget H i=none):tkG e lo (hset H i ob) tk:=by
 rcases h with rfl|rfl|⟨id,rfl,h1,h2⟩
 ·exact .inl rfl
 ·exact .inr (.inl rfl)
 ·refine .inr (.inr ⟨id,rfl,h1,?_⟩)
  rw[AA _ _ _ _ ?_]
  ·exact h2
  ·rintro rfl
   rcases hi with q|⟨cs,q⟩|q
   ·omega
   ·rw[h2]at q;cases q
   ·rw[h2]at q;cases q
theorem Ad {e lo i:Nat} {H:AB} {tk:Tok} (h:tkG e lo H tk) (hi:i<lo\/∃cs,hget H i=some (.box cs)):hget (AU H tk) i=hget H i:=by
 rcases h with rfl|rfl|⟨id,rfl,h1,h2⟩
 ·rfl
 ·rfl
 ·simp only[AU]
  rw[AA _ _ _ _ ?_]
  rintro rfl
  rcases hi with q|⟨cs,q⟩
  ·omega
  ·rw[h2]at q;cases q
theorem Ah {e lo n:Nat} {H:AB} {tk:Tok} (h:tkG e lo H tk) (hf:AN H n):AN (AU H tk) n:=by
 rcases h with rfl|rfl|⟨id,rfl,h1,h2⟩
 ·exact hf
 ·exact hf
 ·exact hf.hset (X4 _) (hf.lt h2)
abbrev few {α:Type} (l:List α):Prop:=l.length<1000000000
abbrev wide {α:Type} (l:List α):Prop:=l.length<1125899906842624
theorem Jf {α:Type} {l:List α} (h:few l):wide l:=by
 have:l.length<1000000000:=h
 show l.length<_
 omega
theorem Ck {α:Type} {a b:List α} (hl:a.length=b.length) (h:∀j,j<a.length->a[j]?=b[j]?):a=b:=YS λj=>by
 rcases Nat.lt_or_ge j a.length with q|q
 ·exact h j q
 ·rw[Y7 q,Y7 (by omega)]
theorem FT {a b:Nat} (h:a≠b):((a:Int)=(b:Int))=False:=X6 (by omega)
theorem FU {a b:Nat} (h:a=b):((a:Int)=(b:Int))=True:=W7 (by omega)
theorem AX {n b:Nat} (h:n<=1000000000) (hb:b<=1000):Ap n b:=by
 have:n*b<=1000000000*1000:=Nat.mul_le_mul h hb
 unfold Ap;omega
theorem By {α:Type} {enc:α->AVal} {dec:AVal->α} (h:∀x,dec (enc x)=x) (l:List α):(l.map enc).map dec=l:=by
 rw[Z2];exact(Y1 λx _=>h x).trans (List.map_id _)
def dEx {α:Type} (enc:α->AVal) (dec:AVal->α):Dc α:=⟨enc,dec,λv=>v=enc (dec v),λv h=>h▸Wk.refl _⟩
theorem C3.mono {P:Program} {fid:FuncId} {args:List AVal} {rv:AVal} {H:AB} {n:Nat} {Rc Rc':AB->Nat->Prop} (h:C3 P fid args rv H n Rc) (hr:∀H' n',Rc H' n'->Rc' H' n'):C3 P fid args rv H n Rc':=
 λg w vs u hR hV hu=>CallsDIn.mono (h g w vs u hR hV hu) λe u' w' ⟨h1,h2,g',H',n',h3,h4⟩=>⟨h1,h2,g',H',n',hr _ _ h3,h4⟩
end Go.AM
namespace Go.AM
open Go.Proofs Go.Lib Go.RowKit Go.Sort
def s155:List AVal->AB->Prop×AVal:=λa H=>match a with
 |[.str l,.int .u8 c]=>(0<=c/\c<256,.int .i64 (indexByte l (UInt8.ofNat c.toNat)))
 |_=>(False,.tup [])
theorem q155:∀args H n,(s155 args H).1->Ab Tryz.prog 155 args H n (s155 args H).2:=by
 intro args H n h
 unfold s155 at h⊢
 split at h
 ·rename_i l c
  refine Pur.quiet ?_ H n
  refine GB l155 ⟨trivial,trivial,trivial⟩ trivial ?_
  rintro g w vs hR ⟨v,r,rfl,k1,v2,r2,rfl,k2,k3⟩
  have k1':v= .string ⟨l.toArray⟩:=k1
  have k2':v2= .int .u8 c:=k2
  have k3':r2=[]:=k3
  subst k1';subst k2';subst k3'
  refine(Tryz.strings_IndexByte ⟨l.toArray⟩ c w).mono ?_
  rintro e w' ⟨rfl,rfl⟩
  exact⟨⟨_,rfl,rfl⟩,Below.refl _ _⟩
 ·exact h.elim
def T1:Tab:=tadd 155 s155 tnil
theorem T1_ok:AH Tryz.prog T1:=AH.tnil.add q155
theorem T1_155 (a:List AVal) (H:AB):T1 155 a H=s155 a H:=rfl
def DH (x:Int):Bool:=(decide (97<=x)&&decide (x<=122))||(decide (65<=x)&&decide (x<=90))
def Eg (x:Int):Bool:=decide (48<=x)&&decide (x<=57)
def isSp (x:Int):Bool:=decide (x=32)||decide (x=9)||decide (x=10)||decide (x=13)
abbrev sgnL:List UInt8:=[123,125,40,41,59,44,61,58,46,60,62,33,43,45,42,47]
def MG (x:Int):Bool:=decide (0<=indexByte sgnL (UInt8.ofNat x.toNat))
def clsI (x:Int):Int:=if DH x then 2 else if Eg x then 3 else if x=95 then 5 else if isSp x then 1 else if MG x then 4 else 0
def FV (x:Int):Bool:=DH x||Eg x||decide (x=95)
theorem p156 (x:Int):Pur Tryz.prog 156 [.int .u8 x] (.bool (DH x)):=by
 refine .mk (by simp [unders,AVal.under]) trivial (a156 (AF AH.tnil (AG ?_)))
 simp only[eE,eN,sel,reduceCtorEq,Nat.reduceEqDiff,↓reduceIte,c156]
 rfl
theorem p200 (x:Int):Pur Tryz.prog 200 [.int .u8 x] (.bool (Eg x)):=by
 refine .mk (by simp [unders,AVal.under]) trivial (a200 (AF AH.tnil (AG ?_)))
 simp only[eE,eN,sel,reduceCtorEq,Nat.reduceEqDiff,↓reduceIte,c200]
 rfl
theorem p108 (x:Int) (h0:0<=x) (h1:x<256):Pur Tryz.prog 108 [.int .u8 x] (.int .i64 (clsI x)):=by
 refine .mk (by simp [unders,AVal.under]) trivial (a108 (AF T1_ok (AG ?_)))
 simp only[eE,eN,Ko,sel,reduceCtorEq,Nat.reduceEqDiff,↓reduceIte,c108,T1_155,s155]
 refine⟨λh=>?_,λg1=>⟨λh=>?_,λg2=>⟨λh=>?_,λg3=>⟨λh=>?_,λg4=>⟨⟨h0,h1⟩,λh=>?_,λh=>?_⟩⟩⟩⟩⟩
 ·have:DH x=true:=by simp [DH];omega
  simp [clsI,this]
 ·have k1:DH x=false:=by simp [DH];simp at g1;omega
  have:Eg x=true:=by simp [Eg];omega
  simp [clsI,this,k1]
 ·have k1:DH x=false:=by simp [DH];simp at g1;omega
  have k2:Eg x=false:=by simp [Eg];simp at g2;omega
  simp only[clsI,h,Yi]
  subst h;rfl
 ·have k1:DH x=false:=by simp [DH];simp at g1;omega
  have k2:Eg x=false:=by simp [Eg];simp at g2;omega
  have:isSp x=true:=by simp [isSp];omega
  simp [clsI,g3,this,k1,k2]
 ·have k1:DH x=false:=by simp [DH];simp at g1;omega
  have k2:Eg x=false:=by simp [Eg];simp at g2;omega
  have k4:isSp x=false:=by simp [isSp];omega
  have k5:MG x=true:=by simpa [MG]using h
  simp [clsI,g3,k4,k5,k1,k2]
 ·have k1:DH x=false:=by simp [DH];simp at g1;omega
  have k2:Eg x=false:=by simp [Eg];simp at g2;omega
  have k4:isSp x=false:=by simp [isSp];omega
  have k5:MG x=false:=by simpa [MG]using h
  simp [clsI,g3,k4,k5,k1,k2]
def sB (f:Int->AVal):List AVal->AB->Prop×AVal:=λa H=>match a with
 |[.int .u8 x]=>(0<=x/\x<256,f x)
 |_=>(False,.tup [])
theorem qB {fid:FuncId} {f:Int->AVal} (h:∀x,0<=x->x<256->Pur Tryz.prog fid [.int .u8 x] (f x)):∀args H n,(sB f args H).1->Ab Tryz.prog fid args H n (sB f args H).2:=by
 intro args H n hh
 unfold sB at hh⊢
 split at hh
 ·exact(h _ hh.1 hh.2).quiet H n
 ·exact hh.elim
abbrev s108:=sB λx=>.int .i64 (clsI x)
abbrev s156:=sB λx=>.bool (DH x)
abbrev s200:=sB λx=>.bool (Eg x)
def T2:Tab:=tadd 108 s108 (tadd 156 s156 (tadd 200 s200 T1))
theorem T2_ok:AH Tryz.prog T2:=((T1_ok.add (qB λx _ _=>p200 x)).add (qB λx _ _=>p156 x)).add (qB p108)
theorem T2_156 (a:List AVal) (H:AB):T2 156 a H=s156 a H:=rfl
theorem T2_200 (a:List AVal) (H:AB):T2 200 a H=s200 a H:=rfl
theorem p157 (x:Int) (h0:0<=x) (h1:x<256):Pur Tryz.prog 157 [.int .u8 x] (.bool (FV x)):=by
 refine .mk (by simp [unders,AVal.under]) trivial (a157 (AF T2_ok (AG ?_)))
 simp only[eE,eN,sel,reduceCtorEq,Nat.reduceEqDiff,↓reduceIte,c157,T2_156,T2_200,sB,h0,h1]
 rfl
abbrev s157:=sB λx=>.bool (FV x)
def letB (b:UInt8):Bool:=DH b.toNat
def TS (b:UInt8):Bool:=FV b.toNat
theorem Q9 (x:Int):clsI x=2↔DH x=true:=by
 unfold clsI
 cases DH x<;>cases Eg x<;>cases isSp x<;>cases MG x<;>simp<;>split<;>simp
theorem NO (x:Int):(clsI x=2\/clsI x=3\/clsI x=5)↔FV x=true:=by
 unfold clsI FV
 cases DH x<;>cases Eg x<;>cases isSp x<;>cases MG x<;>by_cases h:x=95<;>simp [h]
theorem u8_lt (b:UInt8):(0:Int)<=b.toNat/\(b.toNat:Int)<256:=⟨by omega,by have:=b.toNat_lt;omega⟩
def CE (s:List UInt8):Bool:=decide (1<=s.length)&&decide (s.length<=32)&&letB (s[0]?.getD 0)&&s.all TS
def T3:Tab:=tadd 157 s157 T2
theorem T3_ok:AH Tryz.prog T3:=T2_ok.add (qB p157)
theorem Ua (a:List AVal) (H:AB):T3 108 a H=s108 a H:=rfl
theorem TT {s:List UInt8} {i:Nat} (hi:i<s.length) (h:FV ((s[i]).toNat:Int)=false):s.all TS=false:=by
 refine Zc.2 λhh=>?_
 have:=Xe.1 hh s[i] (Xg hi)
 unfold TS at this
 rw[h]at this;cases this
theorem TU {s:List UInt8} (h:∀j (hj:j<s.length),FV ((s[j]).toNat:Int)=true):s.all TS=true:=by
 refine Xe.2 λx hx=>?_
 obtain⟨j,hj,rfl⟩:=Xw.1 hx
 exact h j hj
theorem TV (s:List UInt8):scmp .eql s []=decide (s.length=0):=by cases s<;>rfl
theorem p74 (s:List UInt8):Pur Tryz.prog 74 [.str s] (.bool (CE s)):=by
 refine .mk (by simp [unders,AVal.under]) trivial (a74 (AF T3_ok (AG ?_)))
 simp only[eE,eN,Ko,sel,reduceCtorEq,Nat.reduceEqDiff,↓reduceIte,Int.reduceLE,Int.reduceToNat,c74,Ua,sB,u8_lt,TV]
 refine⟨by omega,λh=>?_,λh=>?_⟩
 ·refine(Zc.2 λhh=>?_).symm
  simp only[CE,X5,Xb]at hh
  obtain⟨⟨⟨h1,h2⟩,h3⟩,-⟩:=hh
  rcases h with(h|h)|h
  ·omega
  ·omega
  ·rw[Q9]at h;exact h h3
 refine AV (λi:Nat=>⟨[(0,true,.str s),(19,true,.int .i64 s.length),(20,true,.int .i64 i)],hnil,0⟩)
  (λi=>i<=s.length/\∀j (hj:j<s.length),j<i->FV ((s[j]).toNat:Int)=true) (λi=>s.length-i) 0 rfl ⟨by omega,λj _ hj=>by omega⟩ ?_
 rintro i ⟨hi,hall⟩
 by_cases hlt:i<s.length
 ·have e:=AL (k:=i) (by omega)
  simp only[eE,eN,Ko,sel,reduceCtorEq,Nat.reduceEqDiff,↓reduceIte,Int.reduceEq,Ua,sB,u8_lt,Int.ofNat_lt,hlt,X0,W9,e,X1 hlt,W8]
  refine⟨λhp=>?_,λhp=>.mk (i+1) rfl ⟨by omega,λj hj hji=>?_⟩ (by omega)⟩
  ·have:FV ((s[i]).toNat:Int)=false:=Zc.2 λhh=>by rw[<-NO]at hh;simp [hp]at hh
   simp only[CE,TT hlt this,Bool.and_false]
  ·by_cases q:j=i
   ·subst q;rw[<-NO];simp at hp;omega
   ·exact hall j hj (by omega)
 ·simp only[eE,eN,Ko,sel,reduceCtorEq,Nat.reduceEqDiff,↓reduceIte,Int.reduceEq,Int.ofNat_lt,hlt]
  rw[CE,TU λj hj=>hall j hj (by omega)]
  have h3:=h.2
  rw[Q9]at h3
  simp [letB,h3];omega
end Go.AM
namespace Go.AM
open Go.Proofs Go.Lib
structure Cnd where
 k:Int
 cs:List Int
 ls:List Int
 n:Int
structure Prm where
 c:Int
 ls:List Int
structure Lma where
 nm:Bs
 lv:Int
 cs:List Bs
 ls:List Bs
 qs:List Cnd
 ps:List Prm
 c:Int
 l:Int
def idxS (l:List Bs) (s:Bs):Int:=match l.findIdx? (λx=>decide (x=s))with
 |some k=>k
 |none=>-1
def Aw {α:Type} [DecidableEq α]:List α->Bool
 |[]=>true
 |x::r=>!(r.any λy=>decide (y=x))&&Aw r
def CV (l:List Bs) (most:Nat):Bool:=l.all CE&&Aw l&&decide (1<=l.length)&&decide (l.length<=most)
def difI (l:List Int) (n:Nat):Bool:=(l.all λk=>decide (0<=k)&&decide (k<n))&&Aw l
def CQ (q:Cnd) (nc nl:Nat):Bool:=difI q.cs nc&&decide (1<=q.cs.length)&&difI q.ls nl&&
 (if q.k=1\/q.k=4 then decide (2<=q.cs.length)&&decide (q.ls.length=0)&&decide (q.n=0)
  else if q.k=2 then decide (q.ls.length=1)&&decide (q.n=0)
  else if q.k=3 then decide (q.cs.length=2)&&decide (q.ls.length=0)&&decide (1<=q.n)&&decide (q.n<=99)
  else if q.k=5 then decide (q.cs.length=2)&&decide (q.ls.length=0)&&decide (q.n=0)
  else if q.k=6 then decide (1<=q.ls.length)&&decide (0<=q.n)&&decide (q.n<=q.cs.length)
  else false)
def GQ (x:Lma):Bool:=CE x.nm&&decide (1<=x.lv)&&decide (x.lv<=8)&&CV x.cs 4&&CV x.ls 3&&decide (x.qs.length<=6)&&
 difI [x.c] x.cs.length&&difI [x.l] x.ls.length&&(x.qs.all λq=>CQ q x.cs.length x.ls.length)&&
 (x.ps.all λp=>difI p.ls x.ls.length&&decide (1<=p.ls.length))&&difI (x.ps.map (·.c)) x.cs.length
structure OKL (x:Lma):Prop where
 nm:CE x.nm=true
 lv:1<=x.lv/\x.lv<=8
 cs:x.cs.all CE=true/\Aw x.cs=true/\1<=x.cs.length/\x.cs.length<=4
 ls:x.ls.all CE=true/\Aw x.ls=true/\1<=x.ls.length/\x.ls.length<=3
 nq:x.qs.length<=6
 c:0<=x.c/\x.c<x.cs.length
 l:0<=x.l/\x.l<x.ls.length
 qs:∀q∈x.qs,CQ q x.cs.length x.ls.length=true
 ps:∀p∈x.ps,difI p.ls x.ls.length=true/\1<=p.ls.length
 pc:difI (x.ps.map (·.c)) x.cs.length=true
theorem Jg (x:Lma):GQ x=true↔OKL x:=by
 unfold GQ CV
 simp only[X5,Xb,Xe (p:=λq=>CQ q x.cs.length x.ls.length),Xe (p:=λp:Prm=>difI p.ls x.ls.length&&decide (1<=p.ls.length))]
 constructor
 ·rintro⟨⟨⟨⟨⟨⟨⟨⟨⟨⟨h1,h2⟩,h3⟩,⟨⟨⟨c1,c2⟩,c3⟩,c4⟩⟩,⟨⟨⟨l1,l2⟩,l3⟩,l4⟩⟩,h6⟩,h7⟩,h8⟩,h9⟩,h10⟩,h11⟩
  refine⟨h1,⟨h2,h3⟩,⟨c1,c2,c3,c4⟩,⟨l1,l2,l3,l4⟩,h6,?_,?_,h9,λp hp=>h10 p hp,h11⟩
  ·simp [difI]at h7;exact h7.1
  ·simp [difI]at h8;exact h8.1
 ·rintro⟨h1,⟨h2,h3⟩,⟨c1,c2,c3,c4⟩,⟨l1,l2,l3,l4⟩,h6,h7,h8,h9,h10,h11⟩
  exact⟨⟨⟨⟨⟨⟨⟨⟨⟨⟨h1,h2⟩,h3⟩,⟨⟨⟨c1,c2⟩,c3⟩,c4⟩⟩,⟨⟨⟨l1,l2⟩,l3⟩,l4⟩⟩,h6⟩,by simp [difI,Aw,h7.1,h7.2]⟩,by simp [difI,Aw,h8.1,h8.2]⟩,h9⟩,λp hp=>h10 p hp⟩,h11⟩
theorem Dg {l:List Int} {n:Nat} (h:difI l n=true):(l.all λk=>decide (0<=k)&&decide (k<n))=true:=by
 unfold difI at h
 rw[X5]at h;exact h.1
structure CndOK (q:Cnd) (nc nl:Nat):Prop where
 cs:difI q.cs nc=true
 ne:1<=q.cs.length
 ls:difI q.ls nl=true
 kind:((q.k=1\/q.k=4)/\2<=q.cs.length/\q.ls.length=0/\q.n=0)\/(q.k=2/\q.ls.length=1/\q.n=0)\/(q.k=3/\q.cs.length=2/\q.ls.length=0/\1<=q.n/\q.n<=99)\/(q.k=5/\q.cs.length=2/\q.ls.length=0/\q.n=0)\/(q.k=6/\1<=q.ls.length/\0<=q.n/\q.n<=q.cs.length)
theorem RA {q:Cnd} {nc nl:Nat} (h:CQ q nc nl=true):CndOK q nc nl:=by
 unfold CQ at h
 simp only[X5,Xb]at h
 obtain⟨⟨⟨h1,h2⟩,h3⟩,h4⟩:=h
 refine⟨h1,h2,h3,?_⟩
 split at h4
 ·rename_i hk
  simp only[X5,Xb]at h4
  exact .inl ⟨hk,h4.1.1,h4.1.2,h4.2⟩
 split at h4
 ·rename_i hk
  simp only[X5,Xb]at h4
  exact .inr (.inl ⟨hk,h4.1,h4.2⟩)
 split at h4
 ·rename_i hk
  simp only[X5,Xb]at h4
  exact .inr (.inr (.inl ⟨hk,h4.1.1.1,h4.1.1.2,h4.1.2,h4.2⟩))
 split at h4
 ·rename_i hk
  simp only[X5,Xb]at h4
  exact .inr (.inr (.inr (.inl ⟨hk,h4.1.1,h4.1.2,h4.2⟩)))
 split at h4
 ·rename_i hk
  simp only[X5,Xb]at h4
  exact .inr (.inr (.inr (.inr ⟨hk,h4.1.1,h4.1.2,h4.2⟩)))
 ·cases h4
end Go.AM
namespace Go.AM
open Go.Proofs Go.Lib
structure DSym where
 nm:List UInt8
 v:Int
 deriving DecidableEq
structure DReg where
 nm:List UInt8
 ls:List (List Int)
 deriving DecidableEq
structure DClu where
 nm:List UInt8
 on:List UInt8
 fam:Int
 ty:Int
 lo:Int
 hi:Int
 deriving DecidableEq
structure DRul where
 nm:List UInt8
 on:List UInt8
 kind:Int
 fam:Int
 ns:List (List UInt8)
 os:List (List UInt8)
 set:Int
 oth:Int
 op:Int
 n:Int
 byN:List UInt8
 clue:Int
 deriving DecidableEq
structure Dcl where
 nm:List UInt8
 ver:Int
 sh:Int
 w:Int
 h:Int
 holes:List Int
 syms:List DSym
 regs:List DReg
 clus:List DClu
 ruls:List DRul
 deriving DecidableEq
def GC:List (List UInt8):=[[99,101,108,108,115],[114,111,119,115],[99,111,108,117,109,110,115],[100,105,97,103,111,110,97,108,115],[97,114,111,117,110,100],[110,101,97,114],[112,97,105,114,115],[97,108,108]]
def Ai {α:Type} [DecidableEq α]:List α->Bool
 |[]=>false
 |x::r=>(r.any λy=>decide (y=x))||Ai r
def GR (d:Dcl):List (List UInt8):=GC++d.regs.map (·.nm)
def B4 (l:List (List UInt8)) (s:List UInt8):Option Int:=(l.findIdx? λx=>decide (x=s)).map λ(i:Nat)=>(i:Int)
def FA (l:List (List UInt8)):List (List UInt8)->Option Int
 |[]=>some 0
 |s::r=>match l.findIdx? (λx=>decide (x=s)),FA l r with
  |some i,some n=>some (Int.ofNat (Nat.lor (1<<<i) n.toNat))
  |_,_=>none
def C5 (d:Dcl) (c:DClu):Option DClu:=(B4 (GR d) c.on).map λf=>{c with fam:=f}
def BU (d:Dcl) (r:DRul):Option DRul:=
 match (if r.on=[]then some 0 else B4 (GR d) r.on),FA (d.syms.map (·.nm)) r.ns,FA (d.syms.map (·.nm)) r.os,(if r.byN=[]then some (-1)else B4 (d.clus.map (·.nm)) r.byN)with
 |some f,some a,some b,some c=>some {r with fam:=f,set:=a,oth:=b,clue:=c}
 |_,_,_,_=>none
def Af {α β:Type} (f:α->Option β):List α->Option (List β)
 |[]=>some []
 |x::r=>match f x,Af f r with
  |some y,some s=>some (y::s)
  |_,_=>none
def resD (d:Dcl):Except Int Dcl:=
 if 16<d.syms.length then .error 2 else if Ai (d.syms.map (·.nm))then .error 161 else if Ai (GR d)then .error 161 else if Ai (d.clus.map (·.nm))then .error 161
 else match Af (C5 d) d.clus with
  |none=>.error 160
  |some cs=>if Ai (d.ruls.map (·.nm))then .error 161 else match Af (BU d) d.ruls with
   |none=>.error 160
   |some rs=>.ok {d with clus:=cs,ruls:=rs}
def C9:Int->List Int->Bool
 |_,[]=>true
 |a,x::r=>decide (a<x)&&C9 x r
def Al (sh w h:Int) (holes:List Int):Option (List Int):=
 if(sh=1\/sh=2)/\1<=w/\w<=16/\1<=h/\h<=16/\(holes.length:Int)<w*h/\C9 (-1) holes=true/\(holes.all λp=>decide (p<w*h))=true then
  some (((List.range (w*h).toNat).map λ(i:Nat)=>(i:Int)).filter λp=>!holes.contains p)
 else none
def EK (cells l:List Int):Bool:=(l.all λp=>cells.contains p)&& !Ai l&&decide (1<=l.length)
def Kr (a b:List Int):Bool:=(a.all λx=>b.contains x)&&b.all λx=>a.contains x
def Bz:List (List Int)->Bool
 |[]=>false
 |x::r=>(r.any λy=>Kr y x)||Bz r
def regE (cells:List Int) (r:DReg):Int:=if(decide (r.ls.length<=64)&&r.ls.all (EK cells))=false then 130 else if Bz r.ls=true then 161 else 0
def Dh (cells:List Int):List DReg->Int
 |[]=>0
 |r::s=>if regE cells r=0 then Dh cells s else regE cells r
def GS (c:DClu):Bool:=
 if c.ty=1 then decide (c.fam=0)&&decide (c.lo=0)&&decide (c.hi=0)
 else if c.ty=2 then decide (0<=c.lo)&&decide (c.lo<=c.hi)&&decide (c.hi<=65536)
 else if c.ty=3 then(decide (1<=c.fam)&&decide (c.fam<=3)||decide (8<=c.fam))&&decide (c.lo=0)&&decide (c.hi=0)
 else false
structure FormD where
 on:Bool:=false
 set:Bool:=false
 oth:Bool:=false
 bnd:Bool:=false
 num:Bool:=false
 rdb:Bool:=false
 knw:Bool:=false
 clue:Int:=0
def Jh (k:Int):FormD:=
 if k=1 then{on:=true,rdb:=true,knw:=true}else if k=2 then{on:=true,set:=true,bnd:=true,rdb:=true,knw:=true}
 else if k=3 then{on:=true,bnd:=true,rdb:=true,knw:=true}else if k=4 then{on:=true,rdb:=true,knw:=true}
 else if k=5 then{on:=true,set:=true,rdb:=true,knw:=true,clue:=3}else if k=6 then{rdb:=true,knw:=true}
 else if k=7 then{num:=true,rdb:=true,knw:=true}else if k=8 then{set:=true,oth:=true,rdb:=true,knw:=true}
 else if k=9 then{set:=true,rdb:=true,knw:=true}else if k=10 then{set:=true,rdb:=true,knw:=true}
 else if k=11 then{rdb:=true,knw:=true,clue:=1}else if k=12 then{on:=true,knw:=true}else if k=13 then{bnd:=true,knw:=true}else{}
def cluP (cl:List DClu) (r:DRul) (w:Int):Bool:=if r.clue<0\/(cl.length:Int)<=r.clue then false else match cl[r.clue.toNat]? with
 |some c=>decide (c.ty=w)&&(decide (w=1)||decide (c.fam=r.fam))
 |none=>false
def HX (cl:List DClu) (r:DRul):Bool:=
 let f:=Jh r.kind
 if f.knw=false then false
 else if(f.on !=decide (r.on≠[]))||(f.set !=decide (r.set≠0))||(f.oth !=decide (r.oth≠0))||(!f.on&&decide (r.fam≠0))||(!f.set&&decide (0<r.ns.length))||(!f.oth&&decide (0<r.os.length))then false
 else if(f.bnd !=(decide (1<=r.op)&&decide (r.op<=3)))||(!f.bnd&&decide (r.op≠0))||decide (r.n<0)||decide (65536<r.n)then false
 else if !(f.num||f.bnd&&decide (r.byN=[]))&&decide (r.n≠0)then false
 else
  let want:=if f.bnd&&decide (r.byN≠[])then 2 else f.clue
  if want=0 then decide (r.byN=[])&&decide (r.clue= -1)else cluP cl r want
def IC (rs:List DRul) (i:Nat):Nat:=(rs.filter λr=>decide (r.clue=(i:Int))).length
def CW (d:Dcl):Bool:=(d.syms.all λs=>decide (0<=s.v)&&decide (s.v<=99))&&d.ruls.all (HX d.clus)&&((List.range d.clus.length).all λi=>decide (IC d.ruls i=1))&&d.clus.all GS
def Ji (r:DRul):Bool:=decide (1<=r.kind)&&decide (r.kind<=11)
def Bh (rs:List DRul):List Int:=((List.range rs.length).filter λi=>match rs[i]? with|some r=>!Ji r|none=>false).map λ(i:Nat)=>(i:Int)
def limD (d:Dcl):Bool:=decide (0<d.syms.length)&&decide (d.syms.length<=16)&&decide (d.regs.length<=4)&&decide (d.clus.length<=4)&&decide (d.ruls.length<=16)
def chkD (d:Dcl):Int:=
 if limD d=false then 2 else match resD d with
  | .error e=>e
  | .ok x=>if x≠d then 170 else if d.ver<1\/255<d.ver then 170 else match Al d.sh d.w d.h d.holes with
   |none=>130
   |some cells=>if Dh cells d.regs≠0 then Dh cells d.regs else if CW d=false then 170 else if Bh d.ruls≠[]then 171 else 0
end Go.AM
namespace Go.AM
open Go.Proofs Go.Lib
abbrev leI (x y:Int):Bool:=decide (x<=y)
theorem CF {α:Type} [DecidableEq α]:∀{l:List α},Ai l=false↔l.Nodup
 |[]=>by simp [Ai]
 |x::r=>by
  have ih:=CF (l:=r)
  simp only[Ai,Z4,YH,Xb,YB,ih]
  constructor
  ·exact λ⟨h1,h2⟩=>⟨λhx=>h1 x hx rfl,h2⟩
  ·exact λ⟨h1,h2⟩=>⟨λy hy e=>h1 (e▸hy),h2⟩
theorem RB {a b:List Int}:Kr a b=true↔∀x,x∈a↔x∈b:=by
 unfold Kr
 simp only[X5,Xe,Y4]
 exact⟨λ⟨h1,h2⟩ x=>⟨h1 x,h2 x⟩,λh=>⟨λx hx=>(h x).1 hx,λx hx=>(h x).2 hx⟩⟩
theorem FW (l:List Int):List.Pairwise (λx y=>x<=y) (l.mergeSort leI):=by
 have:=List.pairwise_mergeSort (le:=leI) (λa b c h1 h2=>by simp only[leI,Xb]at*;omega) (λa b=>by simp only[leI,Xl,Xb];omega) l
 exact this.imp λh=>by simpa using h
theorem Iu {a b:List Int} (ha:a.Nodup) (hb:b.Nodup):Kr a b=decide (a.mergeSort leI=b.mergeSort leI):=by
 rw[XV,RB,Xb,<-List.perm_ext_iff_of_nodup ha hb]
 constructor
 ·intro h
  have p:(a.mergeSort leI).Perm (b.mergeSort leI):=(YU a leI).trans (h.trans (YU b leI).symm)
  exact p.eq_of_pairwise (le:=λx y:Int=>x<=y) (λx y _ _ h1 h2=>by omega) (FW a) (FW b)
 ·intro h
  exact(YU a leI).symm.trans (h▸YU b leI)
theorem nd {α:Prop} [Decidable α]:decide α= !decide (¬α):=by by_cases h:α<;>simp [h]
end Go.AM
namespace Go.AM
open Go.Proofs Go.Lib
theorem CR {α:Type} {f:α->Option α}:∀{l:List α},Af f l=some l↔∀x∈l,f x=some x
 |[]=>by simp [Af]
 |x::r=>by
  have ih:=CR (f:=f) (l:=r)
  simp only[Af,XA,Zv,<-ih]
  cases h1:f x with
  |none=>simp
  |some y=>
   cases h2:Af f r with
   |none=>simp
   |some s=>simp
structure ResOK (d:Dcl):Prop where
 n16:d.syms.length<=16
 ts:Ai (d.syms.map (·.nm))=false
 tf:Ai (GR d)=false
 tc:Ai (d.clus.map (·.nm))=false
 tr:Ai (d.ruls.map (·.nm))=false
 cl:∀c∈d.clus,C5 d c=some c
 ru:∀r∈d.ruls,BU d r=some r
theorem Kt {d:Dcl}:resD d= .ok d↔ResOK d:=by
 constructor
 ·intro h
  unfold resD at h
  split at h
  ·cases h
  split at h
  ·cases h
  split at h
  ·cases h
  split at h
  ·cases h
  rename_i h1 h2 h3 h4
  cases hc:Af (C5 d) d.clus with
  |none=>rw[hc]at h;cases h
  |some cs=>
   rw[hc]at h
   simp only at h
   split at h
   ·cases h
   rename_i h5
   cases hr:Af (BU d) d.ruls with
   |none=>rw[hr]at h;cases h
   |some rs=>
    rw[hr]at h
    simp only[Except.ok.injEq]at h
    have e1:cs=d.clus:=congrArg Dcl.clus h
    have e2:rs=d.ruls:=congrArg Dcl.ruls h
    subst e1;subst e2
    exact⟨by omega,by simpa using h2,by simpa using h3,by simpa using h4,by simpa using h5,CR.1 hc,CR.1 hr⟩
 ·intro h
  unfold resD
  rw[X8 (by have:=h.n16;omega),h.ts,h.tf,h.tc,CR.2 h.cl]
  simp only[Xm,Xy]
  rw[h.tr,CR.2 h.ru]
  rfl
structure DclOK (d:Dcl):Prop where
 lim:limD d=true
 res:ResOK d
 ver:1<=d.ver/\d.ver<=255
 reg:∃cells,Al d.sh d.w d.h d.holes=some cells/\Dh cells d.regs=0
 form:CW d=true
theorem Wa {d:Dcl} (h:DclOK d):chkD d=if Bh d.ruls≠[]then 171 else 0:=by
 obtain⟨cells,h1,h2⟩:=h.reg
 unfold chkD
 rw[h.lim,Kt.2 h.res]
 simp only[Bool.true_eq_false,Xy,ne_eq,YT]
 rw[X8 (by have:=h.ver;omega),h1]
 simp only[h2,h.form,YT,Xy,Bool.true_eq_false]
theorem TW {d:Dcl}:chkD d=0↔DclOK d/\Bh d.ruls=[]:=by
 constructor
 ·intro h
  unfold chkD at h
  split at h
  ·cases h
  rename_i h1
  cases hr:resD d with
  |error e=>
   rw[hr]at h
   simp only at h
   unfold resD at hr
   subst h
   split at hr
   ·cases hr
   split at hr
   ·cases hr
   split at hr
   ·cases hr
   split at hr
   ·cases hr
   split at hr
   ·cases hr
   split at hr
   ·cases hr
   split at hr<;>cases hr
  |ok x=>
   rw[hr]at h
   simp only at h
   split at h
   ·cases h
   rename_i h2
   have h2:x=d:=by simpa using h2
   subst h2
   split at h
   ·cases h
   rename_i h3
   cases hc:Al x.sh x.w x.h x.holes with
   |none=>rw[hc]at h;cases h
   |some cells=>
    rw[hc]at h
    simp only at h
    split at h
    ·rename_i h4;exact absurd h h4
    rename_i h4
    split at h
    ·cases h
    rename_i h5
    split at h
    ·cases h
    rename_i h6
    exact⟨⟨by simpa using h1,Kt.1 hr,by omega,⟨cells,hc,by simpa using h4⟩,by simpa using h5⟩,by simpa using h6⟩
 ·rintro⟨h1,h2⟩
  rw[Wa h1,X8 (by rw[h2];exact λh=>h rfl)]
theorem NP {d x:Dcl} (h:resD d= .ok x):x.nm=d.nm/\x.ver=d.ver/\x.sh=d.sh/\x.w=d.w/\x.h=d.h/\x.holes=d.holes/\x.syms=d.syms/\x.regs=d.regs:=by
 unfold resD at h
 split at h
 ·cases h
 split at h
 ·cases h
 split at h
 ·cases h
 split at h
 ·cases h
 split at h
 ·cases h
 split at h
 ·cases h
 split at h
 ·cases h
 ·cases h;exact⟨rfl,rfl,rfl,rfl,rfl,rfl,rfl,rfl⟩
end Go.AM
namespace Go.AM
open Go.Proofs Go.Lib
theorem Oh (rs:List DRul) (r:DRul):Bh (rs++[r])=Bh rs++(if Ji r=true then[]else[(rs.length:Int)]):=by
 unfold Bh
 rw[Xk,List.length_singleton,YV,Yn,Xf]
 congr 1
 ·congr 1
  apply Zl
  intro i hi
  have:=XT.1 hi
  rw[Y9 this]
 ·rw[Yc,Y2 (X4 _),Nat.sub_self]
  simp only[X7,List.filter_nil]
  by_cases h:Ji r=true
  ·simp [h]
  ·simp [show Ji r=false by simpa using h]
theorem RD {α:Type} [DecidableEq α] {l:List α} {x:α}:Ai (l++[x])=false↔Ai l=false/\x∉l:=by
 rw[CF,CF,Yu]
 simp only[YB,Z8,Zd,ZB,and_self,Ym,Xv]
 constructor
 ·exact λ⟨h1,h2⟩=>⟨h1,λhx=>h2 x hx x rfl rfl⟩
 ·exact λ⟨h1,h2⟩=>⟨h1,λa ha b hb e=>h2 (by rw[<-hb,<-e];exact ha)⟩
theorem RE {l:List (List UInt8)} {s:List UInt8} {n:Int} (h:B4 l s=some n):0<=n/\n<l.length:=by
 unfold B4 at h
 rw[XS]at h
 obtain⟨i,h1,rfl⟩:=h
 have:=Xs.1 h1
 obtain⟨hi,-⟩:=this
 omega
end Go.AM
namespace Go.AM
open Go.Proofs Go.Lib
end Go.AM
namespace Go.AM
open Go.Proofs Go.Lib
end Go.AM
namespace Go.AM
open Go.Proofs Go.Lib
structure SmallD (d:Dcl):Prop where
 top:d.nm.length+d.holes.length+d.syms.length+d.regs.length+d.clus.length+d.ruls.length<2000
 sy:∀s∈d.syms,s.nm.length<2000
 rg:∀r∈d.regs,r.nm.length+r.ls.length<2000/\∀l∈r.ls,l.length<2000
 cl:∀c∈d.clus,c.nm.length+c.on.length<2000
 ru:∀r∈d.ruls,r.nm.length+r.on.length+r.byN.length+r.ns.length+r.os.length<2000/\(∀s∈r.ns,s.length<2000)/\∀s∈r.os,s.length<2000
end Go.AM
namespace Go.AM
open Go.Proofs Go.Lib
theorem Iv:∀{a:Int} {l:List Int},C9 a l=true↔(∀x∈l,a<x)/\List.Pairwise (λx y=>x<y) l
 |a,[]=>by simp [C9]
 |a,x::r=>by
  have ih:=Iv (a:=x) (l:=r)
  simp only[C9,X5,Xb,ih,XA,Zv,YW]
  constructor
  ·exact λ⟨h1,h2,h3⟩=>⟨⟨h1,λy hy=>by have:=h2 y hy;omega⟩,h2,h3⟩
  ·exact λ⟨⟨h1,h2⟩,h3,h4⟩=>⟨h1,h3,h4⟩
def Ep (n:Int):List Int:=(List.range n.toNat).map λ(i:Nat)=>(i:Int)
theorem Wb {n x:Int}:x∈Ep n↔0<=x/\x<n:=by
 unfold Ep
 rw[Xx]
 constructor
 ·rintro⟨i,hi,rfl⟩
  have:=XT.1 hi
  omega
 ·intro h
  exact⟨x.toNat,XT.2 (by omega),by omega⟩
theorem Wc (n:Int):(Ep n).length=n.toNat:=by simp [Ep]
theorem BI {sh w h:Int} {holes cells:List Int} (hc:Al sh w h holes=some cells):List.Pairwise (λx y=>x<y) cells/\cells.length<=256/\∀x∈cells,0<=x/\x<256:=by
 unfold Al at hc
 split at hc
 ·rename_i hcond
  obtain⟨-,a,b,c,d,-⟩:=hcond
  cases hc
  have hwh:w*h<=256:=by
   have:w*h<=16*16:=Int.mul_le_mul b d (by omega) (by omega)
   omega
  have hpw:List.Pairwise (λx y:Int=>x<y) (Ep (w*h)):=by
   unfold Ep
   rw[List.pairwise_map]
   exact Zk.imp λq=>by omega
  refine⟨hpw.sublist List.filter_sublist,?_,λx hx=>?_⟩
  ·have h1:=Y3 (λp=>!holes.contains p) (Ep (w*h))
   rw[Wc]at h1
   have:((Ep (w*h)).filter λp=>!holes.contains p).length<=256:=by omega
   exact this
  ·have:=Wb.1 (Yd.1 hx).1
   omega
 ·cases hc
end Go.AM
namespace Go.AM
open Go.Proofs Go.Lib
def lowB (l:List Int) (x:Int):Nat:=(l.filter λy=>decide (y<x)).length
theorem MH:∀{l:List Int} {x:Int} {i:Nat},i<=l.length->(∀k (hk:k<l.length),k<i->l[k]<x)->(∀k (hk:k<l.length),i<=k->x<=l[k])->lowB l x=i
 |[],x,i,hi,_,_=>by simp at hi;subst hi;rfl
 |y::r,x,0,_,_,h2=>by
  have h0:=h2 0 (by simp) (X4 0)
  have ih:=MH (l:=r) (x:=x) (i:=0) (Xd _) (λk hk h=>by omega) (λk hk _=>h2 (k+1) (by simp;omega) (Xd _))
  unfold lowB at ih⊢
  rw[Yc,X8 (by simp at h0;simp;omega)];exact ih
 |y::r,x,i+1,hi,h1,h2=>by
  have h0:=h1 0 (by simp) (by omega)
  have ih:=MH (l:=r) (x:=x) (i:=i) (by simp at hi;omega) (λk hk h=>h1 (k+1) (by simp;omega) (by omega)) (λk hk h=>h2 (k+1) (by simp;omega) (by omega))
  unfold lowB at ih⊢
  rw[Yc,Xc (by simpa using h0),Xj,ih]
theorem Wd {l:List Int} (hp:List.Pairwise (λx y=>x<y) l) {i j:Nat} (hj:j<l.length) (hij:i<=j):l[i]<=l[j]:=by
 by_cases e:i=j
 ·subst e;exact Xz _
 ·have:=YF.1 hp i j (by omega) hj (by omega)
  omega
def HY (cells:List Int):List Int->List Int->Bool
 |_,[]=>true
 |met,p::r=>cells.contains p&& !met.contains p&&HY cells (met++[p]) r
theorem RF (cells:List Int):∀(l met:List Int),HY cells met l=true↔(∀p∈l,p∈cells/\p∉met)/\l.Nodup
 |[],met=>by simp [HY]
 |p::r,met=>by
  have ih:=RF cells r (met++[p])
  simp only[HY,X5,Yb,Y4,ih,XA,Zv,YB,XZ,Z8,or_false,not_or]
  rw[<-Bool.not_eq_true,Y4]
  constructor
  ·exact λ⟨⟨a,b⟩,c,d⟩=>⟨⟨⟨a,b⟩,λx hx=>⟨(c x hx).1,(c x hx).2.1⟩⟩,λhm=>(c p hm).2.2 rfl,d⟩
  ·exact λ⟨⟨⟨a,b⟩,c⟩,d,e⟩=>⟨⟨a,b⟩,λx hx=>⟨(c x hx).1,(c x hx).2,λq=>d (q▸hx)⟩,e⟩
theorem Jj (cells l:List Int):EK cells l=(HY cells [] l&&decide (1<=l.length)):=by
 unfold EK
 congr 1
 rw[XV,RF,X5,Xe]
 simp only[Y4,Z8,Zd,YN,Yb,CF]
end Go.AM
namespace Go.AM
open Go.Proofs Go.Lib
theorem BR {l:List (List UInt8)} {s:List UInt8}:B4 l s=none↔s∉l:=by
 unfold B4
 rw[YQ,XY]
 simp only[Yh]
 exact⟨λh hm=>h s hm rfl,λh x hx e=>h (e▸hx)⟩
theorem Iw {l:List (List UInt8)} {s:List UInt8} {r:List (List UInt8)}:FA l (s::r)=match l.findIdx? (λx=>decide (x=s)),FA l r with
  |some i,some n=>some (Int.ofNat (Nat.lor (1<<<i) n.toNat))
  |_,_=>none:=rfl
def bits (is:List Nat):Nat:=is.foldr (λi n=>Nat.lor (1<<<i) n) 0
theorem Oi {l ss:List (List UInt8)}:FA l ss=(Af (λs=>l.findIdx? λx=>decide (x=s)) ss).map λis=>(bits is:Int):=by
 induction ss with
 |nil=>rfl
 |cons s r ih=>
  rw[Iw,ih]
  simp only[Af]
  cases l.findIdx? λx=>decide (x=s)with
  |none=>rfl
  |some i=>
   cases Af (λs=>l.findIdx? λx=>decide (x=s)) r with
   |none=>rfl
   |some is=>rfl
end Go.AM
namespace Go.AM
open Go.Proofs Go.Lib
theorem NQ:∀{a b:List Int},List.Pairwise (λx y=>x<y) a->List.Pairwise (λx y=>x<y) b->(∀x,x∈a↔x∈b)->a=b
 |[],[],_,_,_=>rfl
 |[],y::s,_,_,h=>by have:=(h y).2 (by simp);cases this
 |x::r,[],_,_,h=>by have:=(h x).1 (by simp);cases this
 |x::r,y::s,ha,hb,h=>by
  obtain⟨a1,a2⟩:=YW.1 ha
  obtain⟨b1,b2⟩:=YW.1 hb
  have e:x=y:=by
   rcases XA.1 ((h x).1 (by simp))with q|q
   ·exact q
   ·rcases XA.1 ((h y).2 (by simp))with p|p
    ·exact p.symm
    ·have:=a1 y p;have:=b1 x q;omega
  subst e
  refine congrArg _ (NQ a2 b2 λz=>?_)
  constructor
  ·intro hz
   rcases XA.1 ((h z).1 (by simp [hz]))with q|q
   ·subst q;have:=a1 z hz;omega
   ·exact q
  ·intro hz
   rcases XA.1 ((h z).2 (by simp [hz]))with q|q
   ·subst q;have:=b1 z hz;omega
   ·exact q
theorem Ge {sh w h:Int} {holes cells:List Int} (hc:Al sh w h holes=some cells):(sh=1\/sh=2)/\1<=w/\w<=16/\1<=h/\h<=16/\(holes.length:Int)<w*h/\(∀x∈holes,0<=x/\x<w*h)/\List.Pairwise (λx y=>x<y) holes/\cells=(Ep (w*h)).filter λp=>!holes.contains p:=by
 unfold Al at hc
 split at hc
 ·rename_i hq
  obtain⟨a,b,c,d,e,f,g,i⟩:=hq
  cases hc
  rw[Iv]at g
  simp only[Xe,Xb]at i
  exact⟨a,b,c,d,e,f,λx hx=>⟨by have:=g.1 x hx;omega,i x hx⟩,g.2,rfl⟩
 ·cases hc
theorem wh_le {w h:Int} (h1:1<=w) (h2:w<=16) (h3:1<=h) (h4:h<=16):1<=w*h/\w*h<=256:=by
 have a:w*h<=16*16:=Int.mul_le_mul h2 h4 (by omega) (by omega)
 have b:1*1<=w*h:=Int.mul_le_mul h1 h3 (by omega) (by omega)
 omega
def B5 (cells l:List Int):List Int:=l.map λp=>(lowB cells p:Int)
theorem Ub {l:List Int} (hp:List.Pairwise (λx y=>x<y) l) {i:Nat} (hi:i<l.length):lowB l l[i]=i:=by
 refine MH (Nat.le_of_lt hi) (λk hk h=>YF.1 hp k i hk hi h) λk hk h=>Wd hp hk h
theorem We {l:List Int} (hp:List.Pairwise (λx y=>x<y) l) {x y:Int} (hx:x∈l) (hy:y∈l) (h:lowB l x=lowB l y):x=y:=by
 obtain⟨i,hi,rfl⟩:=Xw.1 hx
 obtain⟨j,hj,rfl⟩:=Xw.1 hy
 rw[Ub hp hi,Ub hp hj]at h
 subst h;rfl
theorem Jk:∀{l:List (List Int)},Bz l=true↔∃(a b:Nat) (ha:a<l.length) (hb:b<l.length),b<a/\Kr l[a] l[b]=true
 |[]=>by simp [Bz]
 |x::r=>by
  have ih:=Jk (l:=r)
  simp only[Bz,Xl,ih,YD]
  constructor
  ·rintro(⟨y,hy,h⟩|⟨a,b,ha,hb,hab,h⟩)
   ·obtain⟨i,hi,rfl⟩:=Xw.1 hy
    exact⟨i+1,0,by simp;omega,by simp,by omega,h⟩
   ·exact⟨a+1,b+1,by simp;omega,by simp;omega,by omega,h⟩
  ·rintro⟨a,b,ha,hb,hab,h⟩
   cases a with
   |zero=>omega
   |succ a=>
    cases b with
    |zero=>exact .inl ⟨r[a]'(by simp at ha;omega),Xg _,h⟩
    |succ b=>exact .inr ⟨a,b,by simp at ha;omega,by simp at hb;omega,by omega,h⟩
theorem RG (cells:List Int) (l:List DReg) (i:Nat) (hi:i<l.length):Dh cells (l.drop i)=if regE cells l[i]=0 then Dh cells (l.drop (i+1))else regE cells l[i]:=by
 rw[Xu hi];rfl
theorem GD {cells l:List Int} (h:EK cells l=true):l.Nodup/\1<=l.length/\∀p∈l,p∈cells:=by
 unfold EK at h
 simp only[X5,Yb,Xb,CF,Xe,Y4]at h
 exact⟨h.1.2,h.2,h.1.1⟩
end Go.AM
namespace Go.AM
open Go.Proofs Go.Lib
abbrev eLl (l:List (List Int)):AVal:=.sl (.none 1) (l.map eIs)
abbrev ID (s:DSym):AVal:=.agg [.str s.nm,.int .i64 s.v]
abbrev GT (r:DReg):AVal:=.agg [.str r.nm,eLl r.ls]
abbrev B0 (c:DClu):AVal:=.agg [.str c.nm,.str c.on,.int .i64 c.fam,.int .i64 c.ty,.int .i64 c.lo,.int .i64 c.hi]
abbrev Di (r:DRul):List AVal:=[.str r.nm,.str r.on,.int .i64 r.kind,.int .i64 r.fam,eSs r.ns,eSs r.os,.int .i64 r.set,.int .i64 r.oth,.int .i64 r.op,.int .i64 r.n,.str r.byN,.int .i64 r.clue]
abbrev Bn (r:DRul):AVal:=.agg (Di r)
abbrev eSys (l:List DSym):AVal:=.sl (.none 2) (l.map ID)
abbrev eRgs (l:List DReg):AVal:=.sl (.none 2) (l.map GT)
abbrev eCls (l:List DClu):AVal:=.sl (.none 6) (l.map B0)
abbrev eRus (l:List DRul):AVal:=.sl (.none 12) (l.map Bn)
abbrev AK (d:Dcl):List AVal:=[.str d.nm,.int .i64 d.ver,.int .i64 d.sh,.int .i64 d.w,.int .i64 d.h,eIs d.holes,eSys d.syms,eRgs d.regs,eCls d.clus,eRus d.ruls]
abbrev encD (d:Dcl):AVal:=.agg (AK d)
theorem AW (n:Nat) (l:List Int):(eIs l).under n:=⟨trivial,Cj n _⟩
theorem DI (n:Nat) (l:List Bs):(eSs l).under n:=⟨trivial,DG n _⟩
theorem A1 (n:Nat) (l:List (List Int)):(eLl l).under n:=⟨trivial,AY (AW n) _⟩
theorem HZ (n:Nat) (s:DSym):(ID s).under n:=⟨trivial,trivial,trivial⟩
theorem Dj (n:Nat) (r:DReg):(GT r).under n:=⟨trivial,A1 n _,trivial⟩
theorem FB (n:Nat) (c:DClu):(B0 c).under n:=⟨trivial,trivial,trivial,trivial,trivial,trivial,trivial⟩
theorem CG (n:Nat) (r:DRul):(Bn r).under n:=⟨trivial,trivial,trivial,trivial,DI n _,DI n _,trivial,trivial,trivial,trivial,trivial,trivial,trivial⟩
theorem EY (n:Nat) (l:List DSym):(eSys l).under n:=⟨trivial,AY (HZ n) _⟩
theorem Cp (n:Nat) (l:List DReg):(eRgs l).under n:=⟨trivial,AY (Dj n) _⟩
theorem EZ (n:Nat) (l:List DClu):(eCls l).under n:=⟨trivial,AY (FB n) _⟩
theorem Cq (n:Nat) (l:List DRul):(eRus l).under n:=⟨trivial,AY (CG n) _⟩
theorem BS (n:Nat) (d:Dcl):(encD d).under n:=⟨trivial,trivial,trivial,trivial,trivial,AW n _,EY n _,Cp n _,EZ n _,Cq n _,trivial⟩
def GU:AVal->List Int
 | .sl _ L=>L.map toI
 |_=>[]
def Oj:AVal->List Bs
 | .sl _ L=>L.map toS
 |_=>[]
def Ok:AVal->List (List Int)
 | .sl _ L=>L.map GU
 |_=>[]
def TY:AVal->DSym
 | .agg [.str nm,.int _ v]=>⟨nm,v⟩
 |_=>⟨[],0⟩
def RH:AVal->DReg
 | .agg [.str nm,l]=>⟨nm,Ok l⟩
 |_=>⟨[],[]⟩
def TZ:AVal->DClu
 | .agg [.str nm,.str on,.int _ f,.int _ t,.int _ lo,.int _ hi]=>⟨nm,on,f,t,lo,hi⟩
 |_=>⟨[],[],0,0,0,0⟩
def RI:AVal->DRul
 | .agg [.str nm,.str on,.int _ k,.int _ f,ns,os,.int _ s,.int _ o,.int _ op,.int _ n,.str b,.int _ c]=>⟨nm,on,k,f,Oj ns,Oj os,s,o,op,n,b,c⟩
 |_=>⟨[],[],0,0,[],[],0,0,0,0,[],0⟩
def IE {α:Type} (f:AVal->α):AVal->List α
 | .sl _ L=>L.map f
 |_=>[]
def decD:AVal->Dcl
 | .agg [.str nm,.int _ v,.int _ sh,.int _ w,.int _ h,ho,sy,rg,cl,ru]=>⟨nm,v,sh,w,h,GU ho,IE TY sy,IE RH rg,IE TZ cl,IE RI ru⟩
 |_=>⟨[],0,0,0,0,[],[],[],[],[]⟩
theorem DJ (l:List Int):GU (eIs l)=l:=As l
theorem EM (l:List (List Int)):Ok (eLl l)=l:=By DJ l
theorem FX (s:DSym):TY (ID s)=s:=rfl
theorem EN (r:DReg):RH (GT r)=r:=by simp only[RH,EM]
theorem FY (c:DClu):TZ (B0 c)=c:=rfl
theorem EO (r:DRul):RI (Bn r)=r:=by simp only[RI,Oj,C4]
theorem Jl (d:Dcl):decD (encD d)=d:=by
 simp only[decD,GU,IE,As,By FX,By EN,By FY,By EO]
def dWk {α:Type} (enc:α->AVal) (dec:AVal->α):Dc α:=⟨enc,dec,λv=>Wk v (enc (dec v)),λ_ h=>h⟩
theorem Er {α:Type} {enc:α->AVal} {dec:AVal->α} (h:∀x,dec (enc x)=x) (x:α):(dWk enc dec).ok (enc x)=True:=W7 (by show Wk _ _;rw[h];exact Wk.refl _)
def dSy:Dc DSym:=dWk ID TY
def dRg:Dc DReg:=dWk GT RH
def dCl:Dc DClu:=dWk B0 TZ
def dRu:Dc DRul:=dWk Bn RI
def dD:Dc Dcl:=dWk encD decD
theorem Uc (x:DSym):dSy.ok (ID x)=True:=Er FX x
theorem RJ (x:DSym):dSy.dec (ID x)=x:=rfl
theorem NR (x:DReg):dRg.ok (GT x)=True:=Er EN x
theorem Jm (x:DReg):dRg.dec (GT x)=x:=EN x
theorem Ku (x:DClu):dCl.ok (B0 x)=True:=Er FY x
theorem Hc (x:DClu):dCl.dec (B0 x)=x:=rfl
theorem GE (x:DRul):dRu.ok (Bn x)=True:=Er EO x
theorem EP (x:DRul):dRu.dec (Bn x)=x:=EO x
theorem GW (x:Dcl):dD.ok (encD x)=True:=Er Jl x
theorem Ds (x:Dcl):dD.dec (encD x)=x:=Jl x
def dLi {α:Type} (e:Nat) (enc:α->AVal) (dec:AVal->α):Dc (List α):=⟨λl=>.sl (.none e) (l.map enc),decL dec,okL e enc dec,Q8⟩
theorem Hd {α:Type} {e:Nat} {enc:α->AVal} {dec:AVal->α} (h:∀x,dec (enc x)=x) {t:Tok} {l:List α} (ht:t.esz=e\/l=[]):(dLi e enc dec).ok (.sl t (l.map enc))=True:=W7 (by
 refine⟨ht.imp id λq=>by rw[q];rfl,?_⟩
 rw[By h])
theorem FC {α:Type} {e:Nat} {enc:α->AVal} {dec:AVal->α} (h:∀x,dec (enc x)=x) {t:Tok} {l:List α}:(dLi e enc dec).dec (.sl t (l.map enc))=l:=By h l
def dLl:Dc (List (List Int)):=dLi 1 eIs GU
def dSys:Dc (List DSym):=dLi 2 ID TY
def dRgs:Dc (List DReg):=dLi 2 GT RH
def dCls:Dc (List DClu):=dLi 6 B0 TZ
def dRus:Dc (List DRul):=dLi 12 Bn RI
theorem Az (l:List Int):dIs.ok (eIs l)=True:=W7 ⟨.inl rfl,by rw[As]⟩
theorem At (l:List Int):dIs.dec (eIs l)=l:=As l
theorem dSs_ok (l:List Bs):dSs.ok (eSs l)=True:=W7 ⟨.inl rfl,by rw[C4]⟩
theorem Wf (l:List Bs):dSs.dec (eSs l)=l:=C4 l
theorem Cl (x:Int):dI.ok (.int .i64 x)=True:=W7 trivial
theorem BV (x:Int):dI.dec (.int .i64 x)=x:=rfl
theorem dS_ok (x:Bs):dS.ok (.str x)=True:=W7 trivial
theorem Ud (x:Bs):dS.dec (.str x)=x:=rfl
abbrev dcl0:Dcl:=⟨[],0,0,0,0,[],[],[],[],[]⟩
end Go.AM
namespace Go.AM
open Go.Proofs Go.Lib
def nmEs:List Bs->Nat->List (AVal×AVal×Nat)
 |[],_=>[]
 |s::r,i=>(.str s,.int .i64 (i:Int),i)::nmEs r (i+1)
theorem DK:∀(l:List Bs) (i:Nat),DS .str (nmEs l i)=True
 |[],_=>rfl
 |s::r,i=>by rw[nmEs,DS,DK r (i+1)];simp [KT.is]
theorem Ol (x:Bs) (r:List Bs) (s:Bs):B4 (x::r) s=if x=s then some 0 else(B4 r s).map (· +1):=by
 unfold B4
 rw[Zi]
 by_cases h:x=s
 ·simp [h]
 ·simp only[h,ZA,Xm,Xy]
  cases List.findIdx? (λx=>decide (x=s)) r<;>simp
theorem RK:∀(l:List Bs) (s:Bs) (i:Nat),A5 (.str s) (nmEs l i)=(B4 l s).map λn=>.int .i64 (n+(i:Int))
 |[],s,i=>rfl
 |x::r,s,i=>by
  rw[nmEs,A5,Ol,RK r s (i+1)]
  by_cases h:x=s
  ·subst h;simp [ceq]
  ·have:¬s=x:=λq=>h q.symm
   simp only[ceq,h,this,ZA,Xm,Xy]
   cases B4 r s with
   |none=>rfl
   |some n=>simp only[XG];congr 2;omega
theorem Dk (l:List Bs) (s:Bs):A5 (.str s) (nmEs l 0)=(B4 l s).map λn=>.int .i64 n:=by
 rw[RK];congr 1;funext n;simp
theorem Ue:∀(l:List Bs) (s:Bs) (i:Nat),nmEs (l++[s]) i=nmEs l i++[(.str s,.int .i64 ((i+l.length:Nat):Int),i+l.length)]
 |[],s,i=>rfl
 |x::r,s,i=>by
  rw[Xh,nmEs,Ue r s (i+1),nmEs,Xh,Xj,show i+1+r.length=i+(r.length+1)by omega]
theorem Gf {k v:AVal} {c:Nat}:∀{es:List (AVal×AVal×Nat)},A5 k es=none->mset k v c es=es++[(k,v,c)]
 |[],_=>rfl
 |(k',v',b)::r,h=>by
  rw[A5]at h
  split at h
  ·cases h
  ·rename_i q
   rw[mset,X8 q,Gf h];rfl
theorem Kv {l:List Bs} {s:Bs} (h:B4 l s=none):mset (.str s) (.int .i64 (l.length:Int)) l.length (nmEs l 0)=nmEs (l++[s]) 0:=by
 rw[Gf (by rw[Dk,h];rfl),Ue];simp
theorem Ta {α:Type} [DecidableEq α] {a b:List α} {x:α} (h:x∈a):Ai (a++x::b)=true:=by
 cases q:Ai (a++x::b)with
 |true=>rfl
 |false=>exact absurd rfl ((Yu.1 (CF.1 q)).2.2 x h x (by simp))
def ctEs:List Int->Nat->List (AVal×AVal×Nat)
 |[],_=>[]
 |s::r,i=>(.int .i64 s,.bool true,i)::ctEs r (i+1)
theorem RL:∀(l:List Int) (i:Nat),DS (.int .i64) (ctEs l i)=True
 |[],_=>rfl
 |s::r,i=>by rw[ctEs,DS,RL r (i+1)];simp [KT.is]
theorem MI:∀(l:List Int) (x:Int) (i:Nat),A5 (.int .i64 x) (ctEs l i)=if l.contains x then some (.bool true)else none
 |[],x,i=>rfl
 |y::r,x,i=>by
  rw[ctEs,A5,MI r x (i+1),List.contains_cons]
  by_cases h:x=y
  ·subst h;simp [ceq]
  ·simp only[ceq,h,ZA,Xm,Xy,beq_eq_false_iff_ne.2 h,YX]
theorem Uf:∀(l:List Int) (s:Int) (i:Nat),ctEs (l++[s]) i=ctEs l i++[(.int .i64 s,.bool true,i+l.length)]
 |[],s,i=>rfl
 |x::r,s,i=>by
  rw[Xh,ctEs,Uf r s (i+1),ctEs,Xh,Xj,show i+1+r.length=i+(r.length+1)by omega]
theorem ct_set {l:List Int} {x:Int} (h:l.contains x=false):mset (.int .i64 x) (.bool true) l.length (ctEs l 0)=ctEs (l++[x]) 0:=by
 rw[Gf (by rw[MI,h];rfl),Uf];simp
theorem He {x y:Int} {v:AVal} {c:Nat}:∀{es:List (AVal×AVal×Nat)},DS (.int .i64) es->A5 (.int .i64 x) (mset (.int .i64 y) v c es)=if x=y then some v else A5 (.int .i64 x) es
 |[],_=>by
  rw[mset,A5,A5]
  by_cases h:x=y<;>simp [ceq,h,A5]
 |(k',v',b)::r,hf=>by
  obtain⟨h1,h2⟩:=hf
  have ih:=He (x:=x) (y:=y) (v:=v) (c:=c) h2
  cases k'<;>simp only[KT.is]at h1
  rename_i kk z
  subst h1
  rw[mset]
  by_cases hy:y=z
  ·subst hy
   rw[Xc (by simp [ceq])]
   rw[A5,A5]
   by_cases hx:x=y
   ·subst hx;simp [ceq]
   ·simp [ceq,hx]
  ·rw[X8 (by simp [ceq,hy])]
   rw[A5,ih,A5]
   by_cases hx:x=z
   ·subst hx
    have:¬x=y:=λq=>hy q.symm
    simp [ceq,this]
   ·simp [ceq,hx]
theorem Hf {y:Int} {v:AVal} {c:Nat}:∀{es:List (AVal×AVal×Nat)},DS (.int .i64) es->DS (.int .i64) (mset (.int .i64 y) v c es)
 |[],_=>⟨rfl,trivial⟩
 |(k',v',b)::r,⟨h1,h2⟩=>by
  rw[mset]
  split
  ·exact⟨h1,h2⟩
  ·exact⟨h1,Hf h2⟩
def cntZ (rs:List DRul) (z:Int):Nat:=(rs.filter λr=>decide (r.clue=z)).length
theorem Tb (rs:List DRul) (i:Nat):cntZ rs (i:Int)=IC rs i:=rfl
theorem Wg (rs:List DRul) (r:DRul) (z:Int):cntZ (rs++[r]) z=cntZ rs z+if r.clue=z then 1 else 0:=by
 unfold cntZ
 rw[Yn,Xk]
 by_cases h:r.clue=z<;>simp [h]
theorem cnt_le (rs:List DRul) (z:Int):cntZ rs z<=rs.length:=Y3 ..
def MJ (rs:List DRul) (es:List (AVal×AVal×Nat)):Prop:=DS (.int .i64) es/\∀z:Int,(A5 (.int .i64 z) es).getD (.int .i64 0)= .int .i64 (cntZ rs z:Int)
theorem MJ.next {rs:List DRul} {es:List (AVal×AVal×Nat)} {r:DRul} {c:Nat} (h:MJ rs es):MJ (rs++[r]) (mset (.int .i64 r.clue) (.int .i64 ((cntZ rs r.clue+1:Nat):Int)) c es):=by
 refine⟨Hf h.1,λz=>?_⟩
 rw[He h.1,Wg]
 by_cases q:z=r.clue
 ·subst q;rw[Xc rfl,Xc rfl];rfl
 ·rw[X8 q,X8 (λe=>q e.symm)];exact h.2 z
end Go.AM
namespace Go.AM
open Go.Proofs Go.Lib Go.RowKit Go.Sort
theorem Hg {g:Ghost} {f:Nat->Option Value}:∀(ws:List Int) (o:Nat),Stab g 1 f o (ws.map eI)->∀(j:Nat) x,ws[j]?=some x->f (o+j)=some (.int .i64 x)
 |[],_,_,j,x,h=>by simp at h
 |y::ws,o,⟨⟨v,q1,q2,q3⟩,h'⟩,j,x,h=>by
  cases j with
  |zero=>
   simp at h;subst h
   have q1':v= .int .i64 y:=q1
   subst q1'
   exact q3 0 _ rfl
  |succ j=>rw[show o+(j+1)=o+1+j by omega];exact Hg ws (o+1) h' j x (by simpa using h)
theorem GF {g:Ghost} {f:Nat->Option Value}:∀(ws:List Int) (o:Nat),(∀(j:Nat) x,ws[j]?=some x->f (o+j)=some (.int .i64 x))->Stab g 1 f o (ws.map eI)
 |[],_,_=>trivial
 |y::ws,o,h=>by
  refine⟨⟨.int .i64 y,rfl,⟨rfl,λx hx=>by simp [Value.cells]at hx;subst hx;rfl⟩,λj x hx=>?_⟩,GF ws (o+1) λj x hx=>by
   have:=h (j+1) x (by simpa using hx)
   rw[<-this];congr 1;omega⟩
  cases j with
  |zero=>
   have hx':some (Value.int .i64 y)=some x:=hx
   cases hx'
   exact h 0 y rfl
  |succ j=>simp [Value.cells]at hx
theorem Om (w:World) (k:Nat):Below w.heap.size w (w.drewN k) where
 os:=rfl
 tape:=rfl
 output:=rfl
 size:=X4 _
 block:=λi hi=>rfl
theorem p231 (l:List Int) (x:Int) (hl:l.length<1000000000) (hs:List.Pairwise (λx y=>x<y) l):Pur Tryz.prog 231 [eIs l,.int .i64 x] (.tup [.int .i64 (lowB l x),.bool (l.contains x)]):=by
 refine GB l231 ⟨⟨trivial,Cj 0 l⟩,trivial,trivial⟩ ⟨trivial,trivial,trivial⟩ ?_
 rintro g w vs hR ⟨v,r,rfl,k1,v2,r2,rfl,k2,k3⟩
 have k2':v2= .int .i64 x:=k2
 have k3':r2=[]:=k3
 subst k2';subst k3'
 have hres:∀q,l=[]\/q=l.take l.length->VRel g (.tup [.int .i64 (lowB l x),.bool (l.contains x)]) (.tuple #[.int .i64 (((l.take l.length).countP (· <x):Nat):Int),.bool ((l.take l.length).contains x)]):=λq _=>by
  rw[XK]
  have e:(l.countP λy=>decide (y<x))=lowB l x:=List.countP_eq_length_filter
  rw[e]
  exact⟨_,rfl,_,_,rfl,rfl,_,_,rfl,rfl,rfl⟩
 have hres:=hres l (.inr (XK).symm)
 rcases k1 with⟨k1,rfl,-⟩|⟨-,b,o,cap,⟨sp,rfl,hsp⟩,hc,hst,-⟩
 ·have:l=[]:=by simpa using k1
  subst this
  refine(Tryz.slices_BinarySearch_int_empty none 0 x w).mono ?_
  rintro e w' ⟨rfl,rfl⟩
  exact⟨⟨_,rfl,hres⟩,Below.refl _ _⟩
 ·cases l with
  |nil=>
   refine(Tryz.slices_BinarySearch_int_empty _ _ x w).mono ?_
   rintro e w' ⟨rfl,rfl⟩
   exact⟨⟨_,rfl,hres⟩,Below.refl _ _⟩
  |cons y ys=>
   obtain rfl:sp=none:=hsp.resolve_right λq=>by cases q.1
   have hcell:=Hg _ _ hst
   have hk:=Tryz.slices_BinarySearch_int b o (y::ys).length cap (y::ys) x w (X4 _) (by omega) (λj hj=>hR.σw _ _ _ (hcell j _ (by rw[X1 hj];simp [List.getD,X1 hj]))) (by rw[XK];exact hs.imp λq=>by omega)
   simp only[W6]at hk⊢
   refine hk.mono ?_
   rintro e w' ⟨rfl,q,rfl⟩
   exact⟨⟨_,rfl,hres⟩,Om _ _⟩
theorem lSort:Aa Tryz.prog 234:=⟨Tryz.f234,by kernel_rfl,by kernel_rfl,by kernel_rfl⟩
theorem NS {H:AB} {n id len cap:Nat} {zs:List Int} (ho:hget H id=some (.arr 1 (zs.map eI))) (hl:len<=zs.length) (hz:len<1000000000):
  AO Tryz.prog 234 [.ref id 1 0 len cap] H n λo H' n'=>o= .ret (.tup [])/\H'=hset H id (.arr 1 (((zs.take len).mergeSort leI++zs.drop len).map eI))/\n'=n:=by
 refine⟨lSort,λg w vs hR hv=>?_⟩
 obtain⟨v,r,rfl,k1,k2⟩:=hv
 have k2':r=[]:=k2
 subst k2'
 obtain⟨L,h1,h2,rfl⟩:=k1
 obtain⟨L',c,e,j1,j2,j3,j4,j5,j6⟩:=hR.obj id _ ho
 rw[h1]at j1;cases j1
 have hcell:=Hg _ _ j6
 simp only[XU]at hcell
 have hsz:c.size=zs.length:=by rw[<-j5];simp
 have htl:(zs.take len).length=len:=by simp;omega
 have hb:L.blk<w.heap.size:=(Xo.1 j4).1
 have hc:=Tryz.slices_Sort_int L.blk 0 cap (zs.take len) w (λj hj=>by
  have hj':j<(zs.take len).length:=by simpa using hj
  refine⟨?_,?_⟩
  ·rw[XU,getElem!_pos _ j hj]
   simp only[World.cell?,j4]
   rw[hcell j _ (show zs[j]?=some zs[j]from X1 (by omega))]
   simp
  ·simp [World.frozen?,j4]) hb (by omega)
 rw[htl]at hc
 simp only[Z3]at hc⊢
 refine hc.mono ?_
 rintro ee w' ⟨rfl,k,os,rfl⟩
 generalize hS:(zs.take len).mergeSort (λx y=>decide (x<=y))=S
 have hSl:S.length=len:=by rw[<-hS,List.length_mergeSort,htl]
 have hblk:(putRow (Value.int .i64) (Sort.ahead w k) L.blk 0 S.toArray).heap[L.blk]?=some (.cells (Go.Sort.putCells (Value.int .i64) 0 S.toArray c) e (0,0)):=by
  simp only[putRow,mapBlock,Sort.ahead,Array.getElem?_modify,Yi,j4,XG,onCells]
 have hget:∀j:Nat,(Go.Sort.putCells (Value.int .i64) 0 S.toArray c)[j]?=if j<len then(S[j]?).map (Value.int .i64)else c[j]?:=λj=>by
  simp only[Go.Sort.putCells,Array.getElem?_mapIdx,Xd,Ym,XU,Nat.sub_zero,List.size_toArray,hSl]
  by_cases q:j<len
  ·simp only[q,Yi]
   have hjc:j<c.size:=by omega
   have hjS:j<S.length:=by omega
   rw[Yv hjc,X1 hjS]
   simp [hjS]
  ·simp only[q,Xy]
   cases c[j]?<;>rfl
 obtain⟨r1,r2⟩:=hR.upd (m:=n) (w':=putRow (Value.int .i64) (Sort.ahead w k) L.blk 0 S.toArray) (ob':=.arr 1 ((S++zs.drop len).map eI)) ho rfl h1 rfl rfl rfl (by simp [putRow,mapBlock,Sort.ahead])
  (λb hne=>by simp only[putRow,mapBlock,Sort.ahead,Array.getElem?_modify];rw[X8 (Ne.symm hne)])
  (.inl ⟨c,e,(0,0),_,j4,hblk,by simp [Go.Sort.putCells],λo ho'=>by
   rw[hget,X8 (by rcases ho' with q|q<;>omega)]⟩)
  ⟨L,_,e,h1,h2,by rw[j3];simp [Go.Sort.putCells],hblk,by simp [Go.Sort.putCells,hSl];omega,GF _ _ λj x hx=>by
   rw[XU,hget]
   by_cases q:j<len
   ·rw[Xc q]
    rw[Y9 (by omega)]at hx
    rw[hx];rfl
   ·rw[X8 q]
    rw[Y2 (by omega),Zz]at hx
    exact hcell j x (by rw[<-hx];congr 1;omega)⟩
 have hx:HExt (putRow (Value.int .i64) (Sort.ahead w k) L.blk 0 S.toArray) (grow (putRow (Value.int .i64) (Sort.ahead w k) L.blk 0 S.toArray) os):=λb ob hb=>by
  show(_++os)[b]?=some ob
  rw[Array.getElem?_append_left (Xo.1 hb).1];exact hb
 have r3:=r1.grow hx (σ':=g.σ) (λ_ _ _ q=>q) (λ_ _ _ q=>.inl q)
 exact⟨g,.ret (.tup []),_,n,⟨rfl,rfl,rfl⟩,⟨_,rfl,rfl⟩,r3,X4 _,r2.trans (Trans.grow hx rfl rfl rfl (λ_ _ _ q=>q) (λ_ _ _ q=>.inl q))⟩
end Go.AM
namespace Go.AM
open Go.Proofs Go.Lib
def LV (e:Nat) (v:AVal) (H:AB) (l:List AVal):Prop:=
 (l=[]/\∃t,v= .sl t []/\(t= .nil\/t= .exact e))\/(l≠[]/\∃id cap rest,v= .ref id e 0 l.length cap/\hget H id=some (.arr e (l++rest))/\l.length+rest.length=cap)
def Ug (e:Nat) (H:AB) (n:Nat) (l:List AVal):AOut->AB->Nat->Prop:=λo H' n'=>
 (l=[]/\H'=H/\n<=n'/\∃t,o= .ret (.sl t [])/\(t= .nil\/t= .exact e))\/(l≠[]/\n'=n+4/\∃cap rest,o= .ret (.ref (n+2) e 0 l.length cap)/\H'=hset H (n+2) (.arr e (l++rest))/\l.length+rest.length=cap)
theorem AO.out {P:Program} {f:FuncId} {args:List AVal} {H:AB} {n:Nat} {R R':AOut->AB->Nat->Prop} (h:AO P f args H n R)
  (hr:∀o H' n',R o H' n'->∃o2,R' o2 H' n'/\∀g w e,Rel g H' n' w->ERel g o e->ERel g o2 e):AO P f args H n R':=
 ⟨h.1,λg w vs r v=>(h.2 g w vs r v).mono λe w' ⟨g',out,H',n',q,he,hR,hn,ht⟩=>
  let ⟨o2,q2,hw⟩:=hr _ _ _ q;⟨g',o2,H',n',q2,hw _ _ _ hR he,hR,hn,ht⟩⟩
theorem AO.seal {P:Program} {f:FuncId} {args:List AVal} {H:AB} {n:Nat} {R R':AOut->AB->Nat->Prop} (h:AO P f args H n R)
  (hr:∀o H' n',R o H' n'->R' o H' n'\/∃id e l,hget H' id=some (.arr e l)/\R' o (hset H' id (.frz e l)) n'):AO P f args H n R':=by
 refine⟨h.1,λg w vs r v=>(h.2 g w vs r v).mono ?_⟩
 rintro e w' ⟨g',out,H',n',q,he,hR,hn,ht⟩
 rcases hr _ _ _ q with q|⟨id,es,l,h0,q⟩
 ·exact⟨g',out,H',n',q,he,hR,hn,ht⟩
 ·obtain⟨σ',r1,t1⟩:=hR.freeze (m:=n) h0
  refine⟨_,out,_,n',q,?_,r1,hn,ht.trans t1⟩
  cases out<;>cases e<;>first|exact he.elim|skip
  ·exact VRel.mono t1.le _ _ he
  ·obtain⟨v,hv,hr⟩:=he
   exact⟨v,hv,VRel.mono t1.le _ _ hr⟩
def LF (e:Nat) (v:AVal) (H:AB) (l:List AVal):Prop:=
 (l=[]/\∃t,v= .sl t []/\(t= .nil\/t= .exact e))\/(l≠[]/\∃id cap rest,v= .ref id e 0 l.length cap/\hget H id=some (.frz e (l++rest))/\l.length+rest.length=cap)
theorem Ix {e:Nat} {v:AVal} {H:AB} {l:List AVal} (h:LF e v H l) {g:Ghost} {n:Nat} {w:World} {x:Value} (hR:Rel g H n w) (hv:VRel g v x):VRel g (.sl (.none e) l) x:=by
 rcases h with⟨rfl,t,rfl,ht⟩|⟨hne,id,cap,rest,rfl,ho,hc⟩
 ·exact Wk.sl (.inr rfl) _ _ hv
 ·obtain⟨L,h1,h2,rfl⟩:=hv
  obtain⟨L',j1,j2,j3⟩:=hR.obj id _ ho
  rw[h1]at j1;cases j1
  refine .inr ⟨trivial,L.blk,0,cap,⟨none,by simp,.inl rfl⟩,by omega,?_,trivial⟩
  have:=Stab.take l.length _ _ j3
  rw[Zn]at this
  exact this
def LvG {α:Type} (enc:α->AVal) (e lo:Nat) (H:AB) (lv:AVal) (qs:List α):Prop:=(lv= .sl .nil []/\qs=[])\/qs≠[]/\∃id rest,lv= .ref id e 0 qs.length (qs.length+rest.length)/\lo<=id/\hget H id=some (.arr e ((qs++rest).map enc))
section
variable {α:Type} {enc:α->AVal} {e lo:Nat}
theorem MK {H:AB} {m b:Nat} {lv z v:AVal} {z0:α} {qs:List α} {q:α} {K:AB->AVal->Prop} (h:LvG enc e lo H lv qs) (hv:v=enc q) (he:0<e) (hz:z.cells.length=e) (hz0:z=enc z0) (hb:Ap (qs.length+1) b) (hm:hget H m=none) (hm2:lo<=m) (hk:qs.length+1<=35184372088832)
  (hK:∀id (rest:List α),lo<=id->(id=m\/∃L,hget H id=some (.arr e L))->K (hset H id (.arr e (((qs++[q])++rest).map enc))) (.ref id e 0 (qs++[q]).length ((qs++[q]).length+rest.length))):IA H m e b z K lv (some [v]):=by
 subst hv
 subst hz0
 have el:(qs++[q]).length=qs.length+1:=by simp
 rcases h with⟨rfl,rfl⟩|⟨-,id,rest,rfl,h2,h3⟩
 ·rw[CL]
  refine⟨hm,he,hz,.inl rfl,hb,by simp,(λe=>by cases e),λ_ cap hcap=>?_⟩
  have:=hK m (List.replicate (cap-1) z0) hm2 (.inl rfl)
  simp only[Xi,Xp,Xj,Y8,Y5,Xh,YI]at this hcap⊢
  rw[show 0+1+(cap-1)=cap by omega]at this
  exact this
 ·rw[HL h3]
  refine⟨hm,he,hz,rfl,rfl,hb,hk,rfl,by simp,by omega,λhr=>?_,λhr cap' hc=>?_⟩
  ·have:=hK id (rest.drop 1) h2 (.inr ⟨_,h3⟩)
   simp only[Xj,Y8]at hr⊢
   have e1:List.take qs.length ((qs++rest).map enc)=qs.map enc:=by rw[Xf,YG (by simp),XR (by simp)]
   have e2:List.drop (qs.length+(0+1)) ((qs++rest).map enc)=(rest.drop 1).map enc:=by rw[Xf,List.drop_append,YC (by simp)];simp
   rw[e1,e2]
   rw[el,Xf,Xf,Yl,show qs.length+1+(rest.length-1)=qs.length+rest.length by omega]at this
   exact this
  ·have:=hK m (List.replicate (cap'-(qs.length+1)) z0) hm2 (.inl rfl)
   simp only[Xj,Y8]at hr hc⊢
   have e1:List.take qs.length ((qs++rest).map enc)=qs.map enc:=by rw[Xf,YG (by simp),XR (by simp)]
   rw[e1]
   rw[el,Xf,Xf,YI,Y5,show qs.length+1+(cap'-(qs.length+1))=cap' by omega]at this
   exact this
end
structure VF where
 i:Nat
 H:AB
 n:Nat
theorem Iy {P:Program} {T:Tab} {b:Nat} {cx:Nat->AVal} {rx:List (Nat×AOp)} {kp:List Nat} {k:List Item} {Q:AExit->AS->Prop} {s:AS} {d:Option Nat} {sz:Nat} {a x:Opd}:An P T b cx ((0,⟨d,none,.st sz a x⟩)::rx) kp k Q s=((lk s.env a).1=true/\(lk s.env x).1=true/\nT (lkv s.env x)/\(lkv s.env x).cells.length=sz/\(stE s.H sz (lkv s.env x) (lkv s.env a)).1/\An P T b cx rx kp k Q ({s with H:=(stE s.H sz (lkv s.env x) (lkv s.env a)).2}.put d true (.tup []))):=by
 rw[Q0,JK,NG]
 simp only[gvb,Yg,BD,Ym];rfl
end Go.AM
namespace Go.AM
open Go.Proofs Go.Lib
theorem Wh {H:AB} {n:Nat} (l:List DClu) (hl:few l):AO Tryz.prog 214 [eCls l] H n (Ug 6 H n (l.map B0)):=by
 refine AO.fresh l214 λhf=>a214 (AF AH.tnil (AG ?_))
 have hll:l.length<1000000000:=hl
 cases l with
 |nil=>
  simp only[eE,eC,eN,reduceCtorEq,↓reduceIte,c214]
  refine⟨?_,?_⟩
  ·simp only[eE,eC,eN,reduceCtorEq,Nat.reduceEqDiff,↓reduceIte,Nat.reduceAdd,Nat.reduceLT,CL,EE,fr1 hf,Ap,Z3,Xd]
   exact .inl ⟨rfl,rfl,Y6 _ _,.exact 6,rfl,.inr rfl⟩
  ·simp only[eE,eC,eN,reduceCtorEq,↓reduceIte,Xa]
   exact .inl ⟨rfl,rfl,X4 _,.nil,rfl,.inl rfl⟩
 |cons x r=>
  rw[Xj]at hll
  simp only[eE,eC,eN,reduceCtorEq,Nat.reduceEqDiff,↓reduceIte,Nat.reduceAdd,Nat.reduceLeDiff,Nat.reduceMul,Nat.reduceLT,W6,c214,eCls,CL,EE,fr1 hf]
  refine⟨AX (by omega) (by decide),by omega,λcap hcap=>.inr ⟨by simp,rfl,cap,List.replicate (cap-(r.length+1)) (.agg [.str [],.str [],.int .i64 0,.int .i64 0,.int .i64 0,.int .i64 0]),?_,?_,?_⟩⟩
  ·simp
  ·simp
  ·simp;omega
theorem Wi {H:AB} {n:Nat} (l:List DRul) (hl:few l):AO Tryz.prog 218 [eRus l] H n (Ug 12 H n (l.map Bn)):=by
 refine AO.fresh l218 λhf=>a218 (AF AH.tnil (AG ?_))
 have hll:l.length<1000000000:=hl
 cases l with
 |nil=>
  simp only[eE,eC,eN,reduceCtorEq,↓reduceIte,c218]
  refine⟨?_,?_⟩
  ·simp only[eE,eC,eN,reduceCtorEq,Nat.reduceEqDiff,↓reduceIte,Nat.reduceAdd,Nat.reduceLT,CL,EE,fr1 hf,Ap,Z3,Xd]
   exact .inl ⟨rfl,rfl,Y6 _ _,.exact 12,rfl,.inr rfl⟩
  ·simp only[eE,eC,eN,reduceCtorEq,↓reduceIte,Xa]
   exact .inl ⟨rfl,rfl,X4 _,.nil,rfl,.inl rfl⟩
 |cons x r=>
  rw[Xj]at hll
  simp only[eE,eC,eN,reduceCtorEq,Nat.reduceEqDiff,↓reduceIte,Nat.reduceAdd,Nat.reduceLeDiff,Nat.reduceMul,Nat.reduceLT,W6,c218,eRus,CL,EE,fr1 hf]
  refine⟨AX (by omega) (by decide),by omega,λcap hcap=>.inr ⟨by simp,rfl,cap,List.replicate (cap-(r.length+1)) (.agg [.str [],.str [],.int .i64 0,.int .i64 0,.sl .nil [],.sl .nil [],.int .i64 0,.int .i64 0,.int .i64 0,.int .i64 0,.str [],.int .i64 0]),?_,?_,?_⟩⟩
  ·simp
  ·simp
  ·simp;omega
end Go.AM
