/-
  What is told of functions, argument by argument; lists that grow, and objects beside one another · Bytes and names (a pa.
  Conditions: none beyond those of its parts.
-/
import Derived.Test.YtepckdbdfhpggaaGreatB5
import Derived.Test.YtepckdbdfhpggaaGreatProg
import Derived.Test.YtepckdbdfhpggaaGreatShelf
import Derived.Test.YtepckdbdfhpggaaGreatB6

set_option maxRecDepth 20000
set_option linter.all false
set_option maxHeartbeats 1000000
namespace Go.AM
open Go.Proofs Go.Lib
abbrev Bs:=List UInt8
abbrev eI (n:Int):AVal:=.int .i64 n
abbrev eSs (l:List Bs):AVal:=.sl (.none 1) (l.map .str)
abbrev eIs (l:List Int):AVal:=.sl (.none 1) (l.map eI)
theorem DM (n:Nat) (l:List Bs):unders n (l.map AVal.str):=AY (f:=AVal.str) (λx=>trivial) _
theorem Ck (n:Nat) (l:List Int):unders n (l.map eI):=AY (f:=eI) (λx=>trivial) _
theorem C8 (l:List Bs):(l.map AVal.str).map toS=l:=by rw[Ze];exact List.map_id _
theorem As (l:List Int):(l.map eI).map toI=l:=by rw[Ze];exact List.map_id _
inductive Wks:List AVal->List AVal->Prop
 |nil:Wks [] []
 |cons {a b:AVal} {ws us:List AVal}:Wk a b->Wks ws us->Wks (a::ws) (b::us)
theorem Wks.rel {g:Ghost}:∀{ws us:List AVal},Wks ws us->∀vs,VRels g ws vs->VRels g us vs
 |_,_,.nil,vs,h=>h
 |_,_,.cons h t,vs,⟨v,r,e,k1,k2⟩=>⟨v,r,e,h _ _ k1,t.rel r k2⟩
theorem Wk.agg {ws us:List AVal} (h:Wks ws us):Wk (.agg ws) (.agg us):=by
 rintro g v ⟨vs,rfl,h1,h2⟩
 exact⟨vs,rfl,h.rel _ h1,h2⟩
theorem Wk.tup {ws us:List AVal} (h:Wks ws us):Wk (.tup ws) (.tup us):=by
 rintro g v ⟨vs,rfl,h1⟩
 exact⟨vs,rfl,h.rel _ h1⟩
theorem Wk.trans {a b c:AVal} (h:Wk a b) (k:Wk b c):Wk a c:=λg v q=>k g v (h g v q)
def CQ (pid:Nat) (H H':AB):Prop:=∀id ob,id≠pid->hget H id=some ob->hget H' id=some ob
theorem CQ.refl {pid:Nat} (H:AB):CQ pid H H:=λ_ _ _ h=>h
theorem CQ.set {pid:Nat} {H H':AB} {ob:AObj} (h:CQ pid H H'):CQ pid H (hset H' pid ob):=λid o hne x=>by
 rw[AA _ _ _ _ (Ne.symm hne)];exact h id o hne x
theorem CQ.new {pid:Nat} {H H':AB} {n i:Nat} {ob:AObj} (hf:AN H n) (hi:n<=i) (h:CQ pid H H'):CQ pid H (hset H' i ob):=λid o hne x=>by
 have:=hf.lt x
 rw[AA _ _ _ _ (by omega)];exact h id o hne x
section
variable {n pid:Nat} {H:AB}
theorem fr1 (h:AN H n) (k:Nat):hget H (n+k)=none:=h _ (by omega)
theorem fr0 (h:AN H n):hget H n=none:=h _ (Xb _)
end
theorem natE3 {a b c:Nat}:(a+b=a+c)=(b=c):=propext ⟨λh=>by omega,λh=>by omega⟩
structure Dc (α:Type) where
 enc:α->AVal
 dec:AVal->α
 ok:AVal->Prop
 wk:∀v,ok v->Wk v (enc (dec v))
def Dj:AVal->Prop
 | .int .i64 _=>True
 |_=>False
theorem Tg (v:AVal) (h:Dj v):Wk v (eI (toI v)):=by
 unfold Dj at h
 split at h
 ·exact Wk.refl _
 ·exact h.elim
def dI:Dc Int:=⟨eI,toI,Dj,Tg⟩
theorem isS_wk (v:AVal) (h:isS v):Wk v (.str (toS v)):=by
 cases v<;>first|exact Wk.refl _|exact h.elim
def dS:Dc Bs:=⟨.str,toS,isS,isS_wk⟩
def okL {α:Type} (e:Nat) (enc:α->AVal) (dec:AVal->α):AVal->Prop
 | .sl t L=>(t.esz=e\/L=[])/\L=(L.map dec).map enc
 |_=>False
def decL {α:Type} (dec:AVal->α):AVal->List α
 | .sl _ L=>L.map dec
 |_=>[]
theorem RM {α:Type} {e:Nat} {enc:α->AVal} {dec:AVal->α} (v:AVal) (h:okL e enc dec v):Wk v (.sl (.none e) ((decL dec v).map enc)):=by
 cases v<;>simp only[okL]at h<;>try exact h.elim
 simp only[decL]
 rw[<-h.2];exact Wk.sl h.1
def dSs:Dc (List Bs):=⟨eSs,decL toS,okL 1 .str toS,RM⟩
def dIs:Dc (List Int):=⟨eIs,decL toI,okL 1 eI toI,RM⟩
def s1 {α:Type} (A:Dc α) (c:α->Prop) (f:α->AVal):List AVal->AB->Prop×AVal:=λa _=>match a with
 |[x]=>(A.ok x/\c (A.dec x),f (A.dec x))
 |_=>(False,.tup [])
def s2 {α β:Type} (A:Dc α) (B:Dc β) (c:α->β->Prop) (f:α->β->AVal):List AVal->AB->Prop×AVal:=λa _=>match a with
 |[x,y]=>(A.ok x/\B.ok y/\c (A.dec x) (B.dec y),f (A.dec x) (B.dec y))
 |_=>(False,.tup [])
def s3 {α β γ:Type} (A:Dc α) (B:Dc β) (C:Dc γ) (c:α->β->γ->Prop) (f:α->β->γ->AVal):List AVal->AB->Prop×AVal:=λa _=>match a with
 |[x,y,z]=>(A.ok x/\B.ok y/\C.ok z/\c (A.dec x) (B.dec y) (C.dec z),f (A.dec x) (B.dec y) (C.dec z))
 |_=>(False,.tup [])
theorem q1 {α:Type} {A:Dc α} {c:α->Prop} {f:α->AVal} {fid:FuncId} (h:∀x,c x->Pur Tryz.prog fid [A.enc x] (f x)):∀args H n,(s1 A c f args H).1->Aa Tryz.prog fid args H n (s1 A c f args H).2:=by
 intro args H n hh
 unfold s1 at hh⊢
 split at hh
 ·obtain⟨h1,h2⟩:=hh
  refine AO.args ((h _ h2).quiet H n) ?_
  rintro g vs ⟨v,r,rfl,k1,k2⟩
  exact⟨v,_,rfl,A.wk _ h1 _ _ k1,k2⟩
 ·exact hh.elim
theorem q2 {α β:Type} {A:Dc α} {B:Dc β} {c:α->β->Prop} {f:α->β->AVal} {fid:FuncId} (h:∀x y,c x y->Pur Tryz.prog fid [A.enc x,B.enc y] (f x y)):∀args H n,(s2 A B c f args H).1->Aa Tryz.prog fid args H n (s2 A B c f args H).2:=by
 intro args H n hh
 unfold s2 at hh⊢
 split at hh
 ·obtain⟨h1,h2,h3⟩:=hh
  refine AO.args ((h _ _ h3).quiet H n) ?_
  rintro g vs ⟨v,r,rfl,k1,w,r',rfl,k2,k3⟩
  exact⟨v,_,rfl,A.wk _ h1 _ _ k1,w,_,rfl,B.wk _ h2 _ _ k2,k3⟩
 ·exact hh.elim
theorem q3 {α β γ:Type} {A:Dc α} {B:Dc β} {C:Dc γ} {c:α->β->γ->Prop} {f:α->β->γ->AVal} {fid:FuncId} (h:∀x y z,c x y z->Pur Tryz.prog fid [A.enc x,B.enc y,C.enc z] (f x y z)):∀args H n,(s3 A B C c f args H).1->Aa Tryz.prog fid args H n (s3 A B C c f args H).2:=by
 intro args H n hh
 unfold s3 at hh⊢
 split at hh
 ·obtain⟨h1,h2,h3,h4⟩:=hh
  refine AO.args ((h _ _ _ h4).quiet H n) ?_
  rintro g vs ⟨v,r,rfl,k1,w,r',rfl,k2,u,r'',rfl,k3,k4⟩
  exact⟨v,_,rfl,A.wk _ h1 _ _ k1,w,_,rfl,B.wk _ h2 _ _ k2,u,_,rfl,C.wk _ h3 _ _ k3,k4⟩
 ·exact hh.elim
abbrev any1 {α:Type} (_:α):Prop:=True
abbrev any2 {α β:Type} (_:α) (_:β):Prop:=True
theorem NV {α:Type} {p:α->Bool} {l:List α} {i:Nat} (h:i<l.length):(l.take (i+1)).all p=((l.take i).all p&&p l[i]):=by
 rw[Y2,X5 h,List.all_append];simp
theorem map_take {α β:Type} {f:α->β} {l:List α} {i:Nat} (h:i<l.length):(l.take (i+1)).map f=(l.take i).map f++[f l[i]]:=by
 rw[Y2,X5 h,Xj];rfl
theorem lt_T {a b:Nat} (h:a<b):((a:Int)<(b:Int))=True:=X1 (by omega)
theorem lt_F {a b:Nat} (h:¬a<b):((a:Int)<(b:Int))=False:=X9 (by omega)
theorem Ay {x:Int} (h1: -9223372036854775808<=x) (h2:x<=9223372036854775807):IntKind.wrap .i64 x=x:=by rw[IntKind.wrap_i64];omega
theorem AL {k:Nat} (h:k<9000000000000000000):IntKind.wrap .i64 ((k:Int)+1)=((k+1:Nat):Int):=by rw[Ay (by omega) (by omega)];rfl
theorem c0:((0:Nat):Int)=0:=rfl
theorem c1:((1:Nat):Int)=1:=rfl
theorem cS0 {n:Nat}:(((n+1:Nat):Int)=0)=False:=X9 (by omega)
theorem cS1 {n:Nat}:((0:Int)<((n+1:Nat):Int))=True:=X1 (by omega)
theorem i00:((0:Int)<0)=False:=X9 (by decide)
def tkG (e lo:Nat) (H:AB) (tk:Tok):Prop:=tk= .nil\/tk= .exact e\/∃id,tk= .own id e/\lo<=id/\hget H id=some .tok
theorem tkG.app {e lo:Nat} {H:AB} {tk:Tok} (h:tkG e lo H tk):Bj H e tk:=by
 rcases h with rfl|rfl|⟨id,rfl,h1,h2⟩
 ·trivial
 ·rfl
 ·exact⟨rfl,h2⟩
theorem tkG.set {e lo i:Nat} {H:AB} {tk:Tok} {ob:AObj} (h:tkG e lo H tk) (hi:i<lo\/(∃cs,hget H i=some (.box cs))\/hget H i=none):tkG e lo (hset H i ob) tk:=by
 rcases h with rfl|rfl|⟨id,rfl,h1,h2⟩
 ·exact .inl rfl
 ·exact .inr (.inl rfl)
 ·refine .inr (.inr ⟨id,rfl,h1,?_⟩)
  rw[AA _ _ _ _ ?_]
  ·exact h2
  ·rintro rfl
   rcases hi with q|⟨cs,q⟩|q
   ·omega
   ·rw[h2]at q;cases q
   ·rw[h2]at q;cases q
theorem Ad {e lo i:Nat} {H:AB} {tk:Tok} (h:tkG e lo H tk) (hi:i<lo\/∃cs,hget H i=some (.box cs)):hget (AV H tk) i=hget H i:=by
 rcases h with rfl|rfl|⟨id,rfl,h1,h2⟩
 ·rfl
 ·rfl
 ·simp only[AV]
  rw[AA _ _ _ _ ?_]
  rintro rfl
  rcases hi with q|⟨cs,q⟩
  ·omega
  ·rw[h2]at q;cases q
theorem Ag {e lo n:Nat} {H:AB} {tk:Tok} (h:tkG e lo H tk) (hf:AN H n):AN (AV H tk) n:=by
 rcases h with rfl|rfl|⟨id,rfl,h1,h2⟩
 ·exact hf
 ·exact hf
 ·exact hf.hset (Xb _) (hf.lt h2)
abbrev few {α:Type} (l:List α):Prop:=l.length<1000000000
abbrev wide {α:Type} (l:List α):Prop:=l.length<1125899906842624
theorem Jo {α:Type} {l:List α} (h:few l):wide l:=by
 have:l.length<1000000000:=h
 show l.length<_
 omega
theorem Cl {α:Type} {a b:List α} (hl:a.length=b.length) (h:∀j,j<a.length->a[j]?=b[j]?):a=b:=Zb λj=>by
 rcases Nat.lt_or_ge j a.length with q|q
 ·exact h j q
 ·rw[Yk q,Yk (by omega)]
theorem FU {a b:Nat} (h:a≠b):((a:Int)=(b:Int))=False:=X9 (by omega)
theorem FV {a b:Nat} (h:a=b):((a:Int)=(b:Int))=True:=X1 (by omega)
theorem AX {n b:Nat} (h:n<=1000000000) (hb:b<=1000):Ap n b:=by
 have:n*b<=1000000000*1000:=Nat.mul_le_mul h hb
 unfold Ap;omega
theorem Bz {α:Type} {enc:α->AVal} {dec:AVal->α} (h:∀x,dec (enc x)=x) (l:List α):(l.map enc).map dec=l:=by
 rw[Ze];exact(Yf λx _=>h x).trans (List.map_id _)
def dEx {α:Type} (enc:α->AVal) (dec:AVal->α):Dc α:=⟨enc,dec,λv=>v=enc (dec v),λv h=>h▸Wk.refl _⟩
theorem C7.mono {P:Program} {fid:FuncId} {args:List AVal} {rv:AVal} {H:AB} {n:Nat} {Rc Rc':AB->Nat->Prop} (h:C7 P fid args rv H n Rc) (hr:∀H' n',Rc H' n'->Rc' H' n'):C7 P fid args rv H n Rc':=
 λg w vs u hR hV hu=>CallsDIn.mono (h g w vs u hR hV hu) λe u' w' ⟨h1,h2,g',H',n',h3,h4⟩=>⟨h1,h2,g',H',n',hr _ _ h3,h4⟩
end Go.AM
namespace Go.AM
open Go.Proofs Go.Lib Go.RowKit Go.Sort
def s155:List AVal->AB->Prop×AVal:=λa H=>match a with
 |[.str l,.int .u8 c]=>(0<=c/\c<256,.int .i64 (indexByte l (UInt8.ofNat c.toNat)))
 |_=>(False,.tup [])
theorem q155:∀args H n,(s155 args H).1->Aa Tryz.prog 155 args H n (s155 args H).2:=by
 intro args H n h
 unfold s155 at h⊢
 split at h
 ·rename_i l c
  refine Pur.quiet ?_ H n
  refine GE l155 ⟨trivial,trivial,trivial⟩ trivial ?_
  rintro g w vs hR ⟨v,r,rfl,k1,v2,r2,rfl,k2,k3⟩
  have k1':v= .string ⟨l.toArray⟩:=k1
  have k2':v2= .int .u8 c:=k2
  have k3':r2=[]:=k3
  subst k1';subst k2';subst k3'
  refine(Tryz.strings_IndexByte ⟨l.toArray⟩ c w).mono ?_
  rintro e w' ⟨rfl,rfl⟩
  exact⟨⟨_,rfl,rfl⟩,Below.refl _ _⟩
 ·exact h.elim
def T1:Tab:=tadd 155 s155 tnil
theorem T1_ok:AH Tryz.prog T1:=AH.tnil.add q155
theorem T1_155 (a:List AVal) (H:AB):T1 155 a H=s155 a H:=rfl
def DN (x:Int):Bool:=(decide (97<=x)&&decide (x<=122))||(decide (65<=x)&&decide (x<=90))
def Ek (x:Int):Bool:=decide (48<=x)&&decide (x<=57)
def isSp (x:Int):Bool:=decide (x=32)||decide (x=9)||decide (x=10)||decide (x=13)
abbrev sgnL:List UInt8:=[123,125,40,41,59,44,61,58,46,60,62,33,43,45,42,47]
def MO (x:Int):Bool:=decide (0<=indexByte sgnL (UInt8.ofNat x.toNat))
def clsI (x:Int):Int:=if DN x then 2 else if Ek x then 3 else if x=95 then 5 else if isSp x then 1 else if MO x then 4 else 0
def FW (x:Int):Bool:=DN x||Ek x||decide (x=95)
theorem p156 (x:Int):Pur Tryz.prog 156 [.int .u8 x] (.bool (DN x)):=by
 refine .mk (by simp [unders,AVal.under]) trivial (a156 (AF AH.tnil (AG ?_)))
 simp only[eE,eN,sel,reduceCtorEq,Nat.reduceEqDiff,↓reduceIte,c156]
 rfl
theorem p200 (x:Int):Pur Tryz.prog 200 [.int .u8 x] (.bool (Ek x)):=by
 refine .mk (by simp [unders,AVal.under]) trivial (a200 (AF AH.tnil (AG ?_)))
 simp only[eE,eN,sel,reduceCtorEq,Nat.reduceEqDiff,↓reduceIte,c200]
 rfl
theorem p108 (x:Int) (h0:0<=x) (h1:x<256):Pur Tryz.prog 108 [.int .u8 x] (.int .i64 (clsI x)):=by
 refine .mk (by simp [unders,AVal.under]) trivial (a108 (AF T1_ok (AG ?_)))
 simp only[eE,eN,K1,sel,reduceCtorEq,Nat.reduceEqDiff,↓reduceIte,c108,T1_155,s155]
 refine⟨λh=>?_,λg1=>⟨λh=>?_,λg2=>⟨λh=>?_,λg3=>⟨λh=>?_,λg4=>⟨⟨h0,h1⟩,λh=>?_,λh=>?_⟩⟩⟩⟩⟩
 ·have:DN x=true:=by simp [DN];omega
  simp [clsI,this]
 ·have k1:DN x=false:=by simp [DN];simp at g1;omega
  have:Ek x=true:=by simp [Ek];omega
  simp [clsI,this,k1]
 ·have k1:DN x=false:=by simp [DN];simp at g1;omega
  have k2:Ek x=false:=by simp [Ek];simp at g2;omega
  simp only[clsI,h,Yv]
  subst h;rfl
 ·have k1:DN x=false:=by simp [DN];simp at g1;omega
  have k2:Ek x=false:=by simp [Ek];simp at g2;omega
  have:isSp x=true:=by simp [isSp];omega
  simp [clsI,g3,this,k1,k2]
 ·have k1:DN x=false:=by simp [DN];simp at g1;omega
  have k2:Ek x=false:=by simp [Ek];simp at g2;omega
  have k4:isSp x=false:=by simp [isSp];omega
  have k5:MO x=true:=by simpa [MO]using h
  simp [clsI,g3,k4,k5,k1,k2]
 ·have k1:DN x=false:=by simp [DN];simp at g1;omega
  have k2:Ek x=false:=by simp [Ek];simp at g2;omega
  have k4:isSp x=false:=by simp [isSp];omega
  have k5:MO x=false:=by simpa [MO]using h
  simp [clsI,g3,k4,k5,k1,k2]
def sB (f:Int->AVal):List AVal->AB->Prop×AVal:=λa H=>match a with
 |[.int .u8 x]=>(0<=x/\x<256,f x)
 |_=>(False,.tup [])
theorem qB {fid:FuncId} {f:Int->AVal} (h:∀x,0<=x->x<256->Pur Tryz.prog fid [.int .u8 x] (f x)):∀args H n,(sB f args H).1->Aa Tryz.prog fid args H n (sB f args H).2:=by
 intro args H n hh
 unfold sB at hh⊢
 split at hh
 ·exact(h _ hh.1 hh.2).quiet H n
 ·exact hh.elim
abbrev s108:=sB λx=>.int .i64 (clsI x)
abbrev s156:=sB λx=>.bool (DN x)
abbrev s200:=sB λx=>.bool (Ek x)
def T2:Tab:=tadd 108 s108 (tadd 156 s156 (tadd 200 s200 T1))
theorem T2_ok:AH Tryz.prog T2:=((T1_ok.add (qB λx _ _=>p200 x)).add (qB λx _ _=>p156 x)).add (qB p108)
theorem T2_156 (a:List AVal) (H:AB):T2 156 a H=s156 a H:=rfl
theorem T2_200 (a:List AVal) (H:AB):T2 200 a H=s200 a H:=rfl
theorem p157 (x:Int) (h0:0<=x) (h1:x<256):Pur Tryz.prog 157 [.int .u8 x] (.bool (FW x)):=by
 refine .mk (by simp [unders,AVal.under]) trivial (a157 (AF T2_ok (AG ?_)))
 simp only[eE,eN,sel,reduceCtorEq,Nat.reduceEqDiff,↓reduceIte,c157,T2_156,T2_200,sB,h0,h1]
 rfl
abbrev s157:=sB λx=>.bool (FW x)
def letB (b:UInt8):Bool:=DN b.toNat
def Th (b:UInt8):Bool:=FW b.toNat
theorem RN (x:Int):clsI x=2↔DN x=true:=by
 unfold clsI
 cases DN x<;>cases Ek x<;>cases isSp x<;>cases MO x<;>simp<;>split<;>simp
theorem NW (x:Int):(clsI x=2\/clsI x=3\/clsI x=5)↔FW x=true:=by
 unfold clsI FW
 cases DN x<;>cases Ek x<;>cases isSp x<;>cases MO x<;>by_cases h:x=95<;>simp [h]
theorem u8_lt (b:UInt8):(0:Int)<=b.toNat/\(b.toNat:Int)<256:=⟨by omega,by have:=b.toNat_lt;omega⟩
def CH (s:List UInt8):Bool:=decide (1<=s.length)&&decide (s.length<=32)&&letB (s[0]?.getD 0)&&s.all Th
def T3:Tab:=tadd 157 s157 T2
theorem T3_ok:AH Tryz.prog T3:=T2_ok.add (qB p157)
theorem Up (a:List AVal) (H:AB):T3 108 a H=s108 a H:=rfl
theorem Ti {s:List UInt8} {i:Nat} (hi:i<s.length) (h:FW ((s[i]).toNat:Int)=false):s.all Th=false:=by
 refine Zp.2 λhh=>?_
 have:=Xi.1 hh s[i] (Xk hi)
 unfold Th at this
 rw[h]at this;cases this
theorem Tj {s:List UInt8} (h:∀j (hj:j<s.length),FW ((s[j]).toNat:Int)=true):s.all Th=true:=by
 refine Xi.2 λx hx=>?_
 obtain⟨j,hj,rfl⟩:=Xx.1 hx
 exact h j hj
theorem Tk (s:List UInt8):scmp .eql s []=decide (s.length=0):=by cases s<;>rfl
theorem p74 (s:List UInt8):Pur Tryz.prog 74 [.str s] (.bool (CH s)):=by
 refine .mk (by simp [unders,AVal.under]) trivial (a74 (AF T3_ok (AG ?_)))
 simp only[eE,eN,K1,sel,reduceCtorEq,Nat.reduceEqDiff,↓reduceIte,Int.reduceLE,Int.reduceToNat,c74,Up,sB,u8_lt,Tk]
 refine⟨by omega,λh=>?_,λh=>?_⟩
 ·refine(Zp.2 λhh=>?_).symm
  simp only[CH,X8,Xf]at hh
  obtain⟨⟨⟨h1,h2⟩,h3⟩,-⟩:=hh
  rcases h with(h|h)|h
  ·omega
  ·omega
  ·rw[RN]at h;exact h h3
 refine AU (λi:Nat=>⟨[(0,true,.str s),(19,true,.int .i64 s.length),(20,true,.int .i64 i)],hnil,0⟩)
  (λi=>i<=s.length/\∀j (hj:j<s.length),j<i->FW ((s[j]).toNat:Int)=true) (λi=>s.length-i) 0 rfl ⟨by omega,λj _ hj=>by omega⟩ ?_
 rintro i ⟨hi,hall⟩
 by_cases hlt:i<s.length
 ·have e:=AL (k:=i) (by omega)
  simp only[eE,eN,K1,sel,reduceCtorEq,Nat.reduceEqDiff,↓reduceIte,Int.reduceEq,Up,sB,u8_lt,Int.ofNat_lt,hlt,X4,X3,e,X5 hlt,X2]
  refine⟨λhp=>?_,λhp=>.mk (i+1) rfl ⟨by omega,λj hj hji=>?_⟩ (by omega)⟩
  ·have:FW ((s[i]).toNat:Int)=false:=Zp.2 λhh=>by rw[<-NW]at hh;simp [hp]at hh
   simp only[CH,Ti hlt this,Bool.and_false]
  ·by_cases q:j=i
   ·subst q;rw[<-NW];simp at hp;omega
   ·exact hall j hj (by omega)
 ·simp only[eE,eN,K1,sel,reduceCtorEq,Nat.reduceEqDiff,↓reduceIte,Int.reduceEq,Int.ofNat_lt,hlt]
  rw[CH,Tj λj hj=>hall j hj (by omega)]
  have h3:=h.2
  rw[RN]at h3
  simp [letB,h3];omega
end Go.AM
namespace Go.AM
open Go.Proofs Go.Lib
structure Cnd where
 k:Int
 cs:List Int
 ls:List Int
 n:Int
structure Prm where
 c:Int
 ls:List Int
structure Lma where
 nm:Bs
 lv:Int
 cs:List Bs
 ls:List Bs
 qs:List Cnd
 ps:List Prm
 c:Int
 l:Int
def idxS (l:List Bs) (s:Bs):Int:=match l.findIdx? (λx=>decide (x=s))with
 |some k=>k
 |none=>-1
def Av {α:Type} [DecidableEq α]:List α->Bool
 |[]=>true
 |x::r=>!(r.any λy=>decide (y=x))&&Av r
def CW (l:List Bs) (most:Nat):Bool:=l.all CH&&Av l&&decide (1<=l.length)&&decide (l.length<=most)
def difI (l:List Int) (n:Nat):Bool:=(l.all λk=>decide (0<=k)&&decide (k<n))&&Av l
def CR (q:Cnd) (nc nl:Nat):Bool:=difI q.cs nc&&decide (1<=q.cs.length)&&difI q.ls nl&&
 (if q.k=1\/q.k=4 then decide (2<=q.cs.length)&&decide (q.ls.length=0)&&decide (q.n=0)
  else if q.k=2 then decide (q.ls.length=1)&&decide (q.n=0)
  else if q.k=3 then decide (q.cs.length=2)&&decide (q.ls.length=0)&&decide (1<=q.n)&&decide (q.n<=99)
  else if q.k=5 then decide (q.cs.length=2)&&decide (q.ls.length=0)&&decide (q.n=0)
  else if q.k=6 then decide (1<=q.ls.length)&&decide (0<=q.n)&&decide (q.n<=q.cs.length)
  else false)
def Hd (x:Lma):Bool:=CH x.nm&&decide (1<=x.lv)&&decide (x.lv<=8)&&CW x.cs 4&&CW x.ls 3&&decide (x.qs.length<=6)&&
 difI [x.c] x.cs.length&&difI [x.l] x.ls.length&&(x.qs.all λq=>CR q x.cs.length x.ls.length)&&
 (x.ps.all λp=>difI p.ls x.ls.length&&decide (1<=p.ls.length))&&difI (x.ps.map (·.c)) x.cs.length
structure OKL (x:Lma):Prop where
 nm:CH x.nm=true
 lv:1<=x.lv/\x.lv<=8
 cs:x.cs.all CH=true/\Av x.cs=true/\1<=x.cs.length/\x.cs.length<=4
 ls:x.ls.all CH=true/\Av x.ls=true/\1<=x.ls.length/\x.ls.length<=3
 nq:x.qs.length<=6
 c:0<=x.c/\x.c<x.cs.length
 l:0<=x.l/\x.l<x.ls.length
 qs:∀q∈x.qs,CR q x.cs.length x.ls.length=true
 ps:∀p∈x.ps,difI p.ls x.ls.length=true/\1<=p.ls.length
 pc:difI (x.ps.map (·.c)) x.cs.length=true
theorem MP (x:Lma):Hd x=true↔OKL x:=by
 unfold Hd CW
 simp only[X8,Xf,Xi (p:=λq=>CR q x.cs.length x.ls.length),Xi (p:=λp:Prm=>difI p.ls x.ls.length&&decide (1<=p.ls.length))]
 constructor
 ·rintro⟨⟨⟨⟨⟨⟨⟨⟨⟨⟨h1,h2⟩,h3⟩,⟨⟨⟨c1,c2⟩,c3⟩,c4⟩⟩,⟨⟨⟨l1,l2⟩,l3⟩,l4⟩⟩,h6⟩,h7⟩,h8⟩,h9⟩,h10⟩,h11⟩
  refine⟨h1,⟨h2,h3⟩,⟨c1,c2,c3,c4⟩,⟨l1,l2,l3,l4⟩,h6,?_,?_,h9,λp hp=>h10 p hp,h11⟩
  ·simp [difI]at h7;exact h7.1
  ·simp [difI]at h8;exact h8.1
 ·rintro⟨h1,⟨h2,h3⟩,⟨c1,c2,c3,c4⟩,⟨l1,l2,l3,l4⟩,h6,h7,h8,h9,h10,h11⟩
  exact⟨⟨⟨⟨⟨⟨⟨⟨⟨⟨h1,h2⟩,h3⟩,⟨⟨⟨c1,c2⟩,c3⟩,c4⟩⟩,⟨⟨⟨l1,l2⟩,l3⟩,l4⟩⟩,h6⟩,by simp [difI,Av,h7.1,h7.2]⟩,by simp [difI,Av,h8.1,h8.2]⟩,h9⟩,λp hp=>h10 p hp⟩,h11⟩
theorem Dk {l:List Int} {n:Nat} (h:difI l n=true):(l.all λk=>decide (0<=k)&&decide (k<n))=true:=by
 unfold difI at h
 rw[X8]at h;exact h.1
structure CndOK (q:Cnd) (nc nl:Nat):Prop where
 cs:difI q.cs nc=true
 ne:1<=q.cs.length
 ls:difI q.ls nl=true
 kind:((q.k=1\/q.k=4)/\2<=q.cs.length/\q.ls.length=0/\q.n=0)\/(q.k=2/\q.ls.length=1/\q.n=0)\/(q.k=3/\q.cs.length=2/\q.ls.length=0/\1<=q.n/\q.n<=99)\/(q.k=5/\q.cs.length=2/\q.ls.length=0/\q.n=0)\/(q.k=6/\1<=q.ls.length/\0<=q.n/\q.n<=q.cs.length)
theorem RO {q:Cnd} {nc nl:Nat} (h:CR q nc nl=true):CndOK q nc nl:=by
 unfold CR at h
 simp only[X8,Xf]at h
 obtain⟨⟨⟨h1,h2⟩,h3⟩,h4⟩:=h
 refine⟨h1,h2,h3,?_⟩
 split at h4
 ·rename_i hk
  simp only[X8,Xf]at h4
  exact .inl ⟨hk,h4.1.1,h4.1.2,h4.2⟩
 split at h4
 ·rename_i hk
  simp only[X8,Xf]at h4
  exact .inr (.inl ⟨hk,h4.1,h4.2⟩)
 split at h4
 ·rename_i hk
  simp only[X8,Xf]at h4
  exact .inr (.inr (.inl ⟨hk,h4.1.1.1,h4.1.1.2,h4.1.2,h4.2⟩))
 split at h4
 ·rename_i hk
  simp only[X8,Xf]at h4
  exact .inr (.inr (.inr (.inl ⟨hk,h4.1.1,h4.1.2,h4.2⟩)))
 split at h4
 ·rename_i hk
  simp only[X8,Xf]at h4
  exact .inr (.inr (.inr (.inr ⟨hk,h4.1.1,h4.1.2,h4.2⟩)))
 ·cases h4
end Go.AM
namespace Go.AM
open Go.Proofs Go.Lib
structure DSym where
 nm:List UInt8
 v:Int
 deriving DecidableEq
structure DReg where
 nm:List UInt8
 ls:List (List Int)
 deriving DecidableEq
structure DClu where
 nm:List UInt8
 on:List UInt8
 fam:Int
 ty:Int
 lo:Int
 hi:Int
 deriving DecidableEq
structure DRul where
 nm:List UInt8
 on:List UInt8
 kind:Int
 fam:Int
 ns:List (List UInt8)
 os:List (List UInt8)
 set:Int
 oth:Int
 op:Int
 n:Int
 byN:List UInt8
 clue:Int
 deriving DecidableEq
structure Dcl where
 nm:List UInt8
 ver:Int
 sh:Int
 w:Int
 h:Int
 holes:List Int
 syms:List DSym
 regs:List DReg
 clus:List DClu
 ruls:List DRul
 deriving DecidableEq
def GF:List (List UInt8):=[[99,101,108,108,115],[114,111,119,115],[99,111,108,117,109,110,115],[100,105,97,103,111,110,97,108,115],[97,114,111,117,110,100],[110,101,97,114],[112,97,105,114,115],[97,108,108]]
def Ai {α:Type} [DecidableEq α]:List α->Bool
 |[]=>false
 |x::r=>(r.any λy=>decide (y=x))||Ai r
def GR (d:Dcl):List (List UInt8):=GF++d.regs.map (·.nm)
def B7 (l:List (List UInt8)) (s:List UInt8):Option Int:=(l.findIdx? λx=>decide (x=s)).map λ(i:Nat)=>(i:Int)
def FC (l:List (List UInt8)):List (List UInt8)->Option Int
 |[]=>some 0
 |s::r=>match l.findIdx? (λx=>decide (x=s)),FC l r with
  |some i,some n=>some (Int.ofNat (Nat.lor (1<<<i) n.toNat))
  |_,_=>none
def C9 (d:Dcl) (c:DClu):Option DClu:=(B7 (GR d) c.on).map λf=>{c with fam:=f}
def BV (d:Dcl) (r:DRul):Option DRul:=
 match (if r.on=[]then some 0 else B7 (GR d) r.on),FC (d.syms.map (·.nm)) r.ns,FC (d.syms.map (·.nm)) r.os,(if r.byN=[]then some (-1)else B7 (d.clus.map (·.nm)) r.byN)with
 |some f,some a,some b,some c=>some {r with fam:=f,set:=a,oth:=b,clue:=c}
 |_,_,_,_=>none
def Ae {α β:Type} (f:α->Option β):List α->Option (List β)
 |[]=>some []
 |x::r=>match f x,Ae f r with
  |some y,some s=>some (y::s)
  |_,_=>none
def resD (d:Dcl):Except Int Dcl:=
 if 16<d.syms.length then .error 2 else if Ai (d.syms.map (·.nm))then .error 161 else if Ai (GR d)then .error 161 else if Ai (d.clus.map (·.nm))then .error 161
 else match Ae (C9 d) d.clus with
  |none=>.error 160
  |some cs=>if Ai (d.ruls.map (·.nm))then .error 161 else match Ae (BV d) d.ruls with
   |none=>.error 160
   |some rs=>.ok {d with clus:=cs,ruls:=rs}
def DE:Int->List Int->Bool
 |_,[]=>true
 |a,x::r=>decide (a<x)&&DE x r
def Aj (sh w h:Int) (holes:List Int):Option (List Int):=
 if(sh=1\/sh=2)/\1<=w/\w<=16/\1<=h/\h<=16/\(holes.length:Int)<w*h/\DE (-1) holes=true/\(holes.all λp=>decide (p<w*h))=true then
  some (((List.range (w*h).toNat).map λ(i:Nat)=>(i:Int)).filter λp=>!holes.contains p)
 else none
def EO (cells l:List Int):Bool:=(l.all λp=>cells.contains p)&& !Ai l&&decide (1<=l.length)
def K3 (a b:List Int):Bool:=(a.all λx=>b.contains x)&&b.all λx=>a.contains x
def B0:List (List Int)->Bool
 |[]=>false
 |x::r=>(r.any λy=>K3 y x)||B0 r
def regE (cells:List Int) (r:DReg):Int:=if(decide (r.ls.length<=64)&&r.ls.all (EO cells))=false then 130 else if B0 r.ls=true then 161 else 0
def Dl (cells:List Int):List DReg->Int
 |[]=>0
 |r::s=>if regE cells r=0 then Dl cells s else regE cells r
def GS (c:DClu):Bool:=
 if c.ty=1 then decide (c.fam=0)&&decide (c.lo=0)&&decide (c.hi=0)
 else if c.ty=2 then decide (0<=c.lo)&&decide (c.lo<=c.hi)&&decide (c.hi<=65536)
 else if c.ty=3 then(decide (1<=c.fam)&&decide (c.fam<=3)||decide (8<=c.fam))&&decide (c.lo=0)&&decide (c.hi=0)
 else false
structure FormD where
 on:Bool:=false
 set:Bool:=false
 oth:Bool:=false
 bnd:Bool:=false
 num:Bool:=false
 rdb:Bool:=false
 knw:Bool:=false
 clue:Int:=0
def Jp (k:Int):FormD:=
 if k=1 then{on:=true,rdb:=true,knw:=true}else if k=2 then{on:=true,set:=true,bnd:=true,rdb:=true,knw:=true}
 else if k=3 then{on:=true,bnd:=true,rdb:=true,knw:=true}else if k=4 then{on:=true,rdb:=true,knw:=true}
 else if k=5 then{on:=true,set:=true,rdb:=true,knw:=true,clue:=3}else if k=6 then{rdb:=true,knw:=true}
 else if k=7 then{num:=true,rdb:=true,knw:=true}else if k=8 then{set:=true,oth:=true,rdb:=true,knw:=true}
 else if k=9 then{set:=true,rdb:=true,knw:=true}else if k=10 then{set:=true,rdb:=true,knw:=true}
 else if k=11 then{rdb:=true,knw:=true,clue:=1}else if k=12 then{on:=true,knw:=true}else if k=13 then{bnd:=true,knw:=true}else{}
def cluP (cl:List DClu) (r:DRul) (w:Int):Bool:=if r.clue<0\/(cl.length:Int)<=r.clue then false else match cl[r.clue.toNat]? with
 |some c=>decide (c.ty=w)&&(decide (w=1)||decide (c.fam=r.fam))
 |none=>false
def He (cl:List DClu) (r:DRul):Bool:=
 let f:=Jp r.kind
 if f.knw=false then false
 else if(f.on !=decide (r.on≠[]))||(f.set !=decide (r.set≠0))||(f.oth !=decide (r.oth≠0))||(!f.on&&decide (r.fam≠0))||(!f.set&&decide (0<r.ns.length))||(!f.oth&&decide (0<r.os.length))then false
 else if(f.bnd !=(decide (1<=r.op)&&decide (r.op<=3)))||(!f.bnd&&decide (r.op≠0))||decide (r.n<0)||decide (65536<r.n)then false
 else if !(f.num||f.bnd&&decide (r.byN=[]))&&decide (r.n≠0)then false
 else
  let want:=if f.bnd&&decide (r.byN≠[])then 2 else f.clue
  if want=0 then decide (r.byN=[])&&decide (r.clue= -1)else cluP cl r want
def IJ (rs:List DRul) (i:Nat):Nat:=(rs.filter λr=>decide (r.clue=(i:Int))).length
def CY (d:Dcl):Bool:=(d.syms.all λs=>decide (0<=s.v)&&decide (s.v<=99))&&d.ruls.all (He d.clus)&&((List.range d.clus.length).all λi=>decide (IJ d.ruls i=1))&&d.clus.all GS
def Jq (r:DRul):Bool:=decide (1<=r.kind)&&decide (r.kind<=11)
def Bf (rs:List DRul):List Int:=((List.range rs.length).filter λi=>match rs[i]? with|some r=>!Jq r|none=>false).map λ(i:Nat)=>(i:Int)
def limD (d:Dcl):Bool:=decide (0<d.syms.length)&&decide (d.syms.length<=16)&&decide (d.regs.length<=4)&&decide (d.clus.length<=4)&&decide (d.ruls.length<=16)
def chkD (d:Dcl):Int:=
 if limD d=false then 2 else match resD d with
  | .error e=>e
  | .ok x=>if x≠d then 170 else if d.ver<1\/255<d.ver then 170 else match Aj d.sh d.w d.h d.holes with
   |none=>130
   |some cells=>if Dl cells d.regs≠0 then Dl cells d.regs else if CY d=false then 170 else if Bf d.ruls≠[]then 171 else 0
end Go.AM
namespace Go.AM
open Go.Proofs Go.Lib
abbrev leI (x y:Int):Bool:=decide (x<=y)
theorem CI {α:Type} [DecidableEq α]:∀{l:List α},Ai l=false↔l.Nodup
 |[]=>by simp [Ai]
 |x::r=>by
  have ih:=CI (l:=r)
  simp only[Ai,Z9,Z3,Xf,YP,ih]
  constructor
  ·exact λ⟨h1,h2⟩=>⟨λhx=>h1 x hx rfl,h2⟩
  ·exact λ⟨h1,h2⟩=>⟨λy hy e=>h1 (e▸hy),h2⟩
theorem RP {a b:List Int}:K3 a b=true↔∀x,x∈a↔x∈b:=by
 unfold K3
 simp only[X8,Xi,Yi]
 exact⟨λ⟨h1,h2⟩ x=>⟨h1 x,h2 x⟩,λh=>⟨λx hx=>(h x).1 hx,λx hx=>(h x).2 hx⟩⟩
theorem FX (l:List Int):List.Pairwise (λx y=>x<=y) (l.mergeSort leI):=by
 have:=List.pairwise_mergeSort (le:=leI) (λa b c h1 h2=>by simp only[leI,Xf]at*;omega) (λa b=>by simp only[leI,Xp,Xf];omega) l
 exact this.imp λh=>by simpa using h
theorem I0 {a b:List Int} (ha:a.Nodup) (hb:b.Nodup):K3 a b=decide (a.mergeSort leI=b.mergeSort leI):=by
 rw[Y8,RP,Xf,<-List.perm_ext_iff_of_nodup ha hb]
 constructor
 ·intro h
  have p:(a.mergeSort leI).Perm (b.mergeSort leI):=(Z5 a leI).trans (h.trans (Z5 b leI).symm)
  exact p.eq_of_pairwise (le:=λx y:Int=>x<=y) (λx y _ _ h1 h2=>by omega) (FX a) (FX b)
 ·intro h
  exact(Z5 a leI).symm.trans (h▸Z5 b leI)
theorem nd {α:Prop} [Decidable α]:decide α= !decide (¬α):=by by_cases h:α<;>simp [h]
end Go.AM
namespace Go.AM
open Go.Proofs Go.Lib
theorem CS {α:Type} {f:α->Option α}:∀{l:List α},Ae f l=some l↔∀x∈l,f x=some x
 |[]=>by simp [Ae]
 |x::r=>by
  have ih:=CS (f:=f) (l:=r)
  simp only[Ae,XQ,ZG,<-ih]
  cases h1:f x with
  |none=>simp
  |some y=>
   cases h2:Ae f r with
   |none=>simp
   |some s=>simp
structure ResOK (d:Dcl):Prop where
 n16:d.syms.length<=16
 ts:Ai (d.syms.map (·.nm))=false
 tf:Ai (GR d)=false
 tc:Ai (d.clus.map (·.nm))=false
 tr:Ai (d.ruls.map (·.nm))=false
 cl:∀c∈d.clus,C9 d c=some c
 ru:∀r∈d.ruls,BV d r=some r
theorem K4 {d:Dcl}:resD d= .ok d↔ResOK d:=by
 constructor
 ·intro h
  unfold resD at h
  split at h
  ·cases h
  split at h
  ·cases h
  split at h
  ·cases h
  split at h
  ·cases h
  rename_i h1 h2 h3 h4
  cases hc:Ae (C9 d) d.clus with
  |none=>rw[hc]at h;cases h
  |some cs=>
   rw[hc]at h
   simp only at h
   split at h
   ·cases h
   rename_i h5
   cases hr:Ae (BV d) d.ruls with
   |none=>rw[hr]at h;cases h
   |some rs=>
    rw[hr]at h
    simp only[Except.ok.injEq]at h
    have e1:cs=d.clus:=congrArg Dcl.clus h
    have e2:rs=d.ruls:=congrArg Dcl.ruls h
    subst e1;subst e2
    exact⟨by omega,by simpa using h2,by simpa using h3,by simpa using h4,by simpa using h5,CS.1 hc,CS.1 hr⟩
 ·intro h
  unfold resD
  rw[Xc (by have:=h.n16;omega),h.ts,h.tf,h.tc,CS.2 h.cl]
  simp only[Xq,XO]
  rw[h.tr,CS.2 h.ru]
  rfl
structure DclOK (d:Dcl):Prop where
 lim:limD d=true
 res:ResOK d
 ver:1<=d.ver/\d.ver<=255
 reg:∃cells,Aj d.sh d.w d.h d.holes=some cells/\Dl cells d.regs=0
 form:CY d=true
theorem Wn {d:Dcl} (h:DclOK d):chkD d=if Bf d.ruls≠[]then 171 else 0:=by
 obtain⟨cells,h1,h2⟩:=h.reg
 unfold chkD
 rw[h.lim,K4.2 h.res]
 simp only[Bool.true_eq_false,XO,ne_eq,Z4]
 rw[Xc (by have:=h.ver;omega),h1]
 simp only[h2,h.form,Z4,XO,Bool.true_eq_false]
theorem Tl {d:Dcl}:chkD d=0↔DclOK d/\Bf d.ruls=[]:=by
 constructor
 ·intro h
  unfold chkD at h
  split at h
  ·cases h
  rename_i h1
  cases hr:resD d with
  |error e=>
   rw[hr]at h
   simp only at h
   unfold resD at hr
   subst h
   split at hr
   ·cases hr
   split at hr
   ·cases hr
   split at hr
   ·cases hr
   split at hr
   ·cases hr
   split at hr
   ·cases hr
   split at hr
   ·cases hr
   split at hr<;>cases hr
  |ok x=>
   rw[hr]at h
   simp only at h
   split at h
   ·cases h
   rename_i h2
   have h2:x=d:=by simpa using h2
   subst h2
   split at h
   ·cases h
   rename_i h3
   cases hc:Aj x.sh x.w x.h x.holes with
   |none=>rw[hc]at h;cases h
   |some cells=>
    rw[hc]at h
    simp only at h
    split at h
    ·rename_i h4;exact absurd h h4
    rename_i h4
    split at h
    ·cases h
    rename_i h5
    split at h
    ·cases h
    rename_i h6
    exact⟨⟨by simpa using h1,K4.1 hr,by omega,⟨cells,hc,by simpa using h4⟩,by simpa using h5⟩,by simpa using h6⟩
 ·rintro⟨h1,h2⟩
  rw[Wn h1,Xc (by rw[h2];exact λh=>h rfl)]
theorem NX {d x:Dcl} (h:resD d= .ok x):x.nm=d.nm/\x.ver=d.ver/\x.sh=d.sh/\x.w=d.w/\x.h=d.h/\x.holes=d.holes/\x.syms=d.syms/\x.regs=d.regs:=by
 unfold resD at h
 split at h
 ·cases h
 split at h
 ·cases h
 split at h
 ·cases h
 split at h
 ·cases h
 split at h
 ·cases h
 split at h
 ·cases h
 split at h
 ·cases h
 ·cases h;exact⟨rfl,rfl,rfl,rfl,rfl,rfl,rfl,rfl⟩
end Go.AM
namespace Go.AM
open Go.Proofs Go.Lib
theorem Ou (rs:List DRul) (r:DRul):Bf (rs++[r])=Bf rs++(if Jq r=true then[]else[(rs.length:Int)]):=by
 unfold Bf
 rw[Xm,List.length_singleton,Z6,Yz,Xj]
 congr 1
 ·congr 1
  apply Zy
  intro i hi
  have:=Y4.1 hi
  rw[Yl this]
 ·rw[Yn,Yg (Xb _),Nat.sub_self]
  simp only[Xa,List.filter_nil]
  by_cases h:Jq r=true
  ·simp [h]
  ·simp [show Jq r=false by simpa using h]
theorem RQ {α:Type} [DecidableEq α] {l:List α} {x:α}:Ai (l++[x])=false↔Ai l=false/\x∉l:=by
 rw[CI,CI,YH]
 simp only[YP,Zk,Zq,ZM,and_self,Yx,Xy]
 constructor
 ·exact λ⟨h1,h2⟩=>⟨h1,λhx=>h2 x hx x rfl rfl⟩
 ·exact λ⟨h1,h2⟩=>⟨h1,λa ha b hb e=>h2 (by rw[<-hb,<-e];exact ha)⟩
theorem RU {l:List (List UInt8)} {s:List UInt8} {n:Int} (h:B7 l s=some n):0<=n/\n<l.length:=by
 unfold B7 at h
 rw[Y3]at h
 obtain⟨i,h1,rfl⟩:=h
 have:=XK.1 h1
 obtain⟨hi,-⟩:=this
 omega
end Go.AM
namespace Go.AM
open Go.Proofs Go.Lib
end Go.AM
namespace Go.AM
open Go.Proofs Go.Lib
end Go.AM
namespace Go.AM
open Go.Proofs Go.Lib
structure SmallD (d:Dcl):Prop where
 top:d.nm.length+d.holes.length+d.syms.length+d.regs.length+d.clus.length+d.ruls.length<2000
 sy:∀s∈d.syms,s.nm.length<2000
 rg:∀r∈d.regs,r.nm.length+r.ls.length<2000/\∀l∈r.ls,l.length<2000
 cl:∀c∈d.clus,c.nm.length+c.on.length<2000
 ru:∀r∈d.ruls,r.nm.length+r.on.length+r.byN.length+r.ns.length+r.os.length<2000/\(∀s∈r.ns,s.length<2000)/\∀s∈r.os,s.length<2000
end Go.AM
namespace Go.AM
open Go.Proofs Go.Lib
theorem I1:∀{a:Int} {l:List Int},DE a l=true↔(∀x∈l,a<x)/\List.Pairwise (λx y=>x<y) l
 |a,[]=>by simp [DE]
 |a,x::r=>by
  have ih:=I1 (a:=x) (l:=r)
  simp only[DE,X8,Xf,ih,XQ,ZG,Z7]
  constructor
  ·exact λ⟨h1,h2,h3⟩=>⟨⟨h1,λy hy=>by have:=h2 y hy;omega⟩,h2,h3⟩
  ·exact λ⟨⟨h1,h2⟩,h3,h4⟩=>⟨h1,h3,h4⟩
def Es (n:Int):List Int:=(List.range n.toNat).map λ(i:Nat)=>(i:Int)
theorem Wo {n x:Int}:x∈Es n↔0<=x/\x<n:=by
 unfold Es
 rw[XN]
 constructor
 ·rintro⟨i,hi,rfl⟩
  have:=Y4.1 hi
  omega
 ·intro h
  exact⟨x.toNat,Y4.2 (by omega),by omega⟩
theorem Wp (n:Int):(Es n).length=n.toNat:=by simp [Es]
theorem BK {sh w h:Int} {holes cells:List Int} (hc:Aj sh w h holes=some cells):List.Pairwise (λx y=>x<y) cells/\cells.length<=256/\∀x∈cells,0<=x/\x<256:=by
 unfold Aj at hc
 split at hc
 ·rename_i hcond
  obtain⟨-,a,b,c,d,-⟩:=hcond
  cases hc
  have hwh:w*h<=256:=by
   have:w*h<=16*16:=Int.mul_le_mul b d (by omega) (by omega)
   omega
  have hpw:List.Pairwise (λx y:Int=>x<y) (Es (w*h)):=by
   unfold Es
   rw[List.pairwise_map]
   exact Zx.imp λq=>by omega
  refine⟨hpw.sublist List.filter_sublist,?_,λx hx=>?_⟩
  ·have h1:=Yh (λp=>!holes.contains p) (Es (w*h))
   rw[Wp]at h1
   have:((Es (w*h)).filter λp=>!holes.contains p).length<=256:=by omega
   exact this
  ·have:=Wo.1 (Yo.1 hx).1
   omega
 ·cases hc
end Go.AM
namespace Go.AM
open Go.Proofs Go.Lib
def lowB (l:List Int) (x:Int):Nat:=(l.filter λy=>decide (y<x)).length
theorem MQ:∀{l:List Int} {x:Int} {i:Nat},i<=l.length->(∀k (hk:k<l.length),k<i->l[k]<x)->(∀k (hk:k<l.length),i<=k->x<=l[k])->lowB l x=i
 |[],x,i,hi,_,_=>by simp at hi;subst hi;rfl
 |y::r,x,0,_,_,h2=>by
  have h0:=h2 0 (by simp) (Xb 0)
  have ih:=MQ (l:=r) (x:=x) (i:=0) (Xh _) (λk hk h=>by omega) (λk hk _=>h2 (k+1) (by simp;omega) (Xh _))
  unfold lowB at ih⊢
  rw[Yn,Xc (by simp at h0;simp;omega)];exact ih
 |y::r,x,i+1,hi,h1,h2=>by
  have h0:=h1 0 (by simp) (by omega)
  have ih:=MQ (l:=r) (x:=x) (i:=i) (by simp at hi;omega) (λk hk h=>h1 (k+1) (by simp;omega) (by omega)) (λk hk h=>h2 (k+1) (by simp;omega) (by omega))
  unfold lowB at ih⊢
  rw[Yn,Xg (by simpa using h0),Xn,ih]
theorem Wq {l:List Int} (hp:List.Pairwise (λx y=>x<y) l) {i j:Nat} (hj:j<l.length) (hij:i<=j):l[i]<=l[j]:=by
 by_cases e:i=j
 ·subst e;exact XP _
 ·have:=YS.1 hp i j (by omega) hj (by omega)
  omega
def Hf (cells:List Int):List Int->List Int->Bool
 |_,[]=>true
 |met,p::r=>cells.contains p&& !met.contains p&&Hf cells (met++[p]) r
theorem RV (cells:List Int):∀(l met:List Int),Hf cells met l=true↔(∀p∈l,p∈cells/\p∉met)/\l.Nodup
 |[],met=>by simp [Hf]
 |p::r,met=>by
  have ih:=RV cells r (met++[p])
  simp only[Hf,X8,Yb,Yi,ih,XQ,ZG,YP,Y6,Zk,or_false,not_or]
  rw[<-Bool.not_eq_true,Yi]
  constructor
  ·exact λ⟨⟨a,b⟩,c,d⟩=>⟨⟨⟨a,b⟩,λx hx=>⟨(c x hx).1,(c x hx).2.1⟩⟩,λhm=>(c p hm).2.2 rfl,d⟩
  ·exact λ⟨⟨⟨a,b⟩,c⟩,d,e⟩=>⟨⟨a,b⟩,λx hx=>⟨(c x hx).1,(c x hx).2,λq=>d (q▸hx)⟩,e⟩
theorem Jr (cells l:List Int):EO cells l=(Hf cells [] l&&decide (1<=l.length)):=by
 unfold EO
 congr 1
 rw[Y8,RV,X8,Xi]
 simp only[Yi,Zk,Zq,Z0,Yb,CI]
end Go.AM
namespace Go.AM
open Go.Proofs Go.Lib
theorem BS {l:List (List UInt8)} {s:List UInt8}:B7 l s=none↔s∉l:=by
 unfold B7
 rw[Z2,Yd]
 simp only[Ym]
 exact⟨λh hm=>h s hm rfl,λh x hx e=>h (e▸hx)⟩
theorem I2 {l:List (List UInt8)} {s:List UInt8} {r:List (List UInt8)}:FC l (s::r)=match l.findIdx? (λx=>decide (x=s)),FC l r with
  |some i,some n=>some (Int.ofNat (Nat.lor (1<<<i) n.toNat))
  |_,_=>none:=rfl
def bits (is:List Nat):Nat:=is.foldr (λi n=>Nat.lor (1<<<i) n) 0
theorem Ov {l ss:List (List UInt8)}:FC l ss=(Ae (λs=>l.findIdx? λx=>decide (x=s)) ss).map λis=>(bits is:Int):=by
 induction ss with
 |nil=>rfl
 |cons s r ih=>
  rw[I2,ih]
  simp only[Ae]
  cases l.findIdx? λx=>decide (x=s)with
  |none=>rfl
  |some i=>
   cases Ae (λs=>l.findIdx? λx=>decide (x=s)) r with
   |none=>rfl
   |some is=>rfl
end Go.AM
namespace Go.AM
open Go.Proofs Go.Lib
theorem NY:∀{a b:List Int},List.Pairwise (λx y=>x<y) a->List.Pairwise (λx y=>x<y) b->(∀x,x∈a↔x∈b)->a=b
 |[],[],_,_,_=>rfl
 |[],y::s,_,_,h=>by have:=(h y).2 (by simp);cases this
 |x::r,[],_,_,h=>by have:=(h x).1 (by simp);cases this
 |x::r,y::s,ha,hb,h=>by
  obtain⟨a1,a2⟩:=Z7.1 ha
  obtain⟨b1,b2⟩:=Z7.1 hb
  have e:x=y:=by
   rcases XQ.1 ((h x).1 (by simp))with q|q
   ·exact q
   ·rcases XQ.1 ((h y).2 (by simp))with p|p
    ·exact p.symm
    ·have:=a1 y p;have:=b1 x q;omega
  subst e
  refine congrArg _ (NY a2 b2 λz=>?_)
  constructor
  ·intro hz
   rcases XQ.1 ((h z).1 (by simp [hz]))with q|q
   ·subst q;have:=a1 z hz;omega
   ·exact q
  ·intro hz
   rcases XQ.1 ((h z).2 (by simp [hz]))with q|q
   ·subst q;have:=b1 z hz;omega
   ·exact q
theorem Ge {sh w h:Int} {holes cells:List Int} (hc:Aj sh w h holes=some cells):(sh=1\/sh=2)/\1<=w/\w<=16/\1<=h/\h<=16/\(holes.length:Int)<w*h/\(∀x∈holes,0<=x/\x<w*h)/\List.Pairwise (λx y=>x<y) holes/\cells=(Es (w*h)).filter λp=>!holes.contains p:=by
 unfold Aj at hc
 split at hc
 ·rename_i hq
  obtain⟨a,b,c,d,e,f,g,i⟩:=hq
  cases hc
  rw[I1]at g
  simp only[Xi,Xf]at i
  exact⟨a,b,c,d,e,f,λx hx=>⟨by have:=g.1 x hx;omega,i x hx⟩,g.2,rfl⟩
 ·cases hc
theorem wh_le {w h:Int} (h1:1<=w) (h2:w<=16) (h3:1<=h) (h4:h<=16):1<=w*h/\w*h<=256:=by
 have a:w*h<=16*16:=Int.mul_le_mul h2 h4 (by omega) (by omega)
 have b:1*1<=w*h:=Int.mul_le_mul h1 h3 (by omega) (by omega)
 omega
def B8 (cells l:List Int):List Int:=l.map λp=>(lowB cells p:Int)
theorem Uq {l:List Int} (hp:List.Pairwise (λx y=>x<y) l) {i:Nat} (hi:i<l.length):lowB l l[i]=i:=by
 refine MQ (Nat.le_of_lt hi) (λk hk h=>YS.1 hp k i hk hi h) λk hk h=>Wq hp hk h
theorem Wr {l:List Int} (hp:List.Pairwise (λx y=>x<y) l) {x y:Int} (hx:x∈l) (hy:y∈l) (h:lowB l x=lowB l y):x=y:=by
 obtain⟨i,hi,rfl⟩:=Xx.1 hx
 obtain⟨j,hj,rfl⟩:=Xx.1 hy
 rw[Uq hp hi,Uq hp hj]at h
 subst h;rfl
theorem Js:∀{l:List (List Int)},B0 l=true↔∃(a b:Nat) (ha:a<l.length) (hb:b<l.length),b<a/\K3 l[a] l[b]=true
 |[]=>by simp [B0]
 |x::r=>by
  have ih:=Js (l:=r)
  simp only[B0,Xp,ih,YZ]
  constructor
  ·rintro(⟨y,hy,h⟩|⟨a,b,ha,hb,hab,h⟩)
   ·obtain⟨i,hi,rfl⟩:=Xx.1 hy
    exact⟨i+1,0,by simp;omega,by simp,by omega,h⟩
   ·exact⟨a+1,b+1,by simp;omega,by simp;omega,by omega,h⟩
  ·rintro⟨a,b,ha,hb,hab,h⟩
   cases a with
   |zero=>omega
   |succ a=>
    cases b with
    |zero=>exact .inl ⟨r[a]'(by simp at ha;omega),Xk _,h⟩
    |succ b=>exact .inr ⟨a,b,by simp at ha;omega,by simp at hb;omega,by omega,h⟩
theorem RW (cells:List Int) (l:List DReg) (i:Nat) (hi:i<l.length):Dl cells (l.drop i)=if regE cells l[i]=0 then Dl cells (l.drop (i+1))else regE cells l[i]:=by
 rw[XM hi];rfl
theorem GG {cells l:List Int} (h:EO cells l=true):l.Nodup/\1<=l.length/\∀p∈l,p∈cells:=by
 unfold EO at h
 simp only[X8,Yb,Xf,CI,Xi,Yi]at h
 exact⟨h.1.2,h.2,h.1.1⟩
end Go.AM
namespace Go.AM
open Go.Proofs Go.Lib
abbrev eLl (l:List (List Int)):AVal:=.sl (.none 1) (l.map eIs)
abbrev IK (s:DSym):AVal:=.agg [.str s.nm,.int .i64 s.v]
abbrev GT (r:DReg):AVal:=.agg [.str r.nm,eLl r.ls]
abbrev B1 (c:DClu):AVal:=.agg [.str c.nm,.str c.on,.int .i64 c.fam,.int .i64 c.ty,.int .i64 c.lo,.int .i64 c.hi]
abbrev Dm (r:DRul):List AVal:=[.str r.nm,.str r.on,.int .i64 r.kind,.int .i64 r.fam,eSs r.ns,eSs r.os,.int .i64 r.set,.int .i64 r.oth,.int .i64 r.op,.int .i64 r.n,.str r.byN,.int .i64 r.clue]
abbrev Bl (r:DRul):AVal:=.agg (Dm r)
abbrev eSys (l:List DSym):AVal:=.sl (.none 2) (l.map IK)
abbrev eRgs (l:List DReg):AVal:=.sl (.none 2) (l.map GT)
abbrev eCls (l:List DClu):AVal:=.sl (.none 6) (l.map B1)
abbrev eRus (l:List DRul):AVal:=.sl (.none 12) (l.map Bl)
abbrev AK (d:Dcl):List AVal:=[.str d.nm,.int .i64 d.ver,.int .i64 d.sh,.int .i64 d.w,.int .i64 d.h,eIs d.holes,eSys d.syms,eRgs d.regs,eCls d.clus,eRus d.ruls]
abbrev encD (d:Dcl):AVal:=.agg (AK d)
theorem AW (n:Nat) (l:List Int):(eIs l).under n:=⟨trivial,Ck n _⟩
theorem DO (n:Nat) (l:List Bs):(eSs l).under n:=⟨trivial,DM n _⟩
theorem Az (n:Nat) (l:List (List Int)):(eLl l).under n:=⟨trivial,AY (AW n) _⟩
theorem Hg (n:Nat) (s:DSym):(IK s).under n:=⟨trivial,trivial,trivial⟩
theorem Dn (n:Nat) (r:DReg):(GT r).under n:=⟨trivial,Az n _,trivial⟩
theorem FD (n:Nat) (c:DClu):(B1 c).under n:=⟨trivial,trivial,trivial,trivial,trivial,trivial,trivial⟩
theorem CJ (n:Nat) (r:DRul):(Bl r).under n:=⟨trivial,trivial,trivial,trivial,DO n _,DO n _,trivial,trivial,trivial,trivial,trivial,trivial,trivial⟩
theorem Ec (n:Nat) (l:List DSym):(eSys l).under n:=⟨trivial,AY (Hg n) _⟩
theorem Cq (n:Nat) (l:List DReg):(eRgs l).under n:=⟨trivial,AY (Dn n) _⟩
theorem Ed (n:Nat) (l:List DClu):(eCls l).under n:=⟨trivial,AY (FD n) _⟩
theorem Cr (n:Nat) (l:List DRul):(eRus l).under n:=⟨trivial,AY (CJ n) _⟩
theorem BT (n:Nat) (d:Dcl):(encD d).under n:=⟨trivial,trivial,trivial,trivial,trivial,AW n _,Ec n _,Cq n _,Ed n _,Cr n _,trivial⟩
def GU:AVal->List Int
 | .sl _ L=>L.map toI
 |_=>[]
def Ow:AVal->List Bs
 | .sl _ L=>L.map toS
 |_=>[]
def Ox:AVal->List (List Int)
 | .sl _ L=>L.map GU
 |_=>[]
def Tm:AVal->DSym
 | .agg [.str nm,.int _ v]=>⟨nm,v⟩
 |_=>⟨[],0⟩
def RX:AVal->DReg
 | .agg [.str nm,l]=>⟨nm,Ox l⟩
 |_=>⟨[],[]⟩
def Tn:AVal->DClu
 | .agg [.str nm,.str on,.int _ f,.int _ t,.int _ lo,.int _ hi]=>⟨nm,on,f,t,lo,hi⟩
 |_=>⟨[],[],0,0,0,0⟩
def RY:AVal->DRul
 | .agg [.str nm,.str on,.int _ k,.int _ f,ns,os,.int _ s,.int _ o,.int _ op,.int _ n,.str b,.int _ c]=>⟨nm,on,k,f,Ow ns,Ow os,s,o,op,n,b,c⟩
 |_=>⟨[],[],0,0,[],[],0,0,0,0,[],0⟩
def IL {α:Type} (f:AVal->α):AVal->List α
 | .sl _ L=>L.map f
 |_=>[]
def decD:AVal->Dcl
 | .agg [.str nm,.int _ v,.int _ sh,.int _ w,.int _ h,ho,sy,rg,cl,ru]=>⟨nm,v,sh,w,h,GU ho,IL Tm sy,IL RX rg,IL Tn cl,IL RY ru⟩
 |_=>⟨[],0,0,0,0,[],[],[],[],[]⟩
theorem DQ (l:List Int):GU (eIs l)=l:=As l
theorem EP (l:List (List Int)):Ox (eLl l)=l:=Bz DQ l
theorem FY (s:DSym):Tm (IK s)=s:=rfl
theorem EQ (r:DReg):RX (GT r)=r:=by simp only[RX,EP]
theorem FZ (c:DClu):Tn (B1 c)=c:=rfl
theorem ER (r:DRul):RY (Bl r)=r:=by simp only[RY,Ow,C8]
theorem Jt (d:Dcl):decD (encD d)=d:=by
 simp only[decD,GU,IL,As,Bz FY,Bz EQ,Bz FZ,Bz ER]
def dWk {α:Type} (enc:α->AVal) (dec:AVal->α):Dc α:=⟨enc,dec,λv=>Wk v (enc (dec v)),λ_ h=>h⟩
theorem Et {α:Type} {enc:α->AVal} {dec:AVal->α} (h:∀x,dec (enc x)=x) (x:α):(dWk enc dec).ok (enc x)=True:=X1 (by show Wk _ _;rw[h];exact Wk.refl _)
def dSy:Dc DSym:=dWk IK Tm
def dRg:Dc DReg:=dWk GT RX
def dCl:Dc DClu:=dWk B1 Tn
def dRu:Dc DRul:=dWk Bl RY
def dD:Dc Dcl:=dWk encD decD
theorem Ur (x:DSym):dSy.ok (IK x)=True:=Et FY x
theorem RZ (x:DSym):dSy.dec (IK x)=x:=rfl
theorem NZ (x:DReg):dRg.ok (GT x)=True:=Et EQ x
theorem Ju (x:DReg):dRg.dec (GT x)=x:=EQ x
theorem K5 (x:DClu):dCl.ok (B1 x)=True:=Et FZ x
theorem Hh (x:DClu):dCl.dec (B1 x)=x:=rfl
theorem GH (x:DRul):dRu.ok (Bl x)=True:=Et ER x
theorem ES (x:DRul):dRu.dec (Bl x)=x:=ER x
theorem GW (x:Dcl):dD.ok (encD x)=True:=Et Jt x
theorem Dx (x:Dcl):dD.dec (encD x)=x:=Jt x
def dLi {α:Type} (e:Nat) (enc:α->AVal) (dec:AVal->α):Dc (List α):=⟨λl=>.sl (.none e) (l.map enc),decL dec,okL e enc dec,RM⟩
theorem Hi {α:Type} {e:Nat} {enc:α->AVal} {dec:AVal->α} (h:∀x,dec (enc x)=x) {t:Tok} {l:List α} (ht:t.esz=e\/l=[]):(dLi e enc dec).ok (.sl t (l.map enc))=True:=X1 (by
 refine⟨ht.imp id λq=>by rw[q];rfl,?_⟩
 rw[Bz h])
theorem FE {α:Type} {e:Nat} {enc:α->AVal} {dec:AVal->α} (h:∀x,dec (enc x)=x) {t:Tok} {l:List α}:(dLi e enc dec).dec (.sl t (l.map enc))=l:=Bz h l
def dLl:Dc (List (List Int)):=dLi 1 eIs GU
def dSys:Dc (List DSym):=dLi 2 IK Tm
def dRgs:Dc (List DReg):=dLi 2 GT RX
def dCls:Dc (List DClu):=dLi 6 B1 Tn
def dRus:Dc (List DRul):=dLi 12 Bl RY
theorem Ax (l:List Int):dIs.ok (eIs l)=True:=X1 ⟨.inl rfl,by rw[As]⟩
theorem At (l:List Int):dIs.dec (eIs l)=l:=As l
theorem dSs_ok (l:List Bs):dSs.ok (eSs l)=True:=X1 ⟨.inl rfl,by rw[C8]⟩
theorem Ws (l:List Bs):dSs.dec (eSs l)=l:=C8 l
theorem Cm (x:Int):dI.ok (.int .i64 x)=True:=X1 trivial
theorem BW (x:Int):dI.dec (.int .i64 x)=x:=rfl
theorem dS_ok (x:Bs):dS.ok (.str x)=True:=X1 trivial
theorem Us (x:Bs):dS.dec (.str x)=x:=rfl
abbrev dcl0:Dcl:=⟨[],0,0,0,0,[],[],[],[],[]⟩
end Go.AM
namespace Go.AM
open Go.Proofs Go.Lib
def nmEs:List Bs->Nat->List (AVal×AVal×Nat)
 |[],_=>[]
 |s::r,i=>(.str s,.int .i64 (i:Int),i)::nmEs r (i+1)
theorem DR:∀(l:List Bs) (i:Nat),DW .str (nmEs l i)=True
 |[],_=>rfl
 |s::r,i=>by rw[nmEs,DW,DR r (i+1)];simp [KT.is]
theorem Oy (x:Bs) (r:List Bs) (s:Bs):B7 (x::r) s=if x=s then some 0 else(B7 r s).map (· +1):=by
 unfold B7
 rw[Zv]
 by_cases h:x=s
 ·simp [h]
 ·simp only[h,ZA,Xq,XO]
  cases List.findIdx? (λx=>decide (x=s)) r<;>simp
theorem Ra:∀(l:List Bs) (s:Bs) (i:Nat),A4 (.str s) (nmEs l i)=(B7 l s).map λn=>.int .i64 (n+(i:Int))
 |[],s,i=>rfl
 |x::r,s,i=>by
  rw[nmEs,A4,Oy,Ra r s (i+1)]
  by_cases h:x=s
  ·subst h;simp [ceq]
  ·have:¬s=x:=λq=>h q.symm
   simp only[ceq,h,this,ZA,Xq,XO]
   cases B7 r s with
   |none=>rfl
   |some n=>simp only[XU];congr 2;omega
theorem Do (l:List Bs) (s:Bs):A4 (.str s) (nmEs l 0)=(B7 l s).map λn=>.int .i64 n:=by
 rw[Ra];congr 1;funext n;simp
theorem Ut:∀(l:List Bs) (s:Bs) (i:Nat),nmEs (l++[s]) i=nmEs l i++[(.str s,.int .i64 ((i+l.length:Nat):Int),i+l.length)]
 |[],s,i=>rfl
 |x::r,s,i=>by
  rw[Xl,nmEs,Ut r s (i+1),nmEs,Xl,Xn,show i+1+r.length=i+(r.length+1)by omega]
theorem Gf {k v:AVal} {c:Nat}:∀{es:List (AVal×AVal×Nat)},A4 k es=none->mset k v c es=es++[(k,v,c)]
 |[],_=>rfl
 |(k',v',b)::r,h=>by
  rw[A4]at h
  split at h
  ·cases h
  ·rename_i q
   rw[mset,Xc q,Gf h];rfl
theorem K6 {l:List Bs} {s:Bs} (h:B7 l s=none):mset (.str s) (.int .i64 (l.length:Int)) l.length (nmEs l 0)=nmEs (l++[s]) 0:=by
 rw[Gf (by rw[Do,h];rfl),Ut];simp
theorem To {α:Type} [DecidableEq α] {a b:List α} {x:α} (h:x∈a):Ai (a++x::b)=true:=by
 cases q:Ai (a++x::b)with
 |true=>rfl
 |false=>exact absurd rfl ((YH.1 (CI.1 q)).2.2 x h x (by simp))
def ctEs:List Int->Nat->List (AVal×AVal×Nat)
 |[],_=>[]
 |s::r,i=>(.int .i64 s,.bool true,i)::ctEs r (i+1)
theorem Rb:∀(l:List Int) (i:Nat),DW (.int .i64) (ctEs l i)=True
 |[],_=>rfl
 |s::r,i=>by rw[ctEs,DW,Rb r (i+1)];simp [KT.is]
theorem MR:∀(l:List Int) (x:Int) (i:Nat),A4 (.int .i64 x) (ctEs l i)=if l.contains x then some (.bool true)else none
 |[],x,i=>rfl
 |y::r,x,i=>by
  rw[ctEs,A4,MR r x (i+1),List.contains_cons]
  by_cases h:x=y
  ·subst h;simp [ceq]
  ·simp only[ceq,h,ZA,Xq,XO,beq_eq_false_iff_ne.2 h,Z8]
theorem Uu:∀(l:List Int) (s:Int) (i:Nat),ctEs (l++[s]) i=ctEs l i++[(.int .i64 s,.bool true,i+l.length)]
 |[],s,i=>rfl
 |x::r,s,i=>by
  rw[Xl,ctEs,Uu r s (i+1),ctEs,Xl,Xn,show i+1+r.length=i+(r.length+1)by omega]
theorem ct_set {l:List Int} {x:Int} (h:l.contains x=false):mset (.int .i64 x) (.bool true) l.length (ctEs l 0)=ctEs (l++[x]) 0:=by
 rw[Gf (by rw[MR,h];rfl),Uu];simp
theorem Hj {x y:Int} {v:AVal} {c:Nat}:∀{es:List (AVal×AVal×Nat)},DW (.int .i64) es->A4 (.int .i64 x) (mset (.int .i64 y) v c es)=if x=y then some v else A4 (.int .i64 x) es
 |[],_=>by
  rw[mset,A4,A4]
  by_cases h:x=y<;>simp [ceq,h,A4]
 |(k',v',b)::r,hf=>by
  obtain⟨h1,h2⟩:=hf
  have ih:=Hj (x:=x) (y:=y) (v:=v) (c:=c) h2
  cases k'<;>simp only[KT.is]at h1
  rename_i kk z
  subst h1
  rw[mset]
  by_cases hy:y=z
  ·subst hy
   rw[Xg (by simp [ceq])]
   rw[A4,A4]
   by_cases hx:x=y
   ·subst hx;simp [ceq]
   ·simp [ceq,hx]
  ·rw[Xc (by simp [ceq,hy])]
   rw[A4,ih,A4]
   by_cases hx:x=z
   ·subst hx
    have:¬x=y:=λq=>hy q.symm
    simp [ceq,this]
   ·simp [ceq,hx]
theorem Hl {y:Int} {v:AVal} {c:Nat}:∀{es:List (AVal×AVal×Nat)},DW (.int .i64) es->DW (.int .i64) (mset (.int .i64 y) v c es)
 |[],_=>⟨rfl,trivial⟩
 |(k',v',b)::r,⟨h1,h2⟩=>by
  rw[mset]
  split
  ·exact⟨h1,h2⟩
  ·exact⟨h1,Hl h2⟩
def cntZ (rs:List DRul) (z:Int):Nat:=(rs.filter λr=>decide (r.clue=z)).length
theorem Tp (rs:List DRul) (i:Nat):cntZ rs (i:Int)=IJ rs i:=rfl
theorem Wt (rs:List DRul) (r:DRul) (z:Int):cntZ (rs++[r]) z=cntZ rs z+if r.clue=z then 1 else 0:=by
 unfold cntZ
 rw[Yz,Xm]
 by_cases h:r.clue=z<;>simp [h]
theorem cnt_le (rs:List DRul) (z:Int):cntZ rs z<=rs.length:=Yh ..
def MS (rs:List DRul) (es:List (AVal×AVal×Nat)):Prop:=DW (.int .i64) es/\∀z:Int,(A4 (.int .i64 z) es).getD (.int .i64 0)= .int .i64 (cntZ rs z:Int)
theorem MS.next {rs:List DRul} {es:List (AVal×AVal×Nat)} {r:DRul} {c:Nat} (h:MS rs es):MS (rs++[r]) (mset (.int .i64 r.clue) (.int .i64 ((cntZ rs r.clue+1:Nat):Int)) c es):=by
 refine⟨Hl h.1,λz=>?_⟩
 rw[Hj h.1,Wt]
 by_cases q:z=r.clue
 ·subst q;rw[Xg rfl,Xg rfl];rfl
 ·rw[Xc q,Xc (λe=>q e.symm)];exact h.2 z
end Go.AM
namespace Go.AM
open Go.Proofs Go.Lib Go.RowKit Go.Sort
theorem Hm {g:Ghost} {f:Nat->Option Value}:∀(ws:List Int) (o:Nat),Stab g 1 f o (ws.map eI)->∀(j:Nat) x,ws[j]?=some x->f (o+j)=some (.int .i64 x)
 |[],_,_,j,x,h=>by simp at h
 |y::ws,o,⟨⟨v,q1,q2,q3⟩,h'⟩,j,x,h=>by
  cases j with
  |zero=>
   simp at h;subst h
   have q1':v= .int .i64 y:=q1
   subst q1'
   exact q3 0 _ rfl
  |succ j=>rw[show o+(j+1)=o+1+j by omega];exact Hm ws (o+1) h' j x (by simpa using h)
theorem GI {g:Ghost} {f:Nat->Option Value}:∀(ws:List Int) (o:Nat),(∀(j:Nat) x,ws[j]?=some x->f (o+j)=some (.int .i64 x))->Stab g 1 f o (ws.map eI)
 |[],_,_=>trivial
 |y::ws,o,h=>by
  refine⟨⟨.int .i64 y,rfl,⟨rfl,λx hx=>by simp [Value.cells]at hx;subst hx;rfl⟩,λj x hx=>?_⟩,GI ws (o+1) λj x hx=>by
   have:=h (j+1) x (by simpa using hx)
   rw[<-this];congr 1;omega⟩
  cases j with
  |zero=>
   have hx':some (Value.int .i64 y)=some x:=hx
   cases hx'
   exact h 0 y rfl
  |succ j=>simp [Value.cells]at hx
theorem Oz (w:World) (k:Nat):Below w.heap.size w (w.drewN k) where
 os:=rfl
 tape:=rfl
 output:=rfl
 size:=Xb _
 block:=λi hi=>rfl
theorem p231 (l:List Int) (x:Int) (hl:l.length<1000000000) (hs:List.Pairwise (λx y=>x<y) l):Pur Tryz.prog 231 [eIs l,.int .i64 x] (.tup [.int .i64 (lowB l x),.bool (l.contains x)]):=by
 refine GE l231 ⟨⟨trivial,Ck 0 l⟩,trivial,trivial⟩ ⟨trivial,trivial,trivial⟩ ?_
 rintro g w vs hR ⟨v,r,rfl,k1,v2,r2,rfl,k2,k3⟩
 have k2':v2= .int .i64 x:=k2
 have k3':r2=[]:=k3
 subst k2';subst k3'
 have hres:∀q,l=[]\/q=l.take l.length->VRel g (.tup [.int .i64 (lowB l x),.bool (l.contains x)]) (.tuple #[.int .i64 (((l.take l.length).countP (· <x):Nat):Int),.bool ((l.take l.length).contains x)]):=λq _=>by
  rw[XY]
  have e:(l.countP λy=>decide (y<x))=lowB l x:=List.countP_eq_length_filter
  rw[e]
  exact⟨_,rfl,_,_,rfl,rfl,_,_,rfl,rfl,rfl⟩
 have hres:=hres l (.inr (XY).symm)
 rcases k1 with⟨k1,rfl,-⟩|⟨-,b,o,cap,⟨sp,rfl,hsp⟩,hc,hst,-⟩
 ·have:l=[]:=by simpa using k1
  subst this
  refine(Tryz.slices_BinarySearch_int_empty none 0 x w).mono ?_
  rintro e w' ⟨rfl,rfl⟩
  exact⟨⟨_,rfl,hres⟩,Below.refl _ _⟩
 ·cases l with
  |nil=>
   refine(Tryz.slices_BinarySearch_int_empty _ _ x w).mono ?_
   rintro e w' ⟨rfl,rfl⟩
   exact⟨⟨_,rfl,hres⟩,Below.refl _ _⟩
  |cons y ys=>
   obtain rfl:sp=none:=hsp.resolve_right λq=>by cases q.1
   have hcell:=Hm _ _ hst
   have hk:=Tryz.slices_BinarySearch_int b o (y::ys).length cap (y::ys) x w (Xb _) (by omega) (λj hj=>hR.σw _ _ _ (hcell j _ (by rw[X5 hj];simp [List.getD,X5 hj]))) (by rw[XY];exact hs.imp λq=>by omega)
   simp only[X0]at hk⊢
   refine hk.mono ?_
   rintro e w' ⟨rfl,q,rfl⟩
   exact⟨⟨_,rfl,hres⟩,Oz _ _⟩
theorem lSort:AZ Tryz.prog 234:=⟨Tryz.f234,by kernel_rfl,by kernel_rfl,by kernel_rfl⟩
theorem Na {H:AB} {n id len cap:Nat} {zs:List Int} (ho:hget H id=some (.arr 1 (zs.map eI))) (hl:len<=zs.length) (hz:len<1000000000):
  AO Tryz.prog 234 [.ref id 1 0 len cap] H n λo H' n'=>o= .ret (.tup [])/\H'=hset H id (.arr 1 (((zs.take len).mergeSort leI++zs.drop len).map eI))/\n'=n:=by
 refine⟨lSort,λg w vs hR hv=>?_⟩
 obtain⟨v,r,rfl,k1,k2⟩:=hv
 have k2':r=[]:=k2
 subst k2'
 obtain⟨L,h1,h2,rfl⟩:=k1
 obtain⟨L',c,e,j1,j2,j3,j4,j5,j6⟩:=hR.obj id _ ho
 rw[h1]at j1;cases j1
 have hcell:=Hm _ _ j6
 simp only[Y5]at hcell
 have hsz:c.size=zs.length:=by rw[<-j5];simp
 have htl:(zs.take len).length=len:=by simp;omega
 have hb:L.blk<w.heap.size:=(Xs.1 j4).1
 have hc:=Tryz.slices_Sort_int L.blk 0 cap (zs.take len) w (λj hj=>by
  have hj':j<(zs.take len).length:=by simpa using hj
  refine⟨?_,?_⟩
  ·rw[Y5,getElem!_pos _ j hj]
   simp only[World.cell?,j4]
   rw[hcell j _ (show zs[j]?=some zs[j]from X5 (by omega))]
   simp
  ·simp [World.frozen?,j4]) hb (by omega)
 rw[htl]at hc
 simp only[Zf]at hc⊢
 refine hc.mono ?_
 rintro ee w' ⟨rfl,k,os,rfl⟩
 generalize hS:(zs.take len).mergeSort (λx y=>decide (x<=y))=S
 have hSl:S.length=len:=by rw[<-hS,List.length_mergeSort,htl]
 have hblk:(putRow (Value.int .i64) (Sort.ahead w k) L.blk 0 S.toArray).heap[L.blk]?=some (.cells (Go.Sort.putCells (Value.int .i64) 0 S.toArray c) e (0,0)):=by
  simp only[putRow,mapBlock,Sort.ahead,Array.getElem?_modify,Yv,j4,XU,onCells]
 have hget:∀j:Nat,(Go.Sort.putCells (Value.int .i64) 0 S.toArray c)[j]?=if j<len then(S[j]?).map (Value.int .i64)else c[j]?:=λj=>by
  simp only[Go.Sort.putCells,Array.getElem?_mapIdx,Xh,Yx,Y5,Nat.sub_zero,List.size_toArray,hSl]
  by_cases q:j<len
  ·simp only[q,Yv]
   have hjc:j<c.size:=by omega
   have hjS:j<S.length:=by omega
   rw[YJ hjc,X5 hjS]
   simp [hjS]
  ·simp only[q,XO]
   cases c[j]?<;>rfl
 obtain⟨r1,r2⟩:=hR.upd (m:=n) (w':=putRow (Value.int .i64) (Sort.ahead w k) L.blk 0 S.toArray) (ob':=.arr 1 ((S++zs.drop len).map eI)) ho rfl h1 rfl rfl rfl (by simp [putRow,mapBlock,Sort.ahead])
  (λb hne=>by simp only[putRow,mapBlock,Sort.ahead,Array.getElem?_modify];rw[Xc (Ne.symm hne)])
  (.inl ⟨c,e,(0,0),_,j4,hblk,by simp [Go.Sort.putCells],λo ho'=>by
   rw[hget,Xc (by rcases ho' with q|q<;>omega)]⟩)
  ⟨L,_,e,h1,h2,by rw[j3];simp [Go.Sort.putCells],hblk,by simp [Go.Sort.putCells,hSl];omega,GI _ _ λj x hx=>by
   rw[Y5,hget]
   by_cases q:j<len
   ·rw[Xg q]
    rw[Yl (by omega)]at hx
    rw[hx];rfl
   ·rw[Xc q]
    rw[Yg (by omega),ZL]at hx
    exact hcell j x (by rw[<-hx];congr 1;omega)⟩
 have hx:HExt (putRow (Value.int .i64) (Sort.ahead w k) L.blk 0 S.toArray) (grow (putRow (Value.int .i64) (Sort.ahead w k) L.blk 0 S.toArray) os):=λb ob hb=>by
  show(_++os)[b]?=some ob
  rw[Array.getElem?_append_left (Xs.1 hb).1];exact hb
 have r3:=r1.grow hx (σ':=g.σ) (λ_ _ _ q=>q) (λ_ _ _ q=>.inl q)
 exact⟨g,.ret (.tup []),_,n,⟨rfl,rfl,rfl⟩,⟨_,rfl,rfl⟩,r3,Xb _,r2.trans (Trans.grow hx rfl rfl rfl (λ_ _ _ q=>q) (λ_ _ _ q=>.inl q))⟩
end Go.AM
namespace Go.AM
open Go.Proofs Go.Lib
def LV (e:Nat) (v:AVal) (H:AB) (l:List AVal):Prop:=
 (l=[]/\∃t,v= .sl t []/\(t= .nil\/t= .exact e))\/(l≠[]/\∃id cap rest,v= .ref id e 0 l.length cap/\hget H id=some (.arr e (l++rest))/\l.length+rest.length=cap)
def Uv (e:Nat) (H:AB) (n:Nat) (l:List AVal):AOut->AB->Nat->Prop:=λo H' n'=>
 (l=[]/\H'=H/\n<=n'/\∃t,o= .ret (.sl t [])/\(t= .nil\/t= .exact e))\/(l≠[]/\n'=n+4/\∃cap rest,o= .ret (.ref (n+2) e 0 l.length cap)/\H'=hset H (n+2) (.arr e (l++rest))/\l.length+rest.length=cap)
theorem AO.out {P:Program} {f:FuncId} {args:List AVal} {H:AB} {n:Nat} {R R':AOut->AB->Nat->Prop} (h:AO P f args H n R)
  (hr:∀o H' n',R o H' n'->∃o2,R' o2 H' n'/\∀g w e,Rel g H' n' w->ERel g o e->ERel g o2 e):AO P f args H n R':=
 ⟨h.1,λg w vs r v=>(h.2 g w vs r v).mono λe w' ⟨g',out,H',n',q,he,hR,hn,ht⟩=>
  let ⟨o2,q2,hw⟩:=hr _ _ _ q;⟨g',o2,H',n',q2,hw _ _ _ hR he,hR,hn,ht⟩⟩
theorem AO.seal {P:Program} {f:FuncId} {args:List AVal} {H:AB} {n:Nat} {R R':AOut->AB->Nat->Prop} (h:AO P f args H n R)
  (hr:∀o H' n',R o H' n'->R' o H' n'\/∃id e l,hget H' id=some (.arr e l)/\R' o (hset H' id (.frz e l)) n'):AO P f args H n R':=by
 refine⟨h.1,λg w vs r v=>(h.2 g w vs r v).mono ?_⟩
 rintro e w' ⟨g',out,H',n',q,he,hR,hn,ht⟩
 rcases hr _ _ _ q with q|⟨id,es,l,h0,q⟩
 ·exact⟨g',out,H',n',q,he,hR,hn,ht⟩
 ·obtain⟨σ',r1,t1⟩:=hR.freeze (m:=n) h0
  refine⟨_,out,_,n',q,?_,r1,hn,ht.trans t1⟩
  cases out<;>cases e<;>first|exact he.elim|skip
  ·exact VRel.mono t1.le _ _ he
  ·obtain⟨v,hv,hr⟩:=he
   exact⟨v,hv,VRel.mono t1.le _ _ hr⟩
def LF (e:Nat) (v:AVal) (H:AB) (l:List AVal):Prop:=
 (l=[]/\∃t,v= .sl t []/\(t= .nil\/t= .exact e))\/(l≠[]/\∃id cap rest,v= .ref id e 0 l.length cap/\hget H id=some (.frz e (l++rest))/\l.length+rest.length=cap)
theorem I3 {e:Nat} {v:AVal} {H:AB} {l:List AVal} (h:LF e v H l) {g:Ghost} {n:Nat} {w:World} {x:Value} (hR:Rel g H n w) (hv:VRel g v x):VRel g (.sl (.none e) l) x:=by
 rcases h with⟨rfl,t,rfl,ht⟩|⟨hne,id,cap,rest,rfl,ho,hc⟩
 ·exact Wk.sl (.inr rfl) _ _ hv
 ·obtain⟨L,h1,h2,rfl⟩:=hv
  obtain⟨L',j1,j2,j3⟩:=hR.obj id _ ho
  rw[h1]at j1;cases j1
  refine .inr ⟨trivial,L.blk,0,cap,⟨none,by simp,.inl rfl⟩,by omega,?_,trivial⟩
  have:=Stab.take l.length _ _ j3
  rw[Zz]at this
  exact this
def LvG {α:Type} (enc:α->AVal) (e lo:Nat) (H:AB) (lv:AVal) (qs:List α):Prop:=(lv= .sl .nil []/\qs=[])\/qs≠[]/\∃id rest,lv= .ref id e 0 qs.length (qs.length+rest.length)/\lo<=id/\hget H id=some (.arr e ((qs++rest).map enc))
section
variable {α:Type} {enc:α->AVal} {e lo:Nat}
theorem MT {H:AB} {m b:Nat} {lv z v:AVal} {z0:α} {qs:List α} {q:α} {K:AB->AVal->Prop} (h:LvG enc e lo H lv qs) (hv:v=enc q) (he:0<e) (hz:z.cells.length=e) (hz0:z=enc z0) (hb:Ap (qs.length+1) b) (hm:hget H m=none) (hm2:lo<=m) (hk:qs.length+1<=35184372088832)
  (hK:∀id (rest:List α),lo<=id->(id=m\/∃L,hget H id=some (.arr e L))->K (hset H id (.arr e (((qs++[q])++rest).map enc))) (.ref id e 0 (qs++[q]).length ((qs++[q]).length+rest.length))):IH H m e b z K lv (some [v]):=by
 subst hv
 subst hz0
 have el:(qs++[q]).length=qs.length+1:=by simp
 rcases h with⟨rfl,rfl⟩|⟨-,id,rest,rfl,h2,h3⟩
 ·rw[By]
  refine⟨hm,he,hz,.inl rfl,hb,by simp,(λe=>by cases e),λ_ cap hcap=>?_⟩
  have:=hK m (List.replicate (cap-1) z0) hm2 (.inl rfl)
  simp only[Xo,Xt,Xn,Y7,Yp,Xl,YU]at this hcap⊢
  rw[show 0+1+(cap-1)=cap by omega]at this
  exact this
 ·rw[HP h3]
  refine⟨hm,he,hz,rfl,rfl,hb,hk,rfl,by simp,by omega,λhr=>?_,λhr cap' hc=>?_⟩
  ·have:=hK id (rest.drop 1) h2 (.inr ⟨_,h3⟩)
   simp only[Xn,Y7]at hr⊢
   have e1:List.take qs.length ((qs++rest).map enc)=qs.map enc:=by rw[Xj,YI (by simp),Y0 (by simp)]
   have e2:List.drop (qs.length+(0+1)) ((qs++rest).map enc)=(rest.drop 1).map enc:=by rw[Xj,List.drop_append,YQ (by simp)];simp
   rw[e1,e2]
   rw[el,Xj,Xj,Yw,show qs.length+1+(rest.length-1)=qs.length+rest.length by omega]at this
   exact this
  ·have:=hK m (List.replicate (cap'-(qs.length+1)) z0) hm2 (.inl rfl)
   simp only[Xn,Y7]at hr hc⊢
   have e1:List.take qs.length ((qs++rest).map enc)=qs.map enc:=by rw[Xj,YI (by simp),Y0 (by simp)]
   rw[e1]
   rw[el,Xj,Xj,YU,Yp,show qs.length+1+(cap'-(qs.length+1))=cap' by omega]at this
   exact this
end
structure VF where
 i:Nat
 H:AB
 n:Nat
theorem I4 {P:Program} {T:Tab} {b:Nat} {cx:Nat->AVal} {rx:List (Nat×AOp)} {kp:List Nat} {k:List Item} {Q:AExit->AS->Prop} {s:AS} {d:Option Nat} {sz:Nat} {a x:Opd}:Am P T b cx ((0,⟨d,none,.st sz a x⟩)::rx) kp k Q s=((lk s.env a).1=true/\(lk s.env x).1=true/\nT (lkv s.env x)/\(lkv s.env x).cells.length=sz/\(stE s.H sz (lkv s.env x) (lkv s.env a)).1/\Am P T b cx rx kp k Q ({s with H:=(stE s.H sz (lkv s.env x) (lkv s.env a)).2}.put d true (.tup []))):=by
 rw[RG,JT,NP]
 simp only[gvb,Yu,BD,Yx];rfl
end Go.AM
namespace Go.AM
open Go.Proofs Go.Lib
theorem Wu {H:AB} {n:Nat} (l:List DClu) (hl:few l):AO Tryz.prog 214 [eCls l] H n (Uv 6 H n (l.map B1)):=by
 refine AO.fresh l214 λhf=>a214 (AF AH.tnil (AG ?_))
 have hll:l.length<1000000000:=hl
 cases l with
 |nil=>
  simp only[eE,eC,eN,reduceCtorEq,↓reduceIte,c214]
  refine⟨?_,?_⟩
  ·simp only[eE,eC,eN,reduceCtorEq,Nat.reduceEqDiff,↓reduceIte,Nat.reduceAdd,Nat.reduceLT,By,Dw,fr1 hf,Ap,Zf,Xh]
   exact .inl ⟨rfl,rfl,Yj _ _,.exact 6,rfl,.inr rfl⟩
  ·simp only[eE,eC,eN,reduceCtorEq,↓reduceIte,Xe]
   exact .inl ⟨rfl,rfl,Xb _,.nil,rfl,.inl rfl⟩
 |cons x r=>
  rw[Xn]at hll
  simp only[eE,eC,eN,reduceCtorEq,Nat.reduceEqDiff,↓reduceIte,Nat.reduceAdd,Nat.reduceLeDiff,Nat.reduceMul,Nat.reduceLT,X0,c214,eCls,By,Dw,fr1 hf]
  refine⟨AX (by omega) (by decide),by omega,λcap hcap=>.inr ⟨by simp,rfl,cap,List.replicate (cap-(r.length+1)) (.agg [.str [],.str [],.int .i64 0,.int .i64 0,.int .i64 0,.int .i64 0]),?_,?_,?_⟩⟩
  ·simp
  ·simp
  ·simp;omega
theorem Wv {H:AB} {n:Nat} (l:List DRul) (hl:few l):AO Tryz.prog 218 [eRus l] H n (Uv 12 H n (l.map Bl)):=by
 refine AO.fresh l218 λhf=>a218 (AF AH.tnil (AG ?_))
 have hll:l.length<1000000000:=hl
 cases l with
 |nil=>
  simp only[eE,eC,eN,reduceCtorEq,↓reduceIte,c218]
  refine⟨?_,?_⟩
  ·simp only[eE,eC,eN,reduceCtorEq,Nat.reduceEqDiff,↓reduceIte,Nat.reduceAdd,Nat.reduceLT,By,Dw,fr1 hf,Ap,Zf,Xh]
   exact .inl ⟨rfl,rfl,Yj _ _,.exact 12,rfl,.inr rfl⟩
  ·simp only[eE,eC,eN,reduceCtorEq,↓reduceIte,Xe]
   exact .inl ⟨rfl,rfl,Xb _,.nil,rfl,.inl rfl⟩
 |cons x r=>
  rw[Xn]at hll
  simp only[eE,eC,eN,reduceCtorEq,Nat.reduceEqDiff,↓reduceIte,Nat.reduceAdd,Nat.reduceLeDiff,Nat.reduceMul,Nat.reduceLT,X0,c218,eRus,By,Dw,fr1 hf]
  refine⟨AX (by omega) (by decide),by omega,λcap hcap=>.inr ⟨by simp,rfl,cap,List.replicate (cap-(r.length+1)) (.agg [.str [],.str [],.int .i64 0,.int .i64 0,.sl .nil [],.sl .nil [],.int .i64 0,.int .i64 0,.int .i64 0,.int .i64 0,.str [],.int .i64 0]),?_,?_,?_⟩⟩
  ·simp
  ·simp
  ·simp;omega
end Go.AM
