/-
  What is told of functions, argument by argument; lists that grow, and objects beside one another · Bytes and names (a pa.
  Conditions: none beyond those of its parts.
-/
import Derived.Test.YtncahiacfdihpaaGreatDoorB5
import Derived.Test.YtncahiacfdihpaaGreatDoorProg
import Derived.Test.YtncahiacfdihpaaGreatDoorShelf
import Derived.Test.YtncahiacfdihpaaGreatDoorB6

set_option maxRecDepth 20000
set_option linter.all false
set_option maxHeartbeats 1000000
namespace Go.AM
open Go.Proofs Go.Lib
abbrev Bs:=List UInt8
abbrev eI(n:Int):AVal:=.int .i64 n
abbrev eSs(l:List Bs):AVal:=.sl (.none 1) (l.map .str)
abbrev eIs(l:List Int):AVal:=.sl (.none 1) (l.map eI)
theorem C6(n:Nat)(l:List Bs):unders n (l.map AVal.str):=Ap (f:=AVal.str) (λx=>trivial) _
theorem DN(n:Nat)(l:List Int):unders n (l.map eI):=Ap (f:=eI) (λx=>trivial) _
theorem Cp(l:List Bs):(l.map AVal.str).map toS=l:=by rw[Xj];exact List.map_id _
theorem A0(l:List Int):(l.map eI).map toI=l:=by rw[Xj];exact List.map_id _
inductive Wks:List AVal->List AVal->Prop
 |nil:Wks [] []
 |cons {a b:AVal} {ws us:List AVal}:Wk a b->Wks ws us->Wks (a::ws) (b::us)
theorem Wks.rel{g:Ghost}:∀{ws us:List AVal},Wks ws us->∀vs,VRels g ws vs->VRels g us vs
 |_,_,.nil,vs,h=>h
 |_,_,.cons h t,vs,⟨v,r,e,k1,k2⟩=>⟨v,r,e,h _ _ k1,t.rel r k2⟩
theorem Wk.agg{ws us:List AVal}(h:Wks ws us):Wk (.agg ws) (.agg us):=by
 rintro g v ⟨vs,rfl,h1,h2⟩
 exact⟨vs,rfl,h.rel _ h1,h2⟩
theorem Wk.tup{ws us:List AVal}(h:Wks ws us):Wk (.tup ws) (.tup us):=by
 rintro g v ⟨vs,rfl,h1⟩
 exact⟨vs,rfl,h.rel _ h1⟩
theorem Wk.trans{a b c:AVal}(h:Wk a b)(k:Wk b c):Wk a c:=λg v q=>k g v (h g v q)
def BS(pid:Nat)(H H':AB):Prop:=∀id ob,id≠pid->hget H id=some ob->hget H' id=some ob
theorem BS.refl{pid:Nat}(H:AB):BS pid H H:=λ_ _ _ h=>h
theorem BS.trans{pid:Nat}{H H' H'':AB}(h:BS pid H H')(k:BS pid H' H''):BS pid H H'':=λid ob hne x=>k id ob hne (h id ob hne x)
theorem BS.set{pid:Nat}{H H':AB}{ob:AObj}(h:BS pid H H'):BS pid H (hset H' pid ob):=λid o hne x=>by
 rw[AA _ _ _ _ (Ne.symm hne)];exact h id o hne x
theorem BS.new{pid:Nat}{H H':AB}{n i:Nat}{ob:AObj}(hf:AN H n)(hi:n<=i)(h:BS pid H H'):BS pid H (hset H' i ob):=λid o hne x=>by
 have:=hf.lt x
 rw[AA _ _ _ _ (by omega)];exact h id o hne x
section
variable {n pid:Nat} {H:AB}
theorem fr1(h:AN H n)(k:Nat):hget H (n+k)=none:=h _ (by omega)
theorem fr0(h:AN H n):hget H n=none:=h _ (V9 _)
end
theorem natE3{a b c:Nat}:(a+b=a+c)=(b=c):=propext ⟨λh=>by omega,λh=>by omega⟩
structure Dc(α:Type) where
 enc:α->AVal
 dec:AVal->α
 ok:AVal->Prop
 wk:∀v,ok v->Wk v (enc (dec v))
def DO:AVal->Prop
 | .int .i64 _=>True
 |_=>False
theorem R5(v:AVal)(h:DO v):Wk v (eI (toI v)):=by
 unfold DO at h
 split at h
 ·exact Wk.refl _
 ·exact h.elim
def dI:Dc Int:=⟨eI,toI,DO,R5⟩
theorem isS_wk(v:AVal)(h:isS v):Wk v (.str (toS v)):=by
 cases v<;>first|exact Wk.refl _|exact h.elim
def dS:Dc Bs:=⟨.str,toS,isS,isS_wk⟩
def okL{α:Type}(e:Nat)(enc:α->AVal)(dec:AVal->α):AVal->Prop
 | .sl t L=>(t.esz=e\/L=[])/\L=(L.map dec).map enc
 |_=>False
def decL{α:Type}(dec:AVal->α):AVal->List α
 | .sl _ L=>L.map dec
 |_=>[]
theorem MQ{α:Type}{e:Nat}{enc:α->AVal}{dec:AVal->α}(v:AVal)(h:okL e enc dec v):Wk v (.sl (.none e) ((decL dec v).map enc)):=by
 cases v<;>simp only[okL]at h<;>try exact h.elim
 simp only[decL]
 rw[<-h.2];exact Wk.sl h.1
def dSs:Dc (List Bs):=⟨eSs,decL toS,okL 1 .str toS,MQ⟩
def dIs:Dc (List Int):=⟨eIs,decL toI,okL 1 eI toI,MQ⟩
def s1{α:Type}(A:Dc α)(c:α->Prop)(f:α->AVal):List AVal->AB->Prop×AVal:=λa _=>match a with
 |[x]=>(A.ok x/\c (A.dec x),f (A.dec x))
 |_=>(False,.tup [])
def s2{α β:Type}(A:Dc α)(B:Dc β)(c:α->β->Prop)(f:α->β->AVal):List AVal->AB->Prop×AVal:=λa _=>match a with
 |[x,y]=>(A.ok x/\B.ok y/\c (A.dec x) (B.dec y),f (A.dec x) (B.dec y))
 |_=>(False,.tup [])
def s3{α β γ:Type}(A:Dc α)(B:Dc β)(C:Dc γ)(c:α->β->γ->Prop)(f:α->β->γ->AVal):List AVal->AB->Prop×AVal:=λa _=>match a with
 |[x,y,z]=>(A.ok x/\B.ok y/\C.ok z/\c (A.dec x) (B.dec y) (C.dec z),f (A.dec x) (B.dec y) (C.dec z))
 |_=>(False,.tup [])
theorem q1{α:Type}{A:Dc α}{c:α->Prop}{f:α->AVal}{fid:FuncId}(h:∀x,c x->Pur Tryz.prog fid [A.enc x] (f x)):∀args H n,(s1 A c f args H).1->AZ Tryz.prog fid args H n (s1 A c f args H).2:=by
 intro args H n hh
 unfold s1 at hh⊢
 split at hh
 ·obtain⟨h1,h2⟩:=hh
  refine AI.args ((h _ h2).quiet H n) ?_
  rintro g vs ⟨v,r,rfl,k1,k2⟩
  exact⟨v,_,rfl,A.wk _ h1 _ _ k1,k2⟩
 ·exact hh.elim
theorem q2{α β:Type}{A:Dc α}{B:Dc β}{c:α->β->Prop}{f:α->β->AVal}{fid:FuncId}(h:∀x y,c x y->Pur Tryz.prog fid [A.enc x,B.enc y] (f x y)):∀args H n,(s2 A B c f args H).1->AZ Tryz.prog fid args H n (s2 A B c f args H).2:=by
 intro args H n hh
 unfold s2 at hh⊢
 split at hh
 ·obtain⟨h1,h2,h3⟩:=hh
  refine AI.args ((h _ _ h3).quiet H n) ?_
  rintro g vs ⟨v,r,rfl,k1,w,r',rfl,k2,k3⟩
  exact⟨v,_,rfl,A.wk _ h1 _ _ k1,w,_,rfl,B.wk _ h2 _ _ k2,k3⟩
 ·exact hh.elim
theorem q3{α β γ:Type}{A:Dc α}{B:Dc β}{C:Dc γ}{c:α->β->γ->Prop}{f:α->β->γ->AVal}{fid:FuncId}(h:∀x y z,c x y z->Pur Tryz.prog fid [A.enc x,B.enc y,C.enc z] (f x y z)):∀args H n,(s3 A B C c f args H).1->AZ Tryz.prog fid args H n (s3 A B C c f args H).2:=by
 intro args H n hh
 unfold s3 at hh⊢
 split at hh
 ·obtain⟨h1,h2,h3,h4⟩:=hh
  refine AI.args ((h _ _ _ h4).quiet H n) ?_
  rintro g vs ⟨v,r,rfl,k1,w,r',rfl,k2,u,r'',rfl,k3,k4⟩
  exact⟨v,_,rfl,A.wk _ h1 _ _ k1,w,_,rfl,B.wk _ h2 _ _ k2,u,_,rfl,C.wk _ h3 _ _ k3,k4⟩
 ·exact hh.elim
theorem Pur.all{P:Program}{f:FuncId}{args:List AVal}{r r':AVal}(h:Pur P f args r)(e:r=r'):Pur P f args r':=e▸h
abbrev any1{α:Type}(_:α):Prop:=True
abbrev any2{α β:Type}(_:α)(_:β):Prop:=True
theorem MR{α:Type}{p:α->Bool}{l:List α}{i:Nat}(h:i<l.length):(l.take (i+1)).all p=((l.take i).all p&&p l[i]):=by
 rw[VX,V5 h,List.all_append];simp
theorem map_take{α β:Type}{f:α->β}{l:List α}{i:Nat}(h:i<l.length):(l.take (i+1)).map f=(l.take i).map f++[f l[i]]:=by
 rw[VX,V5 h,Vl];rfl
theorem lt_T{a b:Nat}(h:a<b):((a:Int)<(b:Int))=True:=V3 (by omega)
theorem lt_F{a b:Nat}(h:¬a<b):((a:Int)<(b:Int))=False:=Vd (by omega)
theorem Aq{x:Int}(h1: -9223372036854775808<=x)(h2:x<=9223372036854775807):IntKind.wrap .i64 x=x:=by rw[IntKind.wrap_i64];omega
theorem AJ{k:Nat}(h:k<9000000000000000000):IntKind.wrap .i64 ((k:Int)+1)=((k+1:Nat):Int):=by rw[Aq (by omega) (by omega)];rfl
theorem c0:((0:Nat):Int)=0:=rfl
theorem c1:((1:Nat):Int)=1:=rfl
theorem cS0{n:Nat}:(((n+1:Nat):Int)=0)=False:=Vd (by omega)
theorem cS1{n:Nat}:((0:Int)<((n+1:Nat):Int))=True:=V3 (by omega)
theorem i00:((0:Int)<0)=False:=Vd (by decide)
def tkG(e lo:Nat)(H:AB)(tk:Tok):Prop:=tk= .nil\/tk= .exact e\/∃id,tk= .own id e/\lo<=id/\hget H id=some .tok
theorem tkG.app{e lo:Nat}{H:AB}{tk:Tok}(h:tkG e lo H tk):Bh H e tk:=by
 rcases h with rfl|rfl|⟨id,rfl,h1,h2⟩
 ·trivial
 ·rfl
 ·exact⟨rfl,h2⟩
theorem tkG.set{e lo i:Nat}{H:AB}{tk:Tok}{ob:AObj}(h:tkG e lo H tk)(hi:i<lo\/(∃cs,hget H i=some (.box cs))\/hget H i=none):tkG e lo (hset H i ob) tk:=by
 rcases h with rfl|rfl|⟨id,rfl,h1,h2⟩
 ·exact .inl rfl
 ·exact .inr (.inl rfl)
 ·refine .inr (.inr ⟨id,rfl,h1,?_⟩)
  rw[AA _ _ _ _ ?_]
  ·exact h2
  ·rintro rfl
   rcases hi with q|⟨cs,q⟩|q
   ·omega
   ·rw[h2]at q;cases q
   ·rw[h2]at q;cases q
theorem Ai{e lo i:Nat}{H:AB}{tk:Tok}(h:tkG e lo H tk)(hi:i<lo\/∃cs,hget H i=some (.box cs)):hget (AW H tk) i=hget H i:=by
 rcases h with rfl|rfl|⟨id,rfl,h1,h2⟩
 ·rfl
 ·rfl
 ·simp only[AW]
  rw[AA _ _ _ _ ?_]
  rintro rfl
  rcases hi with q|⟨cs,q⟩
  ·omega
  ·rw[h2]at q;cases q
theorem Ak{e lo n:Nat}{H:AB}{tk:Tok}(h:tkG e lo H tk)(hf:AN H n):AN (AW H tk) n:=by
 rcases h with rfl|rfl|⟨id,rfl,h1,h2⟩
 ·exact hf
 ·exact hf
 ·exact hf.hset (V9 _) (hf.lt h2)
abbrev few{α:Type}(l:List α):Prop:=l.length<1000000000
abbrev wide{α:Type}(l:List α):Prop:=l.length<1125899906842624
theorem Iu{α:Type}{l:List α}(h:few l):wide l:=by
 have:l.length<1000000000:=h
 show l.length<_
 omega
theorem Cq{α:Type}{a b:List α}(hl:a.length=b.length)(h:∀j,j<a.length->a[j]?=b[j]?):a=b:=List.ext_getElem? λj=>by
 rcases Nat.lt_or_ge j a.length with q|q
 ·exact h j q
 ·rw[X2 q,X2 (by omega)]
theorem FX{a b:Nat}(h:a≠b):((a:Int)=(b:Int))=False:=Vd (by omega)
theorem FY{a b:Nat}(h:a=b):((a:Int)=(b:Int))=True:=V3 (by omega)
theorem AX{n b:Nat}(h:n<=1000000000)(hb:b<=1000):Al n b:=by
 have:n*b<=1000000000*1000:=Nat.mul_le_mul h hb
 unfold Al;omega
theorem Bl{α:Type}{enc:α->AVal}{dec:AVal->α}(h:∀x,dec (enc x)=x)(l:List α):(l.map enc).map dec=l:=by
 rw[Xj];exact(W6 λx _=>h x).trans (List.map_id _)
def dEx{α:Type}(enc:α->AVal)(dec:AVal->α):Dc α:=⟨enc,dec,λv=>v=enc (dec v),λv h=>h▸Wk.refl _⟩
theorem Bv.mono{P:Program}{fid:FuncId}{args:List AVal}{rv:AVal}{H:AB}{n:Nat}{Rc Rc':AB->Nat->Prop}(h:Bv P fid args rv H n Rc)(hr:∀H' n',Rc H' n'->Rc' H' n'):Bv P fid args rv H n Rc':=
 λg w vs u hR hV hu=>CallsDIn.mono (h g w vs u hR hV hu) λe u' w' ⟨h1,h2,g',H',n',h3,h4⟩=>⟨h1,h2,g',H',n',hr _ _ h3,h4⟩
end Go.AM
namespace Go.AM
open Go.Proofs Go.Lib Go.RowKit Go.Sort
theorem Nh{w:World}{k:Nat}{os:Array Obj}:Below w.heap.size w (grow (w.drewN k) os) where
 os:=rfl
 tape:=rfl
 output:=rfl
 size:=by simp [grow]
 block:=λi hi=>by simp [grow,Array.getElem?_append,hi]
def s159:List AVal->AB->Prop×AVal:=λa H=>match a with
 |[.str l,.int .u8 c]=>(0<=c/\c<256,.int .i64 (indexByte l (UInt8.ofNat c.toNat)))
 |_=>(False,.tup [])
theorem q159:∀args H n,(s159 args H).1->AZ Tryz.prog 159 args H n (s159 args H).2:=by
 intro args H n h
 unfold s159 at h⊢
 split at h
 ·rename_i l c
  refine Pur.quiet ?_ H n
  refine BM l159 ⟨trivial,trivial,trivial⟩ trivial ?_
  rintro g w vs hR ⟨v,r,rfl,k1,v2,r2,rfl,k2,k3⟩
  have k1':v= .string ⟨l.toArray⟩:=k1
  have k2':v2= .int .u8 c:=k2
  have k3':r2=[]:=k3
  subst k1';subst k2';subst k3'
  refine(Tryz.strings_IndexByte ⟨l.toArray⟩ c w).mono ?_
  rintro e w' ⟨rfl,rfl⟩
  exact⟨⟨_,rfl,rfl⟩,Below.refl _ _⟩
 ·exact h.elim
def T1:Tab:=tadd 159 s159 tnil
theorem T1_ok:AH Tryz.prog T1:=AH.tnil.add q159
theorem T1_159(a:List AVal)(H:AB):T1 159 a H=s159 a H:=rfl
def C7(x:Int):Bool:=(decide (97<=x)&&decide (x<=122))||(decide (65<=x)&&decide (x<=90))
def EE(x:Int):Bool:=decide (48<=x)&&decide (x<=57)
def isSp(x:Int):Bool:=decide (x=32)||decide (x=9)||decide (x=10)||decide (x=13)
abbrev sgnL:List UInt8:=[123,125,40,41,59,44,61,58,46,60,62,33,43,45,42,47]
def LM(x:Int):Bool:=decide (0<=indexByte sgnL (UInt8.ofNat x.toNat))
def clsI(x:Int):Int:=if C7 x then 2 else if EE x then 3 else if x=95 then 5 else if isSp x then 1 else if LM x then 4 else 0
def Es(x:Int):Bool:=C7 x||EE x||decide (x=95)
theorem p134(x:Int):Pur Tryz.prog 134 [.int .u8 x] (.bool (C7 x)):=by
 refine .mk (by simp [unders,AVal.under]) trivial (a134 (AE AH.tnil (AF ?_)))
 simp only[eE,eN,sel,reduceCtorEq,Nat.reduceEqDiff,↓reduceIte,c134]
 rfl
theorem p174(x:Int):Pur Tryz.prog 174 [.int .u8 x] (.bool (EE x)):=by
 refine .mk (by simp [unders,AVal.under]) trivial (a174 (AE AH.tnil (AF ?_)))
 simp only[eE,eN,sel,reduceCtorEq,Nat.reduceEqDiff,↓reduceIte,c174]
 rfl
theorem p107(x:Int)(h0:0<=x)(h1:x<256):Pur Tryz.prog 107 [.int .u8 x] (.int .i64 (clsI x)):=by
 refine .mk (by simp [unders,AVal.under]) trivial (a107 (AE T1_ok (AF ?_)))
 simp only[eE,eN,J2,sel,reduceCtorEq,Nat.reduceEqDiff,↓reduceIte,c107,T1_159,s159]
 refine⟨λh=>?_,λg1=>⟨λh=>?_,λg2=>⟨λh=>?_,λg3=>⟨λh=>?_,λg4=>⟨⟨h0,h1⟩,λh=>?_,λh=>?_⟩⟩⟩⟩⟩
 ·have:C7 x=true:=by simp [C7];omega
  simp [clsI,this]
 ·have k1:C7 x=false:=by simp [C7];simp at g1;omega
  have:EE x=true:=by simp [EE];omega
  simp [clsI,this,k1]
 ·have k1:C7 x=false:=by simp [C7];simp at g1;omega
  have k2:EE x=false:=by simp [EE];simp at g2;omega
  simp only[clsI,h,Wd]
  subst h;rfl
 ·have k1:C7 x=false:=by simp [C7];simp at g1;omega
  have k2:EE x=false:=by simp [EE];simp at g2;omega
  have:isSp x=true:=by simp [isSp];omega
  simp [clsI,g3,this,k1,k2]
 ·have k1:C7 x=false:=by simp [C7];simp at g1;omega
  have k2:EE x=false:=by simp [EE];simp at g2;omega
  have k4:isSp x=false:=by simp [isSp];omega
  have k5:LM x=true:=by simpa [LM]using h
  simp [clsI,g3,k4,k5,k1,k2]
 ·have k1:C7 x=false:=by simp [C7];simp at g1;omega
  have k2:EE x=false:=by simp [EE];simp at g2;omega
  have k4:isSp x=false:=by simp [isSp];omega
  have k5:LM x=false:=by simpa [LM]using h
  simp [clsI,g3,k4,k5,k1,k2]
def sB(f:Int->AVal):List AVal->AB->Prop×AVal:=λa H=>match a with
 |[.int .u8 x]=>(0<=x/\x<256,f x)
 |_=>(False,.tup [])
theorem qB{fid:FuncId}{f:Int->AVal}(h:∀x,0<=x->x<256->Pur Tryz.prog fid [.int .u8 x] (f x)):∀args H n,(sB f args H).1->AZ Tryz.prog fid args H n (sB f args H).2:=by
 intro args H n hh
 unfold sB at hh⊢
 split at hh
 ·exact(h _ hh.1 hh.2).quiet H n
 ·exact hh.elim
abbrev s107:=sB λx=>.int .i64 (clsI x)
abbrev s134:=sB λx=>.bool (C7 x)
abbrev s174:=sB λx=>.bool (EE x)
def T2:Tab:=tadd 107 s107 (tadd 134 s134 (tadd 174 s174 T1))
theorem T2_ok:AH Tryz.prog T2:=((T1_ok.add (qB λx _ _=>p174 x)).add (qB λx _ _=>p134 x)).add (qB p107)
theorem T2_134(a:List AVal)(H:AB):T2 134 a H=s134 a H:=rfl
theorem T2_174(a:List AVal)(H:AB):T2 174 a H=s174 a H:=rfl
theorem p135(x:Int)(h0:0<=x)(h1:x<256):Pur Tryz.prog 135 [.int .u8 x] (.bool (Es x)):=by
 refine .mk (by simp [unders,AVal.under]) trivial (a135 (AE T2_ok (AF ?_)))
 simp only[eE,eN,sel,reduceCtorEq,Nat.reduceEqDiff,↓reduceIte,c135,T2_134,T2_174,sB,h0,h1]
 rfl
abbrev s135:=sB λx=>.bool (Es x)
def letB(b:UInt8):Bool:=C7 b.toNat
def R6(b:UInt8):Bool:=Es b.toNat
theorem P0(x:Int):clsI x=2↔C7 x=true:=by
 unfold clsI
 cases C7 x<;>cases EE x<;>cases isSp x<;>cases LM x<;>simp<;>split<;>simp
theorem MS(x:Int):(clsI x=2\/clsI x=3\/clsI x=5)↔Es x=true:=by
 unfold clsI Es
 cases C7 x<;>cases EE x<;>cases isSp x<;>cases LM x<;>by_cases h:x=95<;>simp [h]
theorem u8_lt(b:UInt8):(0:Int)<=b.toNat/\(b.toNat:Int)<256:=⟨by omega,by have:=b.toNat_lt;omega⟩
def Ci(s:List UInt8):Bool:=decide (1<=s.length)&&decide (s.length<=32)&&letB (s[0]?.getD 0)&&s.all R6
def T3:Tab:=tadd 135 s135 T2
theorem T3_ok:AH Tryz.prog T3:=T2_ok.add (qB p135)
theorem S2(a:List AVal)(H:AB):T3 107 a H=s107 a H:=rfl
theorem R7{s:List UInt8}{i:Nat}(hi:i<s.length)(h:Es ((s[i]).toNat:Int)=false):s.all R6=false:=by
 refine Bool.eq_false_iff.2 λhh=>?_
 have:=Vj.1 hh s[i] (Vn hi)
 unfold R6 at this
 rw[h]at this;cases this
theorem R8{s:List UInt8}(h:∀j (hj:j<s.length),Es ((s[j]).toNat:Int)=true):s.all R6=true:=by
 refine Vj.2 λx hx=>?_
 obtain⟨j,hj,rfl⟩:=VI.1 hx
 exact h j hj
theorem R9(s:List UInt8):scmp .eql s []=decide (s.length=0):=by cases s<;>rfl
theorem p66(s:List UInt8):Pur Tryz.prog 66 [.str s] (.bool (Ci s)):=by
 refine .mk (by simp [unders,AVal.under]) trivial (a66 (AE T3_ok (AF ?_)))
 simp only[eE,eN,J2,sel,reduceCtorEq,Nat.reduceEqDiff,↓reduceIte,Int.reduceLE,Int.reduceToNat,c66,S2,sB,u8_lt,R9]
 refine⟨by omega,λh=>?_,λh=>?_⟩
 ·refine(Bool.eq_false_iff.2 λhh=>?_).symm
  simp only[Ci,V7,Vf]at hh
  obtain⟨⟨⟨h1,h2⟩,h3⟩,-⟩:=hh
  rcases h with(h|h)|h
  ·omega
  ·omega
  ·rw[P0]at h;exact h h3
 refine AU (λi:Nat=>⟨[(0,true,.str s),(19,true,.int .i64 s.length),(20,true,.int .i64 i)],hnil,0⟩)
  (λi=>i<=s.length/\∀j (hj:j<s.length),j<i->Es ((s[j]).toNat:Int)=true) (λi=>s.length-i) 0 rfl ⟨by omega,λj _ hj=>by omega⟩ ?_
 rintro i ⟨hi,hall⟩
 by_cases hlt:i<s.length
 ·have e:=AJ (k:=i) (by omega)
  simp only[eE,eN,J2,sel,reduceCtorEq,Nat.reduceEqDiff,↓reduceIte,Int.reduceEq,S2,sB,u8_lt,Int.ofNat_lt,hlt,V4,V2,e,V5 hlt,V1]
  refine⟨λhp=>?_,λhp=>.mk (i+1) rfl ⟨by omega,λj hj hji=>?_⟩ (by omega)⟩
  ·have:Es ((s[i]).toNat:Int)=false:=Bool.eq_false_iff.2 λhh=>by rw[<-MS]at hh;simp [hp]at hh
   simp only[Ci,R7 hlt this,Bool.and_false]
  ·by_cases q:j=i
   ·subst q;rw[<-MS];simp at hp;omega
   ·exact hall j hj (by omega)
 ·simp only[eE,eN,J2,sel,reduceCtorEq,Nat.reduceEqDiff,↓reduceIte,Int.reduceEq,Int.ofNat_lt,hlt]
  rw[Ci,R8 λj hj=>hall j hj (by omega)]
  have h3:=h.2
  rw[P0]at h3
  simp [letB,h3];omega
end Go.AM
namespace Go.AM
open Go.Proofs Go.Lib
structure Cnd where
 k:Int
 cs:List Int
 ls:List Int
 n:Int
structure Prm where
 c:Int
 ls:List Int
structure Lma where
 nm:Bs
 lv:Int
 cs:List Bs
 ls:List Bs
 qs:List Cnd
 ps:List Prm
 c:Int
 l:Int
def idxS(l:List Bs)(s:Bs):Int:=match l.findIdx? (λx=>decide (x=s))with
 |some k=>k
 |none=>-1
def A1{α:Type}[DecidableEq α]:List α->Bool
 |[]=>true
 |x::r=>!(r.any λy=>decide (y=x))&&A1 r
def Ce(l:List Bs)(most:Nat):Bool:=l.all Ci&&A1 l&&decide (1<=l.length)&&decide (l.length<=most)
def difI(l:List Int)(n:Nat):Bool:=(l.all λk=>decide (0<=k)&&decide (k<n))&&A1 l
def Cr(q:Cnd)(nc nl:Nat):Bool:=difI q.cs nc&&decide (1<=q.cs.length)&&difI q.ls nl&&
 (if q.k=1\/q.k=4 then decide (2<=q.cs.length)&&decide (q.ls.length=0)&&decide (q.n=0)
  else if q.k=2 then decide (q.ls.length=1)&&decide (q.n=0)
  else if q.k=3 then decide (q.cs.length=2)&&decide (q.ls.length=0)&&decide (1<=q.n)&&decide (q.n<=99)
  else if q.k=5 then decide (q.cs.length=2)&&decide (q.ls.length=0)&&decide (q.n=0)
  else if q.k=6 then decide (1<=q.ls.length)&&decide (0<=q.n)&&decide (q.n<=q.cs.length)
  else false)
def HH(x:Lma):Bool:=Ci x.nm&&decide (1<=x.lv)&&decide (x.lv<=8)&&Ce x.cs 4&&Ce x.ls 3&&decide (x.qs.length<=6)&&
 difI [x.c] x.cs.length&&difI [x.l] x.ls.length&&(x.qs.all λq=>Cr q x.cs.length x.ls.length)&&
 (x.ps.all λp=>difI p.ls x.ls.length&&decide (1<=p.ls.length))&&difI (x.ps.map (·.c)) x.cs.length
structure OKL(x:Lma):Prop where
 nm:Ci x.nm=true
 lv:1<=x.lv/\x.lv<=8
 cs:x.cs.all Ci=true/\A1 x.cs=true/\1<=x.cs.length/\x.cs.length<=4
 ls:x.ls.all Ci=true/\A1 x.ls=true/\1<=x.ls.length/\x.ls.length<=3
 nq:x.qs.length<=6
 c:0<=x.c/\x.c<x.cs.length
 l:0<=x.l/\x.l<x.ls.length
 qs:∀q∈x.qs,Cr q x.cs.length x.ls.length=true
 ps:∀p∈x.ps,difI p.ls x.ls.length=true/\1<=p.ls.length
 pc:difI (x.ps.map (·.c)) x.cs.length=true
theorem LN(x:Lma):HH x=true↔OKL x:=by
 unfold HH Ce
 simp only[V7,Vf,Vj (p:=λq=>Cr q x.cs.length x.ls.length),Vj (p:=λp:Prm=>difI p.ls x.ls.length&&decide (1<=p.ls.length))]
 constructor
 ·rintro⟨⟨⟨⟨⟨⟨⟨⟨⟨⟨h1,h2⟩,h3⟩,⟨⟨⟨c1,c2⟩,c3⟩,c4⟩⟩,⟨⟨⟨l1,l2⟩,l3⟩,l4⟩⟩,h6⟩,h7⟩,h8⟩,h9⟩,h10⟩,h11⟩
  refine⟨h1,⟨h2,h3⟩,⟨c1,c2,c3,c4⟩,⟨l1,l2,l3,l4⟩,h6,?_,?_,h9,λp hp=>h10 p hp,h11⟩
  ·simp [difI]at h7;exact h7.1
  ·simp [difI]at h8;exact h8.1
 ·rintro⟨h1,⟨h2,h3⟩,⟨c1,c2,c3,c4⟩,⟨l1,l2,l3,l4⟩,h6,h7,h8,h9,h10,h11⟩
  exact⟨⟨⟨⟨⟨⟨⟨⟨⟨⟨h1,h2⟩,h3⟩,⟨⟨⟨c1,c2⟩,c3⟩,c4⟩⟩,⟨⟨⟨l1,l2⟩,l3⟩,l4⟩⟩,h6⟩,by simp [difI,A1,h7.1,h7.2]⟩,by simp [difI,A1,h8.1,h8.2]⟩,h9⟩,λp hp=>h10 p hp⟩,h11⟩
theorem Gt{l:List Int}{n:Nat}(h:difI l n=true):(l.all λk=>decide (0<=k)&&decide (k<n))=true:=by
 unfold difI at h
 rw[V7]at h;exact h.1
structure CndOK(q:Cnd)(nc nl:Nat):Prop where
 cs:difI q.cs nc=true
 ne:1<=q.cs.length
 ls:difI q.ls nl=true
 kind:((q.k=1\/q.k=4)/\2<=q.cs.length/\q.ls.length=0/\q.n=0)\/(q.k=2/\q.ls.length=1/\q.n=0)\/(q.k=3/\q.cs.length=2/\q.ls.length=0/\1<=q.n/\q.n<=99)\/(q.k=5/\q.cs.length=2/\q.ls.length=0/\q.n=0)\/(q.k=6/\1<=q.ls.length/\0<=q.n/\q.n<=q.cs.length)
theorem cnd_ok{q:Cnd}{nc nl:Nat}(h:Cr q nc nl=true):CndOK q nc nl:=by
 unfold Cr at h
 simp only[V7,Vf]at h
 obtain⟨⟨⟨h1,h2⟩,h3⟩,h4⟩:=h
 refine⟨h1,h2,h3,?_⟩
 split at h4
 ·rename_i hk
  simp only[V7,Vf]at h4
  exact .inl ⟨hk,h4.1.1,h4.1.2,h4.2⟩
 split at h4
 ·rename_i hk
  simp only[V7,Vf]at h4
  exact .inr (.inl ⟨hk,h4.1,h4.2⟩)
 split at h4
 ·rename_i hk
  simp only[V7,Vf]at h4
  exact .inr (.inr (.inl ⟨hk,h4.1.1.1,h4.1.1.2,h4.1.2,h4.2⟩))
 split at h4
 ·rename_i hk
  simp only[V7,Vf]at h4
  exact .inr (.inr (.inr (.inl ⟨hk,h4.1.1,h4.1.2,h4.2⟩)))
 split at h4
 ·rename_i hk
  simp only[V7,Vf]at h4
  exact .inr (.inr (.inr (.inr ⟨hk,h4.1.1,h4.1.2,h4.2⟩)))
 ·cases h4
end Go.AM
namespace Go.AM
open Go.Proofs Go.Lib
structure DSym where
 nm:List UInt8
 v:Int
 deriving DecidableEq
structure DReg where
 nm:List UInt8
 ls:List (List Int)
 deriving DecidableEq
structure DClu where
 nm:List UInt8
 on:List UInt8
 fam:Int
 ty:Int
 lo:Int
 hi:Int
 deriving DecidableEq
structure DRul where
 nm:List UInt8
 on:List UInt8
 kind:Int
 fam:Int
 ns:List (List UInt8)
 os:List (List UInt8)
 set:Int
 oth:Int
 op:Int
 n:Int
 byN:List UInt8
 clue:Int
 deriving DecidableEq
structure Dcl where
 nm:List UInt8
 ver:Int
 sh:Int
 w:Int
 h:Int
 holes:List Int
 syms:List DSym
 regs:List DReg
 clus:List DClu
 ruls:List DRul
 deriving DecidableEq
def FZ:List (List UInt8):=[[99,101,108,108,115],[114,111,119,115],[99,111,108,117,109,110,115],[100,105,97,103,111,110,97,108,115],[97,114,111,117,110,100],[110,101,97,114],[112,97,105,114,115],[97,108,108]]
def Ac{α:Type}[DecidableEq α]:List α->Bool
 |[]=>false
 |x::r=>(r.any λy=>decide (y=x))||Ac r
def Fp(d:Dcl):List (List UInt8):=FZ++d.regs.map (·.nm)
def Br(l:List (List UInt8))(s:List UInt8):Option Int:=(l.findIdx? λx=>decide (x=s)).map λ(i:Nat)=>(i:Int)
def Ec(l:List (List UInt8)):List (List UInt8)->Option Int
 |[]=>some 0
 |s::r=>match l.findIdx? (λx=>decide (x=s)),Ec l r with
  |some i,some n=>some (Int.ofNat (Nat.lor (1<<<i) n.toNat))
  |_,_=>none
def Cs(d:Dcl)(c:DClu):Option DClu:=(Br (Fp d) c.on).map λf=>{c with fam:=f}
def BG(d:Dcl)(r:DRul):Option DRul:=
 match (if r.on=[]then some 0 else Br (Fp d) r.on),Ec (d.syms.map (·.nm)) r.ns,Ec (d.syms.map (·.nm)) r.os,(if r.byN=[]then some (-1)else Br (d.clus.map (·.nm)) r.byN)with
 |some f,some a,some b,some c=>some {r with fam:=f,set:=a,oth:=b,clue:=c}
 |_,_,_,_=>none
def Ab{α β:Type}(f:α->Option β):List α->Option (List β)
 |[]=>some []
 |x::r=>match f x,Ab f r with
  |some y,some s=>some (y::s)
  |_,_=>none
def resD(d:Dcl):Except Int Dcl:=
 if 16<d.syms.length then .error 2 else if Ac (d.syms.map (·.nm))then .error 161 else if Ac (Fp d)then .error 161 else if Ac (d.clus.map (·.nm))then .error 161
 else match Ab (Cs d) d.clus with
  |none=>.error 160
  |some cs=>if Ac (d.ruls.map (·.nm))then .error 161 else match Ab (BG d) d.ruls with
   |none=>.error 160
   |some rs=>.ok {d with clus:=cs,ruls:=rs}
def Cx:Int->List Int->Bool
 |_,[]=>true
 |a,x::r=>decide (a<x)&&Cx x r
def Ad(sh w h:Int)(holes:List Int):Option (List Int):=
 if(sh=1\/sh=2)/\1<=w/\w<=16/\1<=h/\h<=16/\(holes.length:Int)<w*h/\Cx (-1) holes=true/\(holes.all λp=>decide (p<w*h))=true then
  some (((List.range (w*h).toNat).map λ(i:Nat)=>(i:Int)).filter λp=>!holes.contains p)
 else none
def Dt(cells l:List Int):Bool:=(l.all λp=>cells.contains p)&& !Ac l&&decide (1<=l.length)
def J6(a b:List Int):Bool:=(a.all λx=>b.contains x)&&b.all λx=>a.contains x
def Bm:List (List Int)->Bool
 |[]=>false
 |x::r=>(r.any λy=>J6 y x)||Bm r
def regE(cells:List Int)(r:DReg):Int:=if(decide (r.ls.length<=64)&&r.ls.all (Dt cells))=false then 130 else if Bm r.ls=true then 161 else 0
def DQ(cells:List Int):List DReg->Int
 |[]=>0
 |r::s=>if regE cells r=0 then DQ cells s else regE cells r
def Fq(c:DClu):Bool:=
 if c.ty=1 then decide (c.fam=0)&&decide (c.lo=0)&&decide (c.hi=0)
 else if c.ty=2 then decide (0<=c.lo)&&decide (c.lo<=c.hi)&&decide (c.hi<=65536)
 else if c.ty=3 then(decide (1<=c.fam)&&decide (c.fam<=3)||decide (8<=c.fam))&&decide (c.lo=0)&&decide (c.hi=0)
 else false
structure FormD where
 on:Bool:=false
 set:Bool:=false
 oth:Bool:=false
 bnd:Bool:=false
 num:Bool:=false
 rdb:Bool:=false
 knw:Bool:=false
 clue:Int:=0
def Iv(k:Int):FormD:=
 if k=1 then{on:=true,rdb:=true,knw:=true}else if k=2 then{on:=true,set:=true,bnd:=true,rdb:=true,knw:=true}
 else if k=3 then{on:=true,bnd:=true,rdb:=true,knw:=true}else if k=4 then{on:=true,rdb:=true,knw:=true}
 else if k=5 then{on:=true,set:=true,rdb:=true,knw:=true,clue:=3}else if k=6 then{rdb:=true,knw:=true}
 else if k=7 then{num:=true,rdb:=true,knw:=true}else if k=8 then{set:=true,oth:=true,rdb:=true,knw:=true}
 else if k=9 then{set:=true,rdb:=true,knw:=true}else if k=10 then{set:=true,rdb:=true,knw:=true}
 else if k=11 then{rdb:=true,knw:=true,clue:=1}else if k=12 then{on:=true,knw:=true}else if k=13 then{bnd:=true,knw:=true}else{}
def cluP(cl:List DClu)(r:DRul)(w:Int):Bool:=if r.clue<0\/(cl.length:Int)<=r.clue then false else match cl[r.clue.toNat]? with
 |some c=>decide (c.ty=w)&&(decide (w=1)||decide (c.fam=r.fam))
 |none=>false
def Gu(cl:List DClu)(r:DRul):Bool:=
 let f:=Iv r.kind
 if f.knw=false then false
 else if(f.on !=decide (r.on≠[]))||(f.set !=decide (r.set≠0))||(f.oth !=decide (r.oth≠0))||(!f.on&&decide (r.fam≠0))||(!f.set&&decide (0<r.ns.length))||(!f.oth&&decide (0<r.os.length))then false
 else if(f.bnd !=(decide (1<=r.op)&&decide (r.op<=3)))||(!f.bnd&&decide (r.op≠0))||decide (r.n<0)||decide (65536<r.n)then false
 else if !(f.num||f.bnd&&decide (r.byN=[]))&&decide (r.n≠0)then false
 else
  let want:=if f.bnd&&decide (r.byN≠[])then 2 else f.clue
  if want=0 then decide (r.byN=[])&&decide (r.clue= -1)else cluP cl r want
def HI(rs:List DRul)(i:Nat):Nat:=(rs.filter λr=>decide (r.clue=(i:Int))).length
def CF(d:Dcl):Bool:=(d.syms.all λs=>decide (0<=s.v)&&decide (s.v<=99))&&d.ruls.all (Gu d.clus)&&((List.range d.clus.length).all λi=>decide (HI d.ruls i=1))&&d.clus.all Fq
def Iw(r:DRul):Bool:=decide (1<=r.kind)&&decide (r.kind<=11)
def BT(rs:List DRul):List Int:=((List.range rs.length).filter λi=>match rs[i]? with|some r=>!Iw r|none=>false).map λ(i:Nat)=>(i:Int)
def limD(d:Dcl):Bool:=decide (0<d.syms.length)&&decide (d.syms.length<=16)&&decide (d.regs.length<=4)&&decide (d.clus.length<=4)&&decide (d.ruls.length<=16)
def chkD(d:Dcl):Int:=
 if limD d=false then 2 else match resD d with
  | .error e=>e
  | .ok x=>if x≠d then 170 else if d.ver<1\/255<d.ver then 170 else match Ad d.sh d.w d.h d.holes with
   |none=>130
   |some cells=>if DQ cells d.regs≠0 then DQ cells d.regs else if CF d=false then 170 else if BT d.ruls≠[]then 171 else 0
end Go.AM
namespace Go.AM
open Go.Proofs Go.Lib
abbrev leI(x y:Int):Bool:=decide (x<=y)
theorem B3{α:Type}[DecidableEq α]:∀{l:List α},Ac l=false↔l.Nodup
 |[]=>by simp [Ac]
 |x::r=>by
  have ih:=B3 (l:=r)
  simp only[Ac,Bool.or_eq_false_iff,List.any_eq_false,Vf,WQ,ih]
  constructor
  ·exact λ⟨h1,h2⟩=>⟨λhx=>h1 x hx rfl,h2⟩
  ·exact λ⟨h1,h2⟩=>⟨λy hy e=>h1 (e▸hy),h2⟩
theorem P1{a b:List Int}:J6 a b=true↔∀x,x∈a↔x∈b:=by
 unfold J6
 simp only[V7,Vj,Wh]
 exact⟨λ⟨h1,h2⟩ x=>⟨h1 x,h2 x⟩,λh=>⟨λx hx=>(h x).1 hx,λx hx=>(h x).2 hx⟩⟩
theorem Et(l:List Int):List.Pairwise (λx y=>x<=y) (l.mergeSort leI):=by
 have:=List.pairwise_mergeSort (le:=leI) (λa b c h1 h2=>by simp only[leI,Vf]at*;omega) (λa b=>by simp only[leI,Vr,Vf];omega) l
 exact this.imp λh=>by simpa using h
theorem Hv{a b:List Int}(ha:a.Nodup)(hb:b.Nodup):J6 a b=decide (a.mergeSort leI=b.mergeSort leI):=by
 rw[VS,P1,Vf,<-List.perm_ext_iff_of_nodup ha hb]
 constructor
 ·intro h
  have p:(a.mergeSort leI).Perm (b.mergeSort leI):=(WP a leI).trans (h.trans (WP b leI).symm)
  exact p.eq_of_pairwise (le:=λx y:Int=>x<=y) (λx y _ _ h1 h2=>by omega) (Et a) (Et b)
 ·intro h
  exact(WP a leI).symm.trans (h▸WP b leI)
theorem nd{α:Prop}[Decidable α]:decide α= !decide (¬α):=by by_cases h:α<;>simp [h]
end Go.AM
namespace Go.AM
open Go.Proofs Go.Lib
theorem CA{α:Type}{f:α->Option α}:∀{l:List α},Ab f l=some l↔∀x∈l,f x=some x
 |[]=>by simp [Ab]
 |x::r=>by
  have ih:=CA (f:=f) (l:=r)
  simp only[Ab,Vz,Xs,<-ih]
  cases h1:f x with
  |none=>simp
  |some y=>
   cases h2:Ab f r with
   |none=>simp
   |some s=>simp
structure ResOK(d:Dcl):Prop where
 n16:d.syms.length<=16
 ts:Ac (d.syms.map (·.nm))=false
 tf:Ac (Fp d)=false
 tc:Ac (d.clus.map (·.nm))=false
 tr:Ac (d.ruls.map (·.nm))=false
 cl:∀c∈d.clus,Cs d c=some c
 ru:∀r∈d.ruls,BG d r=some r
theorem J7{d:Dcl}:resD d= .ok d↔ResOK d:=by
 constructor
 ·intro h
  unfold resD at h
  split at h
  ·cases h
  split at h
  ·cases h
  split at h
  ·cases h
  split at h
  ·cases h
  rename_i h1 h2 h3 h4
  cases hc:Ab (Cs d) d.clus with
  |none=>rw[hc]at h;cases h
  |some cs=>
   rw[hc]at h
   simp only at h
   split at h
   ·cases h
   rename_i h5
   cases hr:Ab (BG d) d.ruls with
   |none=>rw[hr]at h;cases h
   |some rs=>
    rw[hr]at h
    simp only[Except.ok.injEq]at h
    have e1:cs=d.clus:=congrArg Dcl.clus h
    have e2:rs=d.ruls:=congrArg Dcl.ruls h
    subst e1;subst e2
    exact⟨by omega,by simpa using h2,by simpa using h3,by simpa using h4,by simpa using h5,CA.1 hc,CA.1 hr⟩
 ·intro h
  unfold resD
  rw[Vb (by have:=h.n16;omega),h.ts,h.tf,h.tc,CA.2 h.cl]
  simp only[Vo,Vv]
  rw[h.tr,CA.2 h.ru]
  rfl
structure DclOK(d:Dcl):Prop where
 lim:limD d=true
 res:ResOK d
 ver:1<=d.ver/\d.ver<=255
 reg:∃cells,Ad d.sh d.w d.h d.holes=some cells/\DQ cells d.regs=0
 form:CF d=true
theorem Uk{d:Dcl}(h:DclOK d):chkD d=if BT d.ruls≠[]then 171 else 0:=by
 obtain⟨cells,h1,h2⟩:=h.reg
 unfold chkD
 rw[h.lim,J7.2 h.res]
 simp only[Bool.true_eq_false,Vv,ne_eq,WO]
 rw[Vb (by have:=h.ver;omega),h1]
 simp only[h2,h.form,WO,Vv,Bool.true_eq_false]
theorem SA{d:Dcl}:chkD d=0↔DclOK d/\BT d.ruls=[]:=by
 constructor
 ·intro h
  unfold chkD at h
  split at h
  ·cases h
  rename_i h1
  cases hr:resD d with
  |error e=>
   rw[hr]at h
   simp only at h
   unfold resD at hr
   subst h
   split at hr
   ·cases hr
   split at hr
   ·cases hr
   split at hr
   ·cases hr
   split at hr
   ·cases hr
   split at hr
   ·cases hr
   split at hr
   ·cases hr
   split at hr<;>cases hr
  |ok x=>
   rw[hr]at h
   simp only at h
   split at h
   ·cases h
   rename_i h2
   have h2:x=d:=by simpa using h2
   subst h2
   split at h
   ·cases h
   rename_i h3
   cases hc:Ad x.sh x.w x.h x.holes with
   |none=>rw[hc]at h;cases h
   |some cells=>
    rw[hc]at h
    simp only at h
    split at h
    ·rename_i h4;exact absurd h h4
    rename_i h4
    split at h
    ·cases h
    rename_i h5
    split at h
    ·cases h
    rename_i h6
    exact⟨⟨by simpa using h1,J7.1 hr,by omega,⟨cells,hc,by simpa using h4⟩,by simpa using h5⟩,by simpa using h6⟩
 ·rintro⟨h1,h2⟩
  rw[Uk h1,Vb (by rw[h2];exact λh=>h rfl)]
theorem MT{d x:Dcl}(h:resD d= .ok x):x.nm=d.nm/\x.ver=d.ver/\x.sh=d.sh/\x.w=d.w/\x.h=d.h/\x.holes=d.holes/\x.syms=d.syms/\x.regs=d.regs:=by
 unfold resD at h
 split at h
 ·cases h
 split at h
 ·cases h
 split at h
 ·cases h
 split at h
 ·cases h
 split at h
 ·cases h
 split at h
 ·cases h
 split at h
 ·cases h
 ·cases h;exact⟨rfl,rfl,rfl,rfl,rfl,rfl,rfl,rfl⟩
end Go.AM
namespace Go.AM
open Go.Proofs Go.Lib
theorem Ni(rs:List DRul)(r:DRul):BT (rs++[r])=BT rs++(if Iw r=true then[]else[(rs.length:Int)]):=by
 unfold BT
 rw[Vm,Xp,WR,X1,Vl]
 congr 1
 ·congr 1
  apply List.filter_congr
  intro i hi
  have:=Wa.1 hi
  rw[W0 this]
 ·rw[Wy,W4 (V9 _),Nat.sub_self]
  simp only[Va,List.filter_nil]
  by_cases h:Iw r=true
  ·simp [h]
  ·simp [show Iw r=false by simpa using h]
theorem P2{α:Type}[DecidableEq α]{l:List α}{x:α}:Ac (l++[x])=false↔Ac l=false/\x∉l:=by
 rw[B3,B3,X6]
 simp only[WQ,Xb,Xd,Xy,and_self,We,Wp]
 constructor
 ·exact λ⟨h1,h2⟩=>⟨h1,λhx=>h2 x hx x rfl rfl⟩
 ·exact λ⟨h1,h2⟩=>⟨h1,λa ha b hb e=>h2 (by rw[<-hb,<-e];exact ha)⟩
theorem P3{l:List (List UInt8)}{s:List UInt8}{n:Int}(h:Br l s=some n):0<=n/\n<l.length:=by
 unfold Br at h
 rw[Wj]at h
 obtain⟨i,h1,rfl⟩:=h
 have:=Wn.1 h1
 obtain⟨hi,-⟩:=this
 omega
end Go.AM
namespace Go.AM
open Go.Proofs Go.Lib
end Go.AM
namespace Go.AM
open Go.Proofs Go.Lib
end Go.AM
namespace Go.AM
open Go.Proofs Go.Lib
structure SmallD(d:Dcl):Prop where
 top:d.nm.length+d.holes.length+d.syms.length+d.regs.length+d.clus.length+d.ruls.length<2000
 sy:∀s∈d.syms,s.nm.length<2000
 rg:∀r∈d.regs,r.nm.length+r.ls.length<2000/\∀l∈r.ls,l.length<2000
 cl:∀c∈d.clus,c.nm.length+c.on.length<2000
 ru:∀r∈d.ruls,r.nm.length+r.on.length+r.byN.length+r.ns.length+r.os.length<2000/\(∀s∈r.ns,s.length<2000)/\∀s∈r.os,s.length<2000
end Go.AM
namespace Go.AM
open Go.Proofs Go.Lib
theorem Hw:∀{a:Int} {l:List Int},Cx a l=true↔(∀x∈l,a<x)/\List.Pairwise (λx y=>x<y) l
 |a,[]=>by simp [Cx]
 |a,x::r=>by
  have ih:=Hw (a:=x) (l:=r)
  simp only[Cx,V7,Vf,ih,Vz,Xs,WT]
  constructor
  ·exact λ⟨h1,h2,h3⟩=>⟨⟨h1,λy hy=>by have:=h2 y hy;omega⟩,h2,h3⟩
  ·exact λ⟨⟨h1,h2⟩,h3,h4⟩=>⟨h1,h3,h4⟩
def EM(n:Int):List Int:=(List.range n.toNat).map λ(i:Nat)=>(i:Int)
theorem Ul{n x:Int}:x∈EM n↔0<=x/\x<n:=by
 unfold EM
 rw[W2]
 constructor
 ·rintro⟨i,hi,rfl⟩
  have:=Wa.1 hi
  omega
 ·intro h
  exact⟨x.toNat,Wa.2 (by omega),by omega⟩
theorem Um(n:Int):(EM n).length=n.toNat:=by simp [EM]
theorem A8{sh w h:Int}{holes cells:List Int}(hc:Ad sh w h holes=some cells):List.Pairwise (λx y=>x<y) cells/\cells.length<=256/\∀x∈cells,0<=x/\x<256:=by
 unfold Ad at hc
 split at hc
 ·rename_i hcond
  obtain⟨-,a,b,c,d,-⟩:=hcond
  cases hc
  have hwh:w*h<=256:=by
   have:w*h<=16*16:=Int.mul_le_mul b d (by omega) (by omega)
   omega
  have hpw:List.Pairwise (λx y:Int=>x<y) (EM (w*h)):=by
   unfold EM
   rw[List.pairwise_map]
   exact Xl.imp λq=>by omega
  refine⟨hpw.sublist List.filter_sublist,?_,λx hx=>?_⟩
  ·have h1:=Wm (λp=>!holes.contains p) (EM (w*h))
   rw[Um]at h1
   have:((EM (w*h)).filter λp=>!holes.contains p).length<=256:=by omega
   exact this
  ·have:=Ul.1 (WJ.1 hx).1
   omega
 ·cases hc
end Go.AM
namespace Go.AM
open Go.Proofs Go.Lib
def lowB(l:List Int)(x:Int):Nat:=(l.filter λy=>decide (y<x)).length
theorem LO:∀{l:List Int} {x:Int} {i:Nat},i<=l.length->(∀k (hk:k<l.length),k<i->l[k]<x)->(∀k (hk:k<l.length),i<=k->x<=l[k])->lowB l x=i
 |[],x,i,hi,_,_=>by simp at hi;subst hi;rfl
 |y::r,x,0,_,_,h2=>by
  have h0:=h2 0 (by simp) (V9 0)
  have ih:=LO (l:=r) (x:=x) (i:=0) (Vi _) (λk hk h=>by omega) (λk hk _=>h2 (k+1) (by simp;omega) (Vi _))
  unfold lowB at ih⊢
  rw[Wy,Vb (by simp at h0;simp;omega)];exact ih
 |y::r,x,i+1,hi,h1,h2=>by
  have h0:=h1 0 (by simp) (by omega)
  have ih:=LO (l:=r) (x:=x) (i:=i) (by simp at hi;omega) (λk hk h=>h1 (k+1) (by simp;omega) (by omega)) (λk hk h=>h2 (k+1) (by simp;omega) (by omega))
  unfold lowB at ih⊢
  rw[Wy,Vk (by simpa using h0),Vq,ih]
theorem Un{l:List Int}(hp:List.Pairwise (λx y=>x<y) l){i j:Nat}(hj:j<l.length)(hij:i<=j):l[i]<=l[j]:=by
 by_cases e:i=j
 ·subst e;exact W3 _
 ·have:=WE.1 hp i j (by omega) hj (by omega)
  omega
def Gv(cells:List Int):List Int->List Int->Bool
 |_,[]=>true
 |met,p::r=>cells.contains p&& !met.contains p&&Gv cells (met++[p]) r
theorem P4(cells:List Int):∀(l met:List Int),Gv cells met l=true↔(∀p∈l,p∈cells/\p∉met)/\l.Nodup
 |[],met=>by simp [Gv]
 |p::r,met=>by
  have ih:=P4 cells r (met++[p])
  simp only[Gv,V7,WF,Wh,ih,Vz,Xs,WQ,W7,Xb,or_false,not_or]
  rw[<-Bool.not_eq_true,Wh]
  constructor
  ·exact λ⟨⟨a,b⟩,c,d⟩=>⟨⟨⟨a,b⟩,λx hx=>⟨(c x hx).1,(c x hx).2.1⟩⟩,λhm=>(c p hm).2.2 rfl,d⟩
  ·exact λ⟨⟨⟨a,b⟩,c⟩,d,e⟩=>⟨⟨a,b⟩,λx hx=>⟨(c x hx).1,(c x hx).2,λq=>d (q▸hx)⟩,e⟩
theorem Ix(cells l:List Int):Dt cells l=(Gv cells [] l&&decide (1<=l.length)):=by
 unfold Dt
 congr 1
 rw[VS,P4,V7,Vj]
 simp only[Wh,Xb,Xd,WM,WF,B3]
end Go.AM
namespace Go.AM
open Go.Proofs Go.Lib
theorem BF{l:List (List UInt8)}{s:List UInt8}:Br l s=none↔s∉l:=by
 unfold Br
 rw[Option.map_eq_none_iff,X3]
 simp only[X8]
 exact⟨λh hm=>h s hm rfl,λh x hx e=>h (e▸hx)⟩
theorem Hx{l:List (List UInt8)}{s:List UInt8}{r:List (List UInt8)}:Ec l (s::r)=match l.findIdx? (λx=>decide (x=s)),Ec l r with
  |some i,some n=>some (Int.ofNat (Nat.lor (1<<<i) n.toNat))
  |_,_=>none:=rfl
def bits(is:List Nat):Nat:=is.foldr (λi n=>Nat.lor (1<<<i) n) 0
theorem Nj{l ss:List (List UInt8)}:Ec l ss=(Ab (λs=>l.findIdx? λx=>decide (x=s)) ss).map λis=>(bits is:Int):=by
 induction ss with
 |nil=>rfl
 |cons s r ih=>
  rw[Hx,ih]
  simp only[Ab]
  cases l.findIdx? λx=>decide (x=s)with
  |none=>rfl
  |some i=>
   cases Ab (λs=>l.findIdx? λx=>decide (x=s)) r with
   |none=>rfl
   |some is=>rfl
end Go.AM
namespace Go.AM
open Go.Proofs Go.Lib
theorem MU:∀{a b:List Int},List.Pairwise (λx y=>x<y) a->List.Pairwise (λx y=>x<y) b->(∀x,x∈a↔x∈b)->a=b
 |[],[],_,_,_=>rfl
 |[],y::s,_,_,h=>by have:=(h y).2 (by simp);cases this
 |x::r,[],_,_,h=>by have:=(h x).1 (by simp);cases this
 |x::r,y::s,ha,hb,h=>by
  obtain⟨a1,a2⟩:=WT.1 ha
  obtain⟨b1,b2⟩:=WT.1 hb
  have e:x=y:=by
   rcases Vz.1 ((h x).1 (by simp))with q|q
   ·exact q
   ·rcases Vz.1 ((h y).2 (by simp))with p|p
    ·exact p.symm
    ·have:=a1 y p;have:=b1 x q;omega
  subst e
  refine congrArg _ (MU a2 b2 λz=>?_)
  constructor
  ·intro hz
   rcases Vz.1 ((h z).1 (by simp [hz]))with q|q
   ·subst q;have:=a1 z hz;omega
   ·exact q
  ·intro hz
   rcases Vz.1 ((h z).2 (by simp [hz]))with q|q
   ·subst q;have:=b1 z hz;omega
   ·exact q
theorem F2{sh w h:Int}{holes cells:List Int}(hc:Ad sh w h holes=some cells):(sh=1\/sh=2)/\1<=w/\w<=16/\1<=h/\h<=16/\(holes.length:Int)<w*h/\(∀x∈holes,0<=x/\x<w*h)/\List.Pairwise (λx y=>x<y) holes/\cells=(EM (w*h)).filter λp=>!holes.contains p:=by
 unfold Ad at hc
 split at hc
 ·rename_i hq
  obtain⟨a,b,c,d,e,f,g,i⟩:=hq
  cases hc
  rw[Hw]at g
  simp only[Vj,Vf]at i
  exact⟨a,b,c,d,e,f,λx hx=>⟨by have:=g.1 x hx;omega,i x hx⟩,g.2,rfl⟩
 ·cases hc
theorem wh_le{w h:Int}(h1:1<=w)(h2:w<=16)(h3:1<=h)(h4:h<=16):1<=w*h/\w*h<=256:=by
 have a:w*h<=16*16:=Int.mul_le_mul h2 h4 (by omega) (by omega)
 have b:1*1<=w*h:=Int.mul_le_mul h1 h3 (by omega) (by omega)
 omega
def Bt(cells l:List Int):List Int:=l.map λp=>(lowB cells p:Int)
theorem S3{l:List Int}(hp:List.Pairwise (λx y=>x<y) l){i:Nat}(hi:i<l.length):lowB l l[i]=i:=by
 refine LO (Nat.le_of_lt hi) (λk hk h=>WE.1 hp k i hk hi h) λk hk h=>Un hp hk h
theorem Uo{l:List Int}(hp:List.Pairwise (λx y=>x<y) l){x y:Int}(hx:x∈l)(hy:y∈l)(h:lowB l x=lowB l y):x=y:=by
 obtain⟨i,hi,rfl⟩:=VI.1 hx
 obtain⟨j,hj,rfl⟩:=VI.1 hy
 rw[S3 hp hi,S3 hp hj]at h
 subst h;rfl
theorem Iy:∀{l:List (List Int)},Bm l=true↔∃(a b:Nat) (ha:a<l.length) (hb:b<l.length),b<a/\J6 l[a] l[b]=true
 |[]=>by simp [Bm]
 |x::r=>by
  have ih:=Iy (l:=r)
  simp only[Bm,Vr,ih,Xk]
  constructor
  ·rintro(⟨y,hy,h⟩|⟨a,b,ha,hb,hab,h⟩)
   ·obtain⟨i,hi,rfl⟩:=VI.1 hy
    exact⟨i+1,0,by simp;omega,by simp,by omega,h⟩
   ·exact⟨a+1,b+1,by simp;omega,by simp;omega,by omega,h⟩
  ·rintro⟨a,b,ha,hb,hab,h⟩
   cases a with
   |zero=>omega
   |succ a=>
    cases b with
    |zero=>exact .inl ⟨r[a]'(by simp at ha;omega),Vn _,h⟩
    |succ b=>exact .inr ⟨a,b,by simp at ha;omega,by simp at hb;omega,by omega,h⟩
theorem P5(cells:List Int)(l:List DReg)(i:Nat)(hi:i<l.length):DQ cells (l.drop i)=if regE cells l[i]=0 then DQ cells (l.drop (i+1))else regE cells l[i]:=by
 rw[VO hi];rfl
theorem Fa{cells l:List Int}(h:Dt cells l=true):l.Nodup/\1<=l.length/\∀p∈l,p∈cells:=by
 unfold Dt at h
 simp only[V7,WF,Vf,B3,Vj,Wh]at h
 exact⟨h.1.2,h.2,h.1.1⟩
end Go.AM
namespace Go.AM
open Go.Proofs Go.Lib
abbrev eLl(l:List (List Int)):AVal:=.sl (.none 1) (l.map eIs)
abbrev HJ(s:DSym):AVal:=.agg [.str s.nm,.int .i64 s.v]
abbrev Ft(r:DReg):AVal:=.agg [.str r.nm,eLl r.ls]
abbrev Bn(c:DClu):AVal:=.agg [.str c.nm,.str c.on,.int .i64 c.fam,.int .i64 c.ty,.int .i64 c.lo,.int .i64 c.hi]
abbrev DR(r:DRul):List AVal:=[.str r.nm,.str r.on,.int .i64 r.kind,.int .i64 r.fam,eSs r.ns,eSs r.os,.int .i64 r.set,.int .i64 r.oth,.int .i64 r.op,.int .i64 r.n,.str r.byN,.int .i64 r.clue]
abbrev BX(r:DRul):AVal:=.agg (DR r)
abbrev eSys(l:List DSym):AVal:=.sl (.none 2) (l.map HJ)
abbrev eRgs(l:List DReg):AVal:=.sl (.none 2) (l.map Ft)
abbrev eCls(l:List DClu):AVal:=.sl (.none 6) (l.map Bn)
abbrev eRus(l:List DRul):AVal:=.sl (.none 12) (l.map BX)
abbrev AO(d:Dcl):List AVal:=[.str d.nm,.int .i64 d.ver,.int .i64 d.sh,.int .i64 d.w,.int .i64 d.h,eIs d.holes,eSys d.syms,eRgs d.regs,eCls d.clus,eRus d.ruls]
abbrev encD(d:Dcl):AVal:=.agg (AO d)
theorem Aa(n:Nat)(l:List Int):(eIs l).under n:=⟨trivial,DN n _⟩
theorem C8(n:Nat)(l:List Bs):(eSs l).under n:=⟨trivial,C6 n _⟩
theorem Ar(n:Nat)(l:List (List Int)):(eLl l).under n:=⟨trivial,Ap (Aa n) _⟩
theorem Gw(n:Nat)(s:DSym):(HJ s).under n:=⟨trivial,trivial,trivial⟩
theorem DS(n:Nat)(r:DReg):(Ft r).under n:=⟨trivial,Ar n _,trivial⟩
theorem Ed(n:Nat)(c:DClu):(Bn c).under n:=⟨trivial,trivial,trivial,trivial,trivial,trivial,trivial⟩
theorem B4(n:Nat)(r:DRul):(BX r).under n:=⟨trivial,trivial,trivial,trivial,C8 n _,C8 n _,trivial,trivial,trivial,trivial,trivial,trivial,trivial⟩
theorem D8(n:Nat)(l:List DSym):(eSys l).under n:=⟨trivial,Ap (Gw n) _⟩
theorem CU(n:Nat)(l:List DReg):(eRgs l).under n:=⟨trivial,Ap (DS n) _⟩
theorem D9(n:Nat)(l:List DClu):(eCls l).under n:=⟨trivial,Ap (Ed n) _⟩
theorem CV(n:Nat)(l:List DRul):(eRus l).under n:=⟨trivial,Ap (B4 n) _⟩
theorem A9(n:Nat)(d:Dcl):(encD d).under n:=⟨trivial,trivial,trivial,trivial,trivial,Aa n _,D8 n _,CU n _,D9 n _,CV n _,trivial⟩
def Fu:AVal->List Int
 | .sl _ L=>L.map toI
 |_=>[]
def Nk:AVal->List Bs
 | .sl _ L=>L.map toS
 |_=>[]
def Nl:AVal->List (List Int)
 | .sl _ L=>L.map Fu
 |_=>[]
def SB:AVal->DSym
 | .agg [.str nm,.int _ v]=>⟨nm,v⟩
 |_=>⟨[],0⟩
def P6:AVal->DReg
 | .agg [.str nm,l]=>⟨nm,Nl l⟩
 |_=>⟨[],[]⟩
def SC:AVal->DClu
 | .agg [.str nm,.str on,.int _ f,.int _ t,.int _ lo,.int _ hi]=>⟨nm,on,f,t,lo,hi⟩
 |_=>⟨[],[],0,0,0,0⟩
def P7:AVal->DRul
 | .agg [.str nm,.str on,.int _ k,.int _ f,ns,os,.int _ s,.int _ o,.int _ op,.int _ n,.str b,.int _ c]=>⟨nm,on,k,f,Nk ns,Nk os,s,o,op,n,b,c⟩
 |_=>⟨[],[],0,0,[],[],0,0,0,0,[],0⟩
def J8{α:Type}(f:AVal->α):AVal->List α
 | .sl _ L=>L.map f
 |_=>[]
def decD:AVal->Dcl
 | .agg [.str nm,.int _ v,.int _ sh,.int _ w,.int _ h,ho,sy,rg,cl,ru]=>⟨nm,v,sh,w,h,Fu ho,J8 SB sy,J8 P6 rg,J8 SC cl,J8 P7 ru⟩
 |_=>⟨[],0,0,0,0,[],[],[],[],[]⟩
theorem C9(l:List Int):Fu (eIs l)=l:=A0 l
theorem Du(l:List (List Int)):Nl (eLl l)=l:=Bl C9 l
theorem Eu(s:DSym):SB (HJ s)=s:=rfl
theorem Dv(r:DReg):P6 (Ft r)=r:=by simp only[P6,Du]
theorem Ev(c:DClu):SC (Bn c)=c:=rfl
theorem Dw(r:DRul):P7 (BX r)=r:=by simp only[P7,Nk,Cp]
theorem Iz(d:Dcl):decD (encD d)=d:=by
 simp only[decD,Fu,J8,A0,Bl Eu,Bl Dv,Bl Ev,Bl Dw]
def dWk{α:Type}(enc:α->AVal)(dec:AVal->α):Dc α:=⟨enc,dec,λv=>Wk v (enc (dec v)),λ_ h=>h⟩
theorem Fb{α:Type}{enc:α->AVal}{dec:AVal->α}(h:∀x,dec (enc x)=x)(x:α):(dWk enc dec).ok (enc x)=True:=V3 (by show Wk _ _;rw[h];exact Wk.refl _)
def dSy:Dc DSym:=dWk HJ SB
def dRg:Dc DReg:=dWk Ft P6
def dCl:Dc DClu:=dWk Bn SC
def dRu:Dc DRul:=dWk BX P7
def dD:Dc Dcl:=dWk encD decD
theorem S4(x:DSym):dSy.ok (HJ x)=True:=Fb Eu x
theorem P8(x:DSym):dSy.dec (HJ x)=x:=rfl
theorem MV(x:DReg):dRg.ok (Ft x)=True:=Fb Dv x
theorem I0(x:DReg):dRg.dec (Ft x)=x:=Dv x
theorem J9(x:DClu):dCl.ok (Bn x)=True:=Fb Ev x
theorem Gx(x:DClu):dCl.dec (Bn x)=x:=rfl
theorem Fc(x:DRul):dRu.ok (BX x)=True:=Fb Dw x
theorem Dx(x:DRul):dRu.dec (BX x)=x:=Dw x
theorem FF(x:Dcl):dD.ok (encD x)=True:=Fb Iz x
theorem DA(x:Dcl):dD.dec (encD x)=x:=Iz x
def dLi{α:Type}(e:Nat)(enc:α->AVal)(dec:AVal->α):Dc (List α):=⟨λl=>.sl (.none e) (l.map enc),decL dec,okL e enc dec,MQ⟩
theorem Gy{α:Type}{e:Nat}{enc:α->AVal}{dec:AVal->α}(h:∀x,dec (enc x)=x){t:Tok}{l:List α}(ht:t.esz=e\/l=[]):(dLi e enc dec).ok (.sl t (l.map enc))=True:=V3 (by
 refine⟨ht.imp id λq=>by rw[q];rfl,?_⟩
 rw[Bl h])
theorem Ee{α:Type}{e:Nat}{enc:α->AVal}{dec:AVal->α}(h:∀x,dec (enc x)=x){t:Tok}{l:List α}:(dLi e enc dec).dec (.sl t (l.map enc))=l:=Bl h l
def dLl:Dc (List (List Int)):=dLi 1 eIs Fu
def dSys:Dc (List DSym):=dLi 2 HJ SB
def dRgs:Dc (List DReg):=dLi 2 Ft P6
def dCls:Dc (List DClu):=dLi 6 Bn SC
def dRus:Dc (List DRul):=dLi 12 BX P7
theorem BD(l:List Int):dIs.ok (eIs l)=True:=V3 ⟨.inl rfl,by rw[A0]⟩
theorem At(l:List Int):dIs.dec (eIs l)=l:=A0 l
theorem dSs_ok(l:List Bs):dSs.ok (eSs l)=True:=V3 ⟨.inl rfl,by rw[Cp]⟩
theorem Up(l:List Bs):dSs.dec (eSs l)=l:=Cp l
theorem CP(x:Int):dI.ok (.int .i64 x)=True:=V3 trivial
theorem BH(x:Int):dI.dec (.int .i64 x)=x:=rfl
theorem dS_ok(x:Bs):dS.ok (.str x)=True:=V3 trivial
theorem S5(x:Bs):dS.dec (.str x)=x:=rfl
abbrev dcl0:Dcl:=⟨[],0,0,0,0,[],[],[],[],[]⟩
end Go.AM
namespace Go.AM
open Go.Proofs Go.Lib
def nmEs:List Bs->Nat->List (AVal×AVal×Nat)
 |[],_=>[]
 |s::r,i=>(.str s,.int .i64 (i:Int),i)::nmEs r (i+1)
theorem DB:∀(l:List Bs) (i:Nat),C3 .str (nmEs l i)=True
 |[],_=>rfl
 |s::r,i=>by rw[nmEs,C3,DB r (i+1)];simp [KT.is]
theorem Nm(x:Bs)(r:List Bs)(s:Bs):Br (x::r) s=if x=s then some 0 else(Br r s).map (· +1):=by
 unfold Br
 rw[List.findIdx?_cons]
 by_cases h:x=s
 ·simp [h]
 ·simp only[h,Xx,Vo,Vv]
  cases List.findIdx? (λx=>decide (x=s)) r<;>simp
theorem P9:∀(l:List Bs) (s:Bs) (i:Nat),Aw (.str s) (nmEs l i)=(Br l s).map λn=>.int .i64 (n+(i:Int))
 |[],s,i=>rfl
 |x::r,s,i=>by
  rw[nmEs,Aw,Nm,P9 r s (i+1)]
  by_cases h:x=s
  ·subst h;simp [ceq]
  ·have:¬s=x:=λq=>h q.symm
   simp only[ceq,h,this,Xx,Vo,Vv]
   cases Br r s with
   |none=>rfl
   |some n=>simp only[VL];congr 2;omega
theorem DT(l:List Bs)(s:Bs):Aw (.str s) (nmEs l 0)=(Br l s).map λn=>.int .i64 n:=by
 rw[P9];congr 1;funext n;simp
theorem S6:∀(l:List Bs) (s:Bs) (i:Nat),nmEs (l++[s]) i=nmEs l i++[(.str s,.int .i64 ((i+l.length:Nat):Int),i+l.length)]
 |[],s,i=>rfl
 |x::r,s,i=>by
  rw[Vu,nmEs,S6 r s (i+1),nmEs,Vu,Vq,show i+1+r.length=i+(r.length+1)by omega]
theorem F4{k v:AVal}{c:Nat}:∀{es:List (AVal×AVal×Nat)},Aw k es=none->mset k v c es=es++[(k,v,c)]
 |[],_=>rfl
 |(k',v',b)::r,h=>by
  rw[Aw]at h
  split at h
  ·cases h
  ·rename_i q
   rw[mset,Vb q,F4 h];rfl
theorem KA{l:List Bs}{s:Bs}(h:Br l s=none):mset (.str s) (.int .i64 (l.length:Int)) l.length (nmEs l 0)=nmEs (l++[s]) 0:=by
 rw[F4 (by rw[DT,h];rfl),S6];simp
theorem SD{α:Type}[DecidableEq α]{a b:List α}{x:α}(h:x∈a):Ac (a++x::b)=true:=by
 cases q:Ac (a++x::b)with
 |true=>rfl
 |false=>exact absurd rfl ((X6.1 (B3.1 q)).2.2 x h x (by simp))
def ctEs:List Int->Nat->List (AVal×AVal×Nat)
 |[],_=>[]
 |s::r,i=>(.int .i64 s,.bool true,i)::ctEs r (i+1)
theorem QA:∀(l:List Int) (i:Nat),C3 (.int .i64) (ctEs l i)=True
 |[],_=>rfl
 |s::r,i=>by rw[ctEs,C3,QA r (i+1)];simp [KT.is]
theorem LP:∀(l:List Int) (x:Int) (i:Nat),Aw (.int .i64 x) (ctEs l i)=if l.contains x then some (.bool true)else none
 |[],x,i=>rfl
 |y::r,x,i=>by
  rw[ctEs,Aw,LP r x (i+1),List.contains_cons]
  by_cases h:x=y
  ·subst h;simp [ceq]
  ·simp only[ceq,h,Xx,Vo,Vv,beq_eq_false_iff_ne.2 h,WV]
theorem S7:∀(l:List Int) (s:Int) (i:Nat),ctEs (l++[s]) i=ctEs l i++[(.int .i64 s,.bool true,i+l.length)]
 |[],s,i=>rfl
 |x::r,s,i=>by
  rw[Vu,ctEs,S7 r s (i+1),ctEs,Vu,Vq,show i+1+r.length=i+(r.length+1)by omega]
theorem ct_set{l:List Int}{x:Int}(h:l.contains x=false):mset (.int .i64 x) (.bool true) l.length (ctEs l 0)=ctEs (l++[x]) 0:=by
 rw[F4 (by rw[LP,h];rfl),S7];simp
theorem Gz{x y:Int}{v:AVal}{c:Nat}:∀{es:List (AVal×AVal×Nat)},C3 (.int .i64) es->Aw (.int .i64 x) (mset (.int .i64 y) v c es)=if x=y then some v else Aw (.int .i64 x) es
 |[],_=>by
  rw[mset,Aw,Aw]
  by_cases h:x=y<;>simp [ceq,h,Aw]
 |(k',v',b)::r,hf=>by
  obtain⟨h1,h2⟩:=hf
  have ih:=Gz (x:=x) (y:=y) (v:=v) (c:=c) h2
  cases k'<;>simp only[KT.is]at h1
  rename_i kk z
  subst h1
  rw[mset]
  by_cases hy:y=z
  ·subst hy
   rw[Vk (by simp [ceq])]
   rw[Aw,Aw]
   by_cases hx:x=y
   ·subst hx;simp [ceq]
   ·simp [ceq,hx]
  ·rw[Vb (by simp [ceq,hy])]
   rw[Aw,ih,Aw]
   by_cases hx:x=z
   ·subst hx
    have:¬x=y:=λq=>hy q.symm
    simp [ceq,this]
   ·simp [ceq,hx]
theorem G0{y:Int}{v:AVal}{c:Nat}:∀{es:List (AVal×AVal×Nat)},C3 (.int .i64) es->C3 (.int .i64) (mset (.int .i64 y) v c es)
 |[],_=>⟨rfl,trivial⟩
 |(k',v',b)::r,⟨h1,h2⟩=>by
  rw[mset]
  split
  ·exact⟨h1,h2⟩
  ·exact⟨h1,G0 h2⟩
def cntZ(rs:List DRul)(z:Int):Nat:=(rs.filter λr=>decide (r.clue=z)).length
theorem SE(rs:List DRul)(i:Nat):cntZ rs (i:Int)=HI rs i:=rfl
theorem Uq(rs:List DRul)(r:DRul)(z:Int):cntZ (rs++[r]) z=cntZ rs z+if r.clue=z then 1 else 0:=by
 unfold cntZ
 rw[X1,Vm]
 by_cases h:r.clue=z<;>simp [h]
theorem cnt_le(rs:List DRul)(z:Int):cntZ rs z<=rs.length:=Wm ..
def LQ(rs:List DRul)(es:List (AVal×AVal×Nat)):Prop:=C3 (.int .i64) es/\∀z:Int,(Aw (.int .i64 z) es).getD (.int .i64 0)= .int .i64 (cntZ rs z:Int)
theorem LQ.next{rs:List DRul}{es:List (AVal×AVal×Nat)}{r:DRul}{c:Nat}(h:LQ rs es):LQ (rs++[r]) (mset (.int .i64 r.clue) (.int .i64 ((cntZ rs r.clue+1:Nat):Int)) c es):=by
 refine⟨G0 h.1,λz=>?_⟩
 rw[Gz h.1,Uq]
 by_cases q:z=r.clue
 ·subst q;rw[Vk rfl,Vk rfl];rfl
 ·rw[Vb q,Vb (λe=>q e.symm)];exact h.2 z
end Go.AM
namespace Go.AM
open Go.Proofs Go.Lib Go.RowKit Go.Sort
theorem G1{g:Ghost}{f:Nat->Option Value}:∀(ws:List Int) (o:Nat),Stab g 1 f o (ws.map eI)->∀(j:Nat) x,ws[j]?=some x->f (o+j)=some (.int .i64 x)
 |[],_,_,j,x,h=>by simp at h
 |y::ws,o,⟨⟨v,q1,q2,q3⟩,h'⟩,j,x,h=>by
  cases j with
  |zero=>
   simp at h;subst h
   have q1':v= .int .i64 y:=q1
   subst q1'
   exact q3 0 _ rfl
  |succ j=>rw[show o+(j+1)=o+1+j by omega];exact G1 ws (o+1) h' j x (by simpa using h)
theorem Fd{g:Ghost}{f:Nat->Option Value}:∀(ws:List Int) (o:Nat),(∀(j:Nat) x,ws[j]?=some x->f (o+j)=some (.int .i64 x))->Stab g 1 f o (ws.map eI)
 |[],_,_=>trivial
 |y::ws,o,h=>by
  refine⟨⟨.int .i64 y,rfl,⟨rfl,λx hx=>by simp [Value.cells]at hx;subst hx;rfl⟩,λj x hx=>?_⟩,Fd ws (o+1) λj x hx=>by
   have:=h (j+1) x (by simpa using hx)
   rw[<-this];congr 1;omega⟩
  cases j with
  |zero=>
   have hx':some (Value.int .i64 y)=some x:=hx
   cases hx'
   exact h 0 y rfl
  |succ j=>simp [Value.cells]at hx
theorem Nn(w:World)(k:Nat):Below w.heap.size w (w.drewN k) where
 os:=rfl
 tape:=rfl
 output:=rfl
 size:=V9 _
 block:=λi hi=>rfl
theorem p218(l:List Int)(x:Int)(hl:l.length<1000000000)(hs:List.Pairwise (λx y=>x<y) l):Pur Tryz.prog 218 [eIs l,.int .i64 x] (.tup [.int .i64 (lowB l x),.bool (l.contains x)]):=by
 refine BM l218 ⟨⟨trivial,DN 0 l⟩,trivial,trivial⟩ ⟨trivial,trivial,trivial⟩ ?_
 rintro g w vs hR ⟨v,r,rfl,k1,v2,r2,rfl,k2,k3⟩
 have k2':v2= .int .i64 x:=k2
 have k3':r2=[]:=k3
 subst k2';subst k3'
 have hres:∀q,l=[]\/q=l.take l.length->VRel g (.tup [.int .i64 (lowB l x),.bool (l.contains x)]) (.tuple #[.int .i64 (((l.take l.length).countP (· <x):Nat):Int),.bool ((l.take l.length).contains x)]):=λq _=>by
  rw[VQ]
  have e:(l.countP λy=>decide (y<x))=lowB l x:=List.countP_eq_length_filter
  rw[e]
  exact⟨_,rfl,_,_,rfl,rfl,_,_,rfl,rfl,rfl⟩
 have hres:=hres l (.inr (VQ).symm)
 rcases k1 with⟨k1,rfl,-⟩|⟨-,b,o,cap,⟨sp,rfl,hsp⟩,hc,hst,-⟩
 ·have:l=[]:=by simpa using k1
  subst this
  refine(Tryz.slices_BinarySearch_int_empty none 0 x w).mono ?_
  rintro e w' ⟨rfl,rfl⟩
  exact⟨⟨_,rfl,hres⟩,Below.refl _ _⟩
 ·cases l with
  |nil=>
   refine(Tryz.slices_BinarySearch_int_empty _ _ x w).mono ?_
   rintro e w' ⟨rfl,rfl⟩
   exact⟨⟨_,rfl,hres⟩,Below.refl _ _⟩
  |cons y ys=>
   obtain rfl:sp=none:=hsp.resolve_right λq=>by cases q.1
   have hcell:=G1 _ _ hst
   have hk:=Tryz.slices_BinarySearch_int b o (y::ys).length cap (y::ys) x w (V9 _) (by omega) (λj hj=>hR.σw _ _ _ (hcell j _ (by rw[V5 hj];simp [List.getD,V5 hj]))) (by rw[VQ];exact hs.imp λq=>by omega)
   simp only[V0]at hk⊢
   refine hk.mono ?_
   rintro e w' ⟨rfl,q,rfl⟩
   exact⟨⟨_,rfl,hres⟩,Nn _ _⟩
theorem lSort:AV Tryz.prog 221:=⟨Tryz.f221,by kernel_rfl,by kernel_rfl,by kernel_rfl⟩
theorem MW{H:AB}{n id len cap:Nat}{zs:List Int}(ho:hget H id=some (.arr 1 (zs.map eI)))(hl:len<=zs.length)(hz:len<1000000000):
  AI Tryz.prog 221 [.ref id 1 0 len cap] H n λo H' n'=>o= .ret (.tup [])/\H'=hset H id (.arr 1 (((zs.take len).mergeSort leI++zs.drop len).map eI))/\n'=n:=by
 refine⟨lSort,λg w vs hR hv=>?_⟩
 obtain⟨v,r,rfl,k1,k2⟩:=hv
 have k2':r=[]:=k2
 subst k2'
 obtain⟨L,h1,h2,rfl⟩:=k1
 obtain⟨L',c,e,j1,j2,j3,j4,j5,j6⟩:=hR.obj id _ ho
 rw[h1]at j1;cases j1
 have hcell:=G1 _ _ j6
 simp only[VW]at hcell
 have hsz:c.size=zs.length:=by rw[<-j5];simp
 have htl:(zs.take len).length=len:=by simp;omega
 have hb:L.blk<w.heap.size:=(Vp.1 j4).1
 have hc:=Tryz.slices_Sort_int L.blk 0 cap (zs.take len) w (λj hj=>by
  have hj':j<(zs.take len).length:=by simpa using hj
  refine⟨?_,?_⟩
  ·rw[VW,getElem!_pos _ j hj]
   simp only[World.cell?,j4]
   rw[hcell j _ (show zs[j]?=some zs[j]from V5 (by omega))]
   simp
  ·simp [World.frozen?,j4]) hb (by omega)
 rw[htl]at hc
 simp only[WX]at hc⊢
 refine hc.mono ?_
 rintro ee w' ⟨rfl,k,os,rfl⟩
 generalize hS:(zs.take len).mergeSort (λx y=>decide (x<=y))=S
 have hSl:S.length=len:=by rw[<-hS,List.length_mergeSort,htl]
 have hblk:(putRow (Value.int .i64) (Sort.ahead w k) L.blk 0 S.toArray).heap[L.blk]?=some (.cells (Go.Sort.putCells (Value.int .i64) 0 S.toArray c) e (0,0)):=by
  simp only[putRow,mapBlock,Sort.ahead,Array.getElem?_modify,Wd,j4,VL,onCells]
 have hget:∀j:Nat,(Go.Sort.putCells (Value.int .i64) 0 S.toArray c)[j]?=if j<len then(S[j]?).map (Value.int .i64)else c[j]?:=λj=>by
  simp only[Go.Sort.putCells,Array.getElem?_mapIdx,Vi,We,VW,Nat.sub_zero,List.size_toArray,hSl]
  by_cases q:j<len
  ·simp only[q,Wd]
   have hjc:j<c.size:=by omega
   have hjS:j<S.length:=by omega
   rw[Wu hjc,V5 hjS]
   simp [hjS]
  ·simp only[q,Vv]
   cases c[j]?<;>rfl
 obtain⟨r1,r2⟩:=hR.upd (m:=n) (w':=putRow (Value.int .i64) (Sort.ahead w k) L.blk 0 S.toArray) (ob':=.arr 1 ((S++zs.drop len).map eI)) ho rfl h1 rfl rfl rfl (by simp [putRow,mapBlock,Sort.ahead])
  (λb hne=>by simp only[putRow,mapBlock,Sort.ahead,Array.getElem?_modify];rw[Vb (Ne.symm hne)])
  (.inl ⟨c,e,(0,0),_,j4,hblk,by simp [Go.Sort.putCells],λo ho'=>by
   rw[hget,Vb (by rcases ho' with q|q<;>omega)]⟩)
  ⟨L,_,e,h1,h2,by rw[j3];simp [Go.Sort.putCells],hblk,by simp [Go.Sort.putCells,hSl];omega,Fd _ _ λj x hx=>by
   rw[VW,hget]
   by_cases q:j<len
   ·rw[Vk q]
    rw[W0 (by omega)]at hx
    rw[hx];rfl
   ·rw[Vb q]
    rw[W4 (by omega),Xw]at hx
    exact hcell j x (by rw[<-hx];congr 1;omega)⟩
 have hx:HExt (putRow (Value.int .i64) (Sort.ahead w k) L.blk 0 S.toArray) (grow (putRow (Value.int .i64) (Sort.ahead w k) L.blk 0 S.toArray) os):=λb ob hb=>by
  show(_++os)[b]?=some ob
  rw[Array.getElem?_append_left (Vp.1 hb).1];exact hb
 have r3:=r1.grow hx (σ':=g.σ) (λ_ _ _ q=>q) (λ_ _ _ q=>.inl q)
 exact⟨g,.ret (.tup []),_,n,⟨rfl,rfl,rfl⟩,⟨_,rfl,rfl⟩,r3,V9 _,r2.trans (Trans.grow hx rfl rfl rfl (λ_ _ _ q=>q) (λ_ _ _ q=>.inl q))⟩
end Go.AM
namespace Go.AM
open Go.Proofs Go.Lib
def LV(e:Nat)(v:AVal)(H:AB)(l:List AVal):Prop:=
 (l=[]/\∃t,v= .sl t []/\(t= .nil\/t= .exact e))\/(l≠[]/\∃id cap rest,v= .ref id e 0 l.length cap/\hget H id=some (.arr e (l++rest))/\l.length+rest.length=cap)
def S8(e:Nat)(H:AB)(n:Nat)(l:List AVal):AOut->AB->Nat->Prop:=λo H' n'=>
 (l=[]/\H'=H/\n<=n'/\∃t,o= .ret (.sl t [])/\(t= .nil\/t= .exact e))\/(l≠[]/\n'=n+4/\∃cap rest,o= .ret (.ref (n+2) e 0 l.length cap)/\H'=hset H (n+2) (.arr e (l++rest))/\l.length+rest.length=cap)
theorem AI.out{P:Program}{f:FuncId}{args:List AVal}{H:AB}{n:Nat}{R R':AOut->AB->Nat->Prop}(h:AI P f args H n R)
  (hr:∀o H' n',R o H' n'->∃o2,R' o2 H' n'/\∀g w e,Rel g H' n' w->ERel g o e->ERel g o2 e):AI P f args H n R':=
 ⟨h.1,λg w vs r v=>(h.2 g w vs r v).mono λe w' ⟨g',out,H',n',q,he,hR,hn,ht⟩=>
  let ⟨o2,q2,hw⟩:=hr _ _ _ q;⟨g',o2,H',n',q2,hw _ _ _ hR he,hR,hn,ht⟩⟩
theorem AI.seal{P:Program}{f:FuncId}{args:List AVal}{H:AB}{n:Nat}{R R':AOut->AB->Nat->Prop}(h:AI P f args H n R)
  (hr:∀o H' n',R o H' n'->R' o H' n'\/∃id e l,hget H' id=some (.arr e l)/\R' o (hset H' id (.frz e l)) n'):AI P f args H n R':=by
 refine⟨h.1,λg w vs r v=>(h.2 g w vs r v).mono ?_⟩
 rintro e w' ⟨g',out,H',n',q,he,hR,hn,ht⟩
 rcases hr _ _ _ q with q|⟨id,es,l,h0,q⟩
 ·exact⟨g',out,H',n',q,he,hR,hn,ht⟩
 ·obtain⟨σ',r1,t1⟩:=hR.freeze (m:=n) h0
  refine⟨_,out,_,n',q,?_,r1,hn,ht.trans t1⟩
  cases out<;>cases e<;>first|exact he.elim|skip
  ·exact VRel.mono t1.le _ _ he
  ·obtain⟨v,hv,hr⟩:=he
   exact⟨v,hv,VRel.mono t1.le _ _ hr⟩
def LF(e:Nat)(v:AVal)(H:AB)(l:List AVal):Prop:=
 (l=[]/\∃t,v= .sl t []/\(t= .nil\/t= .exact e))\/(l≠[]/\∃id cap rest,v= .ref id e 0 l.length cap/\hget H id=some (.frz e (l++rest))/\l.length+rest.length=cap)
theorem Hy{e:Nat}{v:AVal}{H:AB}{l:List AVal}(h:LF e v H l){g:Ghost}{n:Nat}{w:World}{x:Value}(hR:Rel g H n w)(hv:VRel g v x):VRel g (.sl (.none e) l) x:=by
 rcases h with⟨rfl,t,rfl,ht⟩|⟨hne,id,cap,rest,rfl,ho,hc⟩
 ·exact Wk.sl (.inr rfl) _ _ hv
 ·obtain⟨L,h1,h2,rfl⟩:=hv
  obtain⟨L',j1,j2,j3⟩:=hR.obj id _ ho
  rw[h1]at j1;cases j1
  refine .inr ⟨trivial,L.blk,0,cap,⟨none,by simp,.inl rfl⟩,by omega,?_,trivial⟩
  have:=Stab.take l.length _ _ j3
  rw[Xn]at this
  exact this
def LvG{α:Type}(enc:α->AVal)(e lo:Nat)(H:AB)(lv:AVal)(qs:List α):Prop:=(lv= .sl .nil []/\qs=[])\/qs≠[]/\∃id rest,lv= .ref id e 0 qs.length (qs.length+rest.length)/\lo<=id/\hget H id=some (.arr e ((qs++rest).map enc))
section
variable {α:Type} {enc:α->AVal} {e lo:Nat}
theorem LR{H:AB}{m b:Nat}{lv z v:AVal}{z0:α}{qs:List α}{q:α}{K:AB->AVal->Prop}(h:LvG enc e lo H lv qs)(hv:v=enc q)(he:0<e)(hz:z.cells.length=e)(hz0:z=enc z0)(hb:Al (qs.length+1) b)(hm:hget H m=none)(hm2:lo<=m)(hk:qs.length+1<=35184372088832)
  (hK:∀id (rest:List α),lo<=id->(id=m\/∃L,hget H id=some (.arr e L))->K (hset H id (.arr e (((qs++[q])++rest).map enc))) (.ref id e 0 (qs++[q]).length ((qs++[q]).length+rest.length))):HF H m e b z K lv (some [v]):=by
 subst hv
 subst hz0
 have el:(qs++[q]).length=qs.length+1:=by simp
 rcases h with⟨rfl,rfl⟩|⟨-,id,rest,rfl,h2,h3⟩
 ·rw[Bk]
  refine⟨hm,he,hz,.inl rfl,hb,by simp,(λe=>by cases e),λ_ cap hcap=>?_⟩
  have:=hK m (List.replicate (cap-1) z0) hm2 (.inl rfl)
  simp only[Vw,Vs,Vq,W8,Wz,Vu,X0]at this hcap⊢
  rw[show 0+1+(cap-1)=cap by omega]at this
  exact this
 ·rw[Gj h3]
  refine⟨hm,he,hz,rfl,rfl,hb,hk,rfl,by simp,by omega,λhr=>?_,λhr cap' hc=>?_⟩
  ·have:=hK id (rest.drop 1) h2 (.inr ⟨_,h3⟩)
   simp only[Vq,W8]at hr⊢
   have e1:List.take qs.length ((qs++rest).map enc)=qs.map enc:=by rw[Vl,Wt (by simp),VZ (by simp)]
   have e2:List.drop (qs.length+(0+1)) ((qs++rest).map enc)=(rest.drop 1).map enc:=by rw[Vl,List.drop_append,WY (by simp)];simp
   rw[e1,e2]
   rw[el,Vl,Vl,Wf,show qs.length+1+(rest.length-1)=qs.length+rest.length by omega]at this
   exact this
  ·have:=hK m (List.replicate (cap'-(qs.length+1)) z0) hm2 (.inl rfl)
   simp only[Vq,W8]at hr hc⊢
   have e1:List.take qs.length ((qs++rest).map enc)=qs.map enc:=by rw[Vl,Wt (by simp),VZ (by simp)]
   rw[e1]
   rw[el,Vl,Vl,X0,Wz,show qs.length+1+(cap'-(qs.length+1))=cap' by omega]at this
   exact this
end
structure VF where
 i:Nat
 H:AB
 n:Nat
theorem Hz{P:Program}{T:Tab}{b:Nat}{cx:Nat->AVal}{rx:List (Nat×AOp)}{kp:List Nat}{k:List Item}{Q:AExit->AS->Prop}{s:AS}{d:Option Nat}{sz:Nat}{a x:Opd}:Ah P T b cx ((0,⟨d,none,.st sz a x⟩)::rx) kp k Q s=((lk s.env a).1=true/\(lk s.env x).1=true/\nT (lkv s.env x)/\(lkv s.env x).cells.length=sz/\(stE s.H sz (lkv s.env x) (lkv s.env a)).1/\Ah P T b cx rx kp k Q ({s with H:=(stE s.H sz (lkv s.env x) (lkv s.env a)).2}.put d true (.tup []))):=by
 rw[Pr,IW,J1]
 simp only[gvb,Wc,Az,We];rfl
end Go.AM
namespace Go.AM
open Go.Proofs Go.Lib
theorem Ur{H:AB}{n:Nat}(l:List DClu)(hl:few l):AI Tryz.prog 201 [eCls l] H n (S8 6 H n (l.map Bn)):=by
 refine AI.fresh l201 λhf=>a201 (AE AH.tnil (AF ?_))
 have hll:l.length<1000000000:=hl
 cases l with
 |nil=>
  simp only[eE,eC,eN,reduceCtorEq,↓reduceIte,c201]
  refine⟨?_,?_⟩
  ·simp only[eE,eC,eN,reduceCtorEq,Nat.reduceEqDiff,↓reduceIte,Nat.reduceAdd,Nat.reduceLT,Bk,DY,fr1 hf,Al,WX,Vi]
   exact .inl ⟨rfl,rfl,VY _ _,.exact 6,rfl,.inr rfl⟩
  ·simp only[eE,eC,eN,reduceCtorEq,↓reduceIte,Ve]
   exact .inl ⟨rfl,rfl,V9 _,.nil,rfl,.inl rfl⟩
 |cons x r=>
  rw[Vq]at hll
  simp only[eE,eC,eN,reduceCtorEq,Nat.reduceEqDiff,↓reduceIte,Nat.reduceAdd,Nat.reduceLeDiff,Nat.reduceMul,Nat.reduceLT,V0,c201,eCls,Bk,DY,fr1 hf]
  refine⟨AX (by omega) (by decide),by omega,λcap hcap=>.inr ⟨by simp,rfl,cap,List.replicate (cap-(r.length+1)) (.agg [.str [],.str [],.int .i64 0,.int .i64 0,.int .i64 0,.int .i64 0]),?_,?_,?_⟩⟩
  ·simp
  ·simp
  ·simp;omega
theorem Us{H:AB}{n:Nat}(l:List DRul)(hl:few l):AI Tryz.prog 205 [eRus l] H n (S8 12 H n (l.map BX)):=by
 refine AI.fresh l205 λhf=>a205 (AE AH.tnil (AF ?_))
 have hll:l.length<1000000000:=hl
 cases l with
 |nil=>
  simp only[eE,eC,eN,reduceCtorEq,↓reduceIte,c205]
  refine⟨?_,?_⟩
  ·simp only[eE,eC,eN,reduceCtorEq,Nat.reduceEqDiff,↓reduceIte,Nat.reduceAdd,Nat.reduceLT,Bk,DY,fr1 hf,Al,WX,Vi]
   exact .inl ⟨rfl,rfl,VY _ _,.exact 12,rfl,.inr rfl⟩
  ·simp only[eE,eC,eN,reduceCtorEq,↓reduceIte,Ve]
   exact .inl ⟨rfl,rfl,V9 _,.nil,rfl,.inl rfl⟩
 |cons x r=>
  rw[Vq]at hll
  simp only[eE,eC,eN,reduceCtorEq,Nat.reduceEqDiff,↓reduceIte,Nat.reduceAdd,Nat.reduceLeDiff,Nat.reduceMul,Nat.reduceLT,V0,c205,eRus,Bk,DY,fr1 hf]
  refine⟨AX (by omega) (by decide),by omega,λcap hcap=>.inr ⟨by simp,rfl,cap,List.replicate (cap-(r.length+1)) (.agg [.str [],.str [],.int .i64 0,.int .i64 0,.sl .nil [],.sl .nil [],.int .i64 0,.int .i64 0,.int .i64 0,.int .i64 0,.str [],.int .i64 0]),?_,?_,?_⟩⟩
  ·simp
  ·simp
  ·simp;omega
end Go.AM
