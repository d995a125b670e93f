/-
  Parts of the proof. Conditions: none.
-/
import Derived.Test.YtncahiacfdihpaaGreatDoorShelf
import Derived.Test.YtncahiacfdihpaaGreatDoorB6
set_option maxRecDepth 20000
set_option linter.all false
set_option maxHeartbeats 1000000
namespace Go.AM
open Go.Lib Go.Proofs Go.Proofs.Tryz
section
abbrev Bs:=List UInt8
abbrev eI(n:Int):Fs:=.int .i64 n
abbrev eSs(l:List Bs):Fs:=.sl (.none 1) (l.map .str)
abbrev eIs(l:List Int):Fs:=.sl (.none 1) (l.map eI)
def Dq(n:Nat)(l:List Bs):unders n (l.map Fs.str):=Au (f:=Fs.str) (λx=>trivial) _
def DY(n:Nat)(l:List Int):unders n (l.map eI):=Au (f:=eI) (λx=>trivial) _
def Cf(l:List Bs):(l.map Fs.str).map toS=l:=by rw[Yo];exact List.map_id _
def As(l:List Int):(l.map eI).map toI=l:=by rw[Yo];exact List.map_id _
inductive Wks:List Fs->List Fs->Prop
 |nil:Wks [] []
 |cons {a b:Fs} {ws us:List Fs}:Wk a b->Wks ws us->Wks (a::ws) (b::us)
theorem Wks.rel{g:Zb}:∀{ws us:List Fs},Wks ws us->∀vs,VRels g ws vs->VRels g us vs
 |_,_,.nil,vs,h=>h
 |_,_,.cons h t,vs,⟨v,r,e,k1,k2⟩=>⟨v,r,e,h _ _ k1,t.rel r k2⟩
def Wk.agg{ws us:List Fs}(h:Wks ws us):Wk (.agg ws) (.agg us):=by
 rintro g v ⟨vs,rfl,h1,h2⟩;exact⟨vs,rfl,h.rel _ h1,h2⟩
def Wk.tup{ws us:List Fs}(h:Wks ws us):Wk (.tup ws) (.tup us):=by
 rintro g v ⟨vs,rfl,h1⟩;exact⟨vs,rfl,h.rel _ h1⟩
def Wk.trans{a b c:Fs}(h:Wk a b)(k:Wk b c):Wk a c:=λg v q=>k g v (h g v q)
def B6(pid:Nat)(H H':AC):Prop:=∀id ob,id≠pid->hget H id=some ob->hget H' id=some ob
variable {H H':AC} {ob:Zk} {i4:FuncId} {pid n i a b e lo:Nat} {tk:Zu} {α β:Type}
theorem B6.refl(H:AC):B6 pid H H:=λ_ _ _ h=>h
theorem B6.trans{H'':AC}(h:B6 pid H H')(k:B6 pid H' H''):B6 pid H H'':=λid ob d8 x=>k id ob d8 (h id ob d8 x)
theorem B6.set(h:B6 pid H H'):B6 pid H (hset H' pid ob):=λid o d8 x=>by
 rw[AA _ _ _ _ (Ne.symm d8)];exact h id o d8 x
theorem B6.new(hf:AQ H n)(hi:n<=i)(h:B6 pid H H'):B6 pid H (hset H' i ob):=λid o d8 x=>by
 have:=hf.lt x;rw[AA _ _ _ _ zo];exact h id o d8 x
section
variable {n pid:Nat} {H:AC}
theorem fr1(h:AQ H n)(k:Nat):hget H (n+k)=none:=h _ zo
theorem fr0(h:AQ H n):hget H n=none:=h _ (W8 _)
end
theorem natE3{c:Nat}:(a+b=a+c)=(b=c):=propext ⟨λh=>zo,λh=>zo⟩
structure Dc(α:Type) where
 enc:α->Fs
 dec:Fs->α
 ok:Fs->Prop
 wk:∀v,ok v->Wk v (enc (dec v))
def CR:Fs->Prop
 | .int .i64 _=>True
 |_=>False
theorem TQ(v:Fs)(h:CR v):Wk v (eI (toI v)):=by
 unfold CR at h;split at h
 ·exact Wk.refl _
 ·exact h.elim
def dI:Dc Int:=⟨eI,toI,CR,TQ⟩
theorem isS_wk(v:Fs)(h:isS v):Wk v (.str (toS v)):=by
 cases v<;>first|exact Wk.refl _|exact h.elim
def dS:Dc Bs:=⟨.str,toS,isS,isS_wk⟩
def okL(e:Nat)(enc:α->Fs)(dec:Fs->α):Fs->Prop
 | .sl t L=>(t.esz=e\/L=[])/\L=(L.map dec).map enc
 |_=>False
def decL(dec:Fs->α):Fs->List α
 | .sl _ L=>L.map dec
 |_=>[]
theorem RG{enc:α->Fs}{dec:Fs->α}(v:Fs)(h:okL e enc dec v):Wk v (.sl (.none e) ((decL dec v).map enc)):=by
 cases v<;>simp only[okL]at h<;>try exact h.elim
 simp only[decL];rw[<-h.2];exact Wk.sl h.1
def dSs:Dc (List Bs):=⟨eSs,decL toS,okL 1 .str toS,RG⟩
def dIs:Dc (List Int):=⟨eIs,decL toI,okL 1 eI toI,RG⟩
def s1(A:Dc α)(c:α->Prop)(f:α->Fs):List Fs->AC->Prop×Fs:=λa _=>match a with
 |[x]=>(A.ok x/\c (A.dec x),f (A.dec x))
 |_=>(False,.tup [])
def s2(A:Dc α)(B:Dc β)(c:α->β->Prop)(f:α->β->Fs):List Fs->AC->Prop×Fs:=λa _=>match a with
 |[x,y]=>(A.ok x/\B.ok y/\c (A.dec x) (B.dec y),f (A.dec x) (B.dec y))
 |_=>(False,.tup [])
def s3{γ:Type}(A:Dc α)(B:Dc β)(C:Dc γ)(c:α->β->γ->Prop)(f:α->β->γ->Fs):List Fs->AC->Prop×Fs:=λa _=>match a with
 |[x,y,z]=>(A.ok x/\B.ok y/\C.ok z/\c (A.dec x) (B.dec y) (C.dec z),f (A.dec x) (B.dec y) (C.dec z))
 |_=>(False,.tup [])
theorem q1{A:Dc α}{c:α->Prop}{f:α->Fs}(h:∀x,c x->Pur prog i4 [A.enc x] (f x)):∀args H n,(s1 A c f args H).1->Am prog i4 args H n (s1 A c f args H).2:=by
 intro args H n hh;unfold s1 at hh⊢;split at hh
 ·obtain⟨h1,h2⟩:=hh;refine AP.args ((h _ h2).quiet H n) ?_;rintro g vs ⟨v,r,rfl,k1,k2⟩;exact⟨v,_,rfl,A.wk _ h1 _ _ k1,k2⟩
 ·exact hh.elim
theorem q2{A:Dc α}{B:Dc β}{c:α->β->Prop}{f:α->β->Fs}(h:∀x y,c x y->Pur prog i4 [A.enc x,B.enc y] (f x y)):∀args H n,(s2 A B c f args H).1->Am prog i4 args H n (s2 A B c f args H).2:=by
 intro args H n hh;unfold s2 at hh⊢;split at hh
 ·obtain⟨h1,h2,h3⟩:=hh;refine AP.args ((h _ _ h3).quiet H n) ?_;rintro g vs ⟨v,r,rfl,k1,w,r',rfl,k2,k3⟩;exact⟨v,_,rfl,A.wk _ h1 _ _ k1,w,_,rfl,B.wk _ h2 _ _ k2,k3⟩
 ·exact hh.elim
theorem q3{γ:Type}{A:Dc α}{B:Dc β}{C:Dc γ}{c:α->β->γ->Prop}{f:α->β->γ->Fs}(h:∀x y z,c x y z->Pur prog i4 [A.enc x,B.enc y,C.enc z] (f x y z)):∀args H n,(s3 A B C c f args H).1->Am prog i4 args H n (s3 A B C c f args H).2:=by
 intro args H n hh;unfold s3 at hh⊢;split at hh
 ·obtain⟨h1,h2,h3,h4⟩:=hh;refine AP.args ((h _ _ _ h4).quiet H n) ?_;rintro g vs ⟨v,r,rfl,k1,w,r',rfl,k2,u,r'',rfl,k3,k4⟩;exact⟨v,_,rfl,A.wk _ h1 _ _ k1,w,_,rfl,B.wk _ h2 _ _ k2,u,_,rfl,C.wk _ h3 _ _ k3,k4⟩
 ·exact hh.elim
theorem Pur.all{P:Program}{f:FuncId}{args:List Fs}{r r':Fs}(h:Pur P f args r)(e:r=r'):Pur P f args r':=e▸h
abbrev any1(_:α):Prop:=True
abbrev any2(_:α)(_:β):Prop:=True
theorem NI{p:α->Bool}{l:List α}(h:i<l.length):(l.take (i+1)).all p=((l.take i).all p&&p l[i]):=by
 rw[Wl,W2 h,List.all_append];simp
theorem map_take{f:α->β}{l:List α}(h:i<l.length):(l.take (i+1)).map f=(l.take i).map f++[f l[i]]:=by
 rw[Wl,W2 h,Wh];rfl
theorem lt_T(h:a<b):((a:Int)<(b:Int))=True:=W1 zo
theorem lt_F(h:¬a<b):((a:Int)<(b:Int))=False:=W4 zo
theorem Aq{x:Int}(h1: -9223372036854775808<=x)(h2:x<=9223372036854775807):IntKind.wrap .i64 x=x:=by rw[IntKind.wrap_i64];omega
theorem AE{k:Nat}(h:k<9000000000000000000):IntKind.wrap .i64 ((k:Int)+1)=((k+1:Nat):Int):=by rw[Aq zo zo];rfl
theorem c0:((0:Nat):Int)=0:=rfl
theorem c1:((1:Nat):Int)=1:=rfl
theorem cS0:(((n+1:Nat):Int)=0)=False:=W4 zo
theorem cS1:((0:Int)<((n+1:Nat):Int))=True:=W1 zo
theorem i00:((0:Int)<0)=False:=W4 zd
def tkG(e lo:Nat)(H:AC)(tk:Zu):Prop:=tk= .nil\/tk= .exact e\/∃id,tk= .own id e/\lo<=id/\hget H id=some .tok
theorem tkG.app(h:tkG e lo H tk):A5 H e tk:=by
 rcases h with rfl|rfl|⟨id,rfl,h1,h2⟩
 ·trivial
 ·rfl
 ·exact⟨rfl,h2⟩
theorem tkG.set(h:tkG e lo H tk)(hi:i<lo\/(∃cs,hget H i=some (.box cs))\/hget H i=none):tkG e lo (hset H i ob) tk:=by
 rcases h with rfl|rfl|⟨id,rfl,h1,h2⟩
 ·exact .inl rfl
 ·exact .inr (.inl rfl)
 ·refine .inr (.inr ⟨id,rfl,h1,?_⟩);rw[AA _ _ _ _ ?_]
  ·exact h2
  ·rintro rfl;rcases hi with q|⟨cs,q⟩|q
   ·omega
   ·rw[h2]at q;cases q
   ·rw[h2]at q;cases q
theorem AV(h:tkG e lo H tk)(hi:i<lo\/∃cs,hget H i=some (.box cs)):hget (AO H tk) i=hget H i:=by
 rcases h with rfl|rfl|⟨id,rfl,h1,h2⟩
 ·rfl
 ·rfl
 ·simp only[AO];rw[AA _ _ _ _ ?_];rintro rfl;rcases hi with q|⟨cs,q⟩
  ·omega
  ·rw[h2]at q;cases q
theorem AU(h:tkG e lo H tk)(hf:AQ H n):AQ (AO H tk) n:=by
 rcases h with rfl|rfl|⟨id,rfl,h1,h2⟩
 ·exact hf
 ·exact hf
 ·exact hf.hset (W8 _) (hf.lt h2)
theorem Kv(h:tkG e lo H tk)(hi:hget H i=none):hget (AO H tk) i=none:=by
 rcases h with rfl|rfl|⟨id,rfl,h1,h2⟩
 ·exact hi
 ·exact hi
 ·simp only[AO];rw[AA _ _ _ _ ?_]
  ·exact hi
  ·rintro rfl;rw[h2]at hi;cases hi
theorem tkG.kill{e' lo':Nat}{tk':Zu}(h:tkG e lo H tk)(h':tkG e' lo' H tk')(hd:∀i,tk= .own i e->tk'≠ .own i e'):tkG e lo (AO H tk') tk:=by
 rcases h' with rfl|rfl|⟨j,rfl,h1,h2⟩
 ·exact h
 ·exact h
 ·rcases h with rfl|rfl|⟨id,rfl,h3,h4⟩
  ·exact .inl rfl
  ·exact .inr (.inl rfl)
  ·refine .inr (.inr ⟨id,rfl,h3,?_⟩);simp only[AO];rw[AA _ _ _ _ (λe=>hd id rfl (by rw[e]))];exact h4
abbrev few(l:List α):Prop:=l.length<1000000000
abbrev wide(l:List α):Prop:=l.length<1125899906842624
theorem Cg{l:List α}(h:few l):wide l:=by
 have:l.length<1000000000:=h;show l.length<_;omega
theorem DZ{a b:List α}(hl:a.length=b.length)(h:∀j,j<a.length->a[j]?=b[j]?):a=b:=YR λj=>by
 rcases Nat.lt_or_ge j a.length with q|q
 ·exact h j q
 ·rw[Yu q,Yu zo]
theorem GN(h:a≠b):((a:Int)=(b:Int))=False:=W4 zo
theorem GO(h:a=b):((a:Int)=(b:Int))=True:=W1 zo
theorem AX(h:n<=1000000000)(hb:b<=1000):Aj n b:=by
 have:n*b<=1000000000*1000:=Nat.mul_le_mul h hb;unfold Aj;omega
theorem Dh{enc:α->Fs}{dec:Fs->α}(h:∀x,dec (enc x)=x)(l:List α):(l.map enc).map dec=l:=by
 rw[Yo];exact(Xk λx _=>h x).trans (List.map_id _)
def dEx(enc:α->Fs)(dec:Fs->α):Dc α:=⟨enc,dec,λv=>v=enc (dec v),λv h=>h▸Wk.refl _⟩
theorem CS.mono{P:Program}{args:List Fs}{rv:Fs}{Rc Rc':AC->Nat->Prop}(h:CS P i4 args rv H n Rc)(hr:∀H' n',Rc H' n'->Rc' H' n'):CS P i4 args rv H n Rc':=
 λg w vs u hR hV hu=>CallsDIn.mono (h g w vs u hR hV hu) λe u' w' ⟨h1,h2,g',H',n',h3,h4⟩=>⟨h1,h2,g',H',n',hr _ _ h3,h4⟩
def eY:=A @Option.getD_none.{0}<|A @Wm.{0}<|A @Option.isSome_none.{0}<|A @Option.isSome_some.{0}<|A @c0<|A @c1<|A @i00<|A @Int.toNat_zero<|A @Int.toNat_one<|A @Z5<|A @Wf<|A @Wi<|A @W0.{0,0}<|A @Wq.{0,0}<|A @XE.{0}<| @Y0.{0}
end
end Go.AM
namespace Go.AM
open Go.Lib Go.Proofs Go.RowKit Go.Sort Go.Proofs.Tryz
def s159:List Fs->AC->Prop×Fs:=λa H=>match a with
 |[.str l,.int .u8 c]=>(0<=c/\c<256,.int .i64 (indexByte l (UInt8.ofNat c.toNat)))
 |_=>(False,.tup [])
def q159:∀args H n,(s159 args H).1->Am prog 159 args H n (s159 args H).2:=by
 intro args H n h;unfold s159 at h⊢;split at h
 ·rename_i l c;refine Pur.quiet ?_ H n;refine GK c159.l ⟨trivial,trivial,trivial⟩ trivial ?_;rintro g w vs hR ⟨v,r,rfl,k1,v2,r2,rfl,k2,k3⟩;have k1':v= .string ⟨l.toArray⟩:=k1;have k2':v2= .int .u8 c:=k2;have k3':r2=[]:=k3;subst k1';subst k2';subst k3';refine(strings_IndexByte ⟨l.toArray⟩ c w).mono ?_;rintro e w' ⟨rfl,rfl⟩;exact⟨⟨_,rfl,rfl⟩,Below.refl _ _⟩
 ·exact h.elim
def T1:Tab:=tadd 159 s159 tnil
def T1_ok:AI prog T1:=AI.tnil.add q159
def Dr(x:Int):Bool:=(decide (97<=x)&&decide (x<=122))||(decide (65<=x)&&decide (x<=90))
def Ey(x:Int):Bool:=decide (48<=x)&&decide (x<=57)
def isSp(x:Int):Bool:=decide (x=32)||decide (x=9)||decide (x=10)||decide (x=13)
abbrev sgnL:List UInt8:=[123,125,40,41,59,44,61,58,46,60,62,33,43,45,42,47]
def MF(x:Int):Bool:=decide (0<=indexByte sgnL (UInt8.ofNat x.toNat))
def clsI(x:Int):Int:=if Dr x then 2 else if Ey x then 3 else if x=95 then 5 else if isSp x then 1 else if MF x then 4 else 0
def Fc(x:Int):Bool:=Dr x||Ey x||decide (x=95)
def p134(x:Int):Pur prog 134 [.int .u8 x] (.bool (Dr x)):=by
 refine .mk (by simp [unders,Fs.under]) trivial (c134.a (AF AI.tnil (AG ?_)));simp only[eE,eN,sel,seval,c134];rfl
def p174(x:Int):Pur prog 174 [.int .u8 x] (.bool (Ey x)):=by
 refine .mk (by simp [unders,Fs.under]) trivial (c174.a (AF AI.tnil (AG ?_)));simp only[eE,eN,sel,seval,c174];rfl
def p107(x:Int)(h0:0<=x)(h1:x<256):Pur prog 107 [.int .u8 x] (.int .i64 (clsI x)):=by
 refine .mk (by simp [unders,Fs.under]) trivial (c107.a (AF T1_ok (AG ?_)));simp only[eE,eN,Kq,sel,seval,c107,T1,s159,tadd];refine⟨λh=>?_,λg1=>⟨λh=>?_,λg2=>⟨λh=>?_,λg3=>⟨λh=>?_,λg4=>⟨⟨h0,h1⟩,λh=>?_,λh=>?_⟩⟩⟩⟩⟩
 ·have:Dr x=true:=by simp [Dr];omega
  simp [clsI,this]
 ·have k1:Dr x=false:=by simp [Dr];simp at g1;omega
  have:Ey x=true:=by simp [Ey];omega
  simp [clsI,this,k1]
 ·have k1:Dr x=false:=by simp [Dr];simp at g1;omega
  have k2:Ey x=false:=by simp [Ey];simp at g2;omega
  simp only[clsI,h,Xi];subst h;rfl
 ·have k1:Dr x=false:=by simp [Dr];simp at g1;omega
  have k2:Ey x=false:=by simp [Ey];simp at g2;omega
  have:isSp x=true:=by simp [isSp];omega
  simp [clsI,g3,this,k1,k2]
 ·have k1:Dr x=false:=by simp [Dr];simp at g1;omega
  have k2:Ey x=false:=by simp [Ey];simp at g2;omega
  have k4:isSp x=false:=by simp [isSp];omega
  have k5:MF x=true:=by simpa [MF]using h
  simp [clsI,g3,k4,k5,k1,k2]
 ·have k1:Dr x=false:=by simp [Dr];simp at g1;omega
  have k2:Ey x=false:=by simp [Ey];simp at g2;omega
  have k4:isSp x=false:=by simp [isSp];omega
  have k5:MF x=false:=by simpa [MF]using h
  simp [clsI,g3,k4,k5,k1,k2]
def sB(f:Int->Fs):List Fs->AC->Prop×Fs:=λa H=>match a with
 |[.int .u8 x]=>(0<=x/\x<256,f x)
 |_=>(False,.tup [])
def qB{i4:FuncId}{f:Int->Fs}(h:∀x,0<=x->x<256->Pur prog i4 [.int .u8 x] (f x)):∀args H n,(sB f args H).1->Am prog i4 args H n (sB f args H).2:=by
 intro args H n hh;unfold sB at hh⊢;split at hh
 ·exact(h _ hh.1 hh.2).quiet H n
 ·exact hh.elim
abbrev s107:=sB λx=>.int .i64 (clsI x)
abbrev s134:=sB λx=>.bool (Dr x)
abbrev s174:=sB λx=>.bool (Ey x)
def T2:Tab:=tadd 107 s107 (tadd 134 s134 (tadd 174 s174 T1))
def T2_ok:AI prog T2:=((T1_ok.add (qB λx _ _=>p174 x)).add (qB λx _ _=>p134 x)).add (qB p107)
def p135(x:Int)(h0:0<=x)(h1:x<256):Pur prog 135 [.int .u8 x] (.bool (Fc x)):=by
 refine .mk (by simp [unders,Fs.under]) trivial (c135.a (AF T2_ok (AG ?_)));simp only[eE,eN,sel,seval,c135,T2,sB,h0,h1,tadd];rfl
abbrev s135:=sB λx=>.bool (Fc x)
def letB(b:UInt8):Bool:=Dr b.toNat
def TR(b:UInt8):Bool:=Fc b.toNat
def RH(x:Int):clsI x=2↔Dr x=true:=by
 unfold clsI;cases Dr x<;>cases Ey x<;>cases isSp x<;>cases MF x<;>simp<;>split<;>simp
def NJ(x:Int):(clsI x=2\/clsI x=3\/clsI x=5)↔Fc x=true:=by
 unfold clsI Fc;cases Dr x<;>cases Ey x<;>cases isSp x<;>cases MF x<;>by_cases h:x=95<;>simp [h]
def u8_lt(b:UInt8):(0:Int)<=b.toNat/\(b.toNat:Int)<256:=⟨zo,by have:=b.toNat_lt;omega⟩
def Cr(s:List UInt8):Bool:=decide (1<=s.length)&&decide (s.length<=32)&&letB (s[0]?.getD 0)&&s.all TR
def T3:Tab:=tadd 135 s135 T2
def T3_ok:AI prog T3:=T2_ok.add (qB p135)
theorem UX(a:List Fs)(H:AC):T3 107 a H=s107 a H:=rfl
def TS{s:List UInt8}{i:Nat}(hi:i<s.length)(h:Fc ((s[i]).toNat:Int)=false):s.all TR=false:=by
 refine Yn.2 λhh=>?_
 have:=Wo.1 hh s[i] (Wn hi);unfold TR at this;rw[h]at this;cases this
def TT{s:List UInt8}(h:∀j (hj:j<s.length),Fc ((s[j]).toNat:Int)=true):s.all TR=true:=by
 refine Wo.2 λx hx=>?_
 obtain⟨j,hj,rfl⟩:=X9.1 hx;exact h j hj
def TU(s:List UInt8):scmp .eql s []=decide (s.length=0):=by cases s<;>rfl
def p66(s:List UInt8):Pur prog 66 [.str s] (.bool (Cr s)):=by
 refine .mk (by simp [unders,Fs.under]) trivial (c66.a (AF T3_ok (AG ?_)));simp only[eE,eN,Kq,sel,seval,c66,UX,sB,u8_lt,TU];refine⟨zo,λh=>?_,λh=>?_⟩
 ·refine(Yn.2 λhh=>?_).symm;simp only[Cr,W5,W9]at hh;obtain⟨⟨⟨h1,h2⟩,h3⟩,-⟩:=hh;rcases h with(h|h)|h
  ·omega
  ·omega
  ·rw[RH]at h;exact h h3
 refine AL (λi:Nat=>⟨[(0,true,.str s),(19,true,.int .i64 s.length),(20,true,.int .i64 i)],hnil,0⟩)
  (λi=>i<=s.length/\∀j (hj:j<s.length),j<i->Fc ((s[j]).toNat:Int)=true) (λi=>s.length-i) 0 rfl ⟨zo,λj _ hj=>zo⟩ ?_
 rintro i ⟨hi,c8⟩;by_cases c5:i<s.length
 ·have e:=AE (k:=i) zo;simp only[eE,eN,Kq,sel,seval,UX,sB,u8_lt,Int.ofNat_lt,c5,Wi,Wf,e,W2 c5,Wm];refine⟨λhp=>?_,λhp=>.mk (i+1) rfl ⟨zo,λj hj hji=>?_⟩ zo⟩
  ·have:Fc ((s[i]).toNat:Int)=false:=Yn.2 λhh=>by rw[<-NJ]at hh;simp [hp]at hh
   simp only[Cr,TS c5 this,YA]
  ·by_cases q:j=i
   ·subst q;rw[<-NJ];simp at hp;omega
   ·exact c8 j hj zo
 ·simp only[eE,eN,Kq,sel,seval,Int.ofNat_lt,c5];rw[Cr,TT λj hj=>c8 j hj zo];have h3:=h.2;rw[RH]at h3;simp [letB,h3];omega
structure Cnd where
 k:Int
 cs:List Int
 ls:List Int
 n:Int
structure Prm where
 c:Int
 ls:List Int
structure Zt where
 nm:Bs
 lv:Int
 cs:List Bs
 ls:List Bs
 qs:List Cnd
 ps:List Prm
 c:Int
 l:Int
def idxS(l:List Bs)(s:Bs):Int:=match l.findIdx? (λx=>decide (x=s))with
 |some k=>k
 |none=>-1
def BA{α:Type}[DecidableEq α]:List α->Bool
 |[]=>true
 |x::r=>!(r.any λy=>decide (y=x))&&BA r
def DN(l:List Bs)(most:Nat):Bool:=l.all Cr&&BA l&&decide (1<=l.length)&&decide (l.length<=most)
def difI(l:List Int)(n:Nat):Bool:=(l.all λk=>decide (0<=k)&&decide (k<n))&&BA l
def Bk(q:Cnd)(nc nl:Nat):Bool:=difI q.cs nc&&decide (1<=q.cs.length)&&difI q.ls nl&&
 (if q.k=1\/q.k=4 then decide (2<=q.cs.length)&&decide (q.ls.length=0)&&decide (q.n=0)
  else if q.k=2 then decide (q.ls.length=1)&&decide (q.n=0)
  else if q.k=3 then decide (q.cs.length=2)&&decide (q.ls.length=0)&&decide (1<=q.n)&&decide (q.n<=99)
  else if q.k=5 then decide (q.cs.length=2)&&decide (q.ls.length=0)&&decide (q.n=0)
  else if q.k=6 then decide (1<=q.ls.length)&&decide (0<=q.n)&&decide (q.n<=q.cs.length)
  else false)
def Ga(x:Zt):Bool:=Cr x.nm&&decide (1<=x.lv)&&decide (x.lv<=8)&&DN x.cs 4&&DN x.ls 3&&decide (x.qs.length<=6)&&
 difI [x.c] x.cs.length&&difI [x.l] x.ls.length&&(x.qs.all λq=>Bk q x.cs.length x.ls.length)&&
 (x.ps.all λp=>difI p.ls x.ls.length&&decide (1<=p.ls.length))&&difI (x.ps.map (·.c)) x.cs.length
structure OKL(x:Zt):Prop where
 nm:Cr x.nm=true
 lv:1<=x.lv/\x.lv<=8
 cs:x.cs.all Cr=true/\BA x.cs=true/\1<=x.cs.length/\x.cs.length<=4
 ls:x.ls.all Cr=true/\BA x.ls=true/\1<=x.ls.length/\x.ls.length<=3
 nq:x.qs.length<=6
 c:0<=x.c/\x.c<x.cs.length
 l:0<=x.l/\x.l<x.ls.length
 qs:∀q∈x.qs,Bk q x.cs.length x.ls.length=true
 ps:∀p∈x.ps,difI p.ls x.ls.length=true/\1<=p.ls.length
 pc:difI (x.ps.map (·.c)) x.cs.length=true
def MG(x:Zt):Ga x=true↔OKL x:=by
 unfold Ga DN;simp only[W5,W9,Wo (p:=λq=>Bk q x.cs.length x.ls.length),Wo (p:=λp:Prm=>difI p.ls x.ls.length&&decide (1<=p.ls.length))];constructor
 ·rintro⟨⟨⟨⟨⟨⟨⟨⟨⟨⟨h1,h2⟩,h3⟩,⟨⟨⟨c1,c2⟩,c3⟩,c4⟩⟩,⟨⟨⟨l1,l2⟩,l3⟩,l4⟩⟩,h6⟩,h7⟩,h8⟩,h9⟩,h10⟩,h11⟩;refine⟨h1,⟨h2,h3⟩,⟨c1,c2,c3,c4⟩,⟨l1,l2,l3,l4⟩,h6,?_,?_,h9,λp hp=>h10 p hp,h11⟩
  ·simp [difI]at h7;exact h7.1
  ·simp [difI]at h8;exact h8.1
 ·rintro⟨h1,⟨h2,h3⟩,⟨c1,c2,c3,c4⟩,⟨l1,l2,l3,l4⟩,h6,h7,h8,h9,h10,h11⟩;exact⟨⟨⟨⟨⟨⟨⟨⟨⟨⟨h1,h2⟩,h3⟩,⟨⟨⟨c1,c2⟩,c3⟩,c4⟩⟩,⟨⟨⟨l1,l2⟩,l3⟩,l4⟩⟩,h6⟩,by simp [difI,BA,h7.1,h7.2]⟩,by simp [difI,BA,h8.1,h8.2]⟩,h9⟩,λp hp=>h10 p hp⟩,h11⟩
def D8{l:List Int}{n:Nat}(h:difI l n=true):(l.all λk=>decide (0<=k)&&decide (k<n))=true:=by
 unfold difI at h;rw[W5]at h;exact h.1
structure CndOK(q:Cnd)(nc nl:Nat):Prop where
 cs:difI q.cs nc=true
 ne:1<=q.cs.length
 ls:difI q.ls nl=true
 kind:((q.k=1\/q.k=4)/\2<=q.cs.length/\q.ls.length=0/\q.n=0)\/(q.k=2/\q.ls.length=1/\q.n=0)\/(q.k=3/\q.cs.length=2/\q.ls.length=0/\1<=q.n/\q.n<=99)\/(q.k=5/\q.cs.length=2/\q.ls.length=0/\q.n=0)\/(q.k=6/\1<=q.ls.length/\0<=q.n/\q.n<=q.cs.length)
def RI{q:Cnd}{nc nl:Nat}(h:Bk q nc nl=true):CndOK q nc nl:=by
 unfold Bk at h;simp only[W5,W9]at h;obtain⟨⟨⟨h1,h2⟩,h3⟩,h4⟩:=h;refine⟨h1,h2,h3,?_⟩;split at h4
 ·rename_i hk;simp only[W5,W9]at h4;exact .inl ⟨hk,h4.1.1,h4.1.2,h4.2⟩
 split at h4
 ·rename_i hk;simp only[W5,W9]at h4;exact .inr (.inl ⟨hk,h4.1,h4.2⟩)
 split at h4
 ·rename_i hk;simp only[W5,W9]at h4;exact .inr (.inr (.inl ⟨hk,h4.1.1.1,h4.1.1.2,h4.1.2,h4.2⟩))
 split at h4
 ·rename_i hk;simp only[W5,W9]at h4;exact .inr (.inr (.inr (.inl ⟨hk,h4.1.1,h4.1.2,h4.2⟩)))
 split at h4
 ·rename_i hk;simp only[W5,W9]at h4;exact .inr (.inr (.inr (.inr ⟨hk,h4.1.1,h4.1.2,h4.2⟩)))
 ·cases h4
structure Zq where
 nm:List UInt8
 v:Int
 deriving DecidableEq
structure Zl where
 nm:List UInt8
 ls:List (List Int)
 deriving DecidableEq
structure Zj where
 nm:List UInt8
 on:List UInt8
 fam:Int
 ty:Int
 lo:Int
 hi:Int
 deriving DecidableEq
structure Zf where
 nm:List UInt8
 on:List UInt8
 kind:Int
 fam:Int
 ns:List (List UInt8)
 os:List (List UInt8)
 set:Int
 oth:Int
 op:Int
 n:Int
 byN:List UInt8
 clue:Int
 deriving DecidableEq
structure Zo where
 nm:List UInt8
 ver:Int
 sh:Int
 w:Int
 h:Int
 holes:List Int
 syms:List Zq
 regs:List Zl
 clus:List Zj
 ruls:List Zf
 deriving DecidableEq
def Bq:List (List UInt8):=[[99,101,108,108,115],[114,111,119,115],[99,111,108,117,109,110,115],[100,105,97,103,111,110,97,108,115],[97,114,111,117,110,100],[110,101,97,114],[112,97,105,114,115],[97,108,108]]
def Af{α:Type}[DecidableEq α]:List α->Bool
 |[]=>false
 |x::r=>(r.any λy=>decide (y=x))||Af r
def Bl(d:Zo):List (List UInt8):=Bq++d.regs.map (·.nm)
def BE(l:List (List UInt8))(s:List UInt8):Option Int:=(l.findIdx? λx=>decide (x=s)).map λ(i:Nat)=>(i:Int)
def CO(l:List (List UInt8)):List (List UInt8)->Option Int
 |[]=>some 0
 |s::r=>match l.findIdx? (λx=>decide (x=s)),CO l r with
  |some i,some n=>some (Int.ofNat (Nat.lor (1<<<i) n.toNat))
  |_,_=>none
def Bf(d:Zo)(c:Zj):Option Zj:=(BE (Bl d) c.on).map λf=>{c with fam:=f}
def BD(d:Zo)(r:Zf):Option Zf:=
 match (if r.on=[]then some 0 else BE (Bl d) r.on),CO (d.syms.map (·.nm)) r.ns,CO (d.syms.map (·.nm)) r.os,(if r.byN=[]then some (-1)else BE (d.clus.map (·.nm)) r.byN)with
 |some f,some a,some b,some c=>some {r with fam:=f,set:=a,oth:=b,clue:=c}
 |_,_,_,_=>none
def Ae{α β:Type}(f:α->Option β):List α->Option (List β)
 |[]=>some []
 |x::r=>match f x,Ae f r with
  |some y,some s=>some (y::s)
  |_,_=>none
def resD(d:Zo):Except Int Zo:=
 if 16<d.syms.length then .error 2 else if Af (d.syms.map (·.nm))then .error 161 else if Af (Bl d)then .error 161 else if Af (d.clus.map (·.nm))then .error 161
 else match Ae (Bf d) d.clus with
  |none=>.error 160
  |some cs=>if Af (d.ruls.map (·.nm))then .error 161 else match Ae (BD d) d.ruls with
   |none=>.error 160
   |some rs=>.ok {d with clus:=cs,ruls:=rs}
def Bo:Int->List Int->Bool
 |_,[]=>true
 |a,x::r=>decide (a<x)&&Bo x r
def Ai(sh w h:Int)(holes:List Int):Option (List Int):=
 if(sh=1\/sh=2)/\1<=w/\w<=16/\1<=h/\h<=16/\(holes.length:Int)<w*h/\Bo (-1) holes=true/\(holes.all λp=>decide (p<w*h))=true then
  some (((List.range (w*h).toNat).map λ(i:Nat)=>(i:Int)).filter λp=>!holes.contains p)
 else none
def Da(cells l:List Int):Bool:=(l.all λp=>cells.contains p)&& !Af l&&decide (1<=l.length)
def Ck(a b:List Int):Bool:=(a.all λx=>b.contains x)&&b.all λx=>a.contains x
def Bm:List (List Int)->Bool
 |[]=>false
 |x::r=>(r.any λy=>Ck y x)||Bm r
def regE(cells:List Int)(r:Zl):Int:=if(decide (r.ls.length<=64)&&r.ls.all (Da cells))=false then 130 else if Bm r.ls=true then 161 else 0
def C5(cells:List Int):List Zl->Int
 |[]=>0
 |r::s=>if regE cells r=0 then C5 cells s else regE cells r
def Di(c:Zj):Bool:=
 if c.ty=1 then decide (c.fam=0)&&decide (c.lo=0)&&decide (c.hi=0)
 else if c.ty=2 then decide (0<=c.lo)&&decide (c.lo<=c.hi)&&decide (c.hi<=65536)
 else if c.ty=3 then(decide (1<=c.fam)&&decide (c.fam<=3)||decide (8<=c.fam))&&decide (c.lo=0)&&decide (c.hi=0)
 else false
structure FormD where
 on:Bool:=false
 set:Bool:=false
 oth:Bool:=false
 bnd:Bool:=false
 num:Bool:=false
 rdb:Bool:=false
 knw:Bool:=false
 clue:Int:=0
def Cs(k:Int):FormD:=
 if k=1 then{on:=true,rdb:=true,knw:=true}else if k=2 then{on:=true,set:=true,bnd:=true,rdb:=true,knw:=true}
 else if k=3 then{on:=true,bnd:=true,rdb:=true,knw:=true}else if k=4 then{on:=true,rdb:=true,knw:=true}
 else if k=5 then{on:=true,set:=true,rdb:=true,knw:=true,clue:=3}else if k=6 then{rdb:=true,knw:=true}
 else if k=7 then{num:=true,rdb:=true,knw:=true}else if k=8 then{set:=true,oth:=true,rdb:=true,knw:=true}
 else if k=9 then{set:=true,rdb:=true,knw:=true}else if k=10 then{set:=true,rdb:=true,knw:=true}
 else if k=11 then{rdb:=true,knw:=true,clue:=1}else if k=12 then{on:=true,knw:=true}else if k=13 then{bnd:=true,knw:=true}else{}
def cluP(cl:List Zj)(r:Zf)(w:Int):Bool:=if r.clue<0\/(cl.length:Int)<=r.clue then false else match cl[r.clue.toNat]? with
 |some c=>decide (c.ty=w)&&(decide (w=1)||decide (c.fam=r.fam))
 |none=>false
def Eg(cl:List Zj)(r:Zf):Bool:=
 let f:=Cs r.kind
 if f.knw=false then false
 else if(f.on !=decide (r.on≠[]))||(f.set !=decide (r.set≠0))||(f.oth !=decide (r.oth≠0))||(!f.on&&decide (r.fam≠0))||(!f.set&&decide (0<r.ns.length))||(!f.oth&&decide (0<r.os.length))then false
 else if(f.bnd !=(decide (1<=r.op)&&decide (r.op<=3)))||(!f.bnd&&decide (r.op≠0))||decide (r.n<0)||decide (65536<r.n)then false
 else if !(f.num||f.bnd&&decide (r.byN=[]))&&decide (r.n≠0)then false
 else
  let want:=if f.bnd&&decide (r.byN≠[])then 2 else f.clue
  if want=0 then decide (r.byN=[])&&decide (r.clue= -1)else cluP cl r want
def D9(rs:List Zf)(i:Nat):Nat:=(rs.filter λr=>decide (r.clue=(i:Int))).length
def Ba(d:Zo):Bool:=(d.syms.all λs=>decide (0<=s.v)&&decide (s.v<=99))&&d.ruls.all (Eg d.clus)&&((List.range d.clus.length).all λi=>decide (D9 d.ruls i=1))&&d.clus.all Di
def He(r:Zf):Bool:=decide (1<=r.kind)&&decide (r.kind<=11)
def BV(rs:List Zf):List Int:=((List.range rs.length).filter λi=>match rs[i]? with|some r=>!He r|none=>false).map λ(i:Nat)=>(i:Int)
def limD(d:Zo):Bool:=decide (0<d.syms.length)&&decide (d.syms.length<=16)&&decide (d.regs.length<=4)&&decide (d.clus.length<=4)&&decide (d.ruls.length<=16)
def chkD(d:Zo):Int:=
 if limD d=false then 2 else match resD d with
  | .error e=>e
  | .ok x=>if x≠d then 170 else if d.ver<1\/255<d.ver then 170 else match Ai d.sh d.w d.h d.holes with
   |none=>130
   |some cells=>if C5 cells d.regs≠0 then C5 cells d.regs else if Ba d=false then 170 else if BV d.ruls≠[]then 171 else 0
abbrev leI(x y:Int):Bool:=decide (x<=y)
theorem By{α:Type}[DecidableEq α]:∀{l:List α},Af l=false↔l.Nodup
 |[]=>by simp [Af]
 |x::r=>by
  have ih:=By (l:=r);simp only[Af,Yd,YG,W9,Yc,ih];constructor
  ·exact λ⟨h1,h2⟩=>⟨λhx=>h1 x hx rfl,h2⟩
  ·exact λ⟨h1,h2⟩=>⟨λy hy e=>h1 (e▸hy),h2⟩
def RJ{a b:List Int}:Ck a b=true↔∀x,x∈a↔x∈b:=by
 unfold Ck;simp only[W5,Wo,X6];exact⟨λ⟨h1,h2⟩ x=>⟨h1 x,h2 x⟩,λh=>⟨λx hx=>(h x).1 hx,λx hx=>(h x).2 hx⟩⟩
def Fd(l:List Int):List.Pairwise (λx y=>x<=y) (l.mergeSort leI):=by
 have:=List.pairwise_mergeSort (le:=leI) (λa b c h1 h2=>by simp only[leI,W9]at*;omega) (λa b=>by simp only[leI,Wz,W9];omega) l;exact this.imp λh=>by simpa using h
def Ir{a b:List Int}(ha:a.Nodup)(hb:b.Nodup):Ck a b=decide (a.mergeSort leI=b.mergeSort leI):=by
 rw[Wt,RJ,W9,<-Z4 ha hb];constructor
 ·intro h;have p:(a.mergeSort leI).Perm (b.mergeSort leI):=(Yh a leI).trans (h.trans (Yh b leI).symm);exact p.eq_of_pairwise (le:=λx y:Int=>x<=y) (λx y _ _ h1 h2=>zo) (Fd a) (Fd b)
 ·intro h;exact(Yh a leI).symm.trans (h▸Yh b leI)
def C6(cl:List Zj)(r:Zf)(kind:Int)(on:Bool):Bool:=
 if r.clue<0\/(cl.length:Int)<=r.clue then false else match cl[r.clue.toNat]? with
  |some c=>decide (c.ty=kind)&&(!on||decide (c.fam=r.fam))
  |none=>false
def EH(cl:List Zj)(r:Zf):Bool:=
 if r.op<1\/3<r.op then false else if r.byN=[]then decide (0<=r.n)&&decide (r.n<=65536)&&decide (r.clue= -1)else decide (r.n=0)&&C6 cl r 2 true
def Is(cl:List Zj)(r:Zf):Bool:=
 let f:=Cs r.kind
 let by':=decide (f.clue≠0)
 if f.knw=false then false
 else if(!f.on&&(decide (r.on≠[])||decide (r.fam≠0)))||(!f.set&&(decide (0<r.ns.length)||decide (r.set≠0)))||(!f.oth&&(decide (0<r.os.length)||decide (r.oth≠0)))then false
 else if(f.on&&decide (r.on=[]))||(f.set&&decide (r.set=0))||(f.oth&&decide (r.oth=0))then false
 else if !f.bnd&&(decide (r.op≠0)||(!f.num&&decide (r.n≠0))||(!by'&&(decide (r.byN≠[])||decide (r.clue≠ -1))))then false
 else if(f.bnd&& !EH cl r)||(f.num&&(decide (r.n<0)||decide (65536<r.n)))then false
 else if r.kind=5 then C6 cl r 3 true
 else if r.kind=11 then C6 cl r 1 false else true
def Oe(k:Int):(Cs k).knw=false\/((k=5/\(Cs k).clue=3/\(Cs k).bnd=false/\(Cs k).num=false)\/(k=11/\(Cs k).clue=1/\(Cs k).bnd=false/\(Cs k).num=false)\/(k≠5/\k≠11/\(Cs k).clue=0/\((Cs k).bnd=true->(Cs k).num=false))):=by
 by_cases h:1<=k/\k<=13
 ·have:k=1\/k=2\/k=3\/k=4\/k=5\/k=6\/k=7\/k=8\/k=9\/k=10\/k=11\/k=12\/k=13:=zo
  rcases this with rfl|rfl|rfl|rfl|rfl|rfl|rfl|rfl|rfl|rfl|rfl|rfl|rfl<;>decide
 ·left;unfold Cs;repeat rw[W7 zo]
def TV(cl:List Zj)(r:Zf)(w:Int):cluP cl r w=C6 cl r w (!decide (w=1)):=by
 unfold C6 cluP;split
 ·rfl
 ·cases cl[r.clue.toNat]?<;>simp
def bA:∀(on set oth o s t f n m:Bool),((on !=o)||(set !=s)||(oth !=t)||(!on&&f)||(!set&&n)||(!oth&&m))=
  (((!on&&(o||f))||(!set&&(n||s))||(!oth&&(m||t)))||((on&& !o)||(set&& !s)||(oth&& !t))):=zd
def bB:∀(bnd num p q lo hi nn b0 cm c2:Bool),(!p||q)=true->(!lo||nn)=true->(!hi||nn)=true->(!bnd|| !num)=true->
  (if((bnd !=p)||(!bnd&&q)||lo||hi)=true then false else if(!(num||bnd&&b0)&&nn)=true then false else if(bnd&& !b0)=true then c2 else b0&&cm)=
  (if(!bnd&&(q||(!num&&nn)||(!b0|| !cm)))=true then false else if((bnd&& !(if p=false then false else if b0=true then !lo&& !hi&&cm else !nn&&c2))||(num&&(lo||hi)))=true then false else true):=zd
def bC:∀(p q lo hi nn c3:Bool),(!p||q)=true->(!lo||nn)=true->(!hi||nn)=true->
  (if((false !=p)||q||lo||hi)=true then false else if nn=true then false else c3)=(if(q||nn)=true then false else c3):=zd
def nd{α:Prop}[Decidable α]:decide α= !decide (¬α):=by by_cases h:α<;>simp [h]
def WI(cl:List Zj)(r:Zf):Eg cl r=Is cl r:=by
 unfold Eg Is;simp only[];rcases Oe r.kind with hk|hk
 ·rw[Wg hk,Wg hk]
 by_cases hkw:(Cs r.kind).knw=false
 ·rw[Wg hkw,Wg hkw]
 rw[W7 hkw,W7 hkw,TV,bA];generalize hf:Cs r.kind=f at hk hkw;rw[nd (α:=r.on=[]),nd (α:=r.set=0),nd (α:=r.oth=0)];generalize hA1:(!f.on&&(decide (r.on≠[])||decide (r.fam≠0))|| !f.set&&(decide (0<r.ns.length)||decide (r.set≠0))|| !f.oth&&(decide (0<r.os.length)||decide (r.oth≠0)))=A1;generalize hA2:(f.on&& !decide (¬r.on=[])||f.set&& !decide (¬r.set=0)||f.oth&& !decide (¬r.oth=0))=A2;cases A1;case true=>simp
 cases A2;case true=>simp
 simp only[Bool.or_false,Ws,X4];have i1:(!(decide (1<=r.op)&&decide (r.op<=3))||decide (r.op≠0))=true:=by by_cases h:r.op=0<;>simp [h]
 have i2:(!decide (r.n<0)||decide (r.n≠0))=true:=by by_cases h:r.n=0<;>simp [h]
 have i3:(!decide (65536<r.n)||decide (r.n≠0))=true:=by by_cases h:r.n=0<;>simp [h]
 have n1:decide (r.byN≠[])= !decide (r.byN=[]):=by by_cases h:r.byN=[]<;>simp [h]
 have n2:decide (r.clue≠ -1)= !decide (r.clue= -1):=by by_cases h:r.clue= -1<;>simp [h]
 have n3:decide (r.n=0)= !decide (r.n≠0):=by by_cases h:r.n=0<;>simp [h]
 have n4:decide (0<=r.n)= !decide (r.n<0):=by by_cases h:r.n<0<;>simp [h]<;>omega
 have n5:decide (r.n<=65536)= !decide (65536<r.n):=by by_cases h:65536<r.n<;>simp [h]<;>omega
 have n6:(if r.op<1\/3<r.op then false else if r.byN=[]then decide (0<=r.n)&&decide (r.n<=65536)&&decide (r.clue= -1)else decide (r.n=0)&&C6 cl r 2 true)=
   (if(decide (1<=r.op)&&decide (r.op<=3))=false then false else if decide (r.byN=[])=true then !decide (r.n<0)&& !decide (65536<r.n)&&decide (r.clue= -1)else !decide (r.n≠0)&&C6 cl r 2 true):=by
  rw[n3,n4,n5];by_cases h:r.op<1\/3<r.op
  ·have hp:(decide (1<=r.op)&&decide (r.op<=3))=false:=by rcases h with h|h<;>simp<;>omega
   rw[Wg h,hp];rfl
  ·have hp:(decide (1<=r.op)&&decide (r.op<=3))=true:=by simp;omega
   rw[W7 h,hp];by_cases hb:r.byN=[]
   ·rw[Wg hb,W7 zd,Wg (by simp [hb])]
   ·rw[W7 hb,W7 zd,W7 (by simp [hb])]
 rw[n1,n2];unfold EH;rw[n6];have j8:decide (r.n≠0)=decide (r.n≠0):=rfl;generalize (decide (1<=r.op)&&decide (r.op<=3))=p at i1⊢;generalize decide (r.op≠0)=q at i1⊢;generalize decide (r.n≠0)=nn at i2 i3⊢;generalize decide (r.n<0)=lo at i2⊢;generalize decide (65536<r.n)=hi at i3⊢;generalize decide (r.byN=[])=b0;generalize decide (r.clue= -1)=cm;obtain⟨on,set,oth,bnd,num,rdb,knw,clue⟩:=f;simp only at hk⊢;rcases hk with⟨h1,rfl,rfl,rfl⟩|⟨h1,rfl,rfl,rfl⟩|⟨h1,h2,rfl,h3⟩
 ·have:=bC p q lo hi nn (C6 cl r 3 true) i1 i2 i3;simpa [h1]using this
 ·have:=bC p q lo hi nn (C6 cl r 1 false) i1 i2 i3;simpa [h1]using this
 ·have:=bB bnd num p q lo hi nn b0 cm (C6 cl r 2 true) i1 i2 i3 (by cases bnd<;>cases num<;>simp_all);rw[W7 h1,W7 h2];cases bnd<;>cases b0<;>first|simpa using this|simp
section
theorem Cl{α:Type}{f:α->Option α}:∀{l:List α},Ae f l=some l↔∀x∈l,f x=some x
 |[]=>by simp [Ae]
 |x::r=>by
  have ih:=Cl (f:=f) (l:=r);simp only[Ae,X7,Z2,<-ih];cases h1:f x with
  |none=>simp
  |some y=>
   cases h2:Ae f r with
   |none=>simp
   |some s=>simp
structure ResOK(d:Zo):Prop where
 n16:d.syms.length<=16
 ts:Af (d.syms.map (·.nm))=false
 tf:Af (Bl d)=false
 tc:Af (d.clus.map (·.nm))=false
 tr:Af (d.ruls.map (·.nm))=false
 cl:∀c∈d.clus,Bf d c=some c
 ru:∀r∈d.ruls,BD d r=some r
variable {d:Zo}
theorem Kw:resD d= .ok d↔ResOK d:=by
 constructor
 ·intro h;unfold resD at h;split at h
  ·cases h
  split at h
  ·cases h
  split at h
  ·cases h
  split at h
  ·cases h
  rename_i h1 h2 h3 h4;cases hc:Ae (Bf d) d.clus with
  |none=>rw[hc]at h;cases h
  |some cs=>
   rw[hc]at h;simp only at h;split at h
   ·cases h
   rename_i h5;cases hr:Ae (BD d) d.ruls with
   |none=>rw[hr]at h;cases h
   |some rs=>
    rw[hr]at h;simp only[Except.ok.injEq]at h;have e1:cs=d.clus:=congrArg Zo.clus h;have e2:rs=d.ruls:=congrArg Zo.ruls h;subst e1;subst e2;exact⟨zo,by simpa using h2,by simpa using h3,by simpa using h4,by simpa using h5,Cl.1 hc,Cl.1 hr⟩
 ·intro h;unfold resD;rw[W7 (by have:=h.n16;omega),h.ts,h.tf,h.tc,Cl.2 h.cl];simp only[Ws,X4];rw[h.tr,Cl.2 h.ru];rfl
structure DclOK(d:Zo):Prop where
 lim:limD d=true
 res:ResOK d
 ver:1<=d.ver/\d.ver<=255
 reg:∃cells,Ai d.sh d.w d.h d.holes=some cells/\C5 cells d.regs=0
 form:Ba d=true
theorem WJ(h:DclOK d):chkD d=if BV d.ruls≠[]then 171 else 0:=by
 obtain⟨cells,h1,h2⟩:=h.reg;unfold chkD;rw[h.lim,Kw.2 h.res];simp only[Bool.true_eq_false,X4,ne_eq,Yg];rw[W7 (by have:=h.ver;omega),h1];simp only[h2,h.form,Yg,X4,Bool.true_eq_false]
theorem TW:chkD d=0↔DclOK d/\BV d.ruls=[]:=by
 constructor
 ·intro h;unfold chkD at h;split at h
  ·cases h
  rename_i h1;cases hr:resD d with
  |error e=>
   rw[hr]at h;simp only at h;unfold resD at hr;subst h;split at hr
   ·cases hr
   split at hr
   ·cases hr
   split at hr
   ·cases hr
   split at hr
   ·cases hr
   split at hr
   ·cases hr
   split at hr
   ·cases hr
   split at hr<;>cases hr
  |ok x=>
   rw[hr]at h;simp only at h;split at h
   ·cases h
   rename_i h2;have h2:x=d:=by simpa using h2
   subst h2;split at h
   ·cases h
   rename_i h3;cases hc:Ai x.sh x.w x.h x.holes with
   |none=>rw[hc]at h;cases h
   |some cells=>
    rw[hc]at h;simp only at h;split at h
    ·rename_i h4;exact absurd h h4
    rename_i h4;split at h
    ·cases h
    rename_i h5;split at h
    ·cases h
    rename_i h6;exact⟨⟨by simpa using h1,Kw.1 hr,zo,⟨cells,hc,by simpa using h4⟩,by simpa using h5⟩,by simpa using h6⟩
 ·rintro⟨h1,h2⟩;rw[WJ h1,W7 (by rw[h2];exact λh=>h rfl)]
theorem NK{x:Zo}(h:resD d= .ok x):x.nm=d.nm/\x.ver=d.ver/\x.sh=d.sh/\x.w=d.w/\x.h=d.h/\x.holes=d.holes/\x.syms=d.syms/\x.regs=d.regs:=by
 unfold resD at h;split at h
 ·cases h
 split at h
 ·cases h
 split at h
 ·cases h
 split at h
 ·cases h
 split at h
 ·cases h
 split at h
 ·cases h
 split at h
 ·cases h
 ·cases h;exact⟨rfl,rfl,rfl,rfl,rfl,rfl,rfl,rfl⟩
end
def Of(rs:List Zf)(r:Zf):BV (rs++[r])=BV rs++(if He r=true then[]else[(rs.length:Int)]):=by
 unfold BV;rw[Wr,List.length_singleton,XI,XW,Wh];congr 1
 ·congr 1;apply List.filter_congr;intro i hi;have:=Xj.1 hi;rw[Xr this]
 ·rw[XH,Xv (W8 _),Nat.sub_self];simp only[XE,YE];by_cases h:He r=true
  ·simp [h]
  ·simp [show He r=false by simpa using h]
def RK{α:Type}[DecidableEq α]{l:List α}{x:α}:Af (l++[x])=false↔Af l=false/\x∉l:=by
 rw[By,By,Y1];simp only[Yc,Yr,YI,Za,and_self,XK,Xs];constructor
 ·exact λ⟨h1,h2⟩=>⟨h1,λhx=>h2 x hx x rfl rfl⟩
 ·exact λ⟨h1,h2⟩=>⟨h1,λa ha b hb e=>h2 (by rw[<-hb,<-e];exact ha)⟩
def Kx{l:List (List UInt8)}{s:List UInt8}{n:Int}(h:BE l s=some n):0<=n/\n<l.length:=by
 unfold BE at h;rw[XP]at h;obtain⟨i,h1,rfl⟩:=h;have:=Xq.1 h1;obtain⟨hi,-⟩:=this;omega
structure SmallD(d:Zo):Prop where
 top:d.nm.length+d.holes.length+d.syms.length+d.regs.length+d.clus.length+d.ruls.length<2000
 sy:∀s∈d.syms,s.nm.length<2000
 rg:∀r∈d.regs,r.nm.length+r.ls.length<2000/\∀l∈r.ls,l.length<2000
 cl:∀c∈d.clus,c.nm.length+c.on.length<2000
 ru:∀r∈d.ruls,r.nm.length+r.on.length+r.byN.length+r.ns.length+r.os.length<2000/\(∀s∈r.ns,s.length<2000)/\∀s∈r.os,s.length<2000
theorem Et:∀{a:Int} {l:List Int},Bo a l=true↔(∀x∈l,a<x)/\List.Pairwise (λx y=>x<y) l
 |a,[]=>by simp [Bo]
 |a,x::r=>by
  have ih:=Et (a:=x) (l:=r);simp only[Bo,W5,W9,ih,X7,Z2,Yl];constructor
  ·exact λ⟨h1,h2,h3⟩=>⟨⟨h1,λy hy=>by have:=h2 y hy;omega⟩,h2,h3⟩
  ·exact λ⟨⟨h1,h2⟩,h3,h4⟩=>⟨h1,h3,h4⟩
def Br(n:Int):List Int:=(List.range n.toNat).map λ(i:Nat)=>(i:Int)
def MH{n x:Int}:x∈Br n↔0<=x/\x<n:=by
 unfold Br;rw[Xh];constructor
 ·rintro⟨i,hi,rfl⟩;have:=Xj.1 hi;omega
 ·intro h;exact⟨x.toNat,Xj.2 zo,zo⟩
def RL(n:Int):(Br n).Nodup:=by
 unfold Br;rw[List.Nodup,YH];exact(List.nodup_range (n:=n.toNat)).imp λh e=>h zo
def RM(n:Int):(Br n).length=n.toNat:=by simp [Br]
theorem Kz{α:Type}(p:α->Bool):∀l:List α,l.length=(l.filter p).length+(l.filter λx=>!p x).length
 |[]=>rfl
 |x::r=>by
  have ih:=Kz p r;rw[XH,XH,Ww];cases p x<;>simp<;>omega
def TY{n:Int}{holes:List Int}(hd:holes.Nodup)(hr:∀x∈holes,0<=x/\x<n):((Br n).filter λp=>!holes.contains p).length+holes.length=n.toNat:=by
 have h1:((Br n).filter λp=>holes.contains p).Perm holes:=by
  rw[Z4 ((RL n).sublist YN) hd];intro x;rw[Y6,X6,MH];exact⟨λh=>h.2,λh=>⟨hr x h,h⟩⟩
 have h2:=Kz (λp=>holes.contains p) (Br n);rw[h1.length_eq,RM]at h2;omega
def RN(sh w h:Int)(holes:List Int):Option (List Int):=
 if(sh=1\/sh=2)/\1<=w/\w<=16/\1<=h/\h<=16/\(∀x∈holes,0<=x/\x<w*h)/\List.Pairwise (λx y=>x<y) holes/\((Br (w*h)).filter λp=>!holes.contains p)≠[]then
  some ((Br (w*h)).filter λp=>!holes.contains p)
 else none
def RO(sh w h:Int)(holes:List Int):RN sh w h holes=Ai sh w h holes:=by
 unfold RN Ai;have e:∀(p q:Prop) [Decidable p] [Decidable q] (x:Option (List Int)),(p↔q)->(if p then x else none)=if q then x else none:=λp q _ _ x hpq=>by
  by_cases hp:p
  ·rw[Wg hp,Wg (hpq.1 hp)]
  ·rw[W7 hp,W7 λhq=>hp (hpq.2 hq)]
 refine e _ _ _ ?_;have hk:∀(h1:∀x∈holes,0<=x/\x<w*h) (h2:List.Pairwise (λx y=>x<y) holes),(((Br (w*h)).filter λp=>!holes.contains p)≠[]↔(holes.length:Int)<w*h):=by
  intro h1 h2;have hl:=TY (h2.imp λq=>zo) h1;rw[<-List.length_pos_iff];omega
 rw[Et];simp only[Wo,W9];constructor
 ·rintro⟨a,b,c,d,e,f,g,i⟩;exact⟨a,b,c,d,e,(hk f g).1 i,⟨λx hx=>by have:=f x hx;omega,g⟩,λx hx=>(f x hx).2⟩
 ·rintro⟨a,b,c,d,e,f,⟨g,g2⟩,i⟩;have hr:∀x∈holes,0<=x/\x<w*h:=λx hx=>⟨by have:=g x hx;omega,i x hx⟩
  exact⟨a,b,c,d,e,hr,g2,(hk hr g2).2 f⟩
def Ay{sh w h:Int}{holes cells:List Int}(hc:Ai sh w h holes=some cells):List.Pairwise (λx y=>x<y) cells/\cells.length<=256/\∀x∈cells,0<=x/\x<256:=by
 unfold Ai at hc;split at hc
 ·rename_i hcond;obtain⟨-,a,b,c,d,-⟩:=hcond;cases hc;have hwh:w*h<=256:=by
   have:w*h<=16*16:=Int.mul_le_mul b d zo zo;omega
  have hpw:List.Pairwise (λx y:Int=>x<y) (Br (w*h)):=by
   unfold Br;rw[YH];exact YB.imp λq=>zo
  refine⟨hpw.sublist YN,?_,λx hx=>?_⟩
  ·have h1:=Xu (λp=>!holes.contains p) (Br (w*h));rw[RM]at h1;have:((Br (w*h)).filter λp=>!holes.contains p).length<=256:=zo
   exact this
  ·have:=MH.1 (Y6.1 hx).1;omega
 ·cases hc
def lowB(l:List Int)(x:Int):Nat:=(l.filter λy=>decide (y<x)).length
theorem MI:∀{l:List Int} {x:Int} {i:Nat},i<=l.length->(∀k (hk:k<l.length),k<i->l[k]<x)->(∀k (hk:k<l.length),i<=k->x<=l[k])->lowB l x=i
 |[],x,i,hi,_,_=>by simp at hi;subst hi;rfl
 |y::r,x,0,_,_,h2=>by
  have h0:=h2 0 zw (W8 0);have ih:=MI (l:=r) (x:=x) (i:=0) (We _) (λk hk h=>zo) (λk hk _=>h2 (k+1) (by simp;omega) (We _));unfold lowB at ih⊢;rw[XH,W7 (by simp at h0;simp;omega)];exact ih
 |y::r,x,i+1,hi,h1,h2=>by
  have h0:=h1 0 zw zo;have ih:=MI (l:=r) (x:=x) (i:=i) (by simp at hi;omega) (λk hk h=>h1 (k+1) (by simp;omega) zo) (λk hk h=>h2 (k+1) (by simp;omega) zo);unfold lowB at ih⊢;rw[XH,Wg (by simpa using h0),Ww,ih]
def WK{l:List Int}(hp:List.Pairwise (λx y=>x<y) l){i j:Nat}(hj:j<l.length)(hij:i<=j):l[i]<=l[j]:=by
 by_cases e:i=j
 ·subst e;exact Z5 _
 ·have:=XR.1 hp i j zo hj zo;omega
def F6(cells:List Int):List Int->List Int->Bool
 |_,[]=>true
 |met,p::r=>cells.contains p&& !met.contains p&&F6 cells (met++[p]) r
theorem RP(cells:List Int):∀(l met:List Int),F6 cells met l=true↔(∀p∈l,p∈cells/\p∉met)/\l.Nodup
 |[],met=>by simp [F6]
 |p::r,met=>by
  have ih:=RP cells r (met++[p]);simp only[F6,W5,XQ,X6,ih,X7,Z2,Yc,Xo,Yr,or_false,not_or];rw[<-Bool.not_eq_true,X6];constructor
  ·exact λ⟨⟨a,b⟩,c,d⟩=>⟨⟨⟨a,b⟩,λx hx=>⟨(c x hx).1,(c x hx).2.1⟩⟩,λhm=>(c p hm).2.2 rfl,d⟩
  ·exact λ⟨⟨⟨a,b⟩,c⟩,d,e⟩=>⟨⟨a,b⟩,λx hx=>⟨(c x hx).1,(c x hx).2,λq=>d (q▸hx)⟩,e⟩
def Eu(cells l:List Int):Da cells l=(F6 cells [] l&&decide (1<=l.length)):=by
 unfold Da;congr 1;rw[Wt,RP,W5,Wo];simp only[X6,Yr,YI,Ye,XQ,By]
section
theorem RQ(a b:List (List UInt8))(s:List UInt8):BE (a++b) s=match BE a s with
  |some i=>some i
  |none=>(BE b s).map λi=>(a.length:Int)+i:=by
 unfold BE;rw[List.findIdx?_append];cases h:a.findIdx? λx=>decide (x=s)with
 |some i=>rfl
 |none=>
  simp only[Option.none_or,XX];cases b.findIdx? λx=>decide (x=s)with
  |none=>rfl
  |some i=>simp [Int.add_comm]
variable {l:List (List UInt8)}
theorem Bb{s:List UInt8}:BE l s=none↔s∉l:=by
 unfold BE;rw[Option.map_eq_none_iff,Yi];simp only[XN];exact⟨λh hm=>h s hm rfl,λh x hx e=>h (e▸hx)⟩
theorem WL(d:Zo)(s:List UInt8):BE (Bl d) s=match BE Bq s with
  |some i=>some i
  |none=>(BE (d.regs.map (·.nm)) s).map λi=>8+i:=by
 unfold Bl;rw[RQ];rfl
theorem It{s:List UInt8}{r:List (List UInt8)}:CO l (s::r)=match l.findIdx? (λx=>decide (x=s)),CO l r with
  |some i,some n=>some (Int.ofNat (Nat.lor (1<<<i) n.toNat))
  |_,_=>none:=rfl
def bits(is:List Nat):Nat:=is.foldr (λi n=>Nat.lor (1<<<i) n) 0
theorem Og{ss:List (List UInt8)}:CO l ss=(Ae (λs=>l.findIdx? λx=>decide (x=s)) ss).map λis=>(bits is:Int):=by
 induction ss with
 |nil=>rfl
 |cons s r ih=>
  rw[It,ih];simp only[Ae];cases l.findIdx? λx=>decide (x=s)with
  |none=>rfl
  |some i=>
   cases Ae (λs=>l.findIdx? λx=>decide (x=s)) r with
   |none=>rfl
   |some is=>rfl
end
section
theorem Jf:∀{a b:List Int},List.Pairwise (λx y=>x<y) a->List.Pairwise (λx y=>x<y) b->(∀x,x∈a↔x∈b)->a=b
 |[],[],_,_,_=>rfl
 |[],y::s,_,_,h=>by have:=(h y).2 zw;cases this
 |x::r,[],_,_,h=>by have:=(h x).1 zw;cases this
 |x::r,y::s,ha,hb,h=>by
  obtain⟨a1,a2⟩:=Yl.1 ha;obtain⟨b1,b2⟩:=Yl.1 hb;have e:x=y:=by
   rcases X7.1 ((h x).1 zw)with q|q
   ·exact q
   ·rcases X7.1 ((h y).2 zw)with p|p
    ·exact p.symm
    ·have:=a1 y p;have:=b1 x q;omega
  subst e;refine congrArg _ (Jf a2 b2 λz=>?_);constructor
  ·intro hz;rcases X7.1 ((h z).1 (by simp [hz]))with q|q
   ·subst q;have:=a1 z hz;omega
   ·exact q
  ·intro hz;rcases X7.1 ((h z).2 (by simp [hz]))with q|q
   ·subst q;have:=b1 z hz;omega
   ·exact q
def TZ(n:Int):List.Pairwise (λx y:Int=>x<y) (Br n):=by
 unfold Br;rw[YH];exact YB.imp λq=>zo
def RU{n:Int}{holes:List Int}(h1:∀x∈holes,0<=x/\x<n)(h2:List.Pairwise (λx y=>x<y) holes):((Br n).filter λp=>holes.contains p)=holes:=by
 refine Jf ((TZ n).sublist YN) h2 λx=>?_
 rw[Y6,X6,MH];exact⟨λh=>h.2,λh=>⟨h1 x h,h⟩⟩
def Fe{sh w h:Int}{holes cells:List Int}(hc:Ai sh w h holes=some cells):(sh=1\/sh=2)/\1<=w/\w<=16/\1<=h/\h<=16/\(holes.length:Int)<w*h/\(∀x∈holes,0<=x/\x<w*h)/\List.Pairwise (λx y=>x<y) holes/\cells=(Br (w*h)).filter λp=>!holes.contains p:=by
 unfold Ai at hc;split at hc
 ·rename_i hq;obtain⟨a,b,c,d,e,f,g,i⟩:=hq;cases hc;rw[Et]at g;simp only[Wo,W9]at i;exact⟨a,b,c,d,e,f,λx hx=>⟨by have:=g.1 x hx;omega,i x hx⟩,g.2,rfl⟩
 ·cases hc
def WM{w h:Int}(h1:1<=w)(h2:w<=16)(h3:1<=h)(h4:h<=16):1<=w*h/\w*h<=256:=by
 have a:w*h<=16*16:=Int.mul_le_mul h2 h4 zo zo;have b:1*1<=w*h:=Int.mul_le_mul h1 h3 zo zo;omega
def BO(cells l:List Int):List Int:=l.map λp=>(lowB cells p:Int)
variable {l:List Int}
theorem RV(hp:List.Pairwise (λx y=>x<y) l){i:Nat}(hi:i<l.length):lowB l l[i]=i:=by
 refine MI (Nat.le_of_lt hi) (λk hk h=>XR.1 hp k i hk hi h) λk hk h=>WK hp hk h
theorem WN(hp:List.Pairwise (λx y=>x<y) l){x y:Int}(hx:x∈l)(hy:y∈l)(h:lowB l x=lowB l y):x=y:=by
 obtain⟨i,hi,rfl⟩:=X9.1 hx;obtain⟨j,hj,rfl⟩:=X9.1 hy;rw[RV hp hi,RV hp hj]at h;subst h;rfl
theorem Ff:∀{l:List (List Int)},Bm l=true↔∃(a b:Nat) (ha:a<l.length) (hb:b<l.length),b<a/\Ck l[a] l[b]=true
 |[]=>by simp [Bm]
 |x::r=>by
  have ih:=Ff (l:=r);simp only[Bm,Wz,ih,Yk];constructor
  ·rintro(⟨y,hy,h⟩|⟨a,b,ha,hb,o7,h⟩)
   ·obtain⟨i,hi,rfl⟩:=X9.1 hy;exact⟨i+1,0,by simp;omega,zw,zo,h⟩
   ·exact⟨a+1,b+1,by simp;omega,by simp;omega,zo,h⟩
  ·rintro⟨a,b,ha,hb,o7,h⟩;cases a with
   |zero=>omega
   |succ a=>
    cases b with
    |zero=>exact .inl ⟨r[a]'(by simp at ha;omega),Wn _,h⟩
    |succ b=>exact .inr ⟨a,b,by simp at ha;omega,by simp at hb;omega,zo,h⟩
theorem K0(cells:List Int)(l:List Zl)(i:Nat)(hi:i<l.length):C5 cells (l.drop i)=if regE cells l[i]=0 then C5 cells (l.drop (i+1))else regE cells l[i]:=by
 rw[Wy hi];rfl
theorem Eh{cells:List Int}(h:Da cells l=true):l.Nodup/\1<=l.length/\∀p∈l,p∈cells:=by
 unfold Da at h;simp only[W5,XQ,W9,By,Wo,X6]at h;exact⟨h.1.2,h.2,h.1.1⟩
end
section
abbrev eLl(l:List (List Int)):Fs:=.sl (.none 1) (l.map eIs)
abbrev IB(s:Zq):Fs:=.agg [.str s.nm,.int .i64 s.v]
abbrev Fg(r:Zl):Fs:=.agg [.str r.nm,eLl r.ls]
abbrev B7(c:Zj):Fs:=.agg [.str c.nm,.str c.on,.int .i64 c.fam,.int .i64 c.ty,.int .i64 c.lo,.int .i64 c.hi]
abbrev BP(r:Zf):List Fs:=[.str r.nm,.str r.on,.int .i64 r.kind,.int .i64 r.fam,eSs r.ns,eSs r.os,.int .i64 r.set,.int .i64 r.oth,.int .i64 r.op,.int .i64 r.n,.str r.byN,.int .i64 r.clue]
abbrev BT(r:Zf):Fs:=.agg (BP r)
abbrev eSys(l:List Zq):Fs:=.sl (.none 2) (l.map IB)
abbrev eRgs(l:List Zl):Fs:=.sl (.none 2) (l.map Fg)
abbrev eCls(l:List Zj):Fs:=.sl (.none 6) (l.map B7)
abbrev eRus(l:List Zf):Fs:=.sl (.none 12) (l.map BT)
abbrev AH(d:Zo):List Fs:=[.str d.nm,.int .i64 d.ver,.int .i64 d.sh,.int .i64 d.w,.int .i64 d.h,eIs d.holes,eSys d.syms,eRgs d.regs,eCls d.clus,eRus d.ruls]
abbrev encD(d:Zo):Fs:=.agg (AH d)
def AR(n:Nat)(l:List Int):(eIs l).under n:=⟨trivial,DY n _⟩
def BS(n:Nat)(l:List Bs):(eSs l).under n:=⟨trivial,Dq n _⟩
def Ak(n:Nat)(l:List (List Int)):(eLl l).under n:=⟨trivial,Au (AR n) _⟩
def Hf(n:Nat)(s:Zq):(IB s).under n:=⟨trivial,trivial,trivial⟩
def Cb(n:Nat)(r:Zl):(Fg r).under n:=⟨trivial,Ak n _,trivial⟩
def EA(n:Nat)(c:Zj):(B7 c).under n:=⟨trivial,trivial,trivial,trivial,trivial,trivial,trivial⟩
def Ar(n:Nat)(r:Zf):(BT r).under n:=⟨trivial,trivial,trivial,trivial,BS n _,BS n _,trivial,trivial,trivial,trivial,trivial,trivial,trivial⟩
def Ev(n:Nat)(l:List Zq):(eSys l).under n:=⟨trivial,Au (Hf n) _⟩
def DA(n:Nat)(l:List Zl):(eRgs l).under n:=⟨trivial,Au (Cb n) _⟩
def DB(n:Nat)(l:List Zj):(eCls l).under n:=⟨trivial,Au (EA n) _⟩
def CG(n:Nat)(l:List Zf):(eRus l).under n:=⟨trivial,Au (Ar n) _⟩
def Ab(n:Nat)(d:Zo):(encD d).under n:=⟨trivial,trivial,trivial,trivial,trivial,AR n _,Ev n _,DA n _,DB n _,CG n _,trivial⟩
def Gb:Fs->List Int
 | .sl _ L=>L.map toI
 |_=>[]
def Oh:Fs->List Bs
 | .sl _ L=>L.map toS
 |_=>[]
def Oi:Fs->List (List Int)
 | .sl _ L=>L.map Gb
 |_=>[]
def Ta:Fs->Zq
 | .agg [.str nm,.int _ v]=>⟨nm,v⟩
 |_=>⟨[],0⟩
def RW:Fs->Zl
 | .agg [.str nm,l]=>⟨nm,Oi l⟩
 |_=>⟨[],[]⟩
def Tb:Fs->Zj
 | .agg [.str nm,.str on,.int _ f,.int _ t,.int _ lo,.int _ hi]=>⟨nm,on,f,t,lo,hi⟩
 |_=>⟨[],[],0,0,0,0⟩
def RX:Fs->Zf
 | .agg [.str nm,.str on,.int _ k,.int _ f,ns,os,.int _ s,.int _ o,.int _ op,.int _ n,.str b,.int _ c]=>⟨nm,on,k,f,Oh ns,Oh os,s,o,op,n,b,c⟩
 |_=>⟨[],[],0,0,[],[],0,0,0,0,[],0⟩
variable {α:Type}
def K1(f:Fs->α):Fs->List α
 | .sl _ L=>L.map f
 |_=>[]
def decD:Fs->Zo
 | .agg [.str nm,.int _ v,.int _ sh,.int _ w,.int _ h,ho,sy,rg,cl,ru]=>⟨nm,v,sh,w,h,Gb ho,K1 Ta sy,K1 RW rg,K1 Tb cl,K1 RX ru⟩
 |_=>⟨[],0,0,0,0,[],[],[],[],[]⟩
theorem Ds(l:List Int):Gb (eIs l)=l:=As l
theorem Ei(l:List (List Int)):Oi (eLl l)=l:=Dh Ds l
theorem Fh(s:Zq):Ta (IB s)=s:=rfl
theorem Ej(r:Zl):RW (Fg r)=r:=by simp only[RW,Ei]
theorem Fi(c:Zj):Tb (B7 c)=c:=rfl
theorem Ek(r:Zf):RX (BT r)=r:=by simp only[RX,Oh,Cf]
theorem Jg(d:Zo):decD (encD d)=d:=by
 simp only[decD,Gb,K1,As,Dh Fh,Dh Ej,Dh Fi,Dh Ek]
def dWk(enc:α->Fs)(dec:Fs->α):Dc α:=⟨enc,dec,λv=>Wk v (enc (dec v)),λ_ h=>h⟩
theorem Hg{enc:α->Fs}{dec:Fs->α}(h:∀x,dec (enc x)=x)(x:α):(dWk enc dec).ok (enc x)=True:=W1 (by show Wk _ _;rw[h];exact Wk.refl _)
def dSy:Dc Zq:=dWk IB Ta
def dRg:Dc Zl:=dWk Fg RW
def dCl:Dc Zj:=dWk B7 Tb
def dRu:Dc Zf:=dWk BT RX
def dD:Dc Zo:=dWk encD decD
theorem UY(x:Zq):dSy.ok (IB x)=True:=Hg Fh x
theorem RY(x:Zq):dSy.dec (IB x)=x:=rfl
theorem Iu(x:Zl):dRg.ok (Fg x)=True:=Hg Ej x
theorem F7(x:Zl):dRg.dec (Fg x)=x:=Ej x
theorem Hh(x:Zj):dCl.ok (B7 x)=True:=Hg Fi x
theorem FO(x:Zj):dCl.dec (B7 x)=x:=rfl
theorem Bc(x:Zf):dRu.ok (BT x)=True:=Hg Ek x
theorem A7(x:Zf):dRu.dec (BT x)=x:=Ek x
theorem A8(x:Zo):dD.ok (encD x)=True:=Hg Jg x
theorem Al(x:Zo):dD.dec (encD x)=x:=Jg x
def dLi(e:Nat)(enc:α->Fs)(dec:Fs->α):Dc (List α):=⟨λl=>.sl (.none e) (l.map enc),decL dec,okL e enc dec,RG⟩
theorem Hi{e:Nat}{enc:α->Fs}{dec:Fs->α}(h:∀x,dec (enc x)=x){t:Zu}{l:List α}(ht:t.esz=e\/l=[]):(dLi e enc dec).ok (.sl t (l.map enc))=True:=W1 (by
 refine⟨ht.imp id λq=>by rw[q];rfl,?_⟩;rw[Dh h])
theorem FP{e:Nat}{enc:α->Fs}{dec:Fs->α}(h:∀x,dec (enc x)=x){t:Zu}{l:List α}:(dLi e enc dec).dec (.sl t (l.map enc))=l:=Dh h l
def dLl:Dc (List (List Int)):=dLi 1 eIs Gb
def dSys:Dc (List Zq):=dLi 2 IB Ta
def dRgs:Dc (List Zl):=dLi 2 Fg RW
def dCls:Dc (List Zj):=dLi 6 B7 Tb
def dRus:Dc (List Zf):=dLi 12 BT RX
theorem Ad(l:List Int):dIs.ok (eIs l)=True:=W1 ⟨.inl rfl,by rw[As]⟩
theorem AY(l:List Int):dIs.dec (eIs l)=l:=As l
theorem Fj(l:List Bs):dSs.ok (eSs l)=True:=W1 ⟨.inl rfl,by rw[Cf]⟩
theorem EB(l:List Bs):dSs.dec (eSs l)=l:=Cf l
theorem Aw(x:Int):dI.ok (.int .i64 x)=True:=W1 trivial
theorem Ag(x:Int):dI.dec (.int .i64 x)=x:=rfl
theorem Gc(x:Bs):dS.ok (.str x)=True:=W1 trivial
theorem EI(x:Bs):dS.dec (.str x)=x:=rfl
theorem wk_Dk{nm:Bs}{ver sh w h:Int}{ho:List Int}{sy:List Zq}{rg:List Zl}{cl:List Zj}{ru:List Zf}{a b c e f:Fs}(ha:Wk a (eIs ho))(hb:Wk b (eSys sy))(hc:Wk c (eRgs rg))(he:Wk e (eCls cl))(hf:Wk f (eRus ru)):
  Wk (.agg [.str nm,.int .i64 ver,.int .i64 sh,.int .i64 w,.int .i64 h,a,b,c,e,f]) (encD ⟨nm,ver,sh,w,h,ho,sy,rg,cl,ru⟩):=
 Wk.agg (.cons (Wk.refl _) (.cons (Wk.refl _) (.cons (Wk.refl _) (.cons (Wk.refl _) (.cons (Wk.refl _) (.cons ha (.cons hb (.cons hc (.cons he (.cons hf .nil))))))))))
abbrev dcl0:Zo:=⟨[],0,0,0,0,[],[],[],[],[]⟩
end
section
def nmEs:List Bs->Nat->List (Fs×Fs×Nat)
 |[],_=>[]
 |s::r,i=>(.str s,.int .i64 (i:Int),i)::nmEs r (i+1)
theorem Dt:∀(l:List Bs) (i:Nat),Dn .str (nmEs l i)=True
 |[],_=>rfl
 |s::r,i=>by rw[nmEs,Dn,Dt r (i+1)];simp [KT.is]
def Oj(x:Bs)(r:List Bs)(s:Bs):BE (x::r) s=if x=s then some 0 else(BE r s).map (· +1):=by
 unfold BE;rw[List.findIdx?_cons];by_cases h:x=s
 ·simp [h]
 ·simp only[h,Z8,Ws,X4];cases List.findIdx? (λx=>decide (x=s)) r<;>simp
theorem RZ:∀(l:List Bs) (s:Bs) (i:Nat),BN (.str s) (nmEs l i)=(BE l s).map λn=>.int .i64 (n+(i:Int))
 |[],s,i=>rfl
 |x::r,s,i=>by
  rw[nmEs,BN,Oj,RZ r s (i+1)];by_cases h:x=s
  ·subst h;simp [ceq]
  ·have:¬s=x:=λq=>h q.symm
   simp only[ceq,h,this,Z8,Ws,X4];cases BE r s with
   |none=>rfl
   |some n=>simp only[Xf];congr 2;omega
def EC(l:List Bs)(s:Bs):BN (.str s) (nmEs l 0)=(BE l s).map λn=>.int .i64 n:=by
 rw[RZ];congr 1;funext n;simp
theorem UZ:∀(l:List Bs) (s:Bs) (i:Nat),nmEs (l++[s]) i=nmEs l i++[(.str s,.int .i64 ((i+l.length:Nat):Int),i+l.length)]
 |[],s,i=>rfl
 |x::r,s,i=>by
  rw[X3,nmEs,UZ r s (i+1),nmEs,X3,Ww,show i+1+r.length=i+(r.length+1)by omega]
variable {v:Fs} {c:Nat}
theorem Gm{k:Fs}:∀{es:List (Fs×Fs×Nat)},BN k es=none->mset k v c es=es++[(k,v,c)]
 |[],_=>rfl
 |(k',v',b)::r,h=>by
  rw[BN]at h;split at h
  ·cases h
  ·rename_i q;rw[mset,W7 q,Gm h];rfl
theorem K3{l:List Bs}{s:Bs}(h:BE l s=none):mset (.str s) (.int .i64 (l.length:Int)) l.length (nmEs l 0)=nmEs (l++[s]) 0:=by
 rw[Gm (by rw[EC,h];rfl),UZ];simp
theorem Tc{α:Type}[DecidableEq α]{a b:List α}{x:α}(h:x∈a):Af (a++x::b)=true:=by
 cases q:Af (a++x::b)with
 |true=>rfl
 |false=>exact absurd rfl ((Y1.1 (By.1 q)).2.2 x h x zw)
def ctEs:List Int->Nat->List (Fs×Fs×Nat)
 |[],_=>[]
 |s::r,i=>(.int .i64 s,.bool true,i)::ctEs r (i+1)
theorem Ra:∀(l:List Int) (i:Nat),Dn (.int .i64) (ctEs l i)=True
 |[],_=>rfl
 |s::r,i=>by rw[ctEs,Dn,Ra r (i+1)];simp [KT.is]
theorem MJ:∀(l:List Int) (x:Int) (i:Nat),BN (.int .i64 x) (ctEs l i)=if l.contains x then some (.bool true)else none
 |[],x,i=>rfl
 |y::r,x,i=>by
  rw[ctEs,BN,MJ r x (i+1),List.contains_cons];by_cases h:x=y
  ·subst h;simp [ceq]
  ·simp only[ceq,h,Z8,Ws,X4,beq_eq_false_iff_ne.2 h,XG]
theorem Ua:∀(l:List Int) (s:Int) (i:Nat),ctEs (l++[s]) i=ctEs l i++[(.int .i64 s,.bool true,i+l.length)]
 |[],s,i=>rfl
 |x::r,s,i=>by
  rw[X3,ctEs,Ua r s (i+1),ctEs,X3,Ww,show i+1+r.length=i+(r.length+1)by omega]
theorem ct_set{l:List Int}{x:Int}(h:l.contains x=false):mset (.int .i64 x) (.bool true) l.length (ctEs l 0)=ctEs (l++[x]) 0:=by
 rw[Gm (by rw[MJ,h];rfl),Ua];simp
theorem Hj{x y:Int}{v:Fs}{c:Nat}:∀{es:List (Fs×Fs×Nat)},Dn (.int .i64) es->BN (.int .i64 x) (mset (.int .i64 y) v c es)=if x=y then some v else BN (.int .i64 x) es
 |[],_=>by
  rw[mset,BN,BN];by_cases h:x=y<;>simp [ceq,h,BN]
 |(k',v',b)::r,hf=>by
  obtain⟨h1,h2⟩:=hf;have ih:=Hj (x:=x) (y:=y) (v:=v) (c:=c) h2;cases k'<;>simp only[KT.is]at h1;rename_i kk z;subst h1;rw[mset];by_cases hy:y=z
  ·subst hy;rw[Wg (by simp [ceq])];rw[BN,BN];by_cases hx:x=y
   ·subst hx;simp [ceq]
   ·simp [ceq,hx]
  ·rw[W7 (by simp [ceq,hy])];rw[BN,ih,BN];by_cases hx:x=z
   ·subst hx;have:¬x=y:=λq=>hy q.symm
    simp [ceq,this]
   ·simp [ceq,hx]
theorem Hl{y:Int}:∀{es:List (Fs×Fs×Nat)},Dn (.int .i64) es->Dn (.int .i64) (mset (.int .i64 y) v c es)
 |[],_=>⟨rfl,trivial⟩
 |(k',v',b)::r,⟨h1,h2⟩=>by
  rw[mset];split
  ·exact⟨h1,h2⟩
  ·exact⟨h1,Hl h2⟩
def cntZ(rs:List Zf)(z:Int):Nat:=(rs.filter λr=>decide (r.clue=z)).length
theorem NL(rs:List Zf)(i:Nat):cntZ rs (i:Int)=D9 rs i:=rfl
theorem Rb(rs:List Zf)(r:Zf)(z:Int):cntZ (rs++[r]) z=cntZ rs z+if r.clue=z then 1 else 0:=by
 unfold cntZ;rw[XW,Wr];by_cases h:r.clue=z<;>simp [h]
theorem Ub(rs:List Zf)(z:Int):cntZ rs z<=rs.length:=Xu ..
def MK(rs:List Zf)(es:List (Fs×Fs×Nat)):Prop:=Dn (.int .i64) es/\∀z:Int,(BN (.int .i64 z) es).getD (.int .i64 0)= .int .i64 (cntZ rs z:Int)
theorem MK.next{rs:List Zf}{es:List (Fs×Fs×Nat)}{r:Zf}(h:MK rs es):MK (rs++[r]) (mset (.int .i64 r.clue) (.int .i64 ((cntZ rs r.clue+1:Nat):Int)) c es):=by
 refine⟨Hl h.1,λz=>?_⟩;rw[Hj h.1,Rb];by_cases q:z=r.clue
 ·subst q;rw[Wg rfl,Wg rfl];rfl
 ·rw[W7 q,W7 (λe=>q e.symm)];exact h.2 z
end
theorem Hm{g:Zb}{f:Nat->Option Value}:∀(ws:List Int) (o:Nat),Stab g 1 f o (ws.map eI)->∀(j:Nat) x,ws[j]?=some x->f (o+j)=some (.int .i64 x)
 |[],_,_,j,x,h=>by simp at h
 |y::ws,o,⟨⟨v,q1,q2,q3⟩,h'⟩,j,x,h=>by
  cases j with
  |zero=>
   simp at h;subst h;have q1':v= .int .i64 y:=q1;subst q1';exact q3 0 _ rfl
  |succ j=>rw[show o+(j+1)=o+1+j by omega];exact Hm ws (o+1) h' j x (by simpa using h)
theorem GP{g:Zb}{f:Nat->Option Value}:∀(ws:List Int) (o:Nat),(∀(j:Nat) x,ws[j]?=some x->f (o+j)=some (.int .i64 x))->Stab g 1 f o (ws.map eI)
 |[],_,_=>trivial
 |y::ws,o,h=>by
  refine⟨⟨.int .i64 y,rfl,⟨rfl,λx hx=>by simp [Value.cells]at hx;subst hx;rfl⟩,λj x hx=>?_⟩,GP ws (o+1) λj x hx=>by
   have:=h (j+1) x (by simpa using hx);rw[<-this];congr 1;omega⟩
  cases j with
  |zero=>
   have hx':some (Value.int .i64 y)=some x:=hx;cases hx';exact h 0 y rfl
  |succ j=>simp [Value.cells]at hx
def Ok(w:World)(k:Nat):Below w.heap.size w (w.drewN k) where
 os:=rfl
 tape:=rfl
 output:=rfl
 size:=W8 _
 block:=λi hi=>rfl
def p218(l:List Int)(x:Int)(hl:l.length<1000000000)(hs:List.Pairwise (λx y=>x<y) l):Pur prog 218 [eIs l,.int .i64 x] (.tup [.int .i64 (lowB l x),.bool (l.contains x)]):=by
 refine GK c218.l ⟨⟨trivial,DY 0 l⟩,trivial,trivial⟩ ⟨trivial,trivial,trivial⟩ ?_;rintro g w vs hR ⟨v,r,rfl,k1,v2,r2,rfl,k2,k3⟩;have k2':v2= .int .i64 x:=k2;have k3':r2=[]:=k3;subst k2';subst k3';have hres:∀q,l=[]\/q=l.take l.length->VRel g (.tup [.int .i64 (lowB l x),.bool (l.contains x)]) (.tuple #[.int .i64 (((l.take l.length).countP (· <x):Nat):Int),.bool ((l.take l.length).contains x)]):=λq _=>by
  rw[Wj];have e:(l.countP λy=>decide (y<x))=lowB l x:=List.countP_eq_length_filter;rw[e];exact⟨_,rfl,_,_,rfl,rfl,_,_,rfl,rfl,rfl⟩
 have hres:=hres l (.inr (Wj).symm);rcases k1 with⟨k1,rfl,-⟩|⟨-,b,o,cap,⟨sp,rfl,hsp⟩,hc,hst,-⟩
 ·have:l=[]:=by simpa using k1
  subst this;refine(slices_BinarySearch_int_empty none 0 x w).mono ?_;rintro e w' ⟨rfl,rfl⟩;exact⟨⟨_,rfl,hres⟩,Below.refl _ _⟩
 ·cases l with
  |nil=>
   refine(slices_BinarySearch_int_empty _ _ x w).mono ?_;rintro e w' ⟨rfl,rfl⟩;exact⟨⟨_,rfl,hres⟩,Below.refl _ _⟩
  |cons y ys=>
   obtain rfl:sp=none:=hsp.resolve_right λq=>by cases q.1
   have hcell:=Hm _ _ hst;have hk:=slices_BinarySearch_int b o (y::ys).length cap (y::ys) x w (W8 _) zo (λj hj=>hR.σw _ _ _ (hcell j _ (by rw[W2 hj];simp [List.getD,W2 hj]))) (by rw[Wj];exact hs.imp λq=>zo);simp only[W0]at hk⊢;refine hk.mono ?_;rintro e w' ⟨rfl,q,rfl⟩;exact⟨⟨_,rfl,hres⟩,Ok _ _⟩
def lSort:Bi prog 221:=⟨f221,by kernel_rfl,by kernel_rfl,by kernel_rfl⟩
def NN{H:AC}{n id len cap:Nat}{zs:List Int}(ho:hget H id=some (.arr 1 (zs.map eI)))(hl:len<=zs.length)(hz:len<1000000000):
  AP prog 221 [.ref id 1 0 len cap] H n λo H' n'=>o= .ret (.tup [])/\H'=hset H id (.arr 1 (((zs.take len).mergeSort leI++zs.drop len).map eI))/\n'=n:=by
 refine⟨lSort,λg w vs hR hv=>?_⟩;obtain⟨v,r,rfl,k1,k2⟩:=hv;have k2':r=[]:=k2;subst k2';obtain⟨L,h1,h2,rfl⟩:=k1;obtain⟨L',c,e,j1,j2,j3,j4,j5,j6⟩:=hR.obj id _ ho;rw[h1]at j1;cases j1;have hcell:=Hm _ _ j6;simp only[Xm]at hcell;have hsz:c.size=zs.length:=by rw[<-j5];simp
 have htl:(zs.take len).length=len:=by simp;omega
 have hb:L.blk<w.heap.size:=(X0.1 j4).1;have hc:=slices_Sort_int L.blk 0 cap (zs.take len) w (λj hj=>by
  have hj':j<(zs.take len).length:=by simpa using hj
  refine⟨?_,?_⟩
  ·rw[Xm,getElem!_pos _ j hj];simp only[World.cell?,j4];rw[hcell j _ (show zs[j]?=some zs[j]from W2 zo)];simp
  ·simp [World.frozen?,j4]) hb zo
 rw[htl]at hc;simp only[Yv]at hc⊢;refine hc.mono ?_;rintro ee w' ⟨rfl,k,os,rfl⟩;generalize hS:(zs.take len).mergeSort (λx y=>decide (x<=y))=S;have hSl:S.length=len:=by rw[<-hS,List.length_mergeSort,htl]
 have hblk:(putRow (Value.int .i64) (Sort.ahead w k) L.blk 0 S.toArray).heap[L.blk]?=some (.cells (Go.Sort.putCells (Value.int .i64) 0 S.toArray c) e (0,0)):=by
  simp only[putRow,mapBlock,Sort.ahead,Array.getElem?_modify,Xi,j4,Xf,onCells]
 have hget:∀j:Nat,(Go.Sort.putCells (Value.int .i64) 0 S.toArray c)[j]?=if j<len then(S[j]?).map (Value.int .i64)else c[j]?:=λj=>by
  simp only[Go.Sort.putCells,Array.getElem?_mapIdx,We,XK,Xm,Nat.sub_zero,List.size_toArray,hSl];by_cases q:j<len
  ·simp only[q,Xi];have hjc:j<c.size:=zo
   have hjS:j<S.length:=zo
   rw[Y2 hjc,W2 hjS];simp [hjS]
  ·simp only[q,X4];cases c[j]?<;>rfl
 obtain⟨r1,r2⟩:=hR.upd (m:=n) (w':=putRow (Value.int .i64) (Sort.ahead w k) L.blk 0 S.toArray) (ob':=.arr 1 ((S++zs.drop len).map eI)) ho rfl h1 rfl rfl rfl (by simp [putRow,mapBlock,Sort.ahead])
  (λb d8=>by simp only[putRow,mapBlock,Sort.ahead,Array.getElem?_modify];rw[W7 (Ne.symm d8)])
  (.inl ⟨c,e,(0,0),_,j4,hblk,by simp [Go.Sort.putCells],λo ho'=>by
   rw[hget,W7 (by rcases ho' with q|q<;>omega)]⟩)
  ⟨L,_,e,h1,h2,by rw[j3];simp [Go.Sort.putCells],hblk,by simp [Go.Sort.putCells,hSl];omega,GP _ _ λj x hx=>by
   rw[Xm,hget];by_cases q:j<len
   ·rw[Wg q];rw[Xr zo]at hx;rw[hx];rfl
   ·rw[W7 q];rw[Xv zo,Z7]at hx;exact hcell j x (by rw[<-hx];congr 1;omega)⟩
 have hx:HExt (putRow (Value.int .i64) (Sort.ahead w k) L.blk 0 S.toArray) (grow (putRow (Value.int .i64) (Sort.ahead w k) L.blk 0 S.toArray) os):=λb ob hb=>by
  show(_++os)[b]?=some ob;rw[Array.getElem?_append_left (X0.1 hb).1];exact hb
 have r3:=r1.grow hx (σ':=g.σ) (λ_ _ _ q=>q) (λ_ _ _ q=>.inl q);exact⟨g,.ret (.tup []),_,n,⟨rfl,rfl,rfl⟩,⟨_,rfl,rfl⟩,r3,W8 _,r2.trans (Zc.grow hx rfl rfl rfl (λ_ _ _ q=>q) (λ_ _ _ q=>.inl q))⟩
def LV(e:Nat)(v:Fs)(H:AC)(l:List Fs):Prop:=
 (l=[]/\∃t,v= .sl t []/\(t= .nil\/t= .exact e))\/(l≠[]/\∃id cap rest,v= .ref id e 0 l.length cap/\hget H id=some (.arr e (l++rest))/\l.length+rest.length=cap)
def Uc(e:Nat)(H:AC)(n:Nat)(l:List Fs):Zr->AC->Nat->Prop:=λo H' n'=>
 (l=[]/\H'=H/\n<=n'/\∃t,o= .ret (.sl t [])/\(t= .nil\/t= .exact e))\/(l≠[]/\n'=n+4/\∃cap rest,o= .ret (.ref (n+2) e 0 l.length cap)/\H'=hset H (n+2) (.arr e (l++rest))/\l.length+rest.length=cap)
def AP.out{P:Program}{f:FuncId}{args:List Fs}{H:AC}{n:Nat}{R R':Zr->AC->Nat->Prop}(h:AP P f args H n R)
  (hr:∀o H' n',R o H' n'->∃o2,R' o2 H' n'/\∀g w e,Zi g H' n' w->ERel g o e->ERel g o2 e):AP P f args H n R':=
 ⟨h.1,λg w vs r v=>(h.2 g w vs r v).mono λe w' ⟨g',out,H',n',q,he,hR,hn,ht⟩=>
  let ⟨o2,q2,hw⟩:=hr _ _ _ q;⟨g',o2,H',n',q2,hw _ _ _ hR he,hR,hn,ht⟩⟩
def AP.seal{P:Program}{f:FuncId}{args:List Fs}{H:AC}{n:Nat}{R R':Zr->AC->Nat->Prop}(h:AP P f args H n R)
  (hr:∀o H' n',R o H' n'->R' o H' n'\/∃id e l,hget H' id=some (.arr e l)/\R' o (hset H' id (.frz e l)) n'):AP P f args H n R':=by
 refine⟨h.1,λg w vs r v=>(h.2 g w vs r v).mono ?_⟩;rintro e w' ⟨g',out,H',n',q,he,hR,hn,ht⟩;rcases hr _ _ _ q with q|⟨id,es,l,h0,q⟩
 ·exact⟨g',out,H',n',q,he,hR,hn,ht⟩
 ·obtain⟨σ',r1,t1⟩:=hR.freeze (m:=n) h0;refine⟨_,out,_,n',q,?_,r1,hn,ht.trans t1⟩;cases out<;>cases e<;>first|exact he.elim|skip
  ·exact VRel.mono t1.le _ _ he
  ·obtain⟨v,hv,hr⟩:=he;exact⟨v,hv,VRel.mono t1.le _ _ hr⟩
def LF(e:Nat)(v:Fs)(H:AC)(l:List Fs):Prop:=
 (l=[]/\∃t,v= .sl t []/\(t= .nil\/t= .exact e))\/(l≠[]/\∃id cap rest,v= .ref id e 0 l.length cap/\hget H id=some (.frz e (l++rest))/\l.length+rest.length=cap)
def Iv{e:Nat}{v:Fs}{H:AC}{l:List Fs}(h:LF e v H l){g:Zb}{n:Nat}{w:World}{x:Value}(hR:Zi g H n w)(hv:VRel g v x):VRel g (.sl (.none e) l) x:=by
 rcases h with⟨rfl,t,rfl,ht⟩|⟨d8,id,cap,rest,rfl,ho,hc⟩
 ·exact Wk.sl (.inr rfl) _ _ hv
 ·obtain⟨L,h1,h2,rfl⟩:=hv;obtain⟨L',j1,j2,j3⟩:=hR.obj id _ ho;rw[h1]at j1;cases j1;refine .inr ⟨trivial,L.blk,0,cap,⟨none,zw,.inl rfl⟩,zo,?_,trivial⟩;have:=Stab.take l.length _ _ j3;rw[YT]at this;exact this
def LvG{α:Type}(enc:α->Fs)(e lo:Nat)(H:AC)(lv:Fs)(qs:List α):Prop:=(lv= .sl .nil []/\qs=[])\/qs≠[]/\∃id rest,lv= .ref id e 0 qs.length (qs.length+rest.length)/\lo<=id/\hget H id=some (.arr e ((qs++rest).map enc))
section
variable {α:Type} {enc:α->Fs} {e lo:Nat}
theorem ML{H:AC}{m b:Nat}{lv z v:Fs}{z0:α}{qs:List α}{q:α}{K:AC->Fs->Prop}(h:LvG enc e lo H lv qs)(hv:v=enc q)(he:0<e)(hz:z.cells.length=e)(hz0:z=enc z0)(hb:Aj (qs.length+1) b)(hm:hget H m=none)(u0:lo<=m)(hk:qs.length+1<=35184372088832)
  (hK:∀id (rest:List α),lo<=id->(id=m\/∃L,hget H id=some (.arr e L))->K (hset H id (.arr e (((qs++[q])++rest).map enc))) (.ref id e 0 (qs++[q]).length ((qs++[q]).length+rest.length))):H9 H m e b z K lv (some [v]):=by
 subst hv;subst hz0;have el:(qs++[q]).length=qs.length+1:=zw
 rcases h with⟨rfl,rfl⟩|⟨-,id,rest,rfl,h2,h3⟩
 ·rw[Ce];refine⟨hm,he,hz,.inl rfl,hb,zw,(λe=>by cases e),λ_ cap hcap=>?_⟩;have:=hK m (List.replicate (cap-1) z0) u0 (.inl rfl);simp only[X1,Wu,Ww,Xt,Y7,X3,Yt]at this hcap⊢;rw[show 0+1+(cap-1)=cap by omega]at this;exact this
 ·rw[HT h3];refine⟨hm,he,hz,rfl,rfl,hb,hk,rfl,zw,zo,λhr=>?_,λhr cap' hc=>?_⟩
  ·have:=hK id (rest.drop 1) h2 (.inr ⟨_,h3⟩);simp only[Ww,Xt]at hr⊢;have e1:List.take qs.length ((qs++rest).map enc)=qs.map enc:=by rw[Wh,Ya zw,Xp zw]
   have e2:List.drop (qs.length+(0+1)) ((qs++rest).map enc)=(rest.drop 1).map enc:=by rw[Wh,List.drop_append,Yp zw];simp
   rw[e1,e2];rw[el,Wh,Wh,XJ,show qs.length+1+(rest.length-1)=qs.length+rest.length by omega]at this;exact this
  ·have:=hK m (List.replicate (cap'-(qs.length+1)) z0) u0 (.inl rfl);simp only[Ww,Xt]at hr hc⊢;have e1:List.take qs.length ((qs++rest).map enc)=qs.map enc:=by rw[Wh,Ya zw,Xp zw]
   rw[e1];rw[el,Wh,Wh,Yt,Y7,show qs.length+1+(cap'-(qs.length+1))=cap' by omega]at this;exact this
end
structure VF where
 i:Nat
 H:AC
 n:Nat
def Iw{P:Program}{T:Tab}{b:Nat}{cx:Nat->Fs}{rx:List (Nat×Zn)}{kp:List Nat}{k:List Item}{Q:Zg->AS->Prop}{s:AS}{d:Option Nat}{sz:Nat}{a x:Ze}:A0 P T b cx ((0,⟨d,none,.st sz a x⟩)::rx) kp k Q s=((lk s.env a).1=true/\(lk s.env x).1=true/\nT (lkv s.env x)/\(lkv s.env x).cells.length=sz/\(stE s.H sz (lkv s.env x) (lkv s.env a)).1/\A0 P T b cx rx kp k Q ({s with H:=(stE s.H sz (lkv s.env x) (lkv s.env a)).2}.put d true (.tup []))):=by
 rw[Q6,JM,Kp];simp only[gvb,XA,BR,XK];rfl
def WO{H:AC}{n:Nat}(l:List Zj)(hl:few l):AP prog 201 [eCls l] H n (Uc 6 H n (l.map B7)):=by
 refine AP.fresh c201.l λhf=>c201.a (AF AI.tnil (AG ?_))
 have l8:l.length<1000000000:=hl;cases l with
 |nil=>
  simp only[eZ,seval,c201];refine⟨?_,?_⟩
  ·simp only[eZ,seval,Ce,Ec,fr1 hf,Aj,Yv,We];exact .inl ⟨rfl,rfl,Xn _ _,.exact 6,rfl,.inr rfl⟩
  ·simp only[eZ,seval,W6];exact .inl ⟨rfl,rfl,W8 _,.nil,rfl,.inl rfl⟩
 |cons x r=>
  rw[Ww]at l8;simp only[eZ,seval,W0,c201,eCls,Ce,Ec,fr1 hf];refine⟨AX zo zd,zo,λcap hcap=>.inr ⟨zw,rfl,cap,List.replicate (cap-(r.length+1)) (.agg [.str [],.str [],.int .i64 0,.int .i64 0,.int .i64 0,.int .i64 0]),?_,?_,?_⟩⟩
  ·simp
  ·simp
  ·simp;omega
def WP{H:AC}{n:Nat}(l:List Zf)(hl:few l):AP prog 205 [eRus l] H n (Uc 12 H n (l.map BT)):=by
 refine AP.fresh c205.l λhf=>c205.a (AF AI.tnil (AG ?_))
 have l8:l.length<1000000000:=hl;cases l with
 |nil=>
  simp only[eZ,seval,c205];refine⟨?_,?_⟩
  ·simp only[eZ,seval,Ce,Ec,fr1 hf,Aj,Yv,We];exact .inl ⟨rfl,rfl,Xn _ _,.exact 12,rfl,.inr rfl⟩
  ·simp only[eZ,seval,W6];exact .inl ⟨rfl,rfl,W8 _,.nil,rfl,.inl rfl⟩
 |cons x r=>
  rw[Ww]at l8;simp only[eZ,seval,W0,c205,eRus,Ce,Ec,fr1 hf];refine⟨AX zo zd,zo,λcap hcap=>.inr ⟨zw,rfl,cap,List.replicate (cap-(r.length+1)) (.agg [.str [],.str [],.int .i64 0,.int .i64 0,.sl .nil [],.sl .nil [],.int .i64 0,.int .i64 0,.int .i64 0,.int .i64 0,.str [],.int .i64 0]),?_,?_,?_⟩⟩
  ·simp
  ·simp
  ·simp;omega
end Go.AM
