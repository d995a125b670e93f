/-
  Parts of the proof. Conditions: none.
-/
import Derived.Test.YtabcmhkkohbdeaaGreatShelf
import Derived.Test.YtabcmhkkohbdeaaGreatB6
set_option maxRecDepth 20000
set_option linter.all false
set_option maxHeartbeats 1000000
namespace Go.AM
open Go.Lib Go.Proofs Go.Proofs.Tryz
section
abbrev Bs:=List UInt8
abbrev eI(n:Int):Fs:=.int .i64 n
abbrev FH(l:List Bs):Fs:=.sl (.none 1) (l.map .str)
abbrev Am(l:List Int):Fs:=.sl (.none 1) (l.map eI)
def DE(n:Nat)(l:List Bs):unders n (l.map Fs.str):=Ay (f:=Fs.str) (λx=>zt) _
def Dy(n:Nat)(l:List Int):unders n (l.map eI):=Ay (f:=eI) (λx=>zt) _
def Cm(l:List Bs):(l.map Fs.str).map GL=l:=by rw[ui];exact vg _
def Ax(l:List Int):(l.map eI).map A9=l:=by rw[ui];exact vg _
inductive Wks:List Fs->List Fs->Prop
 |nil:Wks [] []
 |cons {a b:Fs} {ws us:List Fs}:Wk a b->Wks ws us->Wks (a::ws) (b::us)
theorem Wks.rel{g:q8}:∀{ws us:List Fs},Wks ws us->∀vs,VRels g ws vs->VRels g us vs
 |_,_,.nil,vs,h=>h
 |_,_,.cons h t,vs,⟨v,r,e,k1,k2⟩=>⟨v,r,e,h _ _ k1,t.rel r k2⟩
def Wk.agg{ws us:List Fs}(h:Wks ws us):Wk (.agg ws) (.agg us):=by
 rintro g v ⟨vs,rfl,h1,h2⟩;exact⟨vs,rfl,h.rel _ h1,h2⟩
def Wk.tup{ws us:List Fs}(h:Wks ws us):Wk (.tup ws) (.tup us):=by
 rintro g v ⟨vs,rfl,h1⟩;exact⟨vs,rfl,h.rel _ h1⟩
def Wk.trans{a b c:Fs}(h:Wk a b)(k:Wk b c):Wk a c:=λg v q=>k g v (h g v q)
def Dg(pid:Nat)(H H':AB):Prop:=∀id ob,id≠pid->AD H id=some ob->AD H' id=some ob
variable {H:AB} {ob:xq} {s9:FuncId} {pid n i a b e lo:Nat} {tk:w8} {α β:Type}
theorem Dg.refl(H:AB):Dg pid H H:=λ_ _ _ h=>h
theorem Dg.set{H':AB}(h:Dg pid H H'):Dg pid H (hset H' pid ob):=λid o s6 x=>by
 rw[AA _ _ _ _ (Ne.symm s6)];exact h id o s6 x
theorem Dg.new{H':AB}(hf:AP H n)(hi:n<=i)(h:Dg pid H H'):Dg pid H (hset H' i ob):=λid o s6 x=>by
 have:=hf.lt x;rw[AA _ _ _ _ zo];exact h id o s6 x
section
variable {n pid:Nat} {H:AB}
theorem Bq(h:AP H n)(k:Nat):AD H (n+k)=none:=h _ zo
theorem S1(h:AP H n):AD H n=none:=h _ (rq _)
end
theorem natE3{c:Nat}:(a+b=a+c)=(b=c):=propext ⟨λh=>zo,λh=>zo⟩
structure Dc(α:Type) where
 enc:α->Fs
 dec:Fs->α
 ok:Fs->Prop
 wk:∀v,ok v->Wk v (enc (dec v))
def CE:Fs->Prop
 | .int .i64 _=>True
 |_=>False
theorem bU(v:Fs)(h:CE v):Wk v (eI (A9 v)):=by
 unfold CE at h;split at h
 ·exact Wk.refl _
 ·exact h.elim
def dI:Dc Int:=⟨eI,A9,CE,bU⟩
theorem qb(v:Fs)(h:JP v):Wk v (.str (GL v)):=by
 cases v<;>first|exact Wk.refl _|exact h.elim
def dS:Dc Bs:=⟨.str,GL,JP,qb⟩
def GN(e:Nat)(enc:α->Fs)(dec:Fs->α):Fs->Prop
 | .sl t L=>(t.esz=e\/L=[])/\L=(L.map dec).map enc
 |_=>False
def Ct(dec:Fs->α):Fs->List α
 | .sl _ L=>L.map dec
 |_=>[]
theorem Q6{enc:α->Fs}{dec:Fs->α}(v:Fs)(h:GN e enc dec v):Wk v (.sl (.none e) ((Ct dec v).map enc)):=by
 cases v<;>simp only[GN]at h<;>try exact h.elim
 simp only[Ct];rw[<-h.2];exact Wk.sl h.1
def I1:Dc (List Bs):=⟨FH,Ct GL,GN 1 .str GL,Q6⟩
def BA:Dc (List Int):=⟨Am,Ct A9,GN 1 eI A9,Q6⟩
def s1(A:Dc α)(c:α->Prop)(f:α->Fs):List Fs->AB->Prop×Fs:=λa _=>match a with
 |[x]=>(A.ok x/\c (A.dec x),f (A.dec x))
 |_=>(False,.tup [])
def s2(A:Dc α)(B:Dc β)(c:α->β->Prop)(f:α->β->Fs):List Fs->AB->Prop×Fs:=λa _=>match a with
 |[x,y]=>(A.ok x/\B.ok y/\c (A.dec x) (B.dec y),f (A.dec x) (B.dec y))
 |_=>(False,.tup [])
def s3{γ:Type}(A:Dc α)(B:Dc β)(C:Dc γ)(c:α->β->γ->Prop)(f:α->β->γ->Fs):List Fs->AB->Prop×Fs:=λa _=>match a with
 |[x,y,z]=>(A.ok x/\B.ok y/\C.ok z/\c (A.dec x) (B.dec y) (C.dec z),f (A.dec x) (B.dec y) (C.dec z))
 |_=>(False,.tup [])
theorem q1{A:Dc α}{c:α->Prop}{f:α->Fs}(h:∀x,c x->Aw prog s9 [A.enc x] (f x)):∀args H n,(s1 A c f args H).1->Ao prog s9 args H n (s1 A c f args H).2:=by
 intro args H n hh;unfold s1 at hh⊢;split at hh
 ·obtain⟨h1,h2⟩:=hh;refine AV.args ((h _ h2).quiet H n) ?_;rintro g vs ⟨v,r,rfl,k1,k2⟩;exact⟨v,_,rfl,A.wk _ h1 _ _ k1,k2⟩
 ·exact hh.elim
theorem q2{A:Dc α}{B:Dc β}{c:α->β->Prop}{f:α->β->Fs}(h:∀x y,c x y->Aw prog s9 [A.enc x,B.enc y] (f x y)):∀args H n,(s2 A B c f args H).1->Ao prog s9 args H n (s2 A B c f args H).2:=by
 intro args H n hh;unfold s2 at hh⊢;split at hh
 ·obtain⟨h1,h2,h3⟩:=hh;refine AV.args ((h _ _ h3).quiet H n) ?_;rintro g vs ⟨v,r,rfl,k1,w,r',rfl,k2,k3⟩;exact⟨v,_,rfl,A.wk _ h1 _ _ k1,w,_,rfl,B.wk _ h2 _ _ k2,k3⟩
 ·exact hh.elim
theorem q3{γ:Type}{A:Dc α}{B:Dc β}{C:Dc γ}{c:α->β->γ->Prop}{f:α->β->γ->Fs}(h:∀x y z,c x y z->Aw prog s9 [A.enc x,B.enc y,C.enc z] (f x y z)):∀args H n,(s3 A B C c f args H).1->Ao prog s9 args H n (s3 A B C c f args H).2:=by
 intro args H n hh;unfold s3 at hh⊢;split at hh
 ·obtain⟨h1,h2,h3,h4⟩:=hh;refine AV.args ((h _ _ _ h4).quiet H n) ?_;rintro g vs ⟨v,r,rfl,k1,w,r',rfl,k2,u,r'',rfl,k3,k4⟩;exact⟨v,_,rfl,A.wk _ h1 _ _ k1,w,_,rfl,B.wk _ h2 _ _ k2,u,_,rfl,C.wk _ h3 _ _ k3,k4⟩
 ·exact hh.elim
theorem Aw.all{P:Program}{f:FuncId}{args:List Fs}{r r':Fs}(h:Aw P f args r)(e:r=r'):Aw P f args r':=e▸h
abbrev KR(_:α):Prop:=True
abbrev bV(_:α)(_:β):Prop:=True
theorem S2{p:α->Bool}{l:List α}(h:i<l.length):(l.take (i+1)).all p=((l.take i).all p&&p l[i]):=by
 rw[sf,rc h,List.all_append];simp
theorem map_take{f:α->β}{l:List α}(h:i<l.length):(l.take (i+1)).map f=(l.take i).map f++[f l[i]]:=by
 rw[sf,rc h,rz];rfl
theorem AN(h:a<b):((a:Int)<(b:Int))=True:=ra zo
theorem Ad(h:¬a<b):((a:Int)<(b:Int))=False:=ri zo
theorem A6{x:Int}(h1: -9223372036854775808<=x)(h2:x<=9223372036854775807):IntKind.wrap .i64 x=x:=by rw[IntKind.wrap_i64];omega
theorem AK{k:Nat}(h:k<9000000000000000000):IntKind.wrap .i64 ((k:Int)+1)=((k+1:Nat):Int):=by rw[A6 zo zo];rfl
theorem c0:((0:Nat):Int)=0:=rfl
theorem c1:((1:Nat):Int)=1:=rfl
theorem qc:(((n+1:Nat):Int)=0)=False:=ri zo
theorem gX:((0:Int)<((n+1:Nat):Int))=True:=ra zo
theorem i00:((0:Int)<0)=False:=ri zd
theorem rW:((1:Int)<=((n+1:Nat):Int))=True:=ra zo
def DA(e lo:Nat)(H:AB)(tk:w8):Prop:=tk= .nil\/tk= .exact e\/∃id,tk= .own id e/\lo<=id/\AD H id=some .tok
theorem DA.app(h:DA e lo H tk):BH H e tk:=by
 rcases h with rfl|rfl|⟨id,rfl,h1,h2⟩
 ·trivial
 ·rfl
 ·exact⟨rfl,h2⟩
theorem DA.set(h:DA e lo H tk)(hi:i<lo\/(∃cs,AD H i=some (.box cs))\/AD H i=none):DA e lo (hset H i ob) tk:=by
 rcases h with rfl|rfl|⟨id,rfl,h1,h2⟩
 ·exact .inl rfl
 ·exact .inr (.inl rfl)
 ·refine .inr (.inr ⟨id,rfl,h1,?_⟩);rw[AA _ _ _ _ ?_]
  ·exact h2
  ·rintro rfl;rcases hi with q|⟨cs,q⟩|q
   ·omega
   ·rw[h2]at q;cases q
   ·rw[h2]at q;cases q
theorem Af(h:DA e lo H tk)(hi:i<lo\/∃cs,AD H i=some (.box cs)):AD (AU H tk) i=AD H i:=by
 rcases h with rfl|rfl|⟨id,rfl,h1,h2⟩
 ·rfl
 ·rfl
 ·simp only[AU];rw[AA _ _ _ _ ?_];rintro rfl;rcases hi with q|⟨cs,q⟩
  ·omega
  ·rw[h2]at q;cases q
theorem Ab(h:DA e lo H tk)(hf:AP H n):AP (AU H tk) n:=by
 rcases h with rfl|rfl|⟨id,rfl,h1,h2⟩
 ·exact hf
 ·exact hf
 ·exact hf.hset (rq _) (hf.lt h2)
theorem Py(h:DA e lo H tk)(hi:AD H i=none):AD (AU H tk) i=none:=by
 rcases h with rfl|rfl|⟨id,rfl,h1,h2⟩
 ·exact hi
 ·exact hi
 ·simp only[AU];rw[AA _ _ _ _ ?_]
  ·exact hi
  ·rintro rfl;rw[h2]at hi;cases hi
theorem DA.kill{e' lo':Nat}{tk':w8}(h:DA e lo H tk)(h':DA e' lo' H tk')(hd:∀i,tk= .own i e->tk'≠ .own i e'):DA e lo (AU H tk') tk:=by
 rcases h' with rfl|rfl|⟨j,rfl,h1,h2⟩
 ·exact h
 ·exact h
 ·rcases h with rfl|rfl|⟨id,rfl,h3,h4⟩
  ·exact .inl rfl
  ·exact .inr (.inl rfl)
  ·refine .inr (.inr ⟨id,rfl,h3,?_⟩);simp only[AU];rw[AA _ _ _ _ (λe=>hd id rfl (by rw[e]))];exact h4
abbrev An(l:List α):Prop:=l.length<1000000000
abbrev wide(l:List α):Prop:=l.length<1125899906842624
theorem Dz{l:List α}(h:An l):wide l:=by
 have:l.length<1000000000:=h;show l.length<_;omega
theorem DO{a b:List α}(hl:a.length=b.length)(h:∀j,j<a.length->a[j]?=b[j]?):a=b:=uR λj=>by
 rcases Nat.lt_or_ge j a.length with q|q
 ·exact h j q
 ·rw[uj q,uj zo]
theorem Gp(h:a≠b):((a:Int)=(b:Int))=False:=ri zo
theorem Gq(h:a=b):((a:Int)=(b:Int))=True:=ra zo
theorem Ac(h:n<=1000000000)(hb:b<=1000):Al n b:=by
 have:n*b<=1000000000*1000:=Nat.mul_le_mul h hb;unfold Al;omega
theorem DF{enc:α->Fs}{dec:Fs->α}(h:∀x,dec (enc x)=x)(l:List α):(l.map enc).map dec=l:=by
 rw[ui];exact(sY λx _=>h x).trans (vg _)
def dEx(enc:α->Fs)(dec:Fs->α):Dc α:=⟨enc,dec,λv=>v=enc (dec v),λv h=>h▸Wk.refl _⟩
noncomputable def same(a b:α):Bool:= @decide (a=b) (Classical.propDecidable _)
theorem IQ{a b:α}:same a b=true↔a=b:=by unfold same;exact @decide_eq_true_iff _ (Classical.propDecidable _)
theorem KS{a b:α}(h:a≠b):same a b=false:=by
 cases q:same a b with
 |false=>rfl
 |true=>exact absurd (IQ.1 q) h
theorem S3(a:α):same a a=true:=IQ.2 rfl
theorem gY{a b:α}{x:Bool}(h:x=true↔a=b):x=same a b:=by
 cases x with
 |true=>exact(IQ.2 (h.1 rfl)).symm
 |false=>exact(KS λe=>by have:=h.2 e;cases this).symm
theorem EG.mono{P:Program}{args:List Fs}{rv:Fs}{Rc Rc':AB->Nat->Prop}(h:EG P s9 args rv H n Rc)(hr:∀H' n',Rc H' n'->Rc' H' n'):EG P s9 args rv H n Rc':=
 λg w vs u hR hV hu=>CallsDIn.mono (h g w vs u hR hV hu) λe u' w' ⟨h1,h2,g',H',n',h3,h4⟩=>⟨h1,h2,g',H',n',hr _ _ h3,h4⟩
def eY:=A @Option.getD_none.{0}<|A @rZ.{0}<|A @Option.isSome_none.{0}<|A @Option.isSome_some.{0}<|A @c0<|A @c1<|A @i00<|A @Int.toNat_zero<|A @Int.toNat_one<|A @uC<|A @rr<|A @ry<|A @r9.{0,0}<|A @sb.{0,0}<|A @tG.{0}<| @tZ.{0}
end
end Go.AM
namespace Go.AM
open Go.Lib Go.Proofs Go.RowKit Go.Sort Go.Proofs.Tryz
def bW:List Fs->AB->Prop×Fs:=λa H=>match a with
 |[.str l,.int .u8 c]=>(0<=c/\c<256,.int .i64 (indexByte l (UInt8.ofNat c.toNat)))
 |_=>(False,.tup [])
def q145:∀args H n,(bW args H).1->Ao prog 145 args H n (bW args H).2:=by
 intro args H n h;unfold bW at h⊢;split at h
 ·rename_i l c;refine Aw.quiet ?_ H n;refine KN c145.l ⟨zt,zt,zt⟩ zt ?_;rintro g w vs hR ⟨v,r,rfl,k1,v2,r2,rfl,k2,k3⟩;have k1':v= .string ⟨l.toArray⟩:=k1;have k2':v2= .int .u8 c:=k2;have k3':r2=[]:=k3;subst k1';subst k2';subst k3';refine(strings_IndexByte ⟨l.toArray⟩ c w).mono ?_;rintro e w' ⟨rfl,rfl⟩;exact⟨⟨_,rfl,rfl⟩,Below.refl _ _⟩
 ·exact h.elim
def T1:Bc:=AG 145 bW tnil
def jf:AH prog T1:=AH.tnil.add q145
def ER(x:Int):Bool:=(decide (97<=x)&&decide (x<=122))||(decide (65<=x)&&decide (x<=90))
def Fj(x:Int):Bool:=decide (48<=x)&&decide (x<=57)
def Q7(x:Int):Bool:=decide (x=32)||decide (x=9)||decide (x=10)||decide (x=13)
abbrev sgnL:List UInt8:=[123,125,40,41,59,44,61,58,46,60,62,33,43,45,42,47]
def Nu(x:Int):Bool:=decide (0<=indexByte sgnL (UInt8.ofNat x.toNat))
def KU(x:Int):Int:=if ER x then 2 else if Fj x then 3 else if x=95 then 5 else if Q7 x then 1 else if Nu x then 4 else 0
def Gr(x:Int):Bool:=ER x||Fj x||decide (x=95)
def p148(x:Int):Aw prog 148 [.int .u8 x] (.bool (ER x)):=by
 refine .mk (by simp [unders,Fs.under]) zt (c148.a (AI AH.tnil (AJ ?_)));simp only[eE,eN,Lq,seval,c148];rfl
def p192(x:Int):Aw prog 192 [.int .u8 x] (.bool (Fj x)):=by
 refine .mk (by simp [unders,Fs.under]) zt (c192.a (AI AH.tnil (AJ ?_)));simp only[eE,eN,Lq,seval,c192];rfl
def p94(x:Int)(h0:0<=x)(h1:x<256):Aw prog 94 [.int .u8 x] (.int .i64 (KU x)):=by
 refine .mk (by simp [unders,Fs.under]) zt (c94.a (AI jf (AJ ?_)));simp only[eE,eN,IP,Lq,seval,c94,T1,bW,AG];refine⟨λh=>?_,λg1=>⟨λh=>?_,λg2=>⟨λh=>?_,λg3=>⟨λh=>?_,λg4=>⟨⟨h0,h1⟩,λh=>?_,λh=>?_⟩⟩⟩⟩⟩
 ·have:ER x=true:=by simp [ER];omega
  simp [KU,this]
 ·have k1:ER x=false:=by simp [ER];simp at g1;omega
  have:Fj x=true:=by simp [Fj];omega
  simp [KU,this,k1]
 ·have k1:ER x=false:=by simp [ER];simp at g1;omega
  have k2:Fj x=false:=by simp [Fj];simp at g2;omega
  simp only[KU,h,t8];subst h;rfl
 ·have k1:ER x=false:=by simp [ER];simp at g1;omega
  have k2:Fj x=false:=by simp [Fj];simp at g2;omega
  have:Q7 x=true:=by simp [Q7];omega
  simp [KU,g3,this,k1,k2]
 ·have k1:ER x=false:=by simp [ER];simp at g1;omega
  have k2:Fj x=false:=by simp [Fj];simp at g2;omega
  have k4:Q7 x=false:=by simp [Q7];omega
  have k5:Nu x=true:=by simpa [Nu]using h
  simp [KU,g3,k4,k5,k1,k2]
 ·have k1:ER x=false:=by simp [ER];simp at g1;omega
  have k2:Fj x=false:=by simp [Fj];simp at g2;omega
  have k4:Q7 x=false:=by simp [Q7];omega
  have k5:Nu x=false:=by simpa [Nu]using h
  simp [KU,g3,k4,k5,k1,k2]
def sB(f:Int->Fs):List Fs->AB->Prop×Fs:=λa H=>match a with
 |[.int .u8 x]=>(0<=x/\x<256,f x)
 |_=>(False,.tup [])
def qB{s9:FuncId}{f:Int->Fs}(h:∀x,0<=x->x<256->Aw prog s9 [.int .u8 x] (f x)):∀args H n,(sB f args H).1->Ao prog s9 args H n (sB f args H).2:=by
 intro args H n hh;unfold sB at hh⊢;split at hh
 ·exact(h _ hh.1 hh.2).quiet H n
 ·exact hh.elim
abbrev s94:=sB λx=>.int .i64 (KU x)
abbrev s148:=sB λx=>.bool (ER x)
abbrev s192:=sB λx=>.bool (Fj x)
def T2:Bc:=AG 94 s94 (AG 148 s148 (AG 192 s192 T1))
def jg:AH prog T2:=((jf.add (qB λx _ _=>p192 x)).add (qB λx _ _=>p148 x)).add (qB p94)
def p149(x:Int)(h0:0<=x)(h1:x<256):Aw prog 149 [.int .u8 x] (.bool (Gr x)):=by
 refine .mk (by simp [unders,Fs.under]) zt (c149.a (AI jg (AJ ?_)));simp only[eE,eN,Lq,seval,c149,T2,sB,h0,h1,AG];rfl
abbrev s149:=sB λx=>.bool (Gr x)
def gZ(b:UInt8):Bool:=ER b.toNat
def WB(b:UInt8):Bool:=Gr b.toNat
def WC(x:Int):KU x=2↔ER x=true:=by
 unfold KU;cases ER x<;>cases Fj x<;>cases Q7 x<;>cases Nu x<;>simp<;>split<;>simp
def S4(x:Int):(KU x=2\/KU x=3\/KU x=5)↔Gr x=true:=by
 unfold KU Gr;cases ER x<;>cases Fj x<;>cases Q7 x<;>cases Nu x<;>by_cases h:x=95<;>simp [h]
def WD(b:UInt8):(0:Int)<=b.toNat/\(b.toNat:Int)<256:=⟨zo,by have:=b.toNat_lt;omega⟩
def CF(s:List UInt8):Bool:=decide (1<=s.length)&&decide (s.length<=32)&&gZ (s[0]?.getD 0)&&s.all WB
def T3:Bc:=AG 149 s149 T2
def jh:AH prog T3:=jg.add (qB p149)
theorem ji(a:List Fs)(H:AB):T3 94 a H=s94 a H:=rfl
theorem qd(a:List Fs)(H:AB):T3 148 a H=s148 a H:=rfl
theorem qe(a:List Fs)(H:AB):T3 149 a H=s149 a H:=rfl
def S5{s:List UInt8}{i:Nat}(hi:i<s.length)(h:Gr ((s[i]).toNat:Int)=false):s.all WB=false:=by
 refine uv.2 λhh=>?_
 have:=sg.1 hh s[i] (rY hi);unfold WB at this;rw[h]at this;cases this
def S6{s:List UInt8}(h:∀j (hj:j<s.length),Gr ((s[j]).toNat:Int)=true):s.all WB=true:=by
 refine sg.2 λx hx=>?_
 obtain⟨j,hj,rfl⟩:=sH.1 hx;exact h j hj
def p99(s:List UInt8):Aw prog 99 [.str s] (.bool (CF s)):=by
 refine .mk (by simp [unders,Fs.under]) zt (c99.a (AI jh (AJ ?_)));simp only[eE,eN,IP,Lq,seval,c99,qd,sB,ry,WD];refine⟨zo,λh=>?_,λh=>?_⟩
 ·refine(uv.2 λhh=>?_).symm;simp only[CF,rl,rn]at hh;obtain⟨⟨⟨h1,h2⟩,h3⟩,-⟩:=hh;rcases h with(h|h)|h
  ·omega
  ·omega
  ·rw[gZ,h]at h3;cases h3
 refine AO (λi:Nat=>⟨[(0,true,.str s),(3,true,.int .i64 i)],Ai,0⟩)
  (λi=>i<=s.length/\∀j (hj:j<s.length),j<i->Gr ((s[j]).toNat:Int)=true) (λi=>s.length-i) 0 rfl ⟨zo,λj _ hj=>zo⟩ ?_
 rintro i ⟨hi,e9⟩;by_cases c9:i<s.length
 ·have e:=AK (k:=i) zo;simp only[eE,eN,IP,seval,qe,sB,WD,Int.ofNat_lt,c9,ry,rr,e,rc c9,rZ];refine⟨λhp=>?_,λhp=>.mk (i+1) rfl ⟨zo,λj hj hji=>?_⟩ zo⟩
  ·simp only[CF,S5 c9 hp,uP]
  ·by_cases q:j=i
   ·subst q;exact hp
   ·exact e9 j hj zo
 ·simp only[eE,eN,IP,seval,Int.ofNat_lt,c9];rw[CF,S6 λj hj=>e9 j hj zo];simp [gZ,h.2];omega
def bX(s:List UInt8):scmp .eql s []=decide (s.length=0):=by cases s<;>rfl
def p61(s:List UInt8):Aw prog 61 [.str s] (.bool (CF s)):=by
 refine .mk (by simp [unders,Fs.under]) zt (c61.a (AI jh (AJ ?_)));simp only[eE,eN,IP,Lq,seval,c61,ji,sB,WD,bX];refine⟨zo,λh=>?_,λh=>?_⟩
 ·refine(uv.2 λhh=>?_).symm;simp only[CF,rl,rn]at hh;obtain⟨⟨⟨h1,h2⟩,h3⟩,-⟩:=hh;rcases h with(h|h)|h
  ·omega
  ·omega
  ·rw[WC]at h;exact h h3
 refine AO (λi:Nat=>⟨[(0,true,.str s),(19,true,.int .i64 s.length),(20,true,.int .i64 i)],Ai,0⟩)
  (λi=>i<=s.length/\∀j (hj:j<s.length),j<i->Gr ((s[j]).toNat:Int)=true) (λi=>s.length-i) 0 rfl ⟨zo,λj _ hj=>zo⟩ ?_
 rintro i ⟨hi,e9⟩;by_cases c9:i<s.length
 ·have e:=AK (k:=i) zo;simp only[eE,eN,IP,Lq,seval,ji,sB,WD,Int.ofNat_lt,c9,ry,rr,e,rc c9,rZ];refine⟨λhp=>?_,λhp=>.mk (i+1) rfl ⟨zo,λj hj hji=>?_⟩ zo⟩
  ·have:Gr ((s[i]).toNat:Int)=false:=uv.2 λhh=>by rw[<-S4]at hh;simp [hp]at hh
   simp only[CF,S5 c9 this,uP]
  ·by_cases q:j=i
   ·subst q;rw[<-S4];simp at hp;omega
   ·exact e9 j hj zo
 ·simp only[eE,eN,IP,Lq,seval,Int.ofNat_lt,c9];rw[CF,S6 λj hj=>e9 j hj zo];have h3:=h.2;rw[WC]at h3;simp [gZ,h3];omega
structure Cnd where
 k:Int
 cs:List Int
 ls:List Int
 n:Int
structure Prm where
 c:Int
 ls:List Int
structure zy where
 nm:Bs
 lv:Int
 cs:List Bs
 ls:List Bs
 qs:List Cnd
 ps:List Prm
 c:Int
 l:Int
def Nv(l:List Bs)(s:Bs):Int:=match l.findIdx? (λx=>decide (x=s))with
 |some k=>k
 |none=>-1
def Bj{α:Type}[DecidableEq α]:List α->Bool
 |[]=>true
 |x::r=>!(r.any λy=>decide (y=x))&&Bj r
def Cp(l:List Bs)(most:Nat):Bool:=l.all CF&&Bj l&&decide (1<=l.length)&&decide (l.length<=most)
def CG(l:List Int)(n:Nat):Bool:=(l.all λk=>decide (0<=k)&&decide (k<n))&&Bj l
def CH(q:Cnd)(nc nl:Nat):Bool:=CG q.cs nc&&decide (1<=q.cs.length)&&CG q.ls nl&&
 (if q.k=1\/q.k=4 then decide (2<=q.cs.length)&&decide (q.ls.length=0)&&decide (q.n=0)
  else if q.k=2 then decide (q.ls.length=1)&&decide (q.n=0)
  else if q.k=3 then decide (q.cs.length=2)&&decide (q.ls.length=0)&&decide (1<=q.n)&&decide (q.n<=99)
  else if q.k=5 then decide (q.cs.length=2)&&decide (q.ls.length=0)&&decide (q.n=0)
  else if q.k=6 then decide (1<=q.ls.length)&&decide (0<=q.n)&&decide (q.n<=q.cs.length)
  else false)
def FQ(x:zy):Bool:=CF x.nm&&decide (1<=x.lv)&&decide (x.lv<=8)&&Cp x.cs 4&&Cp x.ls 3&&decide (x.qs.length<=6)&&
 CG [x.c] x.cs.length&&CG [x.l] x.ls.length&&(x.qs.all λq=>CH q x.cs.length x.ls.length)&&
 (x.ps.all λp=>CG p.ls x.ls.length&&decide (1<=p.ls.length))&&CG (x.ps.map (·.c)) x.cs.length
structure OKL(x:zy):Prop where
 nm:CF x.nm=true
 lv:1<=x.lv/\x.lv<=8
 cs:x.cs.all CF=true/\Bj x.cs=true/\1<=x.cs.length/\x.cs.length<=4
 ls:x.ls.all CF=true/\Bj x.ls=true/\1<=x.ls.length/\x.ls.length<=3
 nq:x.qs.length<=6
 c:0<=x.c/\x.c<x.cs.length
 l:0<=x.l/\x.l<x.ls.length
 qs:∀q∈x.qs,CH q x.cs.length x.ls.length=true
 ps:∀p∈x.ps,CG p.ls x.ls.length=true/\1<=p.ls.length
 pc:CG (x.ps.map (·.c)) x.cs.length=true
def Q8(x:zy):FQ x=true↔OKL x:=by
 unfold FQ Cp;simp only[rl,rn,sg (p:=λq=>CH q x.cs.length x.ls.length),sg (p:=λp:Prm=>CG p.ls x.ls.length&&decide (1<=p.ls.length))];constructor
 ·rintro⟨⟨⟨⟨⟨⟨⟨⟨⟨⟨h1,h2⟩,h3⟩,⟨⟨⟨c1,c2⟩,c3⟩,c4⟩⟩,⟨⟨⟨l1,l2⟩,l3⟩,l4⟩⟩,h6⟩,h7⟩,h8⟩,h9⟩,h10⟩,h11⟩;refine⟨h1,⟨h2,h3⟩,⟨c1,c2,c3,c4⟩,⟨l1,l2,l3,l4⟩,h6,?_,?_,h9,λp hp=>h10 p hp,h11⟩
  ·simp [CG]at h7;exact h7.1
  ·simp [CG]at h8;exact h8.1
 ·rintro⟨h1,⟨h2,h3⟩,⟨c1,c2,c3,c4⟩,⟨l1,l2,l3,l4⟩,h6,h7,h8,h9,h10,h11⟩;exact⟨⟨⟨⟨⟨⟨⟨⟨⟨⟨h1,h2⟩,h3⟩,⟨⟨⟨c1,c2⟩,c3⟩,c4⟩⟩,⟨⟨⟨l1,l2⟩,l3⟩,l4⟩⟩,h6⟩,by simp [CG,Bj,h7.1,h7.2]⟩,by simp [CG,Bj,h8.1,h8.2]⟩,h9⟩,λp hp=>h10 p hp⟩,h11⟩
def HM{l:List Int}{n:Nat}(h:CG l n=true):(l.all λk=>decide (0<=k)&&decide (k<n))=true:=by
 unfold CG at h;rw[rl]at h;exact h.1
structure CndOK(q:Cnd)(nc nl:Nat):Prop where
 cs:CG q.cs nc=true
 ne:1<=q.cs.length
 ls:CG q.ls nl=true
 kind:((q.k=1\/q.k=4)/\2<=q.cs.length/\q.ls.length=0/\q.n=0)\/(q.k=2/\q.ls.length=1/\q.n=0)\/(q.k=3/\q.cs.length=2/\q.ls.length=0/\1<=q.n/\q.n<=99)\/(q.k=5/\q.cs.length=2/\q.ls.length=0/\q.n=0)\/(q.k=6/\1<=q.ls.length/\0<=q.n/\q.n<=q.cs.length)
def Ui{q:Cnd}{nc nl:Nat}(h:CH q nc nl=true):CndOK q nc nl:=by
 unfold CH at h;simp only[rl,rn]at h;obtain⟨⟨⟨h1,h2⟩,h3⟩,h4⟩:=h;refine⟨h1,h2,h3,?_⟩;split at h4
 ·rename_i hk;simp only[rl,rn]at h4;exact .inl ⟨hk,h4.1.1,h4.1.2,h4.2⟩
 split at h4
 ·rename_i hk;simp only[rl,rn]at h4;exact .inr (.inl ⟨hk,h4.1,h4.2⟩)
 split at h4
 ·rename_i hk;simp only[rl,rn]at h4;exact .inr (.inr (.inl ⟨hk,h4.1.1.1,h4.1.1.2,h4.1.2,h4.2⟩))
 split at h4
 ·rename_i hk;simp only[rl,rn]at h4;exact .inr (.inr (.inr (.inl ⟨hk,h4.1.1,h4.1.2,h4.2⟩)))
 split at h4
 ·rename_i hk;simp only[rl,rn]at h4;exact .inr (.inr (.inr (.inr ⟨hk,h4.1.1,h4.1.2,h4.2⟩)))
 ·cases h4
structure xv where
 nm:List UInt8
 v:Int
 deriving DecidableEq
structure xj where
 nm:List UInt8
 ls:List (List Int)
 deriving DecidableEq
structure x8 where
 nm:List UInt8
 on:List UInt8
 fam:Int
 ty:Int
 lo:Int
 hi:Int
 deriving DecidableEq
structure zj where
 nm:List UInt8
 on:List UInt8
 kind:Int
 fam:Int
 ns:List (List UInt8)
 os:List (List UInt8)
 set:Int
 oth:Int
 op:Int
 n:Int
 byN:List UInt8
 clue:Int
 deriving DecidableEq
structure xk where
 nm:List UInt8
 ver:Int
 sh:Int
 w:Int
 h:Int
 holes:List Int
 syms:List xv
 regs:List xj
 clus:List x8
 ruls:List zj
 deriving DecidableEq
def CW:List (List UInt8):=[[99,101,108,108,115],[114,111,119,115],[99,111,108,117,109,110,115],[100,105,97,103,111,110,97,108,115],[97,114,111,117,110,100],[110,101,97,114],[112,97,105,114,115],[97,108,108]]
def Ap{α:Type}[DecidableEq α]:List α->Bool
 |[]=>false
 |x::r=>(r.any λy=>decide (y=x))||Ap r
def By(d:xk):List (List UInt8):=CW++d.regs.map (·.nm)
def BY(l:List (List UInt8))(s:List UInt8):Option Int:=(l.findIdx? λx=>decide (x=s)).map λ(i:Nat)=>(i:Int)
def Cy(l:List (List UInt8)):List (List UInt8)->Option Int
 |[]=>some 0
 |s::r=>match l.findIdx? (λx=>decide (x=s)),Cy l r with
  |some i,some n=>some (Int.ofNat (Nat.lor (1<<<i) n.toNat))
  |_,_=>none
def CI(d:xk)(c:x8):Option x8:=(BY (By d) c.on).map λf=>{c with fam:=f}
def Bf(d:xk)(r:zj):Option zj:=
 match (if r.on=[]then some 0 else BY (By d) r.on),Cy (d.syms.map (·.nm)) r.ns,Cy (d.syms.map (·.nm)) r.os,(if r.byN=[]then some (-1)else BY (d.clus.map (·.nm)) r.byN)with
 |some f,some a,some b,some c=>some {r with fam:=f,set:=a,oth:=b,clue:=c}
 |_,_,_,_=>none
def Aq{α β:Type}(f:α->Option β):List α->Option (List β)
 |[]=>some []
 |x::r=>match f x,Aq f r with
  |some y,some s=>some (y::s)
  |_,_=>none
def CJ(d:xk):Except Int xk:=
 if 16<d.syms.length then .error 2 else if Ap (d.syms.map (·.nm))then .error 161 else if Ap (By d)then .error 161 else if Ap (d.clus.map (·.nm))then .error 161
 else match Aq (CI d) d.clus with
  |none=>.error 160
  |some cs=>if Ap (d.ruls.map (·.nm))then .error 161 else match Aq (Bf d) d.ruls with
   |none=>.error 160
   |some rs=>.ok {d with clus:=cs,ruls:=rs}
def Cq:Int->List Int->Bool
 |_,[]=>true
 |a,x::r=>decide (a<x)&&Cq x r
def Av(sh w h:Int)(holes:List Int):Option (List Int):=
 if(sh=1\/sh=2)/\1<=w/\w<=16/\1<=h/\h<=16/\(holes.length:Int)<w*h/\Cq (-1) holes=true/\(holes.all λp=>decide (p<w*h))=true then
  some (((List.range (w*h).toNat).map λ(i:Nat)=>(i:Int)).filter λp=>!holes.contains p)
 else none
def Eh(cells l:List Int):Bool:=(l.all λp=>cells.contains p)&& !Ap l&&decide (1<=l.length)
def Dh(a b:List Int):Bool:=(a.all λx=>b.contains x)&&b.all λx=>a.contains x
def Cv:List (List Int)->Bool
 |[]=>false
 |x::r=>(r.any λy=>Dh y x)||Cv r
def LM(cells:List Int)(r:xj):Int:=if(decide (r.ls.length<=64)&&r.ls.all (Eh cells))=false then 130 else if Cv r.ls=true then 161 else 0
def DV(cells:List Int):List xj->Int
 |[]=>0
 |r::s=>if LM cells r=0 then DV cells s else LM cells r
def D0(c:x8):Bool:=
 if c.ty=1 then decide (c.fam=0)&&decide (c.lo=0)&&decide (c.hi=0)
 else if c.ty=2 then decide (0<=c.lo)&&decide (c.lo<=c.hi)&&decide (c.hi<=65536)
 else if c.ty=3 then(decide (1<=c.fam)&&decide (c.fam<=3)||decide (8<=c.fam))&&decide (c.lo=0)&&decide (c.hi=0)
 else false
structure FormD where
 on:Bool:=false
 set:Bool:=false
 oth:Bool:=false
 bnd:Bool:=false
 num:Bool:=false
 rdb:Bool:=false
 knw:Bool:=false
 clue:Int:=0
def DQ(k:Int):FormD:=
 if k=1 then{on:=true,rdb:=true,knw:=true}else if k=2 then{on:=true,set:=true,bnd:=true,rdb:=true,knw:=true}
 else if k=3 then{on:=true,bnd:=true,rdb:=true,knw:=true}else if k=4 then{on:=true,rdb:=true,knw:=true}
 else if k=5 then{on:=true,set:=true,rdb:=true,knw:=true,clue:=3}else if k=6 then{rdb:=true,knw:=true}
 else if k=7 then{num:=true,rdb:=true,knw:=true}else if k=8 then{set:=true,oth:=true,rdb:=true,knw:=true}
 else if k=9 then{set:=true,rdb:=true,knw:=true}else if k=10 then{set:=true,rdb:=true,knw:=true}
 else if k=11 then{rdb:=true,knw:=true,clue:=1}else if k=12 then{on:=true,knw:=true}else if k=13 then{bnd:=true,knw:=true}else{}
def MR(cl:List x8)(r:zj)(w:Int):Bool:=if r.clue<0\/(cl.length:Int)<=r.clue then false else match cl[r.clue.toNat]? with
 |some c=>decide (c.ty=w)&&(decide (w=1)||decide (c.fam=r.fam))
 |none=>false
def FT(cl:List x8)(r:zj):Bool:=
 let f:=DQ r.kind
 if f.knw=false then false
 else if(f.on !=decide (r.on≠[]))||(f.set !=decide (r.set≠0))||(f.oth !=decide (r.oth≠0))||(!f.on&&decide (r.fam≠0))||(!f.set&&decide (0<r.ns.length))||(!f.oth&&decide (0<r.os.length))then false
 else if(f.bnd !=(decide (1<=r.op)&&decide (r.op<=3)))||(!f.bnd&&decide (r.op≠0))||decide (r.n<0)||decide (65536<r.n)then false
 else if !(f.num||f.bnd&&decide (r.byN=[]))&&decide (r.n≠0)then false
 else
  let want:=if f.bnd&&decide (r.byN≠[])then 2 else f.clue
  if want=0 then decide (r.byN=[])&&decide (r.clue= -1)else MR cl r want
def Ei(rs:List zj)(i:Nat):Nat:=(rs.filter λr=>decide (r.clue=(i:Int))).length
def B9(d:xk):Bool:=(d.syms.all λs=>decide (0<=s.v)&&decide (s.v<=99))&&d.ruls.all (FT d.clus)&&((List.range d.clus.length).all λi=>decide (Ei d.ruls i=1))&&d.clus.all D0
def IR(r:zj):Bool:=decide (1<=r.kind)&&decide (r.kind<=11)
def B0(rs:List zj):List Int:=((List.range rs.length).filter λi=>match rs[i]? with|some r=>!IR r|none=>false).map λ(i:Nat)=>(i:Int)
def KV(d:xk):Bool:=decide (0<d.syms.length)&&decide (d.syms.length<=16)&&decide (d.regs.length<=4)&&decide (d.clus.length<=4)&&decide (d.ruls.length<=16)
def D2(d:xk):Int:=
 if KV d=false then 2 else match CJ d with
  | .error e=>e
  | .ok x=>if x≠d then 170 else if d.ver<1\/255<d.ver then 170 else match Av d.sh d.w d.h d.holes with
   |none=>130
   |some cells=>if DV cells d.regs≠0 then DV cells d.regs else if B9 d=false then 170 else if B0 d.ruls≠[]then 171 else 0
abbrev Fk(x y:Int):Bool:=decide (x<=y)
theorem DB{α:Type}[DecidableEq α]:∀{l:List α},Ap l=false↔l.Nodup
 |[]=>by simp [Ap]
 |x::r=>by
  have ih:=DB (l:=r);simp only[Ap,tv,uT,rn,ul,ih];constructor
  ·exact λ⟨h1,h2⟩=>⟨λhx=>h1 x hx rfl,h2⟩
  ·exact λ⟨h1,h2⟩=>⟨λy hy e=>h1 (e▸hy),h2⟩
def Xn{a b:List Int}:Dh a b=true↔∀x,x∈a↔x∈b:=by
 unfold Dh;simp only[rl,sg,sN];exact⟨λ⟨h1,h2⟩ x=>⟨h1 x,h2 x⟩,λh=>⟨λx hx=>(h x).1 hx,λx hx=>(h x).2 hx⟩⟩
def IS(l:List Int):List.Pairwise (λx y=>x<=y) (l.mergeSort Fk):=by
 have:=List.pairwise_mergeSort (le:=Fk) (λa b c h1 h2=>by simp only[Fk,rn]at*;omega) (λa b=>by simp only[Fk,sA,rn];omega) l;exact this.imp λh=>by simpa using h
def Nw{a b:List Int}(ha:a.Nodup)(hb:b.Nodup):Dh a b=decide (a.mergeSort Fk=b.mergeSort Fk):=by
 rw[su,Xn,rn,<-vA ha hb];constructor
 ·intro h;have p:(a.mergeSort Fk).Perm (b.mergeSort Fk):=(uy a Fk).trans (h.trans (uy b Fk).symm);exact p.eq_of_pairwise (le:=λx y:Int=>x<=y) (λx y _ _ h1 h2=>zo) (IS a) (IS b)
 ·intro h;exact(uy a Fk).symm.trans (h▸uy b Fk)
def DW(cl:List x8)(r:zj)(kind:Int)(on:Bool):Bool:=
 if r.clue<0\/(cl.length:Int)<=r.clue then false else match cl[r.clue.toNat]? with
  |some c=>decide (c.ty=kind)&&(!on||decide (c.fam=r.fam))
  |none=>false
def FZ(cl:List x8)(r:zj):Bool:=
 if r.op<1\/3<r.op then false else if r.byN=[]then decide (0<=r.n)&&decide (r.n<=65536)&&decide (r.clue= -1)else decide (r.n=0)&&DW cl r 2 true
def LN(cl:List x8)(r:zj):Bool:=
 let f:=DQ r.kind
 let by':=decide (f.clue≠0)
 if f.knw=false then false
 else if(!f.on&&(decide (r.on≠[])||decide (r.fam≠0)))||(!f.set&&(decide (0<r.ns.length)||decide (r.set≠0)))||(!f.oth&&(decide (0<r.os.length)||decide (r.oth≠0)))then false
 else if(f.on&&decide (r.on=[]))||(f.set&&decide (r.set=0))||(f.oth&&decide (r.oth=0))then false
 else if !f.bnd&&(decide (r.op≠0)||(!f.num&&decide (r.n≠0))||(!by'&&(decide (r.byN≠[])||decide (r.clue≠ -1))))then false
 else if(f.bnd&& !FZ cl r)||(f.num&&(decide (r.n<0)||decide (65536<r.n)))then false
 else if r.kind=5 then DW cl r 3 true
 else if r.kind=11 then DW cl r 1 false else true
def Uj(k:Int):(DQ k).knw=false\/((k=5/\(DQ k).clue=3/\(DQ k).bnd=false/\(DQ k).num=false)\/(k=11/\(DQ k).clue=1/\(DQ k).bnd=false/\(DQ k).num=false)\/(k≠5/\k≠11/\(DQ k).clue=0/\((DQ k).bnd=true->(DQ k).num=false))):=by
 by_cases h:1<=k/\k<=13
 ·have:k=1\/k=2\/k=3\/k=4\/k=5\/k=6\/k=7\/k=8\/k=9\/k=10\/k=11\/k=12\/k=13:=zo
  rcases this with rfl|rfl|rfl|rfl|rfl|rfl|rfl|rfl|rfl|rfl|rfl|rfl|rfl<;>decide
 ·left;unfold DQ;repeat rw[rj zo]
def bY(cl:List x8)(r:zj)(w:Int):MR cl r w=DW cl r w (!decide (w=1)):=by
 unfold DW MR;split
 ·rfl
 ·cases cl[r.clue.toNat]?<;>simp
def bA:∀(on set oth o s t f n m:Bool),((on !=o)||(set !=s)||(oth !=t)||(!on&&f)||(!set&&n)||(!oth&&m))=
  (((!on&&(o||f))||(!set&&(n||s))||(!oth&&(m||t)))||((on&& !o)||(set&& !s)||(oth&& !t))):=zd
def bB:∀(bnd num p q lo hi nn b0 cm c2:Bool),(!p||q)=true->(!lo||nn)=true->(!hi||nn)=true->(!bnd|| !num)=true->
  (if((bnd !=p)||(!bnd&&q)||lo||hi)=true then false else if(!(num||bnd&&b0)&&nn)=true then false else if(bnd&& !b0)=true then c2 else b0&&cm)=
  (if(!bnd&&(q||(!num&&nn)||(!b0|| !cm)))=true then false else if((bnd&& !(if p=false then false else if b0=true then !lo&& !hi&&cm else !nn&&c2))||(num&&(lo||hi)))=true then false else true):=zd
def bC:∀(p q lo hi nn c3:Bool),(!p||q)=true->(!lo||nn)=true->(!hi||nn)=true->
  (if((false !=p)||q||lo||hi)=true then false else if nn=true then false else c3)=(if(q||nn)=true then false else c3):=zd
def nd{α:Prop}[Decidable α]:decide α= !decide (¬α):=by by_cases h:α<;>simp [h]
def gb(cl:List x8)(r:zj):FT cl r=LN cl r:=by
 unfold FT LN;simp only[];rcases Uj r.kind with hk|hk
 ·rw[rt hk,rt hk]
 by_cases hkw:(DQ r.kind).knw=false
 ·rw[rt hkw,rt hkw]
 rw[rj hkw,rj hkw,bY,bA];generalize hf:DQ r.kind=f at hk hkw;rw[nd (α:=r.on=[]),nd (α:=r.set=0),nd (α:=r.oth=0)];generalize hA1:(!f.on&&(decide (r.on≠[])||decide (r.fam≠0))|| !f.set&&(decide (0<r.ns.length)||decide (r.set≠0))|| !f.oth&&(decide (0<r.os.length)||decide (r.oth≠0)))=A1;generalize hA2:(f.on&& !decide (¬r.on=[])||f.set&& !decide (¬r.set=0)||f.oth&& !decide (¬r.oth=0))=A2;cases A1;case true=>simp
 cases A2;case true=>simp
 simp only[vv,sr,sG];have i1:(!(decide (1<=r.op)&&decide (r.op<=3))||decide (r.op≠0))=true:=by by_cases h:r.op=0<;>simp [h]
 have i2:(!decide (r.n<0)||decide (r.n≠0))=true:=by by_cases h:r.n=0<;>simp [h]
 have i3:(!decide (65536<r.n)||decide (r.n≠0))=true:=by by_cases h:r.n=0<;>simp [h]
 have n1:decide (r.byN≠[])= !decide (r.byN=[]):=by by_cases h:r.byN=[]<;>simp [h]
 have n2:decide (r.clue≠ -1)= !decide (r.clue= -1):=by by_cases h:r.clue= -1<;>simp [h]
 have n3:decide (r.n=0)= !decide (r.n≠0):=by by_cases h:r.n=0<;>simp [h]
 have n4:decide (0<=r.n)= !decide (r.n<0):=by by_cases h:r.n<0<;>simp [h]<;>omega
 have n5:decide (r.n<=65536)= !decide (65536<r.n):=by by_cases h:65536<r.n<;>simp [h]<;>omega
 have n6:(if r.op<1\/3<r.op then false else if r.byN=[]then decide (0<=r.n)&&decide (r.n<=65536)&&decide (r.clue= -1)else decide (r.n=0)&&DW cl r 2 true)=
   (if(decide (1<=r.op)&&decide (r.op<=3))=false then false else if decide (r.byN=[])=true then !decide (r.n<0)&& !decide (65536<r.n)&&decide (r.clue= -1)else !decide (r.n≠0)&&DW cl r 2 true):=by
  rw[n3,n4,n5];by_cases h:r.op<1\/3<r.op
  ·have hp:(decide (1<=r.op)&&decide (r.op<=3))=false:=by rcases h with h|h<;>simp<;>omega
   rw[rt h,hp];rfl
  ·have hp:(decide (1<=r.op)&&decide (r.op<=3))=true:=by simp;omega
   rw[rj h,hp];by_cases hb:r.byN=[]
   ·rw[rt hb,rj zd,rt (by simp [hb])]
   ·rw[rj hb,rj zd,rj (by simp [hb])]
 rw[n1,n2];unfold FZ;rw[n6];have me:decide (r.n≠0)=decide (r.n≠0):=rfl;generalize (decide (1<=r.op)&&decide (r.op<=3))=p at i1⊢;generalize decide (r.op≠0)=q at i1⊢;generalize decide (r.n≠0)=nn at i2 i3⊢;generalize decide (r.n<0)=lo at i2⊢;generalize decide (65536<r.n)=hi at i3⊢;generalize decide (r.byN=[])=b0;generalize decide (r.clue= -1)=cm;obtain⟨on,set,oth,bnd,num,rdb,knw,clue⟩:=f;simp only at hk⊢;rcases hk with⟨h1,rfl,rfl,rfl⟩|⟨h1,rfl,rfl,rfl⟩|⟨h1,h2,rfl,h3⟩
 ·have:=bC p q lo hi nn (DW cl r 3 true) i1 i2 i3;simpa [h1]using this
 ·have:=bC p q lo hi nn (DW cl r 1 false) i1 i2 i3;simpa [h1]using this
 ·have:=bB bnd num p q lo hi nn b0 cm (DW cl r 2 true) i1 i2 i3 (by cases bnd<;>cases num<;>simp_all);rw[rj h1,rj h2];cases bnd<;>cases b0<;>first|simpa using this|simp
section
theorem Ej{α:Type}{f:α->Option α}:∀{l:List α},Aq f l=some l↔∀x∈l,f x=some x
 |[]=>by simp [Aq]
 |x::r=>by
  have ih:=Ej (f:=f) (l:=r);simp only[Aq,sP,vu,<-ih];cases h1:f x with
  |none=>simp
  |some y=>
   cases h2:Aq f r with
   |none=>simp
   |some s=>simp
structure ResOK(d:xk):Prop where
 n16:d.syms.length<=16
 ts:Ap (d.syms.map (·.nm))=false
 tf:Ap (By d)=false
 tc:Ap (d.clus.map (·.nm))=false
 tr:Ap (d.ruls.map (·.nm))=false
 cl:∀c∈d.clus,CI d c=some c
 ru:∀r∈d.ruls,Bf d r=some r
variable {d:xk}
theorem Pz:CJ d= .ok d↔ResOK d:=by
 constructor
 ·intro h;unfold CJ at h;split at h
  ·cases h
  split at h
  ·cases h
  split at h
  ·cases h
  split at h
  ·cases h
  rename_i h1 h2 h3 h4;cases hc:Aq (CI d) d.clus with
  |none=>rw[hc]at h;cases h
  |some cs=>
   rw[hc]at h;simp only at h;split at h
   ·cases h
   rename_i h5;cases hr:Aq (Bf d) d.ruls with
   |none=>rw[hr]at h;cases h
   |some rs=>
    rw[hr]at h;simp only[Except.ok.injEq]at h;have e1:cs=d.clus:=congrArg xk.clus h;have e2:rs=d.ruls:=congrArg xk.ruls h;subst e1;subst e2;exact⟨zo,by simpa using h2,by simpa using h3,by simpa using h4,by simpa using h5,Ej.1 hc,Ej.1 hr⟩
 ·intro h;unfold CJ;rw[rj (by have:=h.n16;omega),h.ts,h.tf,h.tc,Ej.2 h.cl];simp only[sr,sG];rw[h.tr,Ej.2 h.ru];rfl
structure DclOK(d:xk):Prop where
 lim:KV d=true
 res:ResOK d
 ver:1<=d.ver/\d.ver<=255
 reg:∃cells,Av d.sh d.w d.h d.holes=some cells/\DV cells d.regs=0
 form:B9 d=true
theorem gc(h:DclOK d):D2 d=if B0 d.ruls≠[]then 171 else 0:=by
 obtain⟨cells,h1,h2⟩:=h.reg;unfold D2;rw[h.lim,Pz.2 h.res];simp only[vD,sG,ne_eq,ux];rw[rj (by have:=h.ver;omega),h1];simp only[h2,h.form,ux,sG,vD]
theorem bZ:D2 d=0↔DclOK d/\B0 d.ruls=[]:=by
 constructor
 ·intro h;unfold D2 at h;split at h
  ·cases h
  rename_i h1;cases hr:CJ d with
  |error e=>
   rw[hr]at h;simp only at h;unfold CJ at hr;subst h;split at hr
   ·cases hr
   split at hr
   ·cases hr
   split at hr
   ·cases hr
   split at hr
   ·cases hr
   split at hr
   ·cases hr
   split at hr
   ·cases hr
   split at hr<;>cases hr
  |ok x=>
   rw[hr]at h;simp only at h;split at h
   ·cases h
   rename_i h2;have h2:x=d:=by simpa using h2
   subst h2;split at h
   ·cases h
   rename_i h3;cases hc:Av x.sh x.w x.h x.holes with
   |none=>rw[hc]at h;cases h
   |some cells=>
    rw[hc]at h;simp only at h;split at h
    ·rename_i h4;exact absurd h h4
    rename_i h4;split at h
    ·cases h
    rename_i h5;split at h
    ·cases h
    rename_i h6;exact⟨⟨by simpa using h1,Pz.1 hr,zo,⟨cells,hc,by simpa using h4⟩,by simpa using h5⟩,by simpa using h6⟩
 ·rintro⟨h1,h2⟩;rw[gc h1,rj (by rw[h2];exact λh=>h rfl)]
theorem S7{x:xk}(h:CJ d= .ok x):x.nm=d.nm/\x.ver=d.ver/\x.sh=d.sh/\x.w=d.w/\x.h=d.h/\x.holes=d.holes/\x.syms=d.syms/\x.regs=d.regs:=by
 unfold CJ at h;split at h
 ·cases h
 split at h
 ·cases h
 split at h
 ·cases h
 split at h
 ·cases h
 split at h
 ·cases h
 split at h
 ·cases h
 split at h
 ·cases h
 ·cases h;exact⟨rfl,rfl,rfl,rfl,rfl,rfl,rfl,rfl⟩
end
def Uk(rs:List zj)(r:zj):B0 (rs++[r])=B0 rs++(if IR r=true then[]else[(rs.length:Int)]):=by
 unfold B0;rw[sm,List.length_singleton,tJ,tD,rz];congr 1
 ·congr 1;apply List.filter_congr;intro i hi;have:=t9.1 hi;rw[tu this]
 ·rw[tI,tx (rq _),Nat.sub_self];simp only[tG,uA];by_cases h:IR r=true
  ·simp [h]
  ·simp [show IR r=false by simpa using h]
def Xo{α:Type}[DecidableEq α]{l:List α}{x:α}:Ap (l++[x])=false↔Ap l=false/\x∉l:=by
 rw[DB,DB,ug];simp only[ul,uE,uV,vH,and_self,tL,sZ];constructor
 ·exact λ⟨h1,h2⟩=>⟨h1,λhx=>h2 x hx x rfl rfl⟩
 ·exact λ⟨h1,h2⟩=>⟨h1,λa ha b hb e=>h2 (by rw[<-hb,<-e];exact ha)⟩
def P0{l:List (List UInt8)}{s:List UInt8}{n:Int}(h:BY l s=some n):0<=n/\n<l.length:=by
 unfold BY at h;rw[tO]at h;obtain⟨i,h1,rfl⟩:=h;have:=sM.1 h1;obtain⟨hi,-⟩:=this;omega
structure SmallD(d:xk):Prop where
 top:d.nm.length+d.holes.length+d.syms.length+d.regs.length+d.clus.length+d.ruls.length<2000
 sy:∀s∈d.syms,s.nm.length<2000
 rg:∀r∈d.regs,r.nm.length+r.ls.length<2000/\∀l∈r.ls,l.length<2000
 cl:∀c∈d.clus,c.nm.length+c.on.length<2000
 ru:∀r∈d.ruls,r.nm.length+r.on.length+r.byN.length+r.ns.length+r.os.length<2000/\(∀s∈r.ns,s.length<2000)/\∀s∈r.os,s.length<2000
theorem HN:∀{a:Int} {l:List Int},Cq a l=true↔(∀x∈l,a<x)/\List.Pairwise (λx y=>x<y) l
 |a,[]=>by simp [Cq]
 |a,x::r=>by
  have ih:=HN (a:=x) (l:=r);simp only[Cq,rl,rn,ih,sP,vu,uz];constructor
  ·exact λ⟨h1,h2,h3⟩=>⟨⟨h1,λy hy=>by have:=h2 y hy;omega⟩,h2,h3⟩
  ·exact λ⟨⟨h1,h2⟩,h3,h4⟩=>⟨h1,h3,h4⟩
def CX(n:Int):List Int:=(List.range n.toNat).map λ(i:Nat)=>(i:Int)
def Q9{n x:Int}:x∈CX n↔0<=x/\x<n:=by
 unfold CX;rw[t7];constructor
 ·rintro⟨i,hi,rfl⟩;have:=t9.1 hi;omega
 ·intro h;exact⟨x.toNat,t9.2 zo,zo⟩
def Xp(n:Int):(CX n).Nodup:=by
 unfold CX;rw[List.Nodup,uU];exact(List.nodup_range (n:=n.toNat)).imp λh e=>h zo
def WE(n:Int):(CX n).length=n.toNat:=by simp [CX]
theorem P1{α:Type}(p:α->Bool):∀l:List α,l.length=(l.filter p).length+(l.filter λx=>!p x).length
 |[]=>rfl
 |x::r=>by
  have ih:=P1 p r;rw[tI,tI,sC];cases p x<;>simp<;>omega
def ba{n:Int}{holes:List Int}(hd:holes.Nodup)(hr:∀x∈holes,0<=x/\x<n):((CX n).filter λp=>!holes.contains p).length+holes.length=n.toNat:=by
 have h1:((CX n).filter λp=>holes.contains p).Perm holes:=by
  rw[vA ((Xp n).sublist ve) hd];intro x;rw[tV,sN,Q9];exact⟨λh=>h.2,λh=>⟨hr x h,h⟩⟩
 have h2:=P1 (λp=>holes.contains p) (CX n);rw[h1.length_eq,WE]at h2;omega
def Ul(sh w h:Int)(holes:List Int):Option (List Int):=
 if(sh=1\/sh=2)/\1<=w/\w<=16/\1<=h/\h<=16/\(∀x∈holes,0<=x/\x<w*h)/\List.Pairwise (λx y=>x<y) holes/\((CX (w*h)).filter λp=>!holes.contains p)≠[]then
  some ((CX (w*h)).filter λp=>!holes.contains p)
 else none
def Xq(sh w h:Int)(holes:List Int):Ul sh w h holes=Av sh w h holes:=by
 unfold Ul Av;have e:∀(p q:Prop) [Decidable p] [Decidable q] (x:Option (List Int)),(p↔q)->(if p then x else none)=if q then x else none:=λp q _ _ x hpq=>by
  by_cases hp:p
  ·rw[rt hp,rt (hpq.1 hp)]
  ·rw[rj hp,rj λhq=>hp (hpq.2 hq)]
 refine e _ _ _ ?_;have hk:∀(h1:∀x∈holes,0<=x/\x<w*h) (h2:List.Pairwise (λx y=>x<y) holes),(((CX (w*h)).filter λp=>!holes.contains p)≠[]↔(holes.length:Int)<w*h):=by
  intro h1 h2;have hl:=ba (h2.imp λq=>zo) h1;rw[<-List.length_pos_iff];omega
 rw[HN];simp only[sg,rn];constructor
 ·rintro⟨a,b,c,d,e,f,g,i⟩;exact⟨a,b,c,d,e,(hk f g).1 i,⟨λx hx=>by have:=f x hx;omega,g⟩,λx hx=>(f x hx).2⟩
 ·rintro⟨a,b,c,d,e,f,⟨g,g2⟩,i⟩;have hr:∀x∈holes,0<=x/\x<w*h:=λx hx=>⟨by have:=g x hx;omega,i x hx⟩
  exact⟨a,b,c,d,e,hr,g2,(hk hr g2).2 f⟩
def BX{sh w h:Int}{holes cells:List Int}(hc:Av sh w h holes=some cells):List.Pairwise (λx y=>x<y) cells/\cells.length<=256/\∀x∈cells,0<=x/\x<256:=by
 unfold Av at hc;split at hc
 ·rename_i hcond;obtain⟨-,a,b,c,d,-⟩:=hcond;cases hc;have hwh:w*h<=256:=by
   have:w*h<=16*16:=Int.mul_le_mul b d zo zo;omega
  have hpw:List.Pairwise (λx y:Int=>x<y) (CX (w*h)):=by
   unfold CX;rw[uU];exact uQ.imp λq=>zo
  refine⟨hpw.sublist ve,?_,λx hx=>?_⟩
  ·have h1:=tg (λp=>!holes.contains p) (CX (w*h));rw[WE]at h1;have:((CX (w*h)).filter λp=>!holes.contains p).length<=256:=zo
   exact this
  ·have:=Q9.1 (tV.1 hx).1;omega
 ·cases hc
def Fa(l:List Int)(x:Int):Nat:=(l.filter λy=>decide (y<x)).length
theorem RA:∀{l:List Int} {x:Int} {i:Nat},i<=l.length->(∀k (hk:k<l.length),k<i->l[k]<x)->(∀k (hk:k<l.length),i<=k->x<=l[k])->Fa l x=i
 |[],x,i,hi,_,_=>by simp at hi;subst hi;rfl
 |y::r,x,0,_,_,h2=>by
  have h0:=h2 0 zw (rq 0);have ih:=RA (l:=r) (x:=x) (i:=0) (rm _) (λk hk h=>zo) (λk hk _=>h2 (k+1) (by simp;omega) (rm _));unfold Fa at ih⊢;rw[tI,rj (by simp at h0;simp;omega)];exact ih
 |y::r,x,i+1,hi,h1,h2=>by
  have h0:=h1 0 zw zo;have ih:=RA (l:=r) (x:=x) (i:=i) (by simp at hi;omega) (λk hk h=>h1 (k+1) (by simp;omega) zo) (λk hk h=>h2 (k+1) (by simp;omega) zo);unfold Fa at ih⊢;rw[tI,rt (by simpa using h0),sC,ih]
def gg{l:List Int}(hp:List.Pairwise (λx y=>x<y) l){i j:Nat}(hj:j<l.length)(hij:i<=j):l[i]<=l[j]:=by
 by_cases e:i=j
 ·subst e;exact uC _
 ·have:=tU.1 hp i j zo hj zo;omega
def G6(cells:List Int):List Int->List Int->Bool
 |_,[]=>true
 |met,p::r=>cells.contains p&& !met.contains p&&G6 cells (met++[p]) r
theorem WF(cells:List Int):∀(l met:List Int),G6 cells met l=true↔(∀p∈l,p∈cells/\p∉met)/\l.Nodup
 |[],met=>by simp [G6]
 |p::r,met=>by
  have ih:=WF cells r (met++[p]);simp only[G6,rl,tq,sN,ih,sP,vu,ul,ti,uE,vF,not_or];rw[<-Bool.not_eq_true,sN];constructor
  ·exact λ⟨⟨a,b⟩,c,d⟩=>⟨⟨⟨a,b⟩,λx hx=>⟨(c x hx).1,(c x hx).2.1⟩⟩,λhm=>(c p hm).2.2 rfl,d⟩
  ·exact λ⟨⟨⟨a,b⟩,c⟩,d,e⟩=>⟨⟨a,b⟩,λx hx=>⟨(c x hx).1,(c x hx).2,λq=>d (q▸hx)⟩,e⟩
def G7(cells l:List Int):Eh cells l=(G6 cells [] l&&decide (1<=l.length)):=by
 unfold Eh;congr 1;rw[su,WF,rl,sg];simp only[sN,uE,uV,uo,tq,DB]
section
theorem Xr(a b:List (List UInt8))(s:List UInt8):BY (a++b) s=match BY a s with
  |some i=>some i
  |none=>(BY b s).map λi=>(a.length:Int)+i:=by
 unfold BY;rw[List.findIdx?_append];cases h:a.findIdx? λx=>decide (x=s)with
 |some i=>rfl
 |none=>
  simp only[Option.none_or,tR];cases b.findIdx? λx=>decide (x=s)with
  |none=>rfl
  |some i=>simp [Int.add_comm]
variable {l:List (List UInt8)}
theorem Cn{s:List UInt8}:BY l s=none↔s∉l:=by
 unfold BY;rw[Option.map_eq_none_iff,tT];simp only[sR];exact⟨λh hm=>h s hm rfl,λh x hx e=>h (e▸hx)⟩
theorem gn(d:xk)(s:List UInt8):BY (By d) s=match BY CW s with
  |some i=>some i
  |none=>(BY (d.regs.map (·.nm)) s).map λi=>8+i:=by
 unfold By;rw[Xr];rfl
theorem Nx{s:List UInt8}{r:List (List UInt8)}:Cy l (s::r)=match l.findIdx? (λx=>decide (x=s)),Cy l r with
  |some i,some n=>some (Int.ofNat (Nat.lor (1<<<i) n.toNat))
  |_,_=>none:=rfl
def bits(is:List Nat):Nat:=is.foldr (λi n=>Nat.lor (1<<<i) n) 0
theorem Um{ss:List (List UInt8)}:Cy l ss=(Aq (λs=>l.findIdx? λx=>decide (x=s)) ss).map λis=>(bits is:Int):=by
 induction ss with
 |nil=>rfl
 |cons s r ih=>
  rw[Nx,ih];simp only[Aq];cases l.findIdx? λx=>decide (x=s)with
  |none=>rfl
  |some i=>
   cases Aq (λs=>l.findIdx? λx=>decide (x=s)) r with
   |none=>rfl
   |some is=>rfl
end
section
theorem Ny:∀{a b:List Int},List.Pairwise (λx y=>x<y) a->List.Pairwise (λx y=>x<y) b->(∀x,x∈a↔x∈b)->a=b
 |[],[],_,_,_=>rfl
 |[],y::s,_,_,h=>by have:=(h y).2 zw;cases this
 |x::r,[],_,_,h=>by have:=(h x).1 zw;cases this
 |x::r,y::s,ha,hb,h=>by
  obtain⟨a1,a2⟩:=uz.1 ha;obtain⟨b1,b2⟩:=uz.1 hb;have e:x=y:=by
   rcases sP.1 ((h x).1 zw)with q|q
   ·exact q
   ·rcases sP.1 ((h y).2 zw)with p|p
    ·exact p.symm
    ·have:=a1 y p;have:=b1 x q;omega
  subst e;refine congrArg _ (Ny a2 b2 λz=>?_);constructor
  ·intro hz;rcases sP.1 ((h z).1 (by simp [hz]))with q|q
   ·subst q;have:=a1 z hz;omega
   ·exact q
  ·intro hz;rcases sP.1 ((h z).2 (by simp [hz]))with q|q
   ·subst q;have:=b1 z hz;omega
   ·exact q
def bb(n:Int):List.Pairwise (λx y:Int=>x<y) (CX n):=by
 unfold CX;rw[uU];exact uQ.imp λq=>zo
def Xs{n:Int}{holes:List Int}(h1:∀x∈holes,0<=x/\x<n)(h2:List.Pairwise (λx y=>x<y) holes):((CX n).filter λp=>holes.contains p)=holes:=by
 refine Ny ((bb n).sublist ve) h2 λx=>?_
 rw[tV,sN,Q9];exact⟨λh=>h.2,λh=>⟨h1 x h,h⟩⟩
def IT{sh w h:Int}{holes cells:List Int}(hc:Av sh w h holes=some cells):(sh=1\/sh=2)/\1<=w/\w<=16/\1<=h/\h<=16/\(holes.length:Int)<w*h/\(∀x∈holes,0<=x/\x<w*h)/\List.Pairwise (λx y=>x<y) holes/\cells=(CX (w*h)).filter λp=>!holes.contains p:=by
 unfold Av at hc;split at hc
 ·rename_i hq;obtain⟨a,b,c,d,e,f,g,i⟩:=hq;cases hc;rw[HN]at g;simp only[sg,rn]at i;exact⟨a,b,c,d,e,f,λx hx=>⟨by have:=g.1 x hx;omega,i x hx⟩,g.2,rfl⟩
 ·cases hc
def bc{w h:Int}(h1:1<=w)(h2:w<=16)(h3:1<=h)(h4:h<=16):1<=w*h/\w*h<=256:=by
 have a:w*h<=16*16:=Int.mul_le_mul h2 h4 zo zo;have b:1*1<=w*h:=Int.mul_le_mul h1 h3 zo zo;omega
def Bk(cells l:List Int):List Int:=l.map λp=>(Fa cells p:Int)
variable {l:List Int}
theorem Un(hp:List.Pairwise (λx y=>x<y) l){i:Nat}(hi:i<l.length):Fa l l[i]=i:=by
 refine RA (Nat.le_of_lt hi) (λk hk h=>tU.1 hp k i hk hi h) λk hk h=>gg hp hk h
theorem gq(hp:List.Pairwise (λx y=>x<y) l){x y:Int}(hx:x∈l)(hy:y∈l)(h:Fa l x=Fa l y):x=y:=by
 obtain⟨i,hi,rfl⟩:=sH.1 hx;obtain⟨j,hj,rfl⟩:=sH.1 hy;rw[Un hp hi,Un hp hj]at h;subst h;rfl
theorem IV:∀{l:List (List Int)},Cv l=true↔∃(a b:Nat) (ha:a<l.length) (hb:b<l.length),b<a/\Dh l[a] l[b]=true
 |[]=>by simp [Cv]
 |x::r=>by
  have ih:=IV (l:=r);simp only[Cv,sA,ih,uF];constructor
  ·rintro(⟨y,hy,h⟩|⟨a,b,ha,hb,wv,h⟩)
   ·obtain⟨i,hi,rfl⟩:=sH.1 hy;exact⟨i+1,0,by simp;omega,zw,zo,h⟩
   ·exact⟨a+1,b+1,by simp;omega,by simp;omega,zo,h⟩
  ·rintro⟨a,b,ha,hb,wv,h⟩;cases a with
   |zero=>omega
   |succ a=>
    cases b with
    |zero=>exact .inl ⟨r[a]'(by simp at ha;omega),rY _,h⟩
    |succ b=>exact .inr ⟨a,b,by simp at ha;omega,by simp at hb;omega,zo,h⟩
theorem P2(cells:List Int)(l:List xj)(i:Nat)(hi:i<l.length):DV cells (l.drop i)=if LM cells l[i]=0 then DV cells (l.drop (i+1))else LM cells l[i]:=by
 rw[sn hi];rfl
theorem HO{cells:List Int}(h:Eh cells l=true):l.Nodup/\1<=l.length/\∀p∈l,p∈cells:=by
 unfold Eh at h;simp only[rl,tq,rn,DB,sg,sN]at h;exact⟨h.1.2,h.2,h.1.1⟩
end
section
abbrev Bv(l:List (List Int)):Fs:=.sl (.none 1) (l.map Am)
abbrev JF(s:xv):Fs:=.agg [.str s.nm,.int .i64 s.v]
abbrev Gc(r:xj):Fs:=.agg [.str r.nm,Bv r.ls]
abbrev Cc(c:x8):Fs:=.agg [.str c.nm,.str c.on,.int .i64 c.fam,.int .i64 c.ty,.int .i64 c.lo,.int .i64 c.hi]
abbrev B1(r:zj):List Fs:=[.str r.nm,.str r.on,.int .i64 r.kind,.int .i64 r.fam,FH r.ns,FH r.os,.int .i64 r.set,.int .i64 r.oth,.int .i64 r.op,.int .i64 r.n,.str r.byN,.int .i64 r.clue]
abbrev Br(r:zj):Fs:=.agg (B1 r)
abbrev IW(l:List xv):Fs:=.sl (.none 2) (l.map JF)
abbrev HP(l:List xj):Fs:=.sl (.none 2) (l.map Gc)
abbrev E6(l:List x8):Fs:=.sl (.none 6) (l.map Cc)
abbrev Dr(l:List zj):Fs:=.sl (.none 12) (l.map Br)
abbrev AL(d:xk):List Fs:=[.str d.nm,.int .i64 d.ver,.int .i64 d.sh,.int .i64 d.w,.int .i64 d.h,Am d.holes,IW d.syms,HP d.regs,E6 d.clus,Dr d.ruls]
abbrev B5(d:xk):Fs:=.agg (AL d)
def AZ(n:Nat)(l:List Int):(Am l).under n:=⟨zt,Dy n _⟩
def CN(n:Nat)(l:List Bs):(FH l).under n:=⟨zt,DE n _⟩
def BC(n:Nat)(l:List (List Int)):(Bv l).under n:=⟨zt,Ay (AZ n) _⟩
def ME(n:Nat)(s:xv):(JF s).under n:=⟨zt,zt,zt⟩
def ES(n:Nat)(r:xj):(Gc r).under n:=⟨zt,BC n _,zt⟩
def Gd(n:Nat)(c:x8):(Cc c).under n:=⟨zt,zt,zt,zt,zt,zt,zt⟩
def BN(n:Nat)(r:zj):(Br r).under n:=⟨zt,zt,zt,zt,CN n _,CN n _,zt,zt,zt,zt,zt,zt,zt⟩
def HQ(n:Nat)(l:List xv):(IW l).under n:=⟨zt,Ay (ME n) _⟩
def E7(n:Nat)(l:List xj):(HP l).under n:=⟨zt,Ay (ES n) _⟩
def E8(n:Nat)(l:List x8):(E6 l).under n:=⟨zt,Ay (Gd n) _⟩
def Di(n:Nat)(l:List zj):(Dr l).under n:=⟨zt,Ay (BN n) _⟩
def As(n:Nat)(d:xk):(B5 d).under n:=⟨zt,zt,zt,zt,zt,AZ n _,HQ n _,E7 n _,E8 n _,Di n _,zt⟩
def Hn:Fs->List Int
 | .sl _ L=>L.map A9
 |_=>[]
def P3:Fs->List Bs
 | .sl _ L=>L.map GL
 |_=>[]
def P4:Fs->List (List Int)
 | .sl _ L=>L.map Hn
 |_=>[]
def WG:Fs->xv
 | .agg [.str nm,.int _ v]=>⟨nm,v⟩
 |_=>⟨[],0⟩
def S8:Fs->xj
 | .agg [.str nm,l]=>⟨nm,P4 l⟩
 |_=>⟨[],[]⟩
def WH:Fs->x8
 | .agg [.str nm,.str on,.int _ f,.int _ t,.int _ lo,.int _ hi]=>⟨nm,on,f,t,lo,hi⟩
 |_=>⟨[],[],0,0,0,0⟩
def S9:Fs->zj
 | .agg [.str nm,.str on,.int _ k,.int _ f,ns,os,.int _ s,.int _ o,.int _ op,.int _ n,.str b,.int _ c]=>⟨nm,on,k,f,P3 ns,P3 os,s,o,op,n,b,c⟩
 |_=>⟨[],[],0,0,[],[],0,0,0,0,[],0⟩
variable {α:Type}
def JG(f:Fs->α):Fs->List α
 | .sl _ L=>L.map f
 |_=>[]
def be:Fs->xk
 | .agg [.str nm,.int _ v,.int _ sh,.int _ w,.int _ h,ho,sy,rg,cl,ru]=>⟨nm,v,sh,w,h,Hn ho,JG WG sy,JG S8 rg,JG WH cl,JG S9 ru⟩
 |_=>⟨[],0,0,0,0,[],[],[],[],[]⟩
theorem Fw(l:List Int):Hn (Am l)=l:=Ax l
theorem G8(l:List (List Int)):P4 (Bv l)=l:=DF Fw l
theorem Is(s:xv):WG (JF s)=s:=rfl
theorem G9(r:xj):S8 (Gc r)=r:=by simp only[S8,G8]
theorem It(c:x8):WH (Cc c)=c:=rfl
theorem HB(r:zj):S9 (Br r)=r:=by simp only[S9,P3,Cm]
theorem Nz(d:xk):be (B5 d)=d:=by
 simp only[be,Hn,JG,Ax,DF Is,DF G9,DF It,DF HB]
def cY(enc:α->Fs)(dec:Fs->α):Dc α:=⟨enc,dec,λv=>Wk v (enc (dec v)),λ_ h=>h⟩
theorem HS{enc:α->Fs}{dec:Fs->α}(h:∀x,dec (enc x)=x)(x:α):(cY enc dec).ok (enc x)=True:=ra (by show Wk _ _;rw[h];exact Wk.refl _)
def dSy:Dc xv:=cY JF WG
def qf:Dc xj:=cY Gc S8
def dCl:Dc x8:=cY Cc WH
def Mk:Dc zj:=cY Br S9
def dD:Dc xk:=cY B5 be
theorem bh(x:xv):dSy.ok (JF x)=True:=HS Is x
theorem WI(x:xv):dSy.dec (JF x)=x:=rfl
theorem LO(x:xj):qf.ok (Gc x)=True:=HS G9 x
theorem Iu(x:xj):qf.dec (Gc x)=x:=G9 x
theorem Jc(x:x8):dCl.ok (Cc x)=True:=HS It x
theorem HT(x:x8):dCl.dec (Cc x)=x:=rfl
theorem CA(x:zj):Mk.ok (Br x)=True:=HS HB x
theorem Bg(x:zj):Mk.dec (Br x)=x:=HB x
theorem BR(x:xk):dD.ok (B5 x)=True:=HS Nz x
theorem Az(x:xk):dD.dec (B5 x)=x:=Nz x
def jj(e:Nat)(enc:α->Fs)(dec:Fs->α):Dc (List α):=⟨λl=>.sl (.none e) (l.map enc),Ct dec,GN e enc dec,Q6⟩
theorem Jd{e:Nat}{enc:α->Fs}{dec:Fs->α}(h:∀x,dec (enc x)=x){t:w8}{l:List α}(ht:t.esz=e\/l=[]):(jj e enc dec).ok (.sl t (l.map enc))=True:=ra (by
 refine⟨ht.imp id λq=>by rw[q];rfl,?_⟩;rw[DF h])
theorem HU{e:Nat}{enc:α->Fs}{dec:Fs->α}(h:∀x,dec (enc x)=x){t:w8}{l:List α}:(jj e enc dec).dec (.sl t (l.map enc))=l:=DF h l
def N0:Dc (List (List Int)):=jj 1 Am Hn
def gr:Dc (List xv):=jj 2 JF WG
def gu:Dc (List xj):=jj 2 Gc S8
def hU:Dc (List x8):=jj 6 Cc WH
def hY:Dc (List zj):=jj 12 Br S9
theorem Ak(l:List Int):BA.ok (Am l)=True:=ra ⟨.inl rfl,by rw[Ax]⟩
theorem Ag(l:List Int):BA.dec (Am l)=l:=Ax l
theorem HV(l:List Bs):I1.ok (FH l)=True:=ra ⟨.inl rfl,by rw[Cm]⟩
theorem Ft(l:List Bs):I1.dec (FH l)=l:=Cm l
theorem BD(x:Int):dI.ok (.int .i64 x)=True:=ra zt
theorem Au(x:Int):dI.dec (.int .i64 x)=x:=rfl
theorem Ho(x:Bs):dS.ok (.str x)=True:=ra zt
theorem Fb(x:Bs):dS.dec (.str x)=x:=rfl
theorem wk_Dk{nm:Bs}{ver sh w h:Int}{ho:List Int}{sy:List xv}{rg:List xj}{cl:List x8}{ru:List zj}{a b c e f:Fs}(ha:Wk a (Am ho))(hb:Wk b (IW sy))(hc:Wk c (HP rg))(he:Wk e (E6 cl))(hf:Wk f (Dr ru)):
  Wk (.agg [.str nm,.int .i64 ver,.int .i64 sh,.int .i64 w,.int .i64 h,a,b,c,e,f]) (B5 ⟨nm,ver,sh,w,h,ho,sy,rg,cl,ru⟩):=
 Wk.agg (.cons (Wk.refl _) (.cons (Wk.refl _) (.cons (Wk.refl _) (.cons (Wk.refl _) (.cons (Wk.refl _) (.cons ha (.cons hb (.cons hc (.cons he (.cons hf .nil))))))))))
abbrev KW:xk:=⟨[],0,0,0,0,[],[],[],[],[]⟩
end
section
def HW:List Bs->Nat->List (Fs×Fs×Nat)
 |[],_=>[]
 |s::r,i=>(.str s,.int .i64 (i:Int),i)::HW r (i+1)
theorem E9:∀(l:List Bs) (i:Nat),EM .str (HW l i)=True
 |[],_=>rfl
 |s::r,i=>by rw[HW,EM,E9 r (i+1)];simp [KT.is]
def Uo(x:Bs)(r:List Bs)(s:Bs):BY (x::r) s=if x=s then some 0 else(BY r s).map (· +1):=by
 unfold BY;rw[List.findIdx?_cons];by_cases h:x=s
 ·simp [h]
 ·simp only[h,vm,sr,sG];cases List.findIdx? (λx=>decide (x=s)) r<;>simp
theorem WJ:∀(l:List Bs) (s:Bs) (i:Nat),Bi (.str s) (HW l i)=(BY l s).map λn=>.int .i64 (n+(i:Int))
 |[],s,i=>rfl
 |x::r,s,i=>by
  rw[HW,Bi,Uo,WJ r s (i+1)];by_cases h:x=s
  ·subst h;simp [Ht]
  ·have:¬s=x:=λq=>h q.symm
   simp only[Ht,h,this,vm,sr,sG];cases BY r s with
   |none=>rfl
   |some n=>simp only[sU];congr 2;omega
def GI(l:List Bs)(s:Bs):Bi (.str s) (HW l 0)=(BY l s).map λn=>.int .i64 n:=by
 rw[WJ];congr 1;funext n;simp
theorem bj:∀(l:List Bs) (s:Bs) (i:Nat),HW (l++[s]) i=HW l i++[(.str s,.int .i64 ((i+l.length:Nat):Int),i+l.length)]
 |[],s,i=>rfl
 |x::r,s,i=>by
  rw[si,HW,bj r s (i+1),HW,si,sC,show i+1+r.length=i+(r.length+1)by omega]
variable {v:Fs} {c:Nat}
theorem KX{k:Fs}:∀{es:List (Fs×Fs×Nat)},Bi k es=none->EV k v c es=es++[(k,v,c)]
 |[],_=>rfl
 |(k',v',b)::r,h=>by
  rw[Bi]at h;split at h
  ·cases h
  ·rename_i q;rw[EV,rj q,KX h];rfl
theorem N2{l:List Bs}{s:Bs}(h:BY l s=none):EV (.str s) (.int .i64 (l.length:Int)) l.length (HW l 0)=HW (l++[s]) 0:=by
 rw[KX (by rw[GI,h];rfl),bj];simp
theorem bk{α:Type}[DecidableEq α]{a b:List α}{x:α}(h:x∈a):Ap (a++x::b)=true:=by
 cases q:Ap (a++x::b)with
 |true=>rfl
 |false=>exact absurd rfl ((ug.1 (DB.1 q)).2.2 x h x zw)
def IX:List Int->Nat->List (Fs×Fs×Nat)
 |[],_=>[]
 |s::r,i=>(.int .i64 s,.bool true,i)::IX r (i+1)
theorem Up:∀(l:List Int) (i:Nat),EM (.int .i64) (IX l i)=True
 |[],_=>rfl
 |s::r,i=>by rw[IX,EM,Up r (i+1)];simp [KT.is]
theorem RB:∀(l:List Int) (x:Int) (i:Nat),Bi (.int .i64 x) (IX l i)=if l.contains x then some (.bool true)else none
 |[],x,i=>rfl
 |y::r,x,i=>by
  rw[IX,Bi,RB r x (i+1),List.contains_cons];by_cases h:x=y
  ·subst h;simp [Ht]
  ·simp only[Ht,h,vm,sr,sG,beq_eq_false_iff_ne.2 h,tH]
theorem bp:∀(l:List Int) (s:Int) (i:Nat),IX (l++[s]) i=IX l i++[(.int .i64 s,.bool true,i+l.length)]
 |[],s,i=>rfl
 |x::r,s,i=>by
  rw[si,IX,bp r s (i+1),IX,si,sC,show i+1+r.length=i+(r.length+1)by omega]
theorem qg{l:List Int}{x:Int}(h:l.contains x=false):EV (.int .i64 x) (.bool true) l.length (IX l 0)=IX (l++[x]) 0:=by
 rw[KX (by rw[RB,h];rfl),bp];simp
theorem LP{x y:Int}{v:Fs}{c:Nat}:∀{es:List (Fs×Fs×Nat)},EM (.int .i64) es->Bi (.int .i64 x) (EV (.int .i64 y) v c es)=if x=y then some v else Bi (.int .i64 x) es
 |[],_=>by
  rw[EV,Bi,Bi];by_cases h:x=y<;>simp [Ht,h,Bi]
 |(k',v',b)::r,hf=>by
  obtain⟨h1,h2⟩:=hf;have ih:=LP (x:=x) (y:=y) (v:=v) (c:=c) h2;cases k'<;>simp only[KT.is]at h1;rename_i kk z;subst h1;rw[EV];by_cases hy:y=z
  ·subst hy;rw[rt (by simp [Ht])];rw[Bi,Bi];by_cases hx:x=y
   ·subst hx;simp [Ht]
   ·simp [Ht,hx]
  ·rw[rj (by simp [Ht,hy])];rw[Bi,ih,Bi];by_cases hx:x=z
   ·subst hx;have:¬x=y:=λq=>hy q.symm
    simp [Ht,this]
   ·simp [Ht,hx]
theorem LQ{y:Int}:∀{es:List (Fs×Fs×Nat)},EM (.int .i64) es->EM (.int .i64) (EV (.int .i64 y) v c es)
 |[],_=>⟨rfl,zt⟩
 |(k',v',b)::r,⟨h1,h2⟩=>by
  rw[EV];split
  ·exact⟨h1,h2⟩
  ·exact⟨h1,LQ h2⟩
def Je(rs:List zj)(z:Int):Nat:=(rs.filter λr=>decide (r.clue=z)).length
theorem TA(rs:List zj)(i:Nat):Je rs (i:Int)=Ei rs i:=rfl
theorem WK(rs:List zj)(r:zj)(z:Int):Je (rs++[r]) z=Je rs z+if r.clue=z then 1 else 0:=by
 unfold Je;rw[tD,sm];by_cases h:r.clue=z<;>simp [h]
theorem bq(rs:List zj)(z:Int):Je rs z<=rs.length:=tg ..
def N4(rs:List zj)(es:List (Fs×Fs×Nat)):Prop:=EM (.int .i64) es/\∀z:Int,(Bi (.int .i64 z) es).getD (.int .i64 0)= .int .i64 (Je rs z:Int)
theorem N4.next{rs:List zj}{es:List (Fs×Fs×Nat)}{r:zj}(h:N4 rs es):N4 (rs++[r]) (EV (.int .i64 r.clue) (.int .i64 ((Je rs r.clue+1:Nat):Int)) c es):=by
 refine⟨LQ h.1,λz=>?_⟩;rw[LP h.1,WK];by_cases q:z=r.clue
 ·subst q;rw[rt rfl,rt rfl];rfl
 ·rw[rj q,rj (λe=>q e.symm)];exact h.2 z
end
theorem LR{g:q8}{f:Nat->Option Value}:∀(ws:List Int) (o:Nat),Stab g 1 f o (ws.map eI)->∀(j:Nat) x,ws[j]?=some x->f (o+j)=some (.int .i64 x)
 |[],_,_,j,x,h=>by simp at h
 |y::ws,o,⟨⟨v,q1,q2,q3⟩,h'⟩,j,x,h=>by
  cases j with
  |zero=>
   simp at h;subst h;have q1':v= .int .i64 y:=q1;subst q1';exact q3 0 _ rfl
  |succ j=>rw[show o+(j+1)=o+1+j by omega];exact LR ws (o+1) h' j x (by simpa using h)
theorem KY{g:q8}{f:Nat->Option Value}:∀(ws:List Int) (o:Nat),(∀(j:Nat) x,ws[j]?=some x->f (o+j)=some (.int .i64 x))->Stab g 1 f o (ws.map eI)
 |[],_,_=>trivial
 |y::ws,o,h=>by
  refine⟨⟨.int .i64 y,rfl,⟨rfl,λx hx=>by simp [Value.cells]at hx;subst hx;rfl⟩,λj x hx=>?_⟩,KY ws (o+1) λj x hx=>by
   have:=h (j+1) x (by simpa using hx);rw[<-this];congr 1;omega⟩
  cases j with
  |zero=>
   have hx':some (Value.int .i64 y)=some x:=hx;cases hx';exact h 0 y rfl
  |succ j=>simp [Value.cells]at hx
def Uq(w:World)(k:Nat):Below w.heap.size w (w.drewN k) where
 os:=rfl
 tape:=rfl
 output:=rfl
 size:=rq _
 block:=λi hi=>rfl
def p223(l:List Int)(x:Int)(hl:l.length<1000000000)(hs:List.Pairwise (λx y=>x<y) l):Aw prog 223 [Am l,.int .i64 x] (.tup [.int .i64 (Fa l x),.bool (l.contains x)]):=by
 refine KN c223.l ⟨⟨zt,Dy 0 l⟩,zt,zt⟩ ⟨zt,zt,zt⟩ ?_;rintro g w vs hR ⟨v,r,rfl,k1,v2,r2,rfl,k2,k3⟩;have k2':v2= .int .i64 x:=k2;have k3':r2=[]:=k3;subst k2';subst k3';have hres:∀q,l=[]\/q=l.take l.length->AR g (.tup [.int .i64 (Fa l x),.bool (l.contains x)]) (.tuple #[.int .i64 (((l.take l.length).countP (· <x):Nat):Int),.bool ((l.take l.length).contains x)]):=λq _=>by
  rw[se];have e:(l.countP λy=>decide (y<x))=Fa l x:=List.countP_eq_length_filter;rw[e];exact⟨_,rfl,_,_,rfl,rfl,_,_,rfl,rfl,rfl⟩
 have hres:=hres l (.inr (se).symm);rcases k1 with⟨k1,rfl,-⟩|⟨-,b,o,cap,⟨sp,rfl,hsp⟩,hc,hst,-⟩
 ·have:l=[]:=by simpa using k1
  subst this;refine(slices_BinarySearch_int_empty none 0 x w).mono ?_;rintro e w' ⟨rfl,rfl⟩;exact⟨⟨_,rfl,hres⟩,Below.refl _ _⟩
 ·cases l with
  |nil=>
   refine(slices_BinarySearch_int_empty _ _ x w).mono ?_;rintro e w' ⟨rfl,rfl⟩;exact⟨⟨_,rfl,hres⟩,Below.refl _ _⟩
  |cons y ys=>
   obtain rfl:sp=none:=hsp.resolve_right λq=>by cases q.1
   have hcell:=LR _ _ hst;have hk:=slices_BinarySearch_int b o (y::ys).length cap (y::ys) x w (rq _) zo (λj hj=>hR.σw _ _ _ (hcell j _ (by rw[rc hj];simp [List.getD,rc hj]))) (by rw[se];exact hs.imp λq=>zo);simp only[r9]at hk⊢;refine hk.mono ?_;rintro e w' ⟨rfl,q,rfl⟩;exact⟨⟨_,rfl,hres⟩,Uq _ _⟩
def jk:C7 prog 226:=⟨f226,by kernel_rfl,by kernel_rfl,by kernel_rfl⟩
def RD{H:AB}{n id len cap:Nat}{zs:List Int}(ho:AD H id=some (.arr 1 (zs.map eI)))(hl:len<=zs.length)(hz:len<1000000000):
  AV prog 226 [.ref id 1 0 len cap] H n λo H' n'=>o= .ret (.tup [])/\H'=hset H id (.arr 1 (((zs.take len).mergeSort Fk++zs.drop len).map eI))/\n'=n:=by
 refine⟨jk,λg w vs hR hv=>?_⟩;obtain⟨v,r,rfl,k1,k2⟩:=hv;have k2':r=[]:=k2;subst k2';obtain⟨L,h1,h2,rfl⟩:=k1;obtain⟨L',c,e,j1,j2,j3,j4,j5,j6⟩:=hR.obj id _ ho;rw[h1]at j1;cases j1;have hcell:=LR _ _ j6;simp only[th]at hcell;have hsz:c.size=zs.length:=by rw[<-j5];simp
 have htl:(zs.take len).length=len:=by simp;omega
 have hb:L.blk<w.heap.size:=(sF.1 j4).1;have hc:=slices_Sort_int L.blk 0 cap (zs.take len) w (λj hj=>by
  have hj':j<(zs.take len).length:=by simpa using hj
  refine⟨?_,?_⟩
  ·rw[th,getElem!_pos _ j hj];simp only[World.cell?,j4];rw[hcell j _ (show zs[j]?=some zs[j]from rc zo)];simp
  ·simp [World.frozen?,j4]) hb zo
 rw[htl]at hc;simp only[uI]at hc⊢;refine hc.mono ?_;rintro ee w' ⟨rfl,k,os,rfl⟩;generalize hS:(zs.take len).mergeSort (λx y=>decide (x<=y))=S;have hSl:S.length=len:=by rw[<-hS,List.length_mergeSort,htl]
 have hblk:(putRow (Value.int .i64) (Sort.ahead w k) L.blk 0 S.toArray).heap[L.blk]?=some (.cells (Go.Sort.putCells (Value.int .i64) 0 S.toArray c) e (0,0)):=by
  simp only[putRow,mapBlock,Sort.ahead,Array.getElem?_modify,t8,j4,sU,onCells]
 have AD:∀j:Nat,(Go.Sort.putCells (Value.int .i64) 0 S.toArray c)[j]?=if j<len then(S[j]?).map (Value.int .i64)else c[j]?:=λj=>by
  simp only[Go.Sort.putCells,Array.getElem?_mapIdx,rm,tL,th,Nat.sub_zero,List.size_toArray,hSl];by_cases q:j<len
  ·simp only[q,t8];have hjc:j<c.size:=zo
   have hjS:j<S.length:=zo
   rw[u0 hjc,rc hjS];simp [hjS]
  ·simp only[q,sG];cases c[j]?<;>rfl
 obtain⟨r1,r2⟩:=hR.upd (m:=n) (w':=putRow (Value.int .i64) (Sort.ahead w k) L.blk 0 S.toArray) (ob':=.arr 1 ((S++zs.drop len).map eI)) ho rfl h1 rfl rfl rfl (by simp [putRow,mapBlock,Sort.ahead])
  (λb s6=>by simp only[putRow,mapBlock,Sort.ahead,Array.getElem?_modify];rw[rj (Ne.symm s6)])
  (.inl ⟨c,e,(0,0),_,j4,hblk,by simp [Go.Sort.putCells],λo ho'=>by
   rw[AD,rj (by rcases ho' with q|q<;>omega)]⟩)
  ⟨L,_,e,h1,h2,by rw[j3];simp [Go.Sort.putCells],hblk,by simp [Go.Sort.putCells,hSl];omega,KY _ _ λj x hx=>by
   rw[th,AD];by_cases q:j<len
   ·rw[rt q];rw[tu zo]at hx;rw[hx];rfl
   ·rw[rj q];rw[tx zo,vE]at hx;exact hcell j x (by rw[<-hx];congr 1;omega)⟩
 have hx:JU (putRow (Value.int .i64) (Sort.ahead w k) L.blk 0 S.toArray) (grow (putRow (Value.int .i64) (Sort.ahead w k) L.blk 0 S.toArray) os):=λb ob hb=>by
  show(_++os)[b]?=some ob;rw[Array.getElem?_append_left (sF.1 hb).1];exact hb
 have r3:=r1.grow hx (σ':=g.σ) (λ_ _ _ q=>q) (λ_ _ _ q=>.inl q);exact⟨g,.ret (.tup []),_,n,⟨rfl,rfl,rfl⟩,⟨_,rfl,rfl⟩,r3,rq _,r2.trans (q9.grow hx rfl rfl rfl (λ_ _ _ q=>q) (λ_ _ _ q=>.inl q))⟩
def LV(e:Nat)(v:Fs)(H:AB)(l:List Fs):Prop:=
 (l=[]/\∃t,v= .sl t []/\(t= .nil\/t= .exact e))\/(l≠[]/\∃id cap rest,v= .ref id e 0 l.length cap/\AD H id=some (.arr e (l++rest))/\l.length+rest.length=cap)
def br(e:Nat)(H:AB)(n:Nat)(l:List Fs):v8->AB->Nat->Prop:=λo H' n'=>
 (l=[]/\H'=H/\n<=n'/\∃t,o= .ret (.sl t [])/\(t= .nil\/t= .exact e))\/(l≠[]/\n'=n+4/\∃cap rest,o= .ret (.ref (n+2) e 0 l.length cap)/\H'=hset H (n+2) (.arr e (l++rest))/\l.length+rest.length=cap)
def AV.out{P:Program}{f:FuncId}{args:List Fs}{H:AB}{n:Nat}{R R':v8->AB->Nat->Prop}(h:AV P f args H n R)
  (hr:∀o H' n',R o H' n'->∃o2,R' o2 H' n'/\∀g w e,x7 g H' n' w->W5 g o e->W5 g o2 e):AV P f args H n R':=
 ⟨h.1,λg w vs r v=>(h.2 g w vs r v).mono λe w' ⟨g',out,H',n',q,he,hR,hn,ht⟩=>
  let ⟨o2,q2,hw⟩:=hr _ _ _ q;⟨g',o2,H',n',q2,hw _ _ _ hR he,hR,hn,ht⟩⟩
def AV.seal{P:Program}{f:FuncId}{args:List Fs}{H:AB}{n:Nat}{R R':v8->AB->Nat->Prop}(h:AV P f args H n R)
  (hr:∀o H' n',R o H' n'->R' o H' n'\/∃id e l,AD H' id=some (.arr e l)/\R' o (hset H' id (.frz e l)) n'):AV P f args H n R':=by
 refine⟨h.1,λg w vs r v=>(h.2 g w vs r v).mono ?_⟩;rintro e w' ⟨g',out,H',n',q,he,hR,hn,ht⟩;rcases hr _ _ _ q with q|⟨id,es,l,h0,q⟩
 ·exact⟨g',out,H',n',q,he,hR,hn,ht⟩
 ·obtain⟨σ',r1,t1⟩:=hR.freeze (m:=n) h0;refine⟨_,out,_,n',q,?_,r1,hn,ht.trans t1⟩;cases out<;>cases e<;>first|exact he.elim|skip
  ·exact AR.mono t1.le _ _ he
  ·obtain⟨v,hv,hr⟩:=he;exact⟨v,hv,AR.mono t1.le _ _ hr⟩
def LF(e:Nat)(v:Fs)(H:AB)(l:List Fs):Prop:=
 (l=[]/\∃t,v= .sl t []/\(t= .nil\/t= .exact e))\/(l≠[]/\∃id cap rest,v= .ref id e 0 l.length cap/\AD H id=some (.frz e (l++rest))/\l.length+rest.length=cap)
def LS{e:Nat}{v:Fs}{H:AB}{l:List Fs}(h:LF e v H l){g:q8}{n:Nat}{w:World}{x:Value}(hR:x7 g H n w)(hv:AR g v x):AR g (.sl (.none e) l) x:=by
 rcases h with⟨rfl,t,rfl,ht⟩|⟨s6,id,cap,rest,rfl,ho,hc⟩
 ·exact Wk.sl (.inr rfl) _ _ hv
 ·obtain⟨L,h1,h2,rfl⟩:=hv;obtain⟨L',j1,j2,j3⟩:=hR.obj id _ ho;rw[h1]at j1;cases j1;refine .inr ⟨zt,L.blk,0,cap,⟨none,zw,.inl rfl⟩,zo,?_,zt⟩;have:=Stab.take l.length _ _ j3;rw[vj]at this;exact this
def RO{α:Type}(enc:α->Fs)(e lo:Nat)(H:AB)(lv:Fs)(qs:List α):Prop:=(lv= .sl .nil []/\qs=[])\/qs≠[]/\∃id rest,lv= .ref id e 0 qs.length (qs.length+rest.length)/\lo<=id/\AD H id=some (.arr e ((qs++rest).map enc))
section
variable {α:Type} {enc:α->Fs} {e lo:Nat}
theorem RE{H:AB}{m b:Nat}{lv z v:Fs}{z0:α}{qs:List α}{q:α}{K:AB->Fs->Prop}(h:RO enc e lo H lv qs)(hv:v=enc q)(he:0<e)(hz:z.cells.length=e)(hz0:z=enc z0)(hb:Al (qs.length+1) b)(hm:AD H m=none)(xu:lo<=m)(hk:qs.length+1<=35184372088832)
  (hK:∀id (rest:List α),lo<=id->(id=m\/∃L,AD H id=some (.arr e L))->K (hset H id (.arr e (((qs++[q])++rest).map enc))) (.ref id e 0 (qs++[q]).length ((qs++[q]).length+rest.length))):JE H m e b z K lv (some [v]):=by
 subst hv;subst hz0;have el:(qs++[q]).length=qs.length+1:=zw
 rcases h with⟨rfl,rfl⟩|⟨-,id,rest,rfl,h2,h3⟩
 ·rw[Df];refine⟨hm,he,hz,.inl rfl,hb,zw,(λe=>by cases e),λ_ cap hcap=>?_⟩;have:=hK m (List.replicate (cap-1) z0) xu (.inl rfl);simp only[sj,sw,sC,tn,tP,si,uc]at this hcap⊢;rw[show 0+1+(cap-1)=cap by omega]at this;exact this
 ·rw[LI h3];refine⟨hm,he,hz,rfl,rfl,hb,hk,rfl,zw,zo,λhr=>?_,λhr cap' hc=>?_⟩
  ·have:=hK id (rest.drop 1) h2 (.inr ⟨_,h3⟩);simp only[sC,tn]at hr⊢;have e1:List.take qs.length ((qs++rest).map enc)=qs.map enc:=by rw[rz,uf zw,sQ zw]
   have e2:List.drop (qs.length+(0+1)) ((qs++rest).map enc)=(rest.drop 1).map enc:=by rw[rz,List.drop_append,ut zw];simp
   rw[e1,e2];rw[el,rz,rz,tK,show qs.length+1+(rest.length-1)=qs.length+rest.length by omega]at this;exact this
  ·have:=hK m (List.replicate (cap'-(qs.length+1)) z0) xu (.inl rfl);simp only[sC,tn]at hr hc⊢;have e1:List.take qs.length ((qs++rest).map enc)=qs.map enc:=by rw[rz,uf zw,sQ zw]
   rw[e1];rw[el,rz,rz,uc,tP,show qs.length+1+(cap'-(qs.length+1))=cap' by omega]at this;exact this
end
structure VF where
 i:Nat
 H:AB
 n:Nat
def LT{P:Program}{T:Bc}{b:Nat}{cx:Nat->Fs}{rx:List (Nat×xz)}{kp:List Nat}{k:List Item}{Q:x6->AS->Prop}{s:AS}{d:Option Nat}{sz:Nat}{a x:zz}:A8 P T b cx ((0,⟨d,none,.st sz a x⟩)::rx) kp k Q s=((lk s.env a).1=true/\(lk s.env x).1=true/\nT (AX s.env x)/\(AX s.env x).cells.length=sz/\(Qr s.H sz (AX s.env x) (AX s.env a)).1/\A8 P T b cx rx kp k Q ({s with H:=(Qr s.H sz (AX s.env x) (AX s.env a)).2}.put d true (.tup []))):=by
 rw[UZ,Mc,Nq];simp only[Bh,tE,Bp,tL];rfl
def hZ{H:AB}{n:Nat}(l:List x8)(hl:An l):AV prog 206 [E6 l] H n (br 6 H n (l.map Cc)):=by
 refine AV.fresh gA.l λhf=>gA.a (AI AH.tnil (AJ ?_))
 have am:l.length<1000000000:=hl;cases l with
 |nil=>
  simp only[eZ,seval,gA];refine⟨?_,?_⟩
  ·simp only[eZ,seval,Df,FY,Bq hf,Al,uI,rm];exact .inl ⟨rfl,rfl,tt _ _,.exact 6,rfl,.inr rfl⟩
  ·simp only[eZ,seval,rf];exact .inl ⟨rfl,rfl,rq _,.nil,rfl,.inl rfl⟩
 |cons x r=>
  rw[sC]at am;simp only[eZ,seval,r9,gA,E6,Df,FY,Bq hf];refine⟨Ac zo zd,zo,λcap hcap=>.inr ⟨zw,rfl,cap,List.replicate (cap-(r.length+1)) (.agg [.str [],.str [],.int .i64 0,.int .i64 0,.int .i64 0,.int .i64 0]),?_,?_,?_⟩⟩
  ·simp
  ·simp
  ·simp;omega
def iA{H:AB}{n:Nat}(l:List zj)(hl:An l):AV prog 210 [Dr l] H n (br 12 H n (l.map Br)):=by
 refine AV.fresh gB.l λhf=>gB.a (AI AH.tnil (AJ ?_))
 have am:l.length<1000000000:=hl;cases l with
 |nil=>
  simp only[eZ,seval,gB];refine⟨?_,?_⟩
  ·simp only[eZ,seval,Df,FY,Bq hf,Al,uI,rm];exact .inl ⟨rfl,rfl,tt _ _,.exact 12,rfl,.inr rfl⟩
  ·simp only[eZ,seval,rf];exact .inl ⟨rfl,rfl,rq _,.nil,rfl,.inl rfl⟩
 |cons x r=>
  rw[sC]at am;simp only[eZ,seval,r9,gB,Dr,Df,FY,Bq hf];refine⟨Ac zo zd,zo,λcap hcap=>.inr ⟨zw,rfl,cap,List.replicate (cap-(r.length+1)) (.agg [.str [],.str [],.int .i64 0,.int .i64 0,.sl .nil [],.sl .nil [],.int .i64 0,.int .i64 0,.int .i64 0,.int .i64 0,.str [],.int .i64 0]),?_,?_,?_⟩⟩
  ·simp
  ·simp
  ·simp;omega
end Go.AM
