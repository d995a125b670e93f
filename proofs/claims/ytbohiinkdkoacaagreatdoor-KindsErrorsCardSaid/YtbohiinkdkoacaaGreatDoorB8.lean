/-
  Parts of the proof. Conditions: none.
-/
import Derived.Test.YtbohiinkdkoacaaGreatDoorB6
import Derived.Test.YtbohiinkdkoacaaGreatDoorShelf
import Derived.Test.YtbohiinkdkoacaaGreatDoorB7
set_option maxRecDepth 20000
set_option linter.all false
namespace Go.AM
open Go.Lib Go.Proofs Go.Proofs.Tryz
section
abbrev Bs:=List UInt8
abbrev eI(n:Int):Fs:=.int .i64 n
abbrev eSs(l:List Bs):Fs:=.sl (.none 1) (l.map .str)
abbrev eIs(l:List Int):Fs:=.sl (.none 1) (l.map eI)
def N5(n:Nat)(l:List Bs):unders n (l.map Fs.str):=AV (f:=Fs.str) (λx=>trivial) _
def My(n:Nat)(l:List Int):unders n (l.map eI):=AV (f:=eI) (λx=>trivial) _
def Fe(l:List Bs):(l.map Fs.str).map toS=l:=by rw[X2];exact Yg _
def Dk(l:List Int):(l.map eI).map toI=l:=by rw[X2];exact Yg _
inductive Wks:List Fs->List Fs->Prop
 |nil:Wks [] []
 |cons {a b:Fs} {ws us:List Fs}:Wk a b->Wks ws us->Wks (a::ws) (b::us)
theorem Wks.rel{g:Yx}:∀{ws us:List Fs},Wks ws us->∀vs,VRels g ws vs->VRels g us vs
 |_,_,.nil,vs,h=>h
 |_,_,.cons h t,vs,⟨v,r,e,k1,k2⟩=>⟨v,r,e,h _ _ k1,t.rel r k2⟩
def Wk.agg{ws us:List Fs}(h:Wks ws us):Wk (.agg ws) (.agg us):=by
 rintro g v ⟨vs,rfl,h1,h2⟩;exact⟨vs,rfl,h.rel _ h1,h2⟩
def Wk.tup{ws us:List Fs}(h:Wks ws us):Wk (.tup ws) (.tup us):=by
 rintro g v ⟨vs,rfl,h1⟩;exact⟨vs,rfl,h.rel _ h1⟩
def Wk.trans{a b c:Fs}(h:Wk a b)(k:Wk b c):Wk a c:=λg v q=>k g v (h g v q)
def B3(pid:Nat)(H H':AC):Prop:=∀id ob,id≠pid->hget H id=some ob->hget H' id=some ob
variable {H H':AC} {ob:Z7} {fid:FuncId} {pid n i e a b lo:Nat} {tk:Zd} {α β:Type}
theorem B3.refl(H:AC):B3 pid H H:=λ_ _ _ h=>h
theorem B3.trans{H'':AC}(h:B3 pid H H')(k:B3 pid H' H''):B3 pid H H'':=λid ob hne x=>k id ob hne (h id ob hne x)
theorem B3.set(h:B3 pid H H'):B3 pid H (hset H' pid ob):=λid o hne x=>by
 rw[AA _ _ _ _ (Ne.symm hne)];exact h id o hne x
theorem B3.new(hf:AR H n)(hi:n<=i)(h:B3 pid H H'):B3 pid H (hset H' i ob):=λid o hne x=>by
 have:=hf.lt x;rw[AA _ _ _ _ zo];exact h id o hne x
section
variable {n pid:Nat} {H:AC}
theorem fr1(h:AR H n)(k:Nat):hget H (n+k)=none:=h _ zo
theorem fr0(h:AR H n):hget H n=none:=h _ (V4 _)
end
structure Dc(α:Type) where
 enc:α->Fs
 dec:Fs->α
 ok:Fs->Prop
 wk:∀v,ok v->Wk v (enc (dec v))
def VZ:Fs->Prop
 | .int .i64 _=>True
 |_=>False
theorem SQ(v:Fs)(h:VZ v):Wk v (eI (toI v)):=by
 unfold VZ at h;split at h
 ·exact Wk.refl _
 ·exact h.elim
def dI:Dc Int:=⟨eI,toI,VZ,SQ⟩
theorem isS_wk(v:Fs)(h:isS v):Wk v (.str (toS v)):=by
 cases v<;>first|exact Wk.refl _|exact h.elim
def dS:Dc Bs:=⟨.str,toS,isS,isS_wk⟩
def okL(e:Nat)(enc:α->Fs)(dec:Fs->α):Fs->Prop
 | .sl t L=>(t.esz=e\/L=[])/\L=(L.map dec).map enc
 |_=>False
def decL(dec:Fs->α):Fs->List α
 | .sl _ L=>L.map dec
 |_=>[]
theorem QW{enc:α->Fs}{dec:Fs->α}(v:Fs)(h:okL e enc dec v):Wk v (.sl (.none e) ((decL dec v).map enc)):=by
 cases v<;>simp only[okL]at h<;>try exact h.elim
 simp only[decL];rw[<-h.2];exact Wk.sl h.1
def dSs:Dc (List Bs):=⟨eSs,decL toS,okL 1 .str toS,QW⟩
def dIs:Dc (List Int):=⟨eIs,decL toI,okL 1 eI toI,QW⟩
def s1(A:Dc α)(c:α->Prop)(f:α->Fs):List Fs->AC->Prop×Fs:=λa _=>match a with
 |[x]=>(A.ok x/\c (A.dec x),f (A.dec x))
 |_=>(False,.tup [])
def s2(A:Dc α)(B:Dc β)(c:α->β->Prop)(f:α->β->Fs):List Fs->AC->Prop×Fs:=λa _=>match a with
 |[x,y]=>(A.ok x/\B.ok y/\c (A.dec x) (B.dec y),f (A.dec x) (B.dec y))
 |_=>(False,.tup [])
def s3{γ:Type}(A:Dc α)(B:Dc β)(C:Dc γ)(c:α->β->γ->Prop)(f:α->β->γ->Fs):List Fs->AC->Prop×Fs:=λa _=>match a with
 |[x,y,z]=>(A.ok x/\B.ok y/\C.ok z/\c (A.dec x) (B.dec y) (C.dec z),f (A.dec x) (B.dec y) (C.dec z))
 |_=>(False,.tup [])
theorem q1{A:Dc α}{c:α->Prop}{f:α->Fs}(h:∀x,c x->Pur prog fid [A.enc x] (f x)):∀args H n,(s1 A c f args H).1->Ab prog fid args H n (s1 A c f args H).2:=by
 intro args H n hh;unfold s1 at hh⊢;split at hh
 ·obtain⟨h1,h2⟩:=hh;refine AN.args ((h _ h2).quiet H n) ?_;rintro g vs ⟨v,r,rfl,k1,k2⟩;exact⟨v,_,rfl,A.wk _ h1 _ _ k1,k2⟩
 ·exact hh.elim
theorem q2{A:Dc α}{B:Dc β}{c:α->β->Prop}{f:α->β->Fs}(h:∀x y,c x y->Pur prog fid [A.enc x,B.enc y] (f x y)):∀args H n,(s2 A B c f args H).1->Ab prog fid args H n (s2 A B c f args H).2:=by
 intro args H n hh;unfold s2 at hh⊢;split at hh
 ·obtain⟨h1,h2,h3⟩:=hh;refine AN.args ((h _ _ h3).quiet H n) ?_;rintro g vs ⟨v,r,rfl,k1,w,r',rfl,k2,k3⟩;exact⟨v,_,rfl,A.wk _ h1 _ _ k1,w,_,rfl,B.wk _ h2 _ _ k2,k3⟩
 ·exact hh.elim
theorem q3{γ:Type}{A:Dc α}{B:Dc β}{C:Dc γ}{c:α->β->γ->Prop}{f:α->β->γ->Fs}(h:∀x y z,c x y z->Pur prog fid [A.enc x,B.enc y,C.enc z] (f x y z)):∀args H n,(s3 A B C c f args H).1->Ab prog fid args H n (s3 A B C c f args H).2:=by
 intro args H n hh;unfold s3 at hh⊢;split at hh
 ·obtain⟨h1,h2,h3,h4⟩:=hh;refine AN.args ((h _ _ _ h4).quiet H n) ?_;rintro g vs ⟨v,r,rfl,k1,w,r',rfl,k2,u,r'',rfl,k3,k4⟩;exact⟨v,_,rfl,A.wk _ h1 _ _ k1,w,_,rfl,B.wk _ h2 _ _ k2,u,_,rfl,C.wk _ h3 _ _ k3,k4⟩
 ·exact hh.elim
theorem Pur.all{P:Program}{f:FuncId}{args:List Fs}{r r':Fs}(h:Pur P f args r)(e:r=r'):Pur P f args r':=e▸h
abbrev any1(_:α):Prop:=True
abbrev any2(_:α)(_:β):Prop:=True
theorem map_take{f:α->β}{l:List α}(h:i<l.length):(l.take (i+1)).map f=(l.take i).map f++[f l[i]]:=by
 rw[Vx,V2 h,Vt];rfl
theorem lt_T(h:a<b):((a:Int)<(b:Int))=True:=V1 zo
theorem lt_F(h:¬a<b):((a:Int)<(b:Int))=False:=Vs zo
theorem Ae{x:Int}(h1: -9223372036854775808<=x)(h2:x<=9223372036854775807):IntKind.wrap .i64 x=x:=by rw[IntKind.wrap_i64];omega
theorem AG{k:Nat}(h:k<9000000000000000000):IntKind.wrap .i64 ((k:Int)+1)=((k+1:Nat):Int):=by rw[Ae zo zo];rfl
theorem c0:((0:Nat):Int)=0:=rfl
theorem c1:((1:Nat):Int)=1:=rfl
theorem cS1:((0:Int)<((n+1:Nat):Int))=True:=V1 zo
theorem i00:((0:Int)<0)=False:=Vs zd
def tkG(e lo:Nat)(H:AC)(tk:Zd):Prop:=tk= .nil\/tk= .exact e\/∃id,tk= .own id e/\lo<=id/\hget H id=some .tok
theorem tkG.app(h:tkG e lo H tk):At H e tk:=by
 rcases h with rfl|rfl|⟨id,rfl,h1,h2⟩
 ·trivial
 ·rfl
 ·exact⟨rfl,h2⟩
theorem tkG.set(h:tkG e lo H tk)(hi:i<lo\/(∃cs,hget H i=some (.box cs))\/hget H i=none):tkG e lo (hset H i ob) tk:=by
 rcases h with rfl|rfl|⟨id,rfl,h1,h2⟩
 ·exact .inl rfl
 ·exact .inr (.inl rfl)
 ·refine .inr (.inr ⟨id,rfl,h1,?_⟩);rw[AA _ _ _ _ ?_]
  ·exact h2
  ·rintro rfl;rcases hi with q|⟨cs,q⟩|q
   ·omega
   ·rw[h2]at q;cases q
   ·rw[h2]at q;cases q
theorem AX(h:tkG e lo H tk)(hi:i<lo\/∃cs,hget H i=some (.box cs)):hget (AL H tk) i=hget H i:=by
 rcases h with rfl|rfl|⟨id,rfl,h1,h2⟩
 ·rfl
 ·rfl
 ·simp only[AL];rw[AA _ _ _ _ ?_];rintro rfl;rcases hi with q|⟨cs,q⟩
  ·omega
  ·rw[h2]at q;cases q
theorem AT(h:tkG e lo H tk)(hf:AR H n):AR (AL H tk) n:=by
 rcases h with rfl|rfl|⟨id,rfl,h1,h2⟩
 ·exact hf
 ·exact hf
 ·exact hf.hset (V4 _) (hf.lt h2)
theorem KU(h:tkG e lo H tk)(hi:hget H i=none):hget (AL H tk) i=none:=by
 rcases h with rfl|rfl|⟨id,rfl,h1,h2⟩
 ·exact hi
 ·exact hi
 ·simp only[AL];rw[AA _ _ _ _ ?_]
  ·exact hi
  ·rintro rfl;rw[h2]at hi;cases hi
theorem tkG.kill{e' lo':Nat}{tk':Zd}(h:tkG e lo H tk)(h':tkG e' lo' H tk')(hd:∀i,tk= .own i e->tk'≠ .own i e'):tkG e lo (AL H tk') tk:=by
 rcases h' with rfl|rfl|⟨j,rfl,h1,h2⟩
 ·exact h
 ·exact h
 ·rcases h with rfl|rfl|⟨id,rfl,h3,h4⟩
  ·exact .inl rfl
  ·exact .inr (.inl rfl)
  ·refine .inr (.inr ⟨id,rfl,h3,?_⟩);simp only[AL];rw[AA _ _ _ _ (λe=>hd id rfl (by rw[e]))];exact h4
abbrev few(l:List α):Prop:=l.length<1000000000
abbrev wide(l:List α):Prop:=l.length<1125899906842624
theorem Ca{l:List α}(h:few l):wide l:=by
 have:l.length<1000000000:=h;show l.length<_;omega
theorem DT{a b:List α}(hl:a.length=b.length)(h:∀j,j<a.length->a[j]?=b[j]?):a=b:=List.ext_getElem? λj=>by
 rcases Nat.lt_or_ge j a.length with q|q
 ·exact h j q
 ·rw[XU q,XU zo]
theorem GF(h:a≠b):((a:Int)=(b:Int))=False:=Vs zo
theorem GG(h:a=b):((a:Int)=(b:Int))=True:=V1 zo
theorem AP(h:n<=1000000000)(hb:b<=1000):small n b:=by
 have:n*b<=1000000000*1000:=Nat.mul_le_mul h hb;unfold small;omega
theorem EX{enc:α->Fs}{dec:Fs->α}(h:∀x,dec (enc x)=x)(l:List α):(l.map enc).map dec=l:=by
 rw[X2];exact(Wz λx _=>h x).trans (Yg _)
theorem CL.mono{P:Program}{args:List Fs}{rv:Fs}{Rc Rc':AC->Nat->Prop}(h:CL P fid args rv H n Rc)(hr:∀H' n',Rc H' n'->Rc' H' n'):CL P fid args rv H n Rc':=
 λg w vs u hR hV hu=>CallsDIn.mono (h g w vs u hR hV hu) λe u' w' ⟨h1,h2,g',H',n',h3,h4⟩=>⟨h1,h2,g',H',n',hr _ _ h3,h4⟩
def eY:=A @Option.getD_none.{0}<|A @W7.{0}<|A @Option.isSome_none.{0}<|A @Option.isSome_some.{0}<|A @c0<|A @c1<|A @i00<|A @Int.toNat_zero<|A @Int.toNat_one<|A @Y7<|A @Vy<|A @Wa<|A @V0.{0,0}<|A @W3.{0,0}<|A @WU.{0}<| @Xe.{0}
end
structure Za where
 nm:List UInt8
 v:Int
 deriving DecidableEq
structure Z6 where
 nm:List UInt8
 ls:List (List Int)
 deriving DecidableEq
structure Z5 where
 nm:List UInt8
 on:List UInt8
 fam:Int
 ty:Int
 lo:Int
 hi:Int
 deriving DecidableEq
structure Yz where
 nm:List UInt8
 on:List UInt8
 kind:Int
 fam:Int
 ns:List (List UInt8)
 os:List (List UInt8)
 set:Int
 oth:Int
 op:Int
 n:Int
 byN:List UInt8
 clue:Int
 deriving DecidableEq
structure Z8 where
 nm:List UInt8
 ver:Int
 sh:Int
 w:Int
 h:Int
 holes:List Int
 syms:List Za
 regs:List Z6
 clus:List Z5
 ruls:List Yz
 deriving DecidableEq
def Bo:List (List UInt8):=[[99,101,108,108,115],[114,111,119,115],[99,111,108,117,109,110,115],[100,105,97,103,111,110,97,108,115],[97,114,111,117,110,100],[110,101,97,114],[112,97,105,114,115],[97,108,108]]
def Ad{α:Type}[DecidableEq α]:List α->Bool
 |[]=>false
 |x::r=>(r.any λy=>decide (y=x))||Ad r
def Be(d:Z8):List (List UInt8):=Bo++d.regs.map (·.nm)
def BG(l:List (List UInt8))(s:List UInt8):Option Int:=(l.findIdx? λx=>decide (x=s)).map λ(i:Nat)=>(i:Int)
def CG(l:List (List UInt8)):List (List UInt8)->Option Int
 |[]=>some 0
 |s::r=>match l.findIdx? (λx=>decide (x=s)),CG l r with
  |some i,some n=>some (Int.ofNat (Nat.lor (1<<<i) n.toNat))
  |_,_=>none
def Bf(d:Z8)(c:Z5):Option Z5:=(BG (Be d) c.on).map λf=>{c with fam:=f}
def BE(d:Z8)(r:Yz):Option Yz:=
 match (if r.on=[]then some 0 else BG (Be d) r.on),CG (d.syms.map (·.nm)) r.ns,CG (d.syms.map (·.nm)) r.os,(if r.byN=[]then some (-1)else BG (d.clus.map (·.nm)) r.byN)with
 |some f,some a,some b,some c=>some {r with fam:=f,set:=a,oth:=b,clue:=c}
 |_,_,_,_=>none
def Ag{α β:Type}(f:α->Option β):List α->Option (List β)
 |[]=>some []
 |x::r=>match f x,Ag f r with
  |some y,some s=>some (y::s)
  |_,_=>none
def resD(d:Z8):Except Int Z8:=
 if 16<d.syms.length then .error 2 else if Ad (d.syms.map (·.nm))then .error 161 else if Ad (Be d)then .error 161 else if Ad (d.clus.map (·.nm))then .error 161
 else match Ag (Bf d) d.clus with
  |none=>.error 160
  |some cs=>if Ad (d.ruls.map (·.nm))then .error 161 else match Ag (BE d) d.ruls with
   |none=>.error 160
   |some rs=>.ok {d with clus:=cs,ruls:=rs}
def Bk:Int->List Int->Bool
 |_,[]=>true
 |a,x::r=>decide (a<x)&&Bk x r
def Ak(sh w h:Int)(holes:List Int):Option (List Int):=
 if(sh=1\/sh=2)/\1<=w/\w<=16/\1<=h/\h<=16/\(holes.length:Int)<w*h/\Bk (-1) holes=true/\(holes.all λp=>decide (p<w*h))=true then
  some (((List.range (w*h).toNat).map λ(i:Nat)=>(i:Int)).filter λp=>!holes.contains p)
 else none
def DU(cells l:List Int):Bool:=(l.all λp=>cells.contains p)&& !Ad l&&decide (1<=l.length)
def Cf(a b:List Int):Bool:=(a.all λx=>b.contains x)&&b.all λx=>a.contains x
def Bg:List (List Int)->Bool
 |[]=>false
 |x::r=>(r.any λy=>Cf y x)||Bg r
def regE(cells:List Int)(r:Z6):Int:=if(decide (r.ls.length<=64)&&r.ls.all (DU cells))=false then 130 else if Bg r.ls=true then 161 else 0
def Cx(cells:List Int):List Z6->Int
 |[]=>0
 |r::s=>if regE cells r=0 then Cx cells s else regE cells r
def Db(c:Z5):Bool:=
 if c.ty=1 then decide (c.fam=0)&&decide (c.lo=0)&&decide (c.hi=0)
 else if c.ty=2 then decide (0<=c.lo)&&decide (c.lo<=c.hi)&&decide (c.hi<=65536)
 else if c.ty=3 then(decide (1<=c.fam)&&decide (c.fam<=3)||decide (8<=c.fam))&&decide (c.lo=0)&&decide (c.hi=0)
 else false
structure FormD where
 on:Bool:=false
 set:Bool:=false
 oth:Bool:=false
 bnd:Bool:=false
 num:Bool:=false
 rdb:Bool:=false
 knw:Bool:=false
 clue:Int:=0
def Cm(k:Int):FormD:=
 if k=1 then{on:=true,rdb:=true,knw:=true}else if k=2 then{on:=true,set:=true,bnd:=true,rdb:=true,knw:=true}
 else if k=3 then{on:=true,bnd:=true,rdb:=true,knw:=true}else if k=4 then{on:=true,rdb:=true,knw:=true}
 else if k=5 then{on:=true,set:=true,rdb:=true,knw:=true,clue:=3}else if k=6 then{rdb:=true,knw:=true}
 else if k=7 then{num:=true,rdb:=true,knw:=true}else if k=8 then{set:=true,oth:=true,rdb:=true,knw:=true}
 else if k=9 then{set:=true,rdb:=true,knw:=true}else if k=10 then{set:=true,rdb:=true,knw:=true}
 else if k=11 then{rdb:=true,knw:=true,clue:=1}else if k=12 then{on:=true,knw:=true}else if k=13 then{bnd:=true,knw:=true}else{}
def cluP(cl:List Z5)(r:Yz)(w:Int):Bool:=if r.clue<0\/(cl.length:Int)<=r.clue then false else match cl[r.clue.toNat]? with
 |some c=>decide (c.ty=w)&&(decide (w=1)||decide (c.fam=r.fam))
 |none=>false
def EY(cl:List Z5)(r:Yz):Bool:=
 let f:=Cm r.kind
 if f.knw=false then false
 else if(f.on !=decide (r.on≠[]))||(f.set !=decide (r.set≠0))||(f.oth !=decide (r.oth≠0))||(!f.on&&decide (r.fam≠0))||(!f.set&&decide (0<r.ns.length))||(!f.oth&&decide (0<r.os.length))then false
 else if(f.bnd !=(decide (1<=r.op)&&decide (r.op<=3)))||(!f.bnd&&decide (r.op≠0))||decide (r.n<0)||decide (65536<r.n)then false
 else if !(f.num||f.bnd&&decide (r.byN=[]))&&decide (r.n≠0)then false
 else
  let want:=if f.bnd&&decide (r.byN≠[])then 2 else f.clue
  if want=0 then decide (r.byN=[])&&decide (r.clue= -1)else cluP cl r want
def D2(rs:List Yz)(i:Nat):Nat:=(rs.filter λr=>decide (r.clue=(i:Int))).length
def Bb(d:Z8):Bool:=(d.syms.all λs=>decide (0<=s.v)&&decide (s.v<=99))&&d.ruls.all (EY d.clus)&&((List.range d.clus.length).all λi=>decide (D2 d.ruls i=1))&&d.clus.all Db
def HJ(r:Yz):Bool:=decide (1<=r.kind)&&decide (r.kind<=11)
def Bc(rs:List Yz):List Int:=((List.range rs.length).filter λi=>match rs[i]? with|some r=>!HJ r|none=>false).map λ(i:Nat)=>(i:Int)
def limD(d:Z8):Bool:=decide (0<d.syms.length)&&decide (d.syms.length<=16)&&decide (d.regs.length<=4)&&decide (d.clus.length<=4)&&decide (d.ruls.length<=16)
def chkD(d:Z8):Int:=
 if limD d=false then 2 else match resD d with
  | .error e=>e
  | .ok x=>if x≠d then 170 else if d.ver<1\/255<d.ver then 170 else match Ak d.sh d.w d.h d.holes with
   |none=>130
   |some cells=>if Cx cells d.regs≠0 then Cx cells d.regs else if Bb d=false then 170 else if Bc d.ruls≠[]then 171 else 0
abbrev leI(x y:Int):Bool:=decide (x<=y)
theorem Bt{α:Type}[DecidableEq α]:∀{l:List α},Ad l=false↔l.Nodup
 |[]=>by simp [Ad]
 |x::r=>by
  have ih:=Bt (l:=r);simp only[Ad,Xm,List.any_eq_false,Vu,Xv,ih];constructor
  ·exact λ⟨h1,h2⟩=>⟨λhx=>h1 x hx rfl,h2⟩
  ·exact λ⟨h1,h2⟩=>⟨λy hy e=>h1 (e▸hy),h2⟩
def QX{a b:List Int}:Cf a b=true↔∀x,x∈a↔x∈b:=by
 unfold Cf;simp only[V7,W4,WA];exact⟨λ⟨h1,h2⟩ x=>⟨h1 x,h2 x⟩,λh=>⟨λx hx=>(h x).1 hx,λx hx=>(h x).2 hx⟩⟩
def Ff(l:List Int):List.Pairwise (λx y=>x<=y) (l.mergeSort leI):=by
 have:=List.pairwise_mergeSort (le:=leI) (λa b c h1 h2=>by simp only[leI,Vu]at*;omega) (λa b=>by simp only[leI,Wd,Vu];omega) l;exact this.imp λh=>by simpa using h
def IY{a b:List Int}(ha:a.Nodup)(hb:b.Nodup):Cf a b=decide (a.mergeSort leI=b.mergeSort leI):=by
 rw[Wg,QX,Vu,<-XW ha hb];constructor
 ·intro h;have p:(a.mergeSort leI).Perm (b.mergeSort leI):=(Xp a leI).trans (h.trans (Xp b leI).symm);exact p.eq_of_pairwise (le:=λx y:Int=>x<=y) (λx y _ _ h1 h2=>zo) (Ff a) (Ff b)
 ·intro h;exact(Xp a leI).symm.trans (h▸Xp b leI)
def Cy(cl:List Z5)(r:Yz)(kind:Int)(on:Bool):Bool:=
 if r.clue<0\/(cl.length:Int)<=r.clue then false else match cl[r.clue.toNat]? with
  |some c=>decide (c.ty=kind)&&(!on||decide (c.fam=r.fam))
  |none=>false
def D8(cl:List Z5)(r:Yz):Bool:=
 if r.op<1\/3<r.op then false else if r.byN=[]then decide (0<=r.n)&&decide (r.n<=65536)&&decide (r.clue= -1)else decide (r.n=0)&&Cy cl r 2 true
def IZ(cl:List Z5)(r:Yz):Bool:=
 let f:=Cm r.kind
 let by':=decide (f.clue≠0)
 if f.knw=false then false
 else if(!f.on&&(decide (r.on≠[])||decide (r.fam≠0)))||(!f.set&&(decide (0<r.ns.length)||decide (r.set≠0)))||(!f.oth&&(decide (0<r.os.length)||decide (r.oth≠0)))then false
 else if(f.on&&decide (r.on=[]))||(f.set&&decide (r.set=0))||(f.oth&&decide (r.oth=0))then false
 else if !f.bnd&&(decide (r.op≠0)||(!f.num&&decide (r.n≠0))||(!by'&&(decide (r.byN≠[])||decide (r.clue≠ -1))))then false
 else if(f.bnd&& !D8 cl r)||(f.num&&(decide (r.n<0)||decide (65536<r.n)))then false
 else if r.kind=5 then Cy cl r 3 true
 else if r.kind=11 then Cy cl r 1 false else true
def N6(k:Int):(Cm k).knw=false\/((k=5/\(Cm k).clue=3/\(Cm k).bnd=false/\(Cm k).num=false)\/(k=11/\(Cm k).clue=1/\(Cm k).bnd=false/\(Cm k).num=false)\/(k≠5/\k≠11/\(Cm k).clue=0/\((Cm k).bnd=true->(Cm k).num=false))):=by
 by_cases h:1<=k/\k<=13
 ·have:k=1\/k=2\/k=3\/k=4\/k=5\/k=6\/k=7\/k=8\/k=9\/k=10\/k=11\/k=12\/k=13:=zo
  rcases this with rfl|rfl|rfl|rfl|rfl|rfl|rfl|rfl|rfl|rfl|rfl|rfl|rfl<;>decide
 ·left;unfold Cm;repeat rw[V5 zo]
def SR(cl:List Z5)(r:Yz)(w:Int):cluP cl r w=Cy cl r w (!decide (w=1)):=by
 unfold Cy cluP;split
 ·rfl
 ·cases cl[r.clue.toNat]?<;>simp
def bA:∀(on set oth o s t f n m:Bool),((on !=o)||(set !=s)||(oth !=t)||(!on&&f)||(!set&&n)||(!oth&&m))=
  (((!on&&(o||f))||(!set&&(n||s))||(!oth&&(m||t)))||((on&& !o)||(set&& !s)||(oth&& !t))):=zd
def bB:∀(bnd num p q lo hi nn b0 cm c2:Bool),(!p||q)=true->(!lo||nn)=true->(!hi||nn)=true->(!bnd|| !num)=true->
  (if((bnd !=p)||(!bnd&&q)||lo||hi)=true then false else if(!(num||bnd&&b0)&&nn)=true then false else if(bnd&& !b0)=true then c2 else b0&&cm)=
  (if(!bnd&&(q||(!num&&nn)||(!b0|| !cm)))=true then false else if((bnd&& !(if p=false then false else if b0=true then !lo&& !hi&&cm else !nn&&c2))||(num&&(lo||hi)))=true then false else true):=zd
def bC:∀(p q lo hi nn c3:Bool),(!p||q)=true->(!lo||nn)=true->(!hi||nn)=true->
  (if((false !=p)||q||lo||hi)=true then false else if nn=true then false else c3)=(if(q||nn)=true then false else c3):=zd
def nd{α:Prop}[Decidable α]:decide α= !decide (¬α):=by by_cases h:α<;>simp [h]
def Va(cl:List Z5)(r:Yz):EY cl r=IZ cl r:=by
 unfold EY IZ;simp only[];rcases N6 r.kind with hk|hk
 ·rw[Vv hk,Vv hk]
 by_cases hkw:(Cm r.kind).knw=false
 ·rw[Vv hkw,Vv hkw]
 rw[V5 hkw,V5 hkw,SR,bA];generalize hf:Cm r.kind=f at hk hkw;rw[nd (α:=r.on=[]),nd (α:=r.set=0),nd (α:=r.oth=0)];generalize hA1:(!f.on&&(decide (r.on≠[])||decide (r.fam≠0))|| !f.set&&(decide (0<r.ns.length)||decide (r.set≠0))|| !f.oth&&(decide (0<r.os.length)||decide (r.oth≠0)))=A1;generalize hA2:(f.on&& !decide (¬r.on=[])||f.set&& !decide (¬r.set=0)||f.oth&& !decide (¬r.oth=0))=A2;cases A1;case true=>simp
 cases A2;case true=>simp
 simp only[Bool.or_false,W5,Wf];have i1:(!(decide (1<=r.op)&&decide (r.op<=3))||decide (r.op≠0))=true:=by by_cases h:r.op=0<;>simp [h]
 have i2:(!decide (r.n<0)||decide (r.n≠0))=true:=by by_cases h:r.n=0<;>simp [h]
 have i3:(!decide (65536<r.n)||decide (r.n≠0))=true:=by by_cases h:r.n=0<;>simp [h]
 have n1:decide (r.byN≠[])= !decide (r.byN=[]):=by by_cases h:r.byN=[]<;>simp [h]
 have n2:decide (r.clue≠ -1)= !decide (r.clue= -1):=by by_cases h:r.clue= -1<;>simp [h]
 have n3:decide (r.n=0)= !decide (r.n≠0):=by by_cases h:r.n=0<;>simp [h]
 have n4:decide (0<=r.n)= !decide (r.n<0):=by by_cases h:r.n<0<;>simp [h]<;>omega
 have n5:decide (r.n<=65536)= !decide (65536<r.n):=by by_cases h:65536<r.n<;>simp [h]<;>omega
 have n6:(if r.op<1\/3<r.op then false else if r.byN=[]then decide (0<=r.n)&&decide (r.n<=65536)&&decide (r.clue= -1)else decide (r.n=0)&&Cy cl r 2 true)=
   (if(decide (1<=r.op)&&decide (r.op<=3))=false then false else if decide (r.byN=[])=true then !decide (r.n<0)&& !decide (65536<r.n)&&decide (r.clue= -1)else !decide (r.n≠0)&&Cy cl r 2 true):=by
  rw[n3,n4,n5];by_cases h:r.op<1\/3<r.op
  ·have hp:(decide (1<=r.op)&&decide (r.op<=3))=false:=by rcases h with h|h<;>simp<;>omega
   rw[Vv h,hp];rfl
  ·have hp:(decide (1<=r.op)&&decide (r.op<=3))=true:=by simp;omega
   rw[V5 h,hp];by_cases hb:r.byN=[]
   ·rw[Vv hb,V5 zd,Vv (by simp [hb])]
   ·rw[V5 hb,V5 zd,V5 (by simp [hb])]
 rw[n1,n2];unfold D8;rw[n6];have j9:decide (r.n≠0)=decide (r.n≠0):=rfl;generalize (decide (1<=r.op)&&decide (r.op<=3))=p at i1⊢;generalize decide (r.op≠0)=q at i1⊢;generalize decide (r.n≠0)=nn at i2 i3⊢;generalize decide (r.n<0)=lo at i2⊢;generalize decide (65536<r.n)=hi at i3⊢;generalize decide (r.byN=[])=b0;generalize decide (r.clue= -1)=cm;obtain⟨on,set,oth,bnd,num,rdb,knw,clue⟩:=f;simp only at hk⊢;rcases hk with⟨h1,rfl,rfl,rfl⟩|⟨h1,rfl,rfl,rfl⟩|⟨h1,h2,rfl,h3⟩
 ·have:=bC p q lo hi nn (Cy cl r 3 true) i1 i2 i3;simpa [h1]using this
 ·have:=bC p q lo hi nn (Cy cl r 1 false) i1 i2 i3;simpa [h1]using this
 ·have:=bB bnd num p q lo hi nn b0 cm (Cy cl r 2 true) i1 i2 i3 (by cases bnd<;>cases num<;>simp_all);rw[V5 h1,V5 h2];cases bnd<;>cases b0<;>first|simpa using this|simp
structure ResOK(d:Z8):Prop where
 n16:d.syms.length<=16
 ts:Ad (d.syms.map (·.nm))=false
 tf:Ad (Be d)=false
 tc:Ad (d.clus.map (·.nm))=false
 tr:Ad (d.ruls.map (·.nm))=false
 cl:∀c∈d.clus,Bf d c=some c
 ru:∀r∈d.ruls,BE d r=some r
structure DclOK(d:Z8):Prop where
 lim:limD d=true
 res:ResOK d
 ver:1<=d.ver/\d.ver<=255
 reg:∃cells,Ak d.sh d.w d.h d.holes=some cells/\Cx cells d.regs=0
 form:Bb d=true
def Mz{d x:Z8}(h:resD d= .ok x):x.nm=d.nm/\x.ver=d.ver/\x.sh=d.sh/\x.w=d.w/\x.h=d.h/\x.holes=d.holes/\x.syms=d.syms/\x.regs=d.regs:=by
 unfold resD at h;split at h
 ·cases h
 split at h
 ·cases h
 split at h
 ·cases h
 split at h
 ·cases h
 split at h
 ·cases h
 split at h
 ·cases h
 split at h
 ·cases h
 ·cases h;exact⟨rfl,rfl,rfl,rfl,rfl,rfl,rfl,rfl⟩
def N7(rs:List Yz)(r:Yz):Bc (rs++[r])=Bc rs++(if HJ r=true then[]else[(rs.length:Int)]):=by
 unfold Bc;rw[V9,List.length_singleton,WT,Xh,Vt];congr 1
 ·congr 1;apply Yj;intro i hi;have:=Wy.1 hi;rw[WI this]
 ·rw[X7,WF (V4 _),Nat.sub_self];simp only[WU,Yp];by_cases h:HJ r=true
  ·simp [h]
  ·simp [show HJ r=false by simpa using h]
def QY{α:Type}[DecidableEq α]{l:List α}{x:α}:Ad (l++[x])=false↔Ad l=false/\x∉l:=by
 rw[Bt,Bt,Xo];simp only[Xv,Xz,Y0,List.nodup_nil,Yt,WQ,WV];constructor
 ·exact λ⟨h1,h2⟩=>⟨h1,λhx=>h2 x hx x rfl rfl⟩
 ·exact λ⟨h1,h2⟩=>⟨h1,λa ha b hb e=>h2 (by rw[<-hb,<-e];exact ha)⟩
def KV{l:List (List UInt8)}{s:List UInt8}{n:Int}(h:BG l s=some n):0<=n/\n<l.length:=by
 unfold BG at h;rw[WY]at h;obtain⟨i,h1,rfl⟩:=h;have:=X9.1 h1;obtain⟨hi,-⟩:=this;omega
structure SmallD(d:Z8):Prop where
 top:d.nm.length+d.holes.length+d.syms.length+d.regs.length+d.clus.length+d.ruls.length<2000
 sy:∀s∈d.syms,s.nm.length<2000
 rg:∀r∈d.regs,r.nm.length+r.ls.length<2000/\∀l∈r.ls,l.length<2000
 cl:∀c∈d.clus,c.nm.length+c.on.length<2000
 ru:∀r∈d.ruls,r.nm.length+r.on.length+r.byN.length+r.ns.length+r.os.length<2000/\(∀s∈r.ns,s.length<2000)/\∀s∈r.os,s.length<2000
theorem En:∀{a:Int} {l:List Int},Bk a l=true↔(∀x∈l,a<x)/\List.Pairwise (λx y=>x<y) l
 |a,[]=>by simp [Bk]
 |a,x::r=>by
  have ih:=En (a:=x) (l:=r);simp only[Bk,V7,Vu,ih,Wp,forall_eq_or_imp,Xq];constructor
  ·exact λ⟨h1,h2,h3⟩=>⟨⟨h1,λy hy=>by have:=h2 y hy;omega⟩,h2,h3⟩
  ·exact λ⟨⟨h1,h2⟩,h3,h4⟩=>⟨h1,h3,h4⟩
def Bp(n:Int):List Int:=(List.range n.toNat).map λ(i:Nat)=>(i:Int)
def Lo{n x:Int}:x∈Bp n↔0<=x/\x<n:=by
 unfold Bp;rw[WL];constructor
 ·rintro⟨i,hi,rfl⟩;have:=Wy.1 hi;omega
 ·intro h;exact⟨x.toNat,Wy.2 zo,zo⟩
def QZ(n:Int):(Bp n).Nodup:=by
 unfold Bp;rw[List.Nodup,XZ];exact(List.nodup_range (n:=n.toNat)).imp λh e=>h zo
def Qa(n:Int):(Bp n).length=n.toNat:=by simp [Bp]
theorem KW{α:Type}(p:α->Bool):∀l:List α,l.length=(l.filter p).length+(l.filter λx=>!p x).length
 |[]=>rfl
 |x::r=>by
  have ih:=KW p r;rw[X7,X7,Vz];cases p x<;>simp<;>omega
def SS{n:Int}{holes:List Int}(hd:holes.Nodup)(hr:∀x∈holes,0<=x/\x<n):((Bp n).filter λp=>!holes.contains p).length+holes.length=n.toNat:=by
 have h1:((Bp n).filter λp=>holes.contains p).Perm holes:=by
  rw[XW ((QZ n).sublist Ye) hd];intro x;rw[Xb,WA,Lo];exact⟨λh=>h.2,λh=>⟨hr x h,h⟩⟩
 have h2:=KW (λp=>holes.contains p) (Bp n);rw[h1.length_eq,Qa]at h2;omega
def Qb(sh w h:Int)(holes:List Int):Option (List Int):=
 if(sh=1\/sh=2)/\1<=w/\w<=16/\1<=h/\h<=16/\(∀x∈holes,0<=x/\x<w*h)/\List.Pairwise (λx y=>x<y) holes/\((Bp (w*h)).filter λp=>!holes.contains p)≠[]then
  some ((Bp (w*h)).filter λp=>!holes.contains p)
 else none
def Qd(sh w h:Int)(holes:List Int):Qb sh w h holes=Ak sh w h holes:=by
 unfold Qb Ak;have e:∀(p q:Prop) [Decidable p] [Decidable q] (x:Option (List Int)),(p↔q)->(if p then x else none)=if q then x else none:=λp q _ _ x hpq=>by
  by_cases hp:p
  ·rw[Vv hp,Vv (hpq.1 hp)]
  ·rw[V5 hp,V5 λhq=>hp (hpq.2 hq)]
 refine e _ _ _ ?_;have hk:∀(h1:∀x∈holes,0<=x/\x<w*h) (h2:List.Pairwise (λx y=>x<y) holes),(((Bp (w*h)).filter λp=>!holes.contains p)≠[]↔(holes.length:Int)<w*h):=by
  intro h1 h2;have hl:=SS (h2.imp λq=>zo) h1;rw[<-List.length_pos_iff];omega
 rw[En];simp only[W4,Vu];constructor
 ·rintro⟨a,b,c,d,e,f,g,i⟩;exact⟨a,b,c,d,e,(hk f g).1 i,⟨λx hx=>by have:=f x hx;omega,g⟩,λx hx=>(f x hx).2⟩
 ·rintro⟨a,b,c,d,e,f,⟨g,g2⟩,i⟩;have hr:∀x∈holes,0<=x/\x<w*h:=λx hx=>⟨by have:=g x hx;omega,i x hx⟩
  exact⟨a,b,c,d,e,hr,g2,(hk hr g2).2 f⟩
def Ax{sh w h:Int}{holes cells:List Int}(hc:Ak sh w h holes=some cells):List.Pairwise (λx y=>x<y) cells/\cells.length<=256/\∀x∈cells,0<=x/\x<256:=by
 unfold Ak at hc;split at hc
 ·rename_i hcond;obtain⟨-,a,b,c,d,-⟩:=hcond;cases hc;have m8:w*h<=256:=by
   have:w*h<=16*16:=Int.mul_le_mul b d zo zo;omega
  have hpw:List.Pairwise (λx y:Int=>x<y) (Bp (w*h)):=by
   unfold Bp;rw[XZ];exact XL.imp λq=>zo
  refine⟨hpw.sublist Ye,?_,λx hx=>?_⟩
  ·have h1:=X0 (λp=>!holes.contains p) (Bp (w*h));rw[Qa]at h1;have:((Bp (w*h)).filter λp=>!holes.contains p).length<=256:=zo
   exact this
  ·have:=Lo.1 (Xb.1 hx).1;omega
 ·cases hc
def lowB(l:List Int)(x:Int):Nat:=(l.filter λy=>decide (y<x)).length
theorem Lp:∀{l:List Int} {x:Int} {i:Nat},i<=l.length->(∀k (hk:k<l.length),k<i->l[k]<x)->(∀k (hk:k<l.length),i<=k->x<=l[k])->lowB l x=i
 |[],x,i,hi,_,_=>by simp at hi;subst hi;rfl
 |y::r,x,0,_,_,h2=>by
  have h0:=h2 0 zw (V4 0);have ih:=Lp (l:=r) (x:=x) (i:=0) (V8 _) (λk hk h=>zo) (λk hk _=>h2 (k+1) (by simp;omega) (V8 _));unfold lowB at ih⊢;rw[X7,V5 (by simp at h0;simp;omega)];exact ih
 |y::r,x,i+1,hi,h1,h2=>by
  have h0:=h1 0 zw zo;have ih:=Lp (l:=r) (x:=x) (i:=i) (by simp at hi;omega) (λk hk h=>h1 (k+1) (by simp;omega) zo) (λk hk h=>h2 (k+1) (by simp;omega) zo);unfold lowB at ih⊢;rw[X7,Vv (by simpa using h0),Vz,ih]
def Vb{l:List Int}(hp:List.Pairwise (λx y=>x<y) l){i j:Nat}(hj:j<l.length)(hij:i<=j):l[i]<=l[j]:=by
 by_cases e:i=j
 ·subst e;exact Y7 _
 ·have:=WW.1 hp i j zo hj zo;omega
def F3(cells:List Int):List Int->List Int->Bool
 |_,[]=>true
 |met,p::r=>cells.contains p&& !met.contains p&&F3 cells (met++[p]) r
theorem Qe(cells:List Int):∀(l met:List Int),F3 cells met l=true↔(∀p∈l,p∈cells/\p∉met)/\l.Nodup
 |[],met=>by simp [F3]
 |p::r,met=>by
  have ih:=Qe cells r (met++[p]);simp only[F3,V7,Xu,WA,ih,Wp,forall_eq_or_imp,Xv,WH,Xz,or_false,not_or];rw[<-Bool.not_eq_true,WA];constructor
  ·exact λ⟨⟨a,b⟩,c,d⟩=>⟨⟨⟨a,b⟩,λx hx=>⟨(c x hx).1,(c x hx).2.1⟩⟩,λhm=>(c p hm).2.2 rfl,d⟩
  ·exact λ⟨⟨⟨a,b⟩,c⟩,d,e⟩=>⟨⟨a,b⟩,λx hx=>⟨(c x hx).1,(c x hx).2,λq=>d (q▸hx)⟩,e⟩
def Eo(cells l:List Int):DU cells l=(F3 cells [] l&&decide (1<=l.length)):=by
 unfold DU;congr 1;rw[Wg,Qe,V7,W4];simp only[WA,Xz,Y0,Xk,Xu,Bt]
section
theorem Qf(a b:List (List UInt8))(s:List UInt8):BG (a++b) s=match BG a s with
  |some i=>some i
  |none=>(BG b s).map λi=>(a.length:Int)+i:=by
 unfold BG;rw[List.findIdx?_append];cases h:a.findIdx? λx=>decide (x=s)with
 |some i=>rfl
 |none=>
  simp only[Option.none_or,X4];cases b.findIdx? λx=>decide (x=s)with
  |none=>rfl
  |some i=>simp [Int.add_comm]
variable {l:List (List UInt8)}
theorem BZ{s:List UInt8}:BG l s=none↔s∉l:=by
 unfold BG;rw[Option.map_eq_none_iff,Y5];simp only[Xf];exact⟨λh hm=>h s hm rfl,λh x hx e=>h (e▸hx)⟩
theorem Vc(d:Z8)(s:List UInt8):BG (Be d) s=match BG Bo s with
  |some i=>some i
  |none=>(BG (d.regs.map (·.nm)) s).map λi=>8+i:=by
 unfold Be;rw[Qf];rfl
theorem Ia{s:List UInt8}{r:List (List UInt8)}:CG l (s::r)=match l.findIdx? (λx=>decide (x=s)),CG l r with
  |some i,some n=>some (Int.ofNat (Nat.lor (1<<<i) n.toNat))
  |_,_=>none:=rfl
def bits(is:List Nat):Nat:=is.foldr (λi n=>Nat.lor (1<<<i) n) 0
theorem N8{ss:List (List UInt8)}:CG l ss=(Ag (λs=>l.findIdx? λx=>decide (x=s)) ss).map λis=>(bits is:Int):=by
 induction ss with
 |nil=>rfl
 |cons s r ih=>
  rw[Ia,ih];simp only[Ag];cases l.findIdx? λx=>decide (x=s)with
  |none=>rfl
  |some i=>
   cases Ag (λs=>l.findIdx? λx=>decide (x=s)) r with
   |none=>rfl
   |some is=>rfl
end
section
abbrev eLl(l:List (List Int)):Fs:=.sl (.none 1) (l.map eIs)
abbrev HK(s:Za):Fs:=.agg [.str s.nm,.int .i64 s.v]
abbrev FF(r:Z6):Fs:=.agg [.str r.nm,eLl r.ls]
abbrev B0(c:Z5):Fs:=.agg [.str c.nm,.str c.on,.int .i64 c.fam,.int .i64 c.ty,.int .i64 c.lo,.int .i64 c.hi]
abbrev A6(r:Yz):List Fs:=[.str r.nm,.str r.on,.int .i64 r.kind,.int .i64 r.fam,eSs r.ns,eSs r.os,.int .i64 r.set,.int .i64 r.oth,.int .i64 r.op,.int .i64 r.n,.str r.byN,.int .i64 r.clue]
abbrev BQ(r:Yz):Fs:=.agg (A6 r)
abbrev eSys(l:List Za):Fs:=.sl (.none 2) (l.map HK)
abbrev eRgs(l:List Z6):Fs:=.sl (.none 2) (l.map FF)
abbrev eCls(l:List Z5):Fs:=.sl (.none 6) (l.map B0)
abbrev eRus(l:List Yz):Fs:=.sl (.none 12) (l.map BQ)
abbrev AK(d:Z8):List Fs:=[.str d.nm,.int .i64 d.ver,.int .i64 d.sh,.int .i64 d.w,.int .i64 d.h,eIs d.holes,eSys d.syms,eRgs d.regs,eCls d.clus,eRus d.ruls]
abbrev encD(d:Z8):Fs:=.agg (AK d)
def Ai(n:Nat)(l:List Int):(eIs l).under n:=⟨trivial,My n _⟩
def BK(n:Nat)(l:List Bs):(eSs l).under n:=⟨trivial,N5 n _⟩
def Am(n:Nat)(l:List (List Int)):(eLl l).under n:=⟨trivial,AV (Ai n) _⟩
def HL(n:Nat)(s:Za):(HK s).under n:=⟨trivial,trivial,trivial⟩
def CV(n:Nat)(r:Z6):(FF r).under n:=⟨trivial,Am n _,trivial⟩
def D4(n:Nat)(c:Z5):(B0 c).under n:=⟨trivial,trivial,trivial,trivial,trivial,trivial,trivial⟩
def Ao(n:Nat)(r:Yz):(BQ r).under n:=⟨trivial,trivial,trivial,trivial,BK n _,BK n _,trivial,trivial,trivial,trivial,trivial,trivial,trivial⟩
def Ep(n:Nat)(l:List Za):(eSys l).under n:=⟨trivial,AV (HL n) _⟩
def C2(n:Nat)(l:List Z6):(eRgs l).under n:=⟨trivial,AV (CV n) _⟩
def C3(n:Nat)(l:List Z5):(eCls l).under n:=⟨trivial,AV (D4 n) _⟩
def B9(n:Nat)(l:List Yz):(eRus l).under n:=⟨trivial,AV (Ao n) _⟩
def AW(n:Nat)(d:Z8):(encD d).under n:=⟨trivial,trivial,trivial,trivial,trivial,Ai n _,Ep n _,C2 n _,C3 n _,B9 n _,trivial⟩
def KX:Fs->List Int
 | .sl _ L=>L.map toI
 |_=>[]
def Vd:Fs->List Bs
 | .sl _ L=>L.map toS
 |_=>[]
def N9:Fs->List (List Int)
 | .sl _ L=>L.map KX
 |_=>[]
def ST:Fs->Za
 | .agg [.str nm,.int _ v]=>⟨nm,v⟩
 |_=>⟨[],0⟩
def Qg:Fs->Z6
 | .agg [.str nm,l]=>⟨nm,N9 l⟩
 |_=>⟨[],[]⟩
def SU:Fs->Z5
 | .agg [.str nm,.str on,.int _ f,.int _ t,.int _ lo,.int _ hi]=>⟨nm,on,f,t,lo,hi⟩
 |_=>⟨[],[],0,0,0,0⟩
def Qh:Fs->Yz
 | .agg [.str nm,.str on,.int _ k,.int _ f,ns,os,.int _ s,.int _ o,.int _ op,.int _ n,.str b,.int _ c]=>⟨nm,on,k,f,Vd ns,Vd os,s,o,op,n,b,c⟩
 |_=>⟨[],[],0,0,[],[],0,0,0,0,[],0⟩
variable {α:Type}
def Qi(f:Fs->α):Fs->List α
 | .sl _ L=>L.map f
 |_=>[]
def decD:Fs->Z8
 | .agg [.str nm,.int _ v,.int _ sh,.int _ w,.int _ h,ho,sy,rg,cl,ru]=>⟨nm,v,sh,w,h,KX ho,Qi ST sy,Qi Qg rg,Qi SU cl,Qi Qh ru⟩
 |_=>⟨[],0,0,0,0,[],[],[],[],[]⟩
theorem Dl(l:List Int):KX (eIs l)=l:=Dk l
theorem EZ(l:List (List Int)):N9 (eLl l)=l:=EX Dl l
theorem Fg(s:Za):ST (HK s)=s:=rfl
theorem Ea(r:Z6):Qg (FF r)=r:=by simp only[Qg,EZ]
theorem Fh(c:Z5):SU (B0 c)=c:=rfl
theorem Eb(r:Yz):Qh (BQ r)=r:=by simp only[Qh,Vd,Fe]
theorem JI(d:Z8):decD (encD d)=d:=by
 simp only[decD,KX,Qi,Dk,EX Fg,EX Ea,EX Fh,EX Eb]
def dWk(enc:α->Fs)(dec:Fs->α):Dc α:=⟨enc,dec,λv=>Wk v (enc (dec v)),λ_ h=>h⟩
theorem HM{enc:α->Fs}{dec:Fs->α}(h:∀x,dec (enc x)=x)(x:α):(dWk enc dec).ok (enc x)=True:=V1 (by show Wk _ _;rw[h];exact Wk.refl _)
def dSy:Dc Za:=dWk HK ST
def dRg:Dc Z6:=dWk FF Qg
def dCl:Dc Z5:=dWk B0 SU
def dRu:Dc Yz:=dWk BQ Qh
def dD:Dc Z8:=dWk encD decD
theorem Qj(x:Za):dSy.ok (HK x)=True:=HM Fg x
theorem Lq(x:Za):dSy.dec (HK x)=x:=rfl
theorem HN(x:Z6):dRg.ok (FF x)=True:=HM Ea x
theorem FG(x:Z6):dRg.dec (FF x)=x:=Ea x
theorem GH(x:Z5):dCl.ok (B0 x)=True:=HM Fh x
theorem Ec(x:Z5):dCl.dec (B0 x)=x:=rfl
theorem BV(x:Yz):dRu.ok (BQ x)=True:=HM Eb x
theorem A7(x:Yz):dRu.dec (BQ x)=x:=Eb x
theorem A0(x:Z8):dD.ok (encD x)=True:=HM JI x
theorem Aj(x:Z8):dD.dec (encD x)=x:=JI x
def dLi(e:Nat)(enc:α->Fs)(dec:Fs->α):Dc (List α):=⟨λl=>.sl (.none e) (l.map enc),decL dec,okL e enc dec,QW⟩
theorem HO{e:Nat}{enc:α->Fs}{dec:Fs->α}(h:∀x,dec (enc x)=x){t:Zd}{l:List α}(ht:t.esz=e\/l=[]):(dLi e enc dec).ok (.sl t (l.map enc))=True:=V1 (by
 refine⟨ht.imp id λq=>by rw[q];rfl,?_⟩;rw[EX h])
theorem FH{e:Nat}{enc:α->Fs}{dec:Fs->α}(h:∀x,dec (enc x)=x){t:Zd}{l:List α}:(dLi e enc dec).dec (.sl t (l.map enc))=l:=EX h l
def dLl:Dc (List (List Int)):=dLi 1 eIs KX
def dSys:Dc (List Za):=dLi 2 HK ST
def dRgs:Dc (List Z6):=dLi 2 FF Qg
def dCls:Dc (List Z5):=dLi 6 B0 SU
def dRus:Dc (List Yz):=dLi 12 BQ Qh
theorem Al(l:List Int):dIs.ok (eIs l)=True:=V1 ⟨.inl rfl,by rw[Dk]⟩
theorem AZ(l:List Int):dIs.dec (eIs l)=l:=Dk l
theorem Ed(l:List Bs):dSs.ok (eSs l)=True:=V1 ⟨.inl rfl,by rw[Fe]⟩
theorem DG(l:List Bs):dSs.dec (eSs l)=l:=Fe l
theorem BH(x:Int):dI.ok (.int .i64 x)=True:=V1 trivial
theorem As(x:Int):dI.dec (.int .i64 x)=x:=rfl
theorem FI(x:Bs):dS.ok (.str x)=True:=V1 trivial
theorem DH(x:Bs):dS.dec (.str x)=x:=rfl
theorem wk_Dk{nm:Bs}{ver sh w h:Int}{ho:List Int}{sy:List Za}{rg:List Z6}{cl:List Z5}{ru:List Yz}{a b c e f:Fs}(ha:Wk a (eIs ho))(hb:Wk b (eSys sy))(hc:Wk c (eRgs rg))(he:Wk e (eCls cl))(hf:Wk f (eRus ru)):
  Wk (.agg [.str nm,.int .i64 ver,.int .i64 sh,.int .i64 w,.int .i64 h,a,b,c,e,f]) (encD ⟨nm,ver,sh,w,h,ho,sy,rg,cl,ru⟩):=
 Wk.agg (.cons (Wk.refl _) (.cons (Wk.refl _) (.cons (Wk.refl _) (.cons (Wk.refl _) (.cons (Wk.refl _) (.cons ha (.cons hb (.cons hc (.cons he (.cons hf .nil))))))))))
abbrev dcl0:Z8:=⟨[],0,0,0,0,[],[],[],[],[]⟩
end
theorem Ap{a b:Bs}:scmp .neq a b= !decide (a=b):=rfl
theorem A4{a b:Bs}:scmp .eql a b=decide (a=b):=rfl
def Ve{a b:Za}:a=b↔a.nm=b.nm/\a.v=b.v:=by cases a;cases b;simp only[Za.mk.injEq]
def Vf{a b:Z5}:a=b↔a.nm=b.nm/\a.on=b.on/\a.fam=b.fam/\a.ty=b.ty/\a.lo=b.lo/\a.hi=b.hi:=by cases a;cases b;simp only[Z5.mk.injEq]
def Vg{a b:Z6}:a=b↔a.nm=b.nm/\a.ls=b.ls:=by cases a;cases b;simp only[Z6.mk.injEq]
def Ib(s t:Za):ceqs [.str s.nm,.int .i64 s.v] [.str t.nm,.int .i64 t.v]=decide (s=t):=by
 rw[Wg,Vu,Ve];simp [ceqs,ceq]
def Ic(s t:Z5):ceqs [.str s.nm,.str s.on,.int .i64 s.fam,.int .i64 s.ty,.int .i64 s.lo,.int .i64 s.hi] [.str t.nm,.str t.on,.int .i64 t.fam,.int .i64 t.ty,.int .i64 t.lo,.int .i64 t.hi]=decide (s=t):=by
 rw[Wg,Vu,Vf];simp [ceqs,ceq]
def BA{p:Prop}[Decidable p](h:p):decide p=true:=Wo h
def Az{p:Prop}[Decidable p](h:¬p):decide p=false:=W2 h
def p45(a b:List Int)(hb:wide b):Pur prog 45 [eIs a,eIs b] (.bool (decide (a=b))):=by
 refine .mk ⟨Ai 0 a,Ai 0 b,trivial⟩ trivial (c45.a (AE AI.tnil (AF ?_)));by_cases hl:a.length=b.length;case neg=>
  simp only[eZ,seval,V6,V0,c45,GF hl,V6];exact(W2 λe=>hl (by rw[e])).symm
 simp only[eZ,seval,V3,V0,c45,GG hl];refine AO (λi:Nat=>⟨[(0,true,eIs a),(1,true,eIs b),(12,true,.int .i64 a.length),(13,true,.int .i64 i)],hnil,0⟩) (λi=>i<=a.length/\∀j,j<i->a[j]?=b[j]?) (λi=>a.length-i) 0 rfl ⟨V8 _,λj hj=>zo⟩ ?_;rintro i ⟨hi,hall⟩;by_cases c6:i<a.length;case neg=>
  simp only[eZ,seval,lt_F c6];exact(Wo (DT hl λj hj=>hall j zo)).symm
 have d4:i<b.length:=zo
 have hga:=V2 c6;have d8:=V2 d4;have e:=AG (k:=i) (by have:b.length<1125899906842624:=hb;omega);by_cases hs:a[i]=b[i]
 ·simp only[eZ,seval,V3,W7,Vy,Wa,V0,W3,lt_T c6,lt_T d4,hga,d8,e,BA hs];refine .mk (i+1) rfl ⟨c6,λj h=>?_⟩ zo;by_cases q:j=i
  ·subst q;rw[hga,d8,hs]
  ·exact hall j zo
 ·simp only[eZ,seval,V6,W7,Vy,Wa,V0,W3,lt_T c6,lt_T d4,hga,d8,Az hs];exact(W2 λq=>hs (by simp [q])).symm
def p79(a b:List Bs)(hb:wide b):Pur prog 79 [eSs a,eSs b] (.bool (decide (a=b))):=by
 refine .mk ⟨BK 0 a,BK 0 b,trivial⟩ trivial (c79.a (AE AI.tnil (AF ?_)));by_cases hl:a.length=b.length;case neg=>
  simp only[eZ,seval,V6,V0,c79,GF hl,V6];exact(W2 λe=>hl (by rw[e])).symm
 simp only[eZ,seval,V3,V0,c79,GG hl];refine AO (λi:Nat=>⟨[(0,true,eSs a),(1,true,eSs b),(12,true,.int .i64 a.length),(13,true,.int .i64 i)],hnil,0⟩) (λi=>i<=a.length/\∀j,j<i->a[j]?=b[j]?) (λi=>a.length-i) 0 rfl ⟨V8 _,λj hj=>zo⟩ ?_;rintro i ⟨hi,hall⟩;by_cases c6:i<a.length;case neg=>
  simp only[eZ,seval,lt_F c6];exact(Wo (DT hl λj hj=>hall j zo)).symm
 have d4:i<b.length:=zo
 have hga:=V2 c6;have d8:=V2 d4;have e:=AG (k:=i) (by have:b.length<1125899906842624:=hb;omega);by_cases hs:a[i]=b[i]
 ·simp only[eZ,seval,V3,W7,Vy,Wa,V0,W3,lt_T c6,lt_T d4,hga,d8,e,Ap,BA hs];refine .mk (i+1) rfl ⟨c6,λj h=>?_⟩ zo;by_cases q:j=i
  ·subst q;rw[hga,d8,hs]
  ·exact hall j zo
 ·simp only[eZ,seval,V6,W7,Vy,Wa,V0,W3,lt_T c6,lt_T d4,hga,d8,Ap,Az hs];exact(W2 λq=>hs (by simp [q])).symm
def p80(a b:List Za)(hb:few b):Pur prog 80 [eSys a,eSys b] (.bool (decide (a=b))):=by
 refine .mk ⟨Ep 0 a,Ep 0 b,trivial⟩ trivial (a80 (AE AI.tnil (AF ?_)));by_cases hl:a.length=b.length;case neg=>
  simp only[eZ,seval,V6,V0,c80,GF hl,V6];exact(W2 λe=>hl (by rw[e])).symm
 simp only[eZ,seval,V3,V0,c80,GG hl];refine AO (λi:Nat=>⟨[(0,true,eSys a),(1,true,eSys b),(12,true,.int .i64 a.length),(13,true,.int .i64 i)],hnil,0⟩) (λi=>i<=a.length/\∀j,j<i->a[j]?=b[j]?) (λi=>a.length-i) 0 rfl ⟨V8 _,λj hj=>zo⟩ ?_;rintro i ⟨hi,hall⟩;by_cases c6:i<a.length;case neg=>
  simp only[eZ,seval,lt_F c6];exact(Wo (DT hl λj hj=>hall j zo)).symm
 have d4:i<b.length:=zo
 have hga:=V2 c6;have d8:=V2 d4;have e:=AG (k:=i) (by have:b.length<1000000000:=hb;omega);by_cases hs:a[i]=b[i]
 ·simp only[eZ,seval,V3,W7,Vy,Wa,V0,W3,lt_T c6,lt_T d4,hga,d8,e,Ib,cfit,BA hs];refine .mk (i+1) rfl ⟨c6,λj h=>?_⟩ zo;by_cases q:j=i
  ·subst q;rw[hga,d8,hs]
  ·exact hall j zo
 ·simp only[eZ,seval,V6,W7,Vy,Wa,V0,W3,lt_T c6,lt_T d4,hga,d8,Ib,cfit,Az hs];exact(W2 λq=>hs (by simp [q])).symm
def p82(a b:List Z5)(hb:few b):Pur prog 82 [eCls a,eCls b] (.bool (decide (a=b))):=by
 refine .mk ⟨C3 0 a,C3 0 b,trivial⟩ trivial (a82 (AE AI.tnil (AF ?_)));by_cases hl:a.length=b.length;case neg=>
  simp only[eZ,seval,V6,V0,c82,GF hl,V6];exact(W2 λe=>hl (by rw[e])).symm
 simp only[eZ,seval,V3,V0,c82,GG hl];refine AO (λi:Nat=>⟨[(0,true,eCls a),(1,true,eCls b),(12,true,.int .i64 a.length),(13,true,.int .i64 i)],hnil,0⟩) (λi=>i<=a.length/\∀j,j<i->a[j]?=b[j]?) (λi=>a.length-i) 0 rfl ⟨V8 _,λj hj=>zo⟩ ?_;rintro i ⟨hi,hall⟩;by_cases c6:i<a.length;case neg=>
  simp only[eZ,seval,lt_F c6];exact(Wo (DT hl λj hj=>hall j zo)).symm
 have d4:i<b.length:=zo
 have hga:=V2 c6;have d8:=V2 d4;have e:=AG (k:=i) (by have:b.length<1000000000:=hb;omega);by_cases hs:a[i]=b[i]
 ·simp only[eZ,seval,V3,W7,Vy,Wa,V0,W3,lt_T c6,lt_T d4,hga,d8,e,Ic,cfit,BA hs];refine .mk (i+1) rfl ⟨c6,λj h=>?_⟩ zo;by_cases q:j=i
  ·subst q;rw[hga,d8,hs]
  ·exact hall j zo
 ·simp only[eZ,seval,V6,W7,Vy,Wa,V0,W3,lt_T c6,lt_T d4,hga,d8,Ic,cfit,Az hs];exact(W2 λq=>hs (by simp [q])).symm
def s2f{α β:Type}(cl:Nat)(A:Dc α)(B:Dc β)(c:α->β->Prop)(f:α->β->Fs):List Fs->AC->Prop×Fs:=λa _=>match a with
 |[x,y,.fn (.func k) [] []]=>(k=cl/\A.ok x/\B.ok y/\c (A.dec x) (B.dec y),f (A.dec x) (B.dec y))
 |_=>(False,.tup [])
def q2f{α β:Type}{cl:Nat}{A:Dc α}{B:Dc β}{c:α->β->Prop}{f:α->β->Fs}{fid:FuncId}(h:∀x y,c x y->Pur prog fid [A.enc x,B.enc y,.fn (.func cl) [] []] (f x y)):∀args H n,(s2f cl A B c f args H).1->Ab prog fid args H n (s2f cl A B c f args H).2:=by
 intro args H n hh;unfold s2f at hh⊢;split at hh
 ·obtain⟨rfl,h1,h2,h3⟩:=hh;refine AN.args ((h _ _ h3).quiet H n) ?_;rintro g vs ⟨v,r,rfl,k1,w,r',rfl,k2,k3⟩;exact⟨v,_,rfl,A.wk _ h1 _ _ k1,w,_,rfl,B.wk _ h2 _ _ k2,k3⟩
 ·exact hh.elim
def CM(x:List (List Int)):dLl.ok (eLl x)=True:=HO Dl (.inl rfl)
def Bl(x:List (List Int)):dLl.dec (eLl x)=x:=FH Dl
def Qk(x:List Za):dSys.ok (eSys x)=True:=HO Fg (.inl rfl)
def M1(x:List Za):dSys.dec (eSys x)=x:=FH Fg
def Ql(x:List Z6):dRgs.ok (eRgs x)=True:=HO Ea (.inl rfl)
def M2(x:List Z6):dRgs.dec (eRgs x)=x:=FH Ea
def Qm(x:List Z5):dCls.ok (eCls x)=True:=HO Fh (.inl rfl)
def M3(x:List Z5):dCls.dec (eCls x)=x:=FH Fh
def Qn(x:List Yz):dRus.ok (eRus x)=True:=HO Eb (.inl rfl)
def M4(x:List Yz):dRus.dec (eRus x)=x:=FH Eb
abbrev Bm(l:List (List Int)):Prop:=few l/\∀x∈l,wide x
abbrev Lr(r:Z6):Prop:=Bm r.ls
abbrev Fi(r:Yz):Prop:=wide r.ns/\wide r.os
structure Z4(d:Z8):Prop where
 ho:few d.holes
 sy:few d.syms
 rg:few d.regs
 rgs:∀r∈d.regs,Lr r
 cl:few d.clus
 ru:few d.ruls
 rus:∀r∈d.ruls,Fi r
def Ls{a b:Yz}:a=b↔(((((a.ns=b.ns/\a.os=b.os)/\a.nm=b.nm)/\a.on=b.on)/\a.byN=b.byN)/\a.kind=b.kind/\a.fam=b.fam/\a.set=b.set/\a.oth=b.oth/\a.op=b.op/\a.n=b.n/\a.clue=b.clue):=by
 cases a;cases b;simp only[Yz.mk.injEq];constructor
 ·rintro⟨a,b,c,d,e,f,g,h,i,j,k,l⟩;exact⟨⟨⟨⟨⟨e,f⟩,a⟩,b⟩,k⟩,c,d,g,h,i,j,l⟩
 ·rintro⟨⟨⟨⟨⟨e,f⟩,a⟩,b⟩,k⟩,c,d,g,h,i,j,l⟩;exact⟨a,b,c,d,e,f,g,h,i,j,k,l⟩
def ceq_7(a b c d e f g a' b' c' d' e' f' g':Int):ceqs [.int .i64 a,.int .i64 b,.int .i64 c,.int .i64 d,.int .i64 e,.int .i64 f,.int .i64 g] [.int .i64 a',.int .i64 b',.int .i64 c',.int .i64 d',.int .i64 e',.int .i64 f',.int .i64 g']=decide (a=a'/\b=b'/\c=c'/\d=d'/\e=e'/\f=f'/\g=g'):=by
 rw[Wg,Vu];simp [ceqs,ceq]
def Vh{a b:Z8}:a=b↔((((((((((a.nm=b.nm/\a.ver=b.ver)/\a.sh=b.sh)/\a.w=b.w)/\a.h=b.h)/\a.holes=b.holes)/\a.syms=b.syms)/\a.regs=b.regs)/\a.clus=b.clus)/\a.ruls=b.ruls)):=by
 cases a;cases b;simp only[Z8.mk.injEq];constructor
 ·rintro⟨a,b,c,d,e,f,g,h,i,j⟩;exact⟨⟨⟨⟨⟨⟨⟨⟨⟨a,b⟩,c⟩,d⟩,e⟩,f⟩,g⟩,h⟩,i⟩,j⟩
 ·rintro⟨⟨⟨⟨⟨⟨⟨⟨⟨a,b⟩,c⟩,d⟩,e⟩,f⟩,g⟩,h⟩,i⟩,j⟩;exact⟨a,b,c,d,e,f,g,h,i,j⟩
def Tci:Tab:=tadd 45 (s2 dIs dIs (λ_ b=>wide b) λa b=>.bool (decide (a=b))) tnil
def Tci_ok:AI prog Tci:=AI.tnil.add (q2 p45)
def p77(a b:List (List Int))(hb:few b)(hx:∀x∈b,wide x):Pur prog 77 [eLl a,eLl b,.fn (.func 45) [] []] (.bool (decide (a=b))):=by
 refine .mk ⟨Am 0 a,Am 0 b,by simp [Fs.under,unders],trivial⟩ trivial (c77.a (AE Tci_ok (AF ?_)));by_cases hl:a.length=b.length;case neg=>
  simp only[eZ,seval,V6,V0,c77,GF hl,V6];exact(W2 λe=>hl (by rw[e])).symm
 simp only[eZ,seval,V3,V0,c77,GG hl];refine AO (λi:Nat=>⟨[(1,true,eLl b),(2,true,.fn (.func 45) [] []),(15,true,eLl a),(16,true,.int .i64 a.length),(17,true,.int .i64 i)],hnil,0⟩) (λi=>i<=a.length/\∀j,j<i->a[j]?=b[j]?) (λi=>a.length-i) 0 rfl ⟨V8 _,λj hj=>zo⟩ ?_;rintro i ⟨hi,hall⟩;by_cases c6:i<a.length;case neg=>
  simp only[eZ,seval,lt_F c6];exact(Wo (DT hl λj hj=>hall j zo)).symm
 have d4:i<b.length:=zo
 have hga:=V2 c6;have d8:=V2 d4;have e:=AG (k:=i) (by have:b.length<1000000000:=hb;omega);have hf:=hx _ (W1 d4);by_cases hs:a[i]=b[i]
 ·simp only[eZ,seval,V3,W7,Vy,Wa,V0,W3,lt_T c6,lt_T d4,hga,d8,e,Tci,s2,Al,AZ,V1 hf,BA hs,tadd];refine lpN.drop (i+1) rfl rfl rfl rfl AR.nil (λ_ _ h=>by cases h) ⟨Am 0 b,by simp [Fs.under,unders],Am 0 a,trivial,trivial,trivial⟩ ⟨c6,λj h=>?_⟩ zo;by_cases q:j=i
  ·subst q;rw[hga,d8,hs]
  ·exact hall j zo
 ·simp only[eZ,seval,V6,W7,Vy,Wa,V0,W3,lt_T c6,lt_T d4,hga,d8,Tci,s2,Al,AZ,V1 hf,Az hs,tadd];exact(W2 λq=>hs (by simp [q])).symm
def Tcl:Tab:=tadd 77 (s2f 45 dLl dLl (λ_ b=>Bm b) λa b=>.bool (decide (a=b))) tnil
def TU:AI prog Tcl:=AI.tnil.add (q2f λa b h=>p77 a b h.1 h.2)
def p76(a b:Z6)(hb:Lr b):Pur prog 76 [FF a,FF b] (.bool (decide (a=b))):=by
 refine .mk ⟨CV 0 a,CV 0 b,trivial⟩ trivial (c76.a (AE TU (AF ?_)));simp only[eZ,seval,c76,A4,Tcl,s2f,CM,Bl,V1 hb,tadd];rw[Wg];simp only[V7,Vu,Vg]
def Tcr:Tab:=tadd 76 (s2 dRg dRg (λ_ b=>Lr b) λa b=>.bool (decide (a=b))) tnil
def Tcr_ok:AI prog Tcr:=AI.tnil.add (q2 p76)
def p81(a b:List Z6)(hb:few b)(hx:∀x∈b,Lr x):Pur prog 81 [eRgs a,eRgs b,.fn (.func 76) [] []] (.bool (decide (a=b))):=by
 refine .mk ⟨C2 0 a,C2 0 b,by simp [Fs.under,unders],trivial⟩ trivial (c81.a (AE Tcr_ok (AF ?_)));by_cases hl:a.length=b.length;case neg=>
  simp only[eZ,seval,V6,V0,c81,GF hl,V6];exact(W2 λe=>hl (by rw[e])).symm
 simp only[eZ,seval,V3,V0,c81,GG hl];refine AO (λi:Nat=>⟨[(1,true,eRgs b),(2,true,.fn (.func 76) [] []),(15,true,eRgs a),(16,true,.int .i64 a.length),(17,true,.int .i64 i)],hnil,0⟩) (λi=>i<=a.length/\∀j,j<i->a[j]?=b[j]?) (λi=>a.length-i) 0 rfl ⟨V8 _,λj hj=>zo⟩ ?_;rintro i ⟨hi,hall⟩;by_cases c6:i<a.length;case neg=>
  simp only[eZ,seval,lt_F c6];exact(Wo (DT hl λj hj=>hall j zo)).symm
 have d4:i<b.length:=zo
 have hga:=V2 c6;have d8:=V2 d4;have e:=AG (k:=i) (by have:b.length<1000000000:=hb;omega);have hf:=hx _ (W1 d4);by_cases hs:a[i]=b[i]
 ·simp only[eZ,seval,V3,W7,Vy,Wa,V0,W3,lt_T c6,lt_T d4,hga,d8,e,Tcr,s2,HN,FG,V1 hf,BA hs,tadd];refine lpN.drop (i+1) rfl rfl rfl rfl AR.nil (λ_ _ h=>by cases h) ⟨C2 0 b,by simp [Fs.under,unders],C2 0 a,trivial,trivial,trivial⟩ ⟨c6,λj h=>?_⟩ zo;by_cases q:j=i
  ·subst q;rw[hga,d8,hs]
  ·exact hall j zo
 ·simp only[eZ,seval,V6,W7,Vy,Wa,V0,W3,lt_T c6,lt_T d4,hga,d8,Tcr,s2,HN,FG,V1 hf,Az hs,tadd];exact(W2 λq=>hs (by simp [q])).symm
def Tcs:Tab:=tadd 79 (s2 dSs dSs (λ_ b=>wide b) λa b=>.bool (decide (a=b))) tnil
def Tcs_ok:AI prog Tcs:=AI.tnil.add (q2 p79)
def p78(a b:Yz)(hb:Fi b):Pur prog 78 [BQ a,BQ b] (.bool (decide (a=b))):=by
 refine .mk ⟨Ao 0 a,Ao 0 b,trivial⟩ trivial (a78 (AE Tcs_ok (AF ?_)));have h1:=hb.1;have h2:=hb.2;simp only[eZ,seval,c78,A4,Tcs,s2,Ed,DG,V1 h1,V1 h2,ceq_7,cfit,tadd];rw[Wg];simp only[V7,Vu,Ls]
def Tcu:Tab:=tadd 78 (s2 dRu dRu (λ_ b=>Fi b) λa b=>.bool (decide (a=b))) tnil
def Tcu_ok:AI prog Tcu:=AI.tnil.add (q2 p78)
def p83(a b:List Yz)(hb:few b)(hx:∀x∈b,Fi x):Pur prog 83 [eRus a,eRus b,.fn (.func 78) [] []] (.bool (decide (a=b))):=by
 refine .mk ⟨B9 0 a,B9 0 b,by simp [Fs.under,unders],trivial⟩ trivial (c83.a (AE Tcu_ok (AF ?_)));by_cases hl:a.length=b.length;case neg=>
  simp only[eZ,seval,V6,V0,c83,GF hl,V6];exact(W2 λe=>hl (by rw[e])).symm
 simp only[eZ,seval,V3,V0,c83,GG hl];refine AO (λi:Nat=>⟨[(1,true,eRus b),(2,true,.fn (.func 78) [] []),(15,true,eRus a),(16,true,.int .i64 a.length),(17,true,.int .i64 i)],hnil,0⟩) (λi=>i<=a.length/\∀j,j<i->a[j]?=b[j]?) (λi=>a.length-i) 0 rfl ⟨V8 _,λj hj=>zo⟩ ?_;rintro i ⟨hi,hall⟩;by_cases c6:i<a.length;case neg=>
  simp only[eZ,seval,lt_F c6];exact(Wo (DT hl λj hj=>hall j zo)).symm
 have d4:i<b.length:=zo
 have hga:=V2 c6;have d8:=V2 d4;have e:=AG (k:=i) (by have:b.length<1000000000:=hb;omega);have hf:=hx _ (W1 d4);by_cases hs:a[i]=b[i]
 ·simp only[eZ,seval,V3,W7,Vy,Wa,V0,W3,lt_T c6,lt_T d4,hga,d8,e,Tcu,s2,BV,A7,V1 hf,BA hs,tadd];refine lpN.drop (i+1) rfl rfl rfl rfl AR.nil (λ_ _ h=>by cases h) ⟨B9 0 b,by simp [Fs.under,unders],B9 0 a,trivial,trivial,trivial⟩ ⟨c6,λj h=>?_⟩ zo;by_cases q:j=i
  ·subst q;rw[hga,d8,hs]
  ·exact hall j zo
 ·simp only[eZ,seval,V6,W7,Vy,Wa,V0,W3,lt_T c6,lt_T d4,hga,d8,Tcu,s2,BV,A7,V1 hf,Az hs,tadd];exact(W2 λq=>hs (by simp [q])).symm
def Tsa:Tab:=tadd 45 (s2 dIs dIs (λ_ b=>wide b) λa b=>.bool (decide (a=b))) (tadd 80 (s2 dSys dSys (λ_ b=>few b) λa b=>.bool (decide (a=b))) (tadd 81 (s2f 76 dRgs dRgs (λ_ b=>few b/\∀x∈b,Lr x) λa b=>.bool (decide (a=b))) (tadd 82 (s2 dCls dCls (λ_ b=>few b) λa b=>.bool (decide (a=b))) (tadd 83 (s2f 78 dRus dRus (λ_ b=>few b/\∀x∈b,Fi x) λa b=>.bool (decide (a=b))) tnil))))
def Tsa_ok:AI prog Tsa:=((((AI.tnil.add (q2f λa b h=>p83 a b h.1 h.2)).add (q2 p82)).add (q2f λa b h=>p81 a b h.1 h.2)).add (q2 p80)).add (q2 p45)
def p21(a b:Z8)(hb:Z4 b):Pur prog 21 [encD a,encD b] (.bool (decide (a=b))):=by
 refine .mk ⟨AW 0 a,AW 0 b,trivial⟩ trivial (c21.a (AE Tsa_ok (AF ?_)));simp only[eZ,seval,c21,A4,Tsa,s2,s2f,Al,AZ,Qk,M1,Ql,M2,Qm,M3,Qn,M4,V1 (Ca hb.ho),V1 hb.sy,V1 hb.rg,V1 hb.rgs,V1 hb.cl,V1 hb.ru,V1 hb.rus,tadd];rw[Wg];simp only[V7,Vu,Vh]
section
theorem JJ:∀{a b:List Int},List.Pairwise (λx y=>x<y) a->List.Pairwise (λx y=>x<y) b->(∀x,x∈a↔x∈b)->a=b
 |[],[],_,_,_=>rfl
 |[],y::s,_,_,h=>by have:=(h y).2 zw;cases this
 |x::r,[],_,_,h=>by have:=(h x).1 zw;cases this
 |x::r,y::s,ha,hb,h=>by
  obtain⟨a1,a2⟩:=Xq.1 ha;obtain⟨b1,b2⟩:=Xq.1 hb;have e:x=y:=by
   rcases Wp.1 ((h x).1 zw)with q|q
   ·exact q
   ·rcases Wp.1 ((h y).2 zw)with p|p
    ·exact p.symm
    ·have:=a1 y p;have:=b1 x q;omega
  subst e;refine congrArg _ (JJ a2 b2 λz=>?_);constructor
  ·intro hz;rcases Wp.1 ((h z).1 (by simp [hz]))with q|q
   ·subst q;have:=a1 z hz;omega
   ·exact q
  ·intro hz;rcases Wp.1 ((h z).2 (by simp [hz]))with q|q
   ·subst q;have:=b1 z hz;omega
   ·exact q
def SV(n:Int):List.Pairwise (λx y:Int=>x<y) (Bp n):=by
 unfold Bp;rw[XZ];exact XL.imp λq=>zo
def Qo{n:Int}{holes:List Int}(h1:∀x∈holes,0<=x/\x<n)(h2:List.Pairwise (λx y=>x<y) holes):((Bp n).filter λp=>holes.contains p)=holes:=by
 refine JJ ((SV n).sublist Ye) h2 λx=>?_
 rw[Xb,WA,Lo];exact⟨λh=>h.2,λh=>⟨h1 x h,h⟩⟩
def Fj{sh w h:Int}{holes cells:List Int}(hc:Ak sh w h holes=some cells):(sh=1\/sh=2)/\1<=w/\w<=16/\1<=h/\h<=16/\(holes.length:Int)<w*h/\(∀x∈holes,0<=x/\x<w*h)/\List.Pairwise (λx y=>x<y) holes/\cells=(Bp (w*h)).filter λp=>!holes.contains p:=by
 unfold Ak at hc;split at hc
 ·rename_i hq;obtain⟨a,b,c,d,e,f,g,i⟩:=hq;cases hc;rw[En]at g;simp only[W4,Vu]at i;exact⟨a,b,c,d,e,f,λx hx=>⟨by have:=g.1 x hx;omega,i x hx⟩,g.2,rfl⟩
 ·cases hc
def Vi{w h:Int}(h1:1<=w)(h2:w<=16)(h3:1<=h)(h4:h<=16):1<=w*h/\w*h<=256:=by
 have a:w*h<=16*16:=Int.mul_le_mul h2 h4 zo zo;have b:1*1<=w*h:=Int.mul_le_mul h1 h3 zo zo;omega
def BO(cells l:List Int):List Int:=l.map λp=>(lowB cells p:Int)
variable {l:List Int}
theorem Qq(hp:List.Pairwise (λx y=>x<y) l){i:Nat}(hi:i<l.length):lowB l l[i]=i:=by
 refine Lp (Nat.le_of_lt hi) (λk hk h=>WW.1 hp k i hk hi h) λk hk h=>Vb hp hk h
theorem Vj(hp:List.Pairwise (λx y=>x<y) l){x y:Int}(hx:x∈l)(hy:y∈l)(h:lowB l x=lowB l y):x=y:=by
 obtain⟨i,hi,rfl⟩:=WP.1 hx;obtain⟨j,hj,rfl⟩:=WP.1 hy;rw[Qq hp hi,Qq hp hj]at h;subst h;rfl
theorem Fk:∀{l:List (List Int)},Bg l=true↔∃(a b:Nat) (ha:a<l.length) (hb:b<l.length),b<a/\Cf l[a] l[b]=true
 |[]=>by simp [Bg]
 |x::r=>by
  have ih:=Fk (l:=r);simp only[Bg,Wd,ih,List.any_eq_true];constructor
  ·rintro(⟨y,hy,h⟩|⟨a,b,ha,hb,hab,h⟩)
   ·obtain⟨i,hi,rfl⟩:=WP.1 hy;exact⟨i+1,0,by simp;omega,zw,zo,h⟩
   ·exact⟨a+1,b+1,by simp;omega,by simp;omega,zo,h⟩
  ·rintro⟨a,b,ha,hb,hab,h⟩;cases a with
   |zero=>omega
   |succ a=>
    cases b with
    |zero=>exact .inl ⟨r[a]'(by simp at ha;omega),W1 _,h⟩
    |succ b=>exact .inr ⟨a,b,by simp at ha;omega,by simp at hb;omega,zo,h⟩
theorem KY(cells:List Int)(l:List Z6)(i:Nat)(hi:i<l.length):Cx cells (l.drop i)=if regE cells l[i]=0 then Cx cells (l.drop (i+1))else regE cells l[i]:=by
 rw[Wm hi];rfl
theorem Ee{cells:List Int}(h:DU cells l=true):l.Nodup/\1<=l.length/\∀p∈l,p∈cells:=by
 unfold DU at h;simp only[V7,Xu,Vu,Bt,W4,WA]at h;exact⟨h.1.2,h.2,h.1.1⟩
end
section
def nmEs:List Bs->Nat->List (Fs×Fs×Nat)
 |[],_=>[]
 |s::r,i=>(.str s,.int .i64 (i:Int),i)::nmEs r (i+1)
theorem Dm:∀(l:List Bs) (i:Nat),Di .str (nmEs l i)=True
 |[],_=>rfl
 |s::r,i=>by rw[nmEs,Di,Dm r (i+1)];simp [KT.is]
def OA(x:Bs)(r:List Bs)(s:Bs):BG (x::r) s=if x=s then some 0 else(BG r s).map (· +1):=by
 unfold BG;rw[List.findIdx?_cons];by_cases h:x=s
 ·simp [h]
 ·simp only[h,Yu,W5,Wf];cases List.findIdx? (λx=>decide (x=s)) r<;>simp
theorem Qr:∀(l:List Bs) (s:Bs) (i:Nat),BN (.str s) (nmEs l i)=(BG l s).map λn=>.int .i64 (n+(i:Int))
 |[],s,i=>rfl
 |x::r,s,i=>by
  rw[nmEs,BN,OA,Qr r s (i+1)];by_cases h:x=s
  ·subst h;simp [ceq]
  ·have:¬s=x:=λq=>h q.symm
   simp only[ceq,h,this,Yu,W5,Wf];cases BG r s with
   |none=>rfl
   |some n=>simp only[Wt];congr 2;omega
def D5(l:List Bs)(s:Bs):BN (.str s) (nmEs l 0)=(BG l s).map λn=>.int .i64 n:=by
 rw[Qr];congr 1;funext n;simp
theorem TV:∀(l:List Bs) (s:Bs) (i:Nat),nmEs (l++[s]) i=nmEs l i++[(.str s,.int .i64 ((i+l.length:Nat):Int),i+l.length)]
 |[],s,i=>rfl
 |x::r,s,i=>by
  rw[Ww,nmEs,TV r s (i+1),nmEs,Ww,Vz,show i+1+r.length=i+(r.length+1)by omega]
variable {v:Fs} {c:Nat}
theorem GZ{k:Fs}:∀{es:List (Fs×Fs×Nat)},BN k es=none->mset k v c es=es++[(k,v,c)]
 |[],_=>rfl
 |(k',v',b)::r,h=>by
  rw[BN]at h;split at h
  ·cases h
  ·rename_i q;rw[mset,V5 q,GZ h];rfl
theorem KZ{l:List Bs}{s:Bs}(h:BG l s=none):mset (.str s) (.int .i64 (l.length:Int)) l.length (nmEs l 0)=nmEs (l++[s]) 0:=by
 rw[GZ (by rw[D5,h];rfl),TV];simp
theorem SW{α:Type}[DecidableEq α]{a b:List α}{x:α}(h:x∈a):Ad (a++x::b)=true:=by
 cases q:Ad (a++x::b)with
 |true=>rfl
 |false=>exact absurd rfl ((Xo.1 (Bt.1 q)).2.2 x h x zw)
def ctEs:List Int->Nat->List (Fs×Fs×Nat)
 |[],_=>[]
 |s::r,i=>(.int .i64 s,.bool true,i)::ctEs r (i+1)
theorem Qs:∀(l:List Int) (i:Nat),Di (.int .i64) (ctEs l i)=True
 |[],_=>rfl
 |s::r,i=>by rw[ctEs,Di,Qs r (i+1)];simp [KT.is]
theorem Lt:∀(l:List Int) (x:Int) (i:Nat),BN (.int .i64 x) (ctEs l i)=if l.contains x then some (.bool true)else none
 |[],x,i=>rfl
 |y::r,x,i=>by
  rw[ctEs,BN,Lt r x (i+1),List.contains_cons];by_cases h:x=y
  ·subst h;simp [ceq]
  ·simp only[ceq,h,Yu,W5,Wf,beq_eq_false_iff_ne.2 h,Xx]
theorem TW:∀(l:List Int) (s:Int) (i:Nat),ctEs (l++[s]) i=ctEs l i++[(.int .i64 s,.bool true,i+l.length)]
 |[],s,i=>rfl
 |x::r,s,i=>by
  rw[Ww,ctEs,TW r s (i+1),ctEs,Ww,Vz,show i+1+r.length=i+(r.length+1)by omega]
theorem ct_set{l:List Int}{x:Int}(h:l.contains x=false):mset (.int .i64 x) (.bool true) l.length (ctEs l 0)=ctEs (l++[x]) 0:=by
 rw[GZ (by rw[Lt,h];rfl),TW];simp
theorem HP{x y:Int}{v:Fs}{c:Nat}:∀{es:List (Fs×Fs×Nat)},Di (.int .i64) es->BN (.int .i64 x) (mset (.int .i64 y) v c es)=if x=y then some v else BN (.int .i64 x) es
 |[],_=>by
  rw[mset,BN,BN];by_cases h:x=y<;>simp [ceq,h,BN]
 |(k',v',b)::r,hf=>by
  obtain⟨h1,h2⟩:=hf;have ih:=HP (x:=x) (y:=y) (v:=v) (c:=c) h2;cases k'<;>simp only[KT.is]at h1;rename_i kk z;subst h1;rw[mset];by_cases hy:y=z
  ·subst hy;rw[Vv (by simp [ceq])];rw[BN,BN];by_cases hx:x=y
   ·subst hx;simp [ceq]
   ·simp [ceq,hx]
  ·rw[V5 (by simp [ceq,hy])];rw[BN,ih,BN];by_cases hx:x=z
   ·subst hx;have:¬x=y:=λq=>hy q.symm
    simp [ceq,this]
   ·simp [ceq,hx]
theorem HQ{y:Int}:∀{es:List (Fs×Fs×Nat)},Di (.int .i64) es->Di (.int .i64) (mset (.int .i64 y) v c es)
 |[],_=>⟨rfl,trivial⟩
 |(k',v',b)::r,⟨h1,h2⟩=>by
  rw[mset];split
  ·exact⟨h1,h2⟩
  ·exact⟨h1,HQ h2⟩
def cntZ(rs:List Yz)(z:Int):Nat:=(rs.filter λr=>decide (r.clue=z)).length
theorem M5(rs:List Yz)(i:Nat):cntZ rs (i:Int)=D2 rs i:=rfl
theorem Qt(rs:List Yz)(r:Yz)(z:Int):cntZ (rs++[r]) z=cntZ rs z+if r.clue=z then 1 else 0:=by
 unfold cntZ;rw[Xh,V9];by_cases h:r.clue=z<;>simp [h]
theorem TY(rs:List Yz)(z:Int):cntZ rs z<=rs.length:=X0 ..
def Lu(rs:List Yz)(es:List (Fs×Fs×Nat)):Prop:=Di (.int .i64) es/\∀z:Int,(BN (.int .i64 z) es).getD (.int .i64 0)= .int .i64 (cntZ rs z:Int)
theorem Lu.next{rs:List Yz}{es:List (Fs×Fs×Nat)}{r:Yz}(h:Lu rs es):Lu (rs++[r]) (mset (.int .i64 r.clue) (.int .i64 ((cntZ rs r.clue+1:Nat):Int)) c es):=by
 refine⟨HQ h.1,λz=>?_⟩;rw[HP h.1,Qt];by_cases q:z=r.clue
 ·subst q;rw[Vv rfl,Vv rfl];rfl
 ·rw[V5 q,V5 (λe=>q e.symm)];exact h.2 z
end
end Go.AM
namespace Go.AM
open Go.Lib Go.Proofs Go.RowKit Go.Sort Go.Proofs.Tryz
theorem HS{g:Yx}{f:Nat->Option Value}:∀(ws:List Int) (o:Nat),Stab g 1 f o (ws.map eI)->∀(j:Nat) x,ws[j]?=some x->f (o+j)=some (.int .i64 x)
 |[],_,_,j,x,h=>by simp at h
 |y::ws,o,⟨⟨v,q1,q2,q3⟩,h'⟩,j,x,h=>by
  cases j with
  |zero=>
   simp at h;subst h;have q1':v= .int .i64 y:=q1;subst q1';exact q3 0 _ rfl
  |succ j=>rw[show o+(j+1)=o+1+j by omega];exact HS ws (o+1) h' j x (by simpa using h)
theorem GI{g:Yx}{f:Nat->Option Value}:∀(ws:List Int) (o:Nat),(∀(j:Nat) x,ws[j]?=some x->f (o+j)=some (.int .i64 x))->Stab g 1 f o (ws.map eI)
 |[],_,_=>trivial
 |y::ws,o,h=>by
  refine⟨⟨.int .i64 y,rfl,⟨rfl,λx hx=>by simp [Value.cells]at hx;subst hx;rfl⟩,λj x hx=>?_⟩,GI ws (o+1) λj x hx=>by
   have:=h (j+1) x (by simpa using hx);rw[<-this];congr 1;omega⟩
  cases j with
  |zero=>
   have hx':some (Value.int .i64 y)=some x:=hx;cases hx';exact h 0 y rfl
  |succ j=>simp [Value.cells]at hx
def OB(w:World)(k:Nat):Below w.heap.size w (w.drewN k) where
 os:=rfl
 tape:=rfl
 output:=rfl
 size:=V4 _
 block:=λi hi=>rfl
def p134(l:List Int)(x:Int)(hl:l.length<1000000000)(hs:List.Pairwise (λx y=>x<y) l):Pur prog 134 [eIs l,.int .i64 x] (.tup [.int .i64 (lowB l x),.bool (l.contains x)]):=by
 refine EU c134.l ⟨⟨trivial,My 0 l⟩,trivial,trivial⟩ ⟨trivial,trivial,trivial⟩ ?_;rintro g w vs hR ⟨v,r,rfl,k1,v2,r2,rfl,k2,k3⟩;have k2':v2= .int .i64 x:=k2;have k3':r2=[]:=k3;subst k2';subst k3';have hres:∀q,l=[]\/q=l.take l.length->VRel g (.tup [.int .i64 (lowB l x),.bool (l.contains x)]) (.tuple #[.int .i64 (((l.take l.length).countP (· <x):Nat):Int),.bool ((l.take l.length).contains x)]):=λq _=>by
  rw[Vw];have e:(l.countP λy=>decide (y<x))=lowB l x:=List.countP_eq_length_filter;rw[e];exact⟨_,rfl,_,_,rfl,rfl,_,_,rfl,rfl,rfl⟩
 have hres:=hres l (.inr (Vw).symm);rcases k1 with⟨k1,rfl,-⟩|⟨-,b,o,cap,⟨sp,rfl,hsp⟩,hc,hst,-⟩
 ·have:l=[]:=by simpa using k1
  subst this;refine(slices_BinarySearch_int_empty none 0 x w).mono ?_;rintro e w' ⟨rfl,rfl⟩;exact⟨⟨_,rfl,hres⟩,Below.refl _ _⟩
 ·cases l with
  |nil=>
   refine(slices_BinarySearch_int_empty _ _ x w).mono ?_;rintro e w' ⟨rfl,rfl⟩;exact⟨⟨_,rfl,hres⟩,Below.refl _ _⟩
  |cons y ys=>
   obtain rfl:sp=none:=hsp.resolve_right λq=>by cases q.1
   have hcell:=HS _ _ hst;have hk:=slices_BinarySearch_int b o (y::ys).length cap (y::ys) x w (V4 _) zo (λj hj=>hR.σw _ _ _ (hcell j _ (by rw[V2 hj];simp [List.getD,V2 hj]))) (by rw[Vw];exact hs.imp λq=>zo);simp only[V0]at hk⊢;refine hk.mono ?_;rintro e w' ⟨rfl,q,rfl⟩;exact⟨⟨_,rfl,hres⟩,OB _ _⟩
def lSort:BW prog 146:=⟨f146,by kernel_rfl,by kernel_rfl,by kernel_rfl⟩
def M6{H:AC}{n id len cap:Nat}{zs:List Int}(ho:hget H id=some (.arr 1 (zs.map eI)))(hl:len<=zs.length)(hz:len<1000000000):
  AN prog 146 [.ref id 1 0 len cap] H n λo H' n'=>o= .ret (.tup [])/\H'=hset H id (.arr 1 (((zs.take len).mergeSort leI++zs.drop len).map eI))/\n'=n:=by
 refine⟨lSort,λg w vs hR hv=>?_⟩;obtain⟨v,r,rfl,k1,k2⟩:=hv;have k2':r=[]:=k2;subst k2';obtain⟨L,h1,h2,rfl⟩:=k1;obtain⟨L',c,e,j1,j2,j3,j4,j5,j6⟩:=hR.obj id _ ho;rw[h1]at j1;cases j1;have hcell:=HS _ _ j6;simp only[Wr]at hcell;have hsz:c.size=zs.length:=by rw[<-j5];simp
 have htl:(zs.take len).length=len:=by simp;omega
 have hb:L.blk<w.heap.size:=(Wc.1 j4).1;have hc:=slices_Sort_int L.blk 0 cap (zs.take len) w (λj hj=>by
  have x7:j<(zs.take len).length:=by simpa using hj
  refine⟨?_,?_⟩
  ·rw[Wr,getElem!_pos _ j hj];simp only[World.cell?,j4];rw[hcell j _ (show zs[j]?=some zs[j]from V2 zo)];simp
  ·simp [World.frozen?,j4]) hb zo
 rw[htl]at hc;simp only[XD]at hc⊢;refine hc.mono ?_;rintro ee w' ⟨rfl,k,os,rfl⟩;generalize hS:(zs.take len).mergeSort (λx y=>decide (x<=y))=S;have hSl:S.length=len:=by rw[<-hS,List.length_mergeSort,htl]
 have hblk:(putRow (Value.int .i64) (Sort.ahead w k) L.blk 0 S.toArray).heap[L.blk]?=some (.cells (Go.Sort.putCells (Value.int .i64) 0 S.toArray c) e (0,0)):=by
  simp only[putRow,mapBlock,Sort.ahead,Array.getElem?_modify,WB,j4,Wt,onCells]
 have hget:∀j:Nat,(Go.Sort.putCells (Value.int .i64) 0 S.toArray c)[j]?=if j<len then(S[j]?).map (Value.int .i64)else c[j]?:=λj=>by
  simp only[Go.Sort.putCells,Array.getElem?_mapIdx,V8,WQ,Wr,Nat.sub_zero,List.size_toArray,hSl];by_cases q:j<len
  ·simp only[q,WB];have hjc:j<c.size:=zo
   have hjS:j<S.length:=zo
   rw[X8 hjc,V2 hjS];simp [hjS]
  ·simp only[q,Wf];cases c[j]?<;>rfl
 obtain⟨r1,r2⟩:=hR.upd (m:=n) (w':=putRow (Value.int .i64) (Sort.ahead w k) L.blk 0 S.toArray) (ob':=.arr 1 ((S++zs.drop len).map eI)) ho rfl h1 rfl rfl rfl (by simp [putRow,mapBlock,Sort.ahead])
  (λb hne=>by simp only[putRow,mapBlock,Sort.ahead,Array.getElem?_modify];rw[V5 (Ne.symm hne)])
  (.inl ⟨c,e,(0,0),_,j4,hblk,by simp [Go.Sort.putCells],λo ho'=>by
   rw[hget,V5 (by rcases ho' with q|q<;>omega)]⟩)
  ⟨L,_,e,h1,h2,by rw[j3];simp [Go.Sort.putCells],hblk,by simp [Go.Sort.putCells,hSl];omega,GI _ _ λj x hx=>by
   rw[Wr,hget];by_cases q:j<len
   ·rw[Vv q];rw[WI zo]at hx;rw[hx];rfl
   ·rw[V5 q];rw[WF zo,Ys]at hx;exact hcell j x (by rw[<-hx];congr 1;omega)⟩
 have hx:HExt (putRow (Value.int .i64) (Sort.ahead w k) L.blk 0 S.toArray) (grow (putRow (Value.int .i64) (Sort.ahead w k) L.blk 0 S.toArray) os):=λb ob hb=>by
  show(_++os)[b]?=some ob;rw[Array.getElem?_append_left (Wc.1 hb).1];exact hb
 have r3:=r1.grow hx (σ':=g.σ) (λ_ _ _ q=>q) (λ_ _ _ q=>.inl q);exact⟨g,.ret (.tup []),_,n,⟨rfl,rfl,rfl⟩,⟨_,rfl,rfl⟩,r3,V4 _,r2.trans (Yv.grow hx rfl rfl rfl (λ_ _ _ q=>q) (λ_ _ _ q=>.inl q))⟩
abbrev AH(sh w h:Int)(holes cells:List Int):List Fs:=[.int .i64 sh,.int .i64 w,.int .i64 h,eIs holes,eIs cells]
abbrev encG(sh w h:Int)(holes cells:List Int):Fs:=.agg (AH sh w h holes cells)
def Ar(n:Nat)(sh w h:Int)(holes cells:List Int):(encG sh w h holes cells).under n:=⟨trivial,trivial,trivial,Ai n _,Ai n _,trivial⟩
def BL(sh w h:Int)(holes:List Int):Fs:=match Ak sh w h holes with
 |some cells=>.tup [encG sh w h holes cells,.int .i64 0]
 |none=>.tup [encG 0 0 0 [] [],.int .i64 130]
def HT(sh w h:Int)(holes:List Int):(BL sh w h holes).under 0:=by
 unfold BL;split<;>exact⟨Ar 0 ..,trivial,trivial⟩
def wk_G{sh w h:Int}{holes cells:List Int}{a b:Fs}{e:Int}(h1:Wk a (eIs holes))(h2:Wk b (eIs cells)):Wk (.tup [.agg [.int .i64 sh,.int .i64 w,.int .i64 h,a,b],.int .i64 e]) (.tup [encG sh w h holes cells,.int .i64 e]):=
 Wk.tup (.cons (Wk.agg (.cons (Wk.refl _) (.cons (Wk.refl _) (.cons (Wk.refl _) (.cons h1 (.cons h2 .nil)))))) (.cons (Wk.refl _) .nil))
def p133(l:List Int)(hl:few l):Pur prog 133 [eIs l] (eIs l):=by
 refine .mk ⟨Ai 0 l,trivial⟩ (Ai 0 l) (c133.a (AE AI.tnil (AF ?_)));have a1:(l.length<=35184372088832)=True:=V1 (by have:l.length<1000000000:=hl;omega);have a2:small l.length 8=True:=V1 (AP (by have:l.length<1000000000:=hl;omega) zd);cases l with
 |nil=>
  simp only[eZ,seval,c133];refine⟨?_,?_⟩
  ·simp only[eZ,seval,small,XD,V8];exact Wk.sl (.inl rfl)
  ·simp only[eZ,seval,V6];exact Wk.sl (.inr rfl)
 |cons x r=>
  rw[Vz]at a1 a2;simp only[eZ,seval,V0,c133,eIs,a1,a2];exact Wk.sl (.inl rfl)
def Tmk:Tab:=tadd 133 (s1 dIs few λl=>eIs l) (tadd 134 (s2 dIs dI (λl _=>few l/\List.Pairwise (λx y=>x<y) l) λl x=>.tup [.int .i64 (lowB l x),.bool (l.contains x)]) tnil)
def Tmk_ok:AI prog Tmk:=(AI.tnil.add (q2 λl x h=>p134 l x h.1 h.2)).add (q1 p133)
def posL(holes:List Int)(k:Nat):List Int:=((List.range k).map λ(i:Nat)=>(i:Int)).filter λp=>!holes.contains p
def Ka(holes:List Int)(k:Nat):posL holes (k+1)=if holes.contains (k:Int)then posL holes k else posL holes k++[(k:Int)]:=by
 unfold posL;rw[WT,Vt,Xh];cases h:holes.contains (k:Int)<;>simp only[W6,Wh,X7,Yp,h,V3,V6,WB,Wf,W5,W9]
def Qu(holes:List Int)(k:Nat):(posL holes k).length<=k:=by
 have:=X0 (λp=>!holes.contains p) ((List.range k).map λ(i:Nat)=>(i:Int));simpa [posL]using this
structure VM where
 k:Nat
 tk:Zd
 H:AC
 n:Nat
structure IM(sh w h:Int)(holes:List Int)(m:Nat)(v:VM):Prop where
 hk:v.k<=m
 hn:2<=v.n
 fr:AR v.H v.n
 h0:hget v.H 0=some (.box [.int .i64 sh,.int .i64 w,.int .i64 h,eIs holes,.sl v.tk ((posL holes v.k).map eI)])
 tok:tkG 1 1 v.H v.tk
 es:v.tk.esz=1\/posL holes v.k=[]
def p69(sh w h:Int)(holes:List Int)(hl:few holes):Pur prog 69 [.int .i64 sh,.int .i64 w,.int .i64 h,eIs holes] (BL sh w h holes):=by
 refine .mk ⟨trivial,trivial,trivial,Ai 0 _,trivial⟩ (HT sh w h holes) (c69.a (AE Tmk_ok (AF ?_)));have hE:∀b,(b=true↔¬((sh=1\/sh=2)/\1<=w/\w<=16/\1<=h/\h<=16/\(holes.length:Int)<w*h))->(!decide (sh=1)&& !decide (sh=2)||decide (w<1)||decide (16<w)||decide (h<1)||decide (16<h)||decide (IntKind.wrap .i64 (w*h)<=(holes.length:Int)))=b:=by
  intro b hb;rw[Wg,hb];simp only[Wd,V7,Xu,Vu,Xf];by_cases m8:1<=w/\w<=16/\1<=h/\h<=16
  ·have:=Vi m8.1 m8.2.1 m8.2.2.1 m8.2.2.2;rw[Ae zo zo];omega
  ·omega
 by_cases hc:(sh=1\/sh=2)/\1<=w/\w<=16/\1<=h/\h<=16/\(holes.length:Int)<w*h;case neg=>
  have hn:BL sh w h holes= .tup [encG 0 0 0 [] [],.int .i64 130]:=by
   unfold BL Ak;rw[V5 λq=>hc ⟨q.1,q.2.1,q.2.2.1,q.2.2.2.1,q.2.2.2.2.1,q.2.2.2.2.2.1⟩]
  have hb:=hE true (by simp [hc]);rw[hn];simp only[eZ,seval,Au,V0,c69,hb];exact wk_G (Wk.sl (.inr rfl)) (Wk.sl (.inr rfl))
 have hb:=hE false (by simp [hc]);obtain⟨hsh,hw1,hw2,hh1,hh2,hln⟩:=hc;obtain⟨p1,p2⟩:=Vi hw1 hw2 hh1 hh2;have m8:IntKind.wrap .i64 (w*h)=w*h:=Ae zo zo;have hG:Ak sh w h holes=if(Bk (-1) holes&&holes.all λp=>decide (p<w*h))=true then some (posL holes (w*h).toNat)else none:=by
  unfold Ak;by_cases q:(Bk (-1) holes&&holes.all λp=>decide (p<w*h))=true
  ·rw[Vv q];rw[V7]at q;rw[Vv ⟨hsh,hw1,hw2,hh1,hh2,hln,q.1,q.2⟩];rfl
  ·rw[V5 q];rw[V7]at q;rw[V5 λz=>q ⟨z.2.2.2.2.2.2.1,z.2.2.2.2.2.2.2⟩]
 simp only[eZ,seval,V0,c69,hb];refine AO (λv:Nat×Int=>⟨[(0,true,.int .i64 sh),(1,true,.int .i64 w),(2,true,.int .i64 h),(3,true,eIs holes),(8,true,.ptr 0 0),(10,true,.int .i64 v.2),(47,true,eIs holes),(48,true,.int .i64 holes.length),(49,true,.int .i64 v.1)],hset hnil 0 (.box [z0,z0,z0,zs,zs]),2⟩)
  (λv=>v.1<=holes.length/\(Bk (-1) holes&&holes.all λp=>decide (p<w*h))=(Bk v.2 (holes.drop v.1)&&(holes.drop v.1).all λp=>decide (p<w*h))) (λv=>holes.length-v.1) (0,-1) rfl ⟨V8 _,rfl⟩ ?_
 rintro⟨i,last⟩ ⟨hi,he⟩;simp only at hi he;by_cases c6:i<holes.length
 ·have hg:=V2 c6;have e:=AG (k:=i) (by have:holes.length<1000000000:=hl;omega);rw[Wm c6,Bk,Xr]at he;by_cases i5:last<holes[i]/\holes[i]<w*h
  ·have hd:(decide (holes[i]<=last)||decide (w*h<=holes[i]))=false:=by simp;omega
   simp only[eZ,seval,W7,Vy,Wa,V0,W3,lt_T c6,hg,e,m8,hd];refine .mk (i+1,holes[i]) rfl ⟨c6,?_⟩ zp;simp only[];rw[he,Wo i5.1,Wo i5.2];simp
  ·have hd:(decide (holes[i]<=last)||decide (w*h<=holes[i]))=true:=by simp;omega
   have hn:BL sh w h holes= .tup [encG 0 0 0 [] [],.int .i64 130]:=by
    unfold BL;rw[hG,V5];rw[he];intro q;simp only[V7,Vu]at q;exact i5 ⟨q.1.1,q.2.1⟩
   rw[hn];simp only[eZ,seval,Au,W7,Vy,Wa,V0,W3,lt_T c6,hg,m8,hd];exact wk_G (Wk.sl (.inr rfl)) (Wk.sl (.inr rfl))
 have i8:i=holes.length:=zo
 subst i8;rw[WC]at he;have hS:Ak sh w h holes=some (posL holes (w*h).toNat):=by rw[hG,Vv (by rw[he];rfl)]
 have hrise:=(Fj hS).2.2.2.2.2.2.2.1;have hM:BL sh w h holes= .tup [encG sh w h holes (posL holes (w*h).toNat),.int .i64 0]:=by unfold BL;rw[hS]
 rw[hM];obtain⟨m,hm⟩:∃m:Nat,w*h=(m:Int):=⟨(w*h).toNat,zo⟩;have o7:(w*h).toNat=m:=zo
 have hwm:IntKind.wrap .i64 (m:Int)=m:=by rw[<-hm];exact m8
 rw[o7];simp only[eZ,seval,lt_F c6,Tmk,s1,Al,AZ,V1 hl,hwm,hm,AD,tadd];refine AO (λv:VM=>⟨[(3,true,eIs holes),(8,true,.ptr 0 0),(74,true,.int .i64 m),(75,true,.int .i64 v.k)],v.H,v.n⟩) (IM sh w h holes m) (λv=>m-v.k)
  ⟨0,.nil,hset hnil 0 (.box [.int .i64 sh,.int .i64 w,.int .i64 h,eIs holes,.sl .nil []]),2⟩ rfl ⟨V8 _,V4 _,AR.nil.hset (m:=2) (V8 2) (show 0<2 by decide),rfl,.inl rfl,.inr rfl⟩ ?_
 rintro⟨k,tk,H,n⟩ hI;have hk:=hI.hk;have hn:=hI.hn;have d5:=hI.fr;have h0:=hI.h0;have c7:=hI.tok;have d9:=hI.es;simp only at hk hn d5 h0 c7 d9;by_cases c6:k<m
 ·have e:=AG (k:=k) zo;have o8:=Ka holes k;cases j8:holes.contains (k:Int)with
  |true=>
   rw[j8,Vv rfl]at o8;simp only[eZ,seval,V3,W7,WU,Xe,lt_T c6,Tmk,s2,Al,AZ,BH,As,V1 hl,V1 hrise,j8,e,tadd];exact .mk ⟨k+1,tk,H,n⟩ rfl ⟨c6,hn,d5,by simp only[o8];exact h0,c7,by simp only[o8];exact d9⟩ zp
  |false=>
   rw[j8,V5 zd]at o8;have r9:=Qu holes k;have q1:At H 1 tk=True:=V1 c7.app;have q2:((posL holes k).length<=35184372088831)=True:=V1 zo;have q3:small ((posL holes k).length+1) 8=True:=V1 (AP zo zd);have kx:hget (AL H tk) 0=some (.box [.int .i64 sh,.int .i64 w,.int .i64 h,eIs holes,.sl tk ((posL holes k).map eI)]):=by rw[AX c7 (.inl zo)];exact h0
   have y0:∀j,(n+j=0)=False:=λj=>Vs zo
   simp only[eZ,seval,V6,W7,V0,WU,Xe,lt_T c6,Tmk,s2,Al,AZ,BH,As,V1 hl,V1 hrise,j8,e,h0,q1,q2,q3,fr1 d5,kx,y0,tadd];refine .mk ⟨k+1,.own (n+4) 1,hset (hset (AL H tk) (n+4) .tok) 0 (.box [.int .i64 sh,.int .i64 w,.int .i64 h,eIs holes,.sl (.own (n+4) 1) ((posL holes (k+1)).map eI)]),n+7⟩ ?_ ⟨c6,zp,((AT c7 d5).hset (m:=n+7) zo zo).hset (V4 (n+7)) (show 0<n+7 by omega),AB ..,.inr (.inr ⟨n+4,rfl,zo,by rw[AA _ _ _ _ zo];exact AB ..⟩),.inl rfl⟩ zp;rw[o8,Vt];rfl
 obtain rfl:k=m:=zo
 simp only[eZ,seval,Au,lt_F c6,h0];exact wk_G (Wk.refl _) (Wk.sl (d9.imp id λq=>by rw[q];rfl))
def Tgc:Tab:=tadd 69 (λa H=>match a with
 |[.int .i64 sh,.int .i64 w,.int .i64 h,x]=>(dIs.ok x/\few (dIs.dec x),BL sh w h (dIs.dec x))
 |_=>(False,.tup [])) (tadd 45 (s2 dIs dIs (λ_ b=>few b) λa b=>.bool (decide (a=b))) tnil)
theorem TZ:∀args H n,((λ(a:List Fs) (H:AC)=>match a with
 |[.int .i64 sh,.int .i64 w,.int .i64 h,x]=>(dIs.ok x/\few (dIs.dec x),BL sh w h (dIs.dec x))
 |_=>(False,Fs.tup [])) args H).1->Ab prog 69 args H n ((λ(a:List Fs) (H:AC)=>match a with
 |[.int .i64 sh,.int .i64 w,.int .i64 h,x]=>(dIs.ok x/\few (dIs.dec x),BL sh w h (dIs.dec x))
 |_=>(False,Fs.tup [])) args H).2:=by
 intro args H n hh;simp only at hh⊢;split at hh
 ·obtain⟨h1,h2⟩:=hh;refine AN.args ((p69 _ _ _ _ h2).quiet H n) ?_;rintro g vs ⟨v,r,rfl,k1,w,r',rfl,k2,u,r2,rfl,k3,z,r3,rfl,k4,k5⟩;exact⟨v,_,rfl,k1,w,_,rfl,k2,u,_,rfl,k3,z,_,rfl,dIs.wk _ h1 _ _ k4,k5⟩
 ·exact hh.elim
def Tgc_ok:AI prog Tgc:=(AI.tnil.add (q2 λa b h=>p45 a b (Ca h))).add TZ
def grOK(sh w h:Int)(holes cells:List Int):Bool:=decide (Ak sh w h holes=some cells)
def p144(sh w h:Int)(holes cells:List Int)(hl:few holes)(hc:few cells):Pur prog 144 [encG sh w h holes cells] (.int .i64 (if grOK sh w h holes cells=true then 0 else 130)):=by
 refine .mk ⟨Ar 0 ..,trivial⟩ trivial (c144.a (AE Tgc_ok (AF ?_)));cases hG:Ak sh w h holes with
 |none=>
  have hM:BL sh w h holes= .tup [encG 0 0 0 [] [],.int .i64 130]:=by unfold BL;rw[hG]
  have hk:grOK sh w h holes cells=false:=by unfold grOK;rw[hG];simp
  rw[hk];simp only[eZ,seval,V3,V6,W7,WU,Xe,c144,Tgc,Al,AZ,V1 hl,hM,encG,tadd]
 |some cs=>
  have hM:BL sh w h holes= .tup [encG sh w h holes cs,.int .i64 0]:=by unfold BL;rw[hG]
  have hk:grOK sh w h holes cells=decide (cs=cells):=by unfold grOK;rw[hG];simp
  rw[hk];by_cases hq:cs=cells
  ·simp only[eZ,seval,V3,W7,WU,Xe,c144,Tgc,s2,Al,AZ,V1 hl,hM,encG,V1 hc,BA hq,tadd]
  ·simp only[eZ,seval,V3,V6,W7,WU,Xe,c144,Tgc,s2,Al,AZ,V1 hl,hM,encG,V1 hc,Az hq,tadd]
structure Zc where
 sh:Int
 w:Int
 h:Int
 holes:List Int
 cells:List Int
 deriving DecidableEq
abbrev Bu(g:Zc):Fs:=encG g.sh g.w g.h g.holes g.cells
def Qv:Fs->Zc
 | .agg [.int _ sh,.int _ w,.int _ h,ho,ce]=>⟨sh,w,h,KX ho,KX ce⟩
 |_=>⟨0,0,0,[],[]⟩
def HU(g:Zc):Qv (Bu g)=g:=by simp only[Qv,Dl]
def dGd:Dc Zc:=dWk Bu Qv
def DI(x:Zc):dGd.ok (Bu x)=True:=HM HU x
def B6(x:Zc):dGd.dec (Bu x)=x:=HU x
def Es{sh w h:Int}{holes cells:List Int}:dGd.ok (encG sh w h holes cells)=True:=DI ⟨sh,w,h,holes,cells⟩
def Co{sh w h:Int}{holes cells:List Int}:dGd.dec (encG sh w h holes cells)=⟨sh,w,h,holes,cells⟩:=B6 ⟨sh,w,h,holes,cells⟩
abbrev chkV(g:Zc):Fs:=.int .i64 (if grOK g.sh g.w g.h g.holes g.cells=true then 0 else 130)
def Tgr:Tab:=tadd 144 (s1 dGd (λg=>few g.holes/\few g.cells) chkV) (tadd 134 (s2 dIs dI (λl _=>few l/\List.Pairwise (λx y=>x<y) l) λl x=>.tup [.int .i64 (lowB l x),.bool (l.contains x)]) tnil)
def Tgr_ok:AI prog Tgr:=(AI.tnil.add (q2 λl x h=>p134 l x h.1 h.2)).add (q1 λg h=>p144 g.sh g.w g.h g.holes g.cells h.1 h.2)
def Wks.len{ws us:List Fs}(h:Wks ws us):ws.length=us.length:=by
 induction h with
 |nil=>rfl
 |cons _ _ ih=>simp [ih]
def Wks.app{a b c d:List Fs}(h:Wks a b)(k:Wks c d):Wks (a++c) (b++d):=by
 induction h with
 |nil=>exact k
 |cons h1 _ ih=>exact .cons h1 ih
def SX{g:Yx}{e:Nat}{f:Nat->Option Value}{l m:List Fs}(hw:Wks l m):∀o,Stab g e f o l->Stab g e f o m:=by
 induction hw with
 |nil=>exact λ_ _=>trivial
 |cons h1 _ ih=>exact λo ⟨⟨v,q1,q2,q3⟩,h'⟩=>⟨⟨v,h1 _ _ q1,q2,q3⟩,ih _ h'⟩
def Wk.slx{t:Zd}{e:Nat}{l m:List Fs}(h:t.esz=e\/l=[])(hw:Wks l m):Wk (.sl t l) (.sl (.none e) m):=by
 intro g v hv;have hv:=Wk.sl h g v hv;rcases hv with⟨h1,rfl,-⟩|⟨-,b,o,cap,⟨sp,rfl,hsp⟩,hc,hst,-⟩
 ·have hl:=hw.len;subst h1;have:m=[]:=Wv (by rw[<-hl];rfl);subst this;exact .inl ⟨rfl,rfl,trivial⟩
 ·have hl:=hw.len;refine .inr ⟨trivial,b,o,cap,⟨sp,by rw[hl],?_⟩,by rw[<-hl];exact hc,SX hw _ hst,trivial⟩;rcases hsp with q|⟨q,q2⟩
  ·exact .inl q
  ·refine .inr ⟨?_,.inr ⟨e,rfl⟩⟩;subst q;exact Wv (by rw[<-hl];rfl)
def M7{cells l:List Int}{p:Int}(hp:List.Pairwise (λx y=>x<y) cells)(hl:∀q∈l,q∈cells)(hc:p∈cells):(BO cells l).contains (lowB cells p:Int)=l.contains p:=by
 rw[Wg,WA,WA];unfold BO;rw[WL];constructor
 ·rintro⟨q,hq,e⟩;have:=Vj hp (hl q hq) hc zo;rw[<-this];exact hq
 ·exact λh=>⟨p,h,rfl⟩
def Fl(cells l:List Int):(BO cells l).length=l.length:=V0 ..
def rgsV(cells:List Int)(lists:List (List Int)):Fs:=if(decide (lists.length<=64)&&lists.all (DU cells))=true then .tup [eLl (lists.map (BO cells)),.int .i64 0]else .tup [eLl [],.int .i64 130]
theorem HV:∀{l m:List Int},l.Nodup->(∀q∈l,q∈m)->l.length<=m.length
 |[],_,_,_=>V8 _
 |a::l,m,hd,hs=>by
  obtain⟨h1,h2⟩:=Xv.1 hd;have ha:=hs a zw;have ih:=HV (m:=m.erase a) h2 λq hq=>(List.mem_erase_of_ne (λe:q=a=>by subst e;exact h1 hq)).2 (hs q (by simp [hq]))
  rw[List.length_erase_of_mem ha]at ih;have:=List.length_pos_of_mem ha;rw[Vz];omega
structure VRg where
 i:Nat
 E:List Fs
 tl:Zd
 H:AC
 n:Nat
structure IRg(g:Zc)(lists:List (List Int))(v:VRg):Prop where
 hi:v.i<=lists.length
 hn:3<=v.n
 fr:AR v.H v.n
 h0:hget v.H 0=some (.box (AH g.sh g.w g.h g.holes g.cells))
 tok:tkG 1 1 v.H v.tl
 es:v.tl.esz=1\/v.E=[]
 hE:Wks v.E (((lists.take v.i).map (BO g.cells)).map eIs)
 eq:lists.all (DU g.cells)=(lists.drop v.i).all (DU g.cells)
structure VRi where
 j:Nat
 tc:Zd
 H:AC
 n:Nat
structure IRi(g:Zc)(x:List Int)(H0:AC)(n0:Nat)(v:VRi):Prop where
 hj:v.j<=x.length
 hn:n0+2<=v.n
 fr:AR v.H v.n
 hk:∀id,id<n0->hget v.H id=hget H0 id
 hm:hget v.H n0=some (.map (ctEs (BO g.cells (x.take v.j)) 0) v.j)
 tok:tkG 1 (n0+1) v.H v.tc
 es:v.tc.esz=1\/v.j=0
 sub:∀q∈x.take v.j,q∈g.cells
 eq:F3 g.cells [] x=F3 g.cells (x.take v.j) (x.drop v.j)
 nd:(x.take v.j).Nodup
def p88(g:Zc)(lists:List (List Int))(hG:Ak g.sh g.w g.h g.holes=some g.cells)(hh:few g.holes)(hl:Bm lists):Pur prog 88 [Bu g,eLl lists] (rgsV g.cells lists):=by
 refine .mk ⟨Ar 0 ..,Am 0 _,trivial⟩ (by unfold rgsV;split<;>exact⟨Am 0 _,trivial,trivial⟩) (c88.a (AE Tgr_ok (AF ?_)));obtain⟨q9,v8,x0⟩:=Ax hG;have x6:few g.cells:=show g.cells.length<_ by omega
 have m7:grOK g.sh g.w g.h g.holes g.cells=true:=by unfold grOK;rw[hG];simp
 by_cases h64:64<lists.length
 ·have hv:rgsV g.cells lists= .tup [eLl [],.int .i64 130]:=by unfold rgsV;rw[V5];simp;omega
  have l64:((64:Int)<(lists.length:Int))=True:=V1 zo;rw[hv];simp only[eZ,seval,V3,V0,c88,Tgr,s1,Es,Co,V1 hh,V1 x6,m7,l64,tadd];exact Wk.tup (.cons (Wk.sl (.inr rfl)) (.cons (Wk.refl _) .nil))
 have l64:((64:Int)<(lists.length:Int))=False:=Vs zo;simp only[eZ,seval,V3,V0,c88,Tgr,s1,Es,Co,V1 hh,V1 x6,m7,l64,tadd];have j7:lists.all (DU g.cells)=false->rgsV g.cells lists= .tup [eLl [],.int .i64 130]:=λq=>by unfold rgsV;rw[q,Bool.and_false,V5 zd]
 refine AO (λv:VRg=>⟨[(2,true,.ptr 0 0),(4,true,.sl v.tl v.E),(22,true,eLl lists),(23,true,.int .i64 lists.length),(24,true,.int .i64 v.i)],v.H,v.n⟩) (IRg g lists) (λv=>lists.length-v.i)
  ⟨0,[],.nil,hset hnil 0 (.box (AH g.sh g.w g.h g.holes g.cells)),3⟩ rfl ⟨V8 _,V4 _,AR.nil.hset (m:=3) (V8 3) (show 0<3 by decide),rfl,.inl rfl,.inr rfl,.nil,rfl⟩ ?_
 rintro⟨i,E,tl,H,n⟩ hI;have hi:=hI.hi;have hn:=hI.hn;have d5:=hI.fr;have h0:=hI.h0;have c7:=hI.tok;have d9:=hI.es;have hE:=hI.hE;have heq:=hI.eq;simp only at hi hn d5 h0 c7 d9 hE heq;by_cases c6:i<lists.length;case neg=>
  have i8:i=lists.length:=zo
  subst i8;rw[WC]at heq;rw[Vw]at hE;have hv:rgsV g.cells lists= .tup [eLl (lists.map (BO g.cells)),.int .i64 0]:=by
   unfold rgsV;rw[heq,Vv];simp;omega
  rw[hv];simp only[eZ,seval,lt_F c6];exact Wk.tup (.cons (Wk.slx d9 hE) (.cons (Wk.refl _) .nil))
 have hg:=V2 c6;have e:=AG (k:=i) zo;have l7:=hl.2 _ (W1 c6);have w7:=map_take (f:=BO g.cells) c6;rw[Wm c6,Xr]at heq;generalize hx:lists[i]=x at hg l7 heq w7;have hxl:x.length<1125899906842624:=l7;have hmk:hget (hset H n (.map [] 0)) 0=some (.box (AH g.sh g.w g.h g.holes g.cells)):=by rw[AA _ _ _ _ zo];exact h0
 simp only[eZ,seval,xE,W7,Vy,Wa,V0,W3,lt_T c6,hg,fr0 d5];refine AO (λv:VRi=>⟨[(2,true,.ptr 0 0),(4,true,.sl tl E),(8,true,.sl v.tc ((BO g.cells (x.take v.j)).map eI)),(9,true,.mp n),(22,true,eLl lists),(23,true,.int .i64 lists.length),(24,true,.int .i64 i),(29,true,eIs x),(30,true,.int .i64 x.length),(31,true,.int .i64 v.j)],v.H,v.n⟩)
  (IRi g x H n) (λv=>x.length-v.j) ⟨0,.nil,hset H n (.map [] 0),n+2⟩ rfl ⟨V8 _,V4 _,(d5.hset (m:=n+2) zo zo),λid d7=>AA _ _ _ _ zo,AB ..,.inl rfl,.inr rfl,λq hq=>by(simp at hq),rfl,zw⟩ ?_
 rintro⟨j,tc,H1,n1⟩ hJ;have hj:=hJ.hj;have j9:=hJ.hn;have e9:=hJ.fr;have hk:=hJ.hk;have hm:=hJ.hm;have m9:=hJ.tok;have s5:=hJ.es;have t8:=hJ.sub;have w8:=hJ.eq;have m0:=hJ.nd;simp only at hj j9 e9 hk hm m9 s5 t8 w8 m0;have hj256:j<=256:=by
  have:=HV m0 t8;rw[W0]at this;omega
 have l0:hget H1 0=some (.box (AH g.sh g.w g.h g.holes g.cells)):=by rw[hk 0 zo];exact h0
 by_cases i4:j<x.length
 ·have s6:=V2 i4;have ej:=AG (k:=j) zo;have t7:=map_take (f:=λp=>(lowB g.cells p:Int)) i4;have m5:x.take (j+1)=x.take j++[x[j]]:=by rw[Vx,s6];rfl
  rw[Wm i4,F3]at w8;have d6:(BO g.cells (x.take j)).length=j:=by rw[Fl,W0];omega
  generalize hp:x[j]=p at s6 t7 m5 w8;have i7:(g.cells.contains p&& !(x.take j).contains p)=false->rgsV g.cells lists= .tup [eLl [],.int .i64 130]:=λq=>j7 (by
   rw[heq,Eo,w8,q];simp)
  cases j8:g.cells.contains p with
  |false=>
   rw[i7 (by rw[j8];rfl)];simp only[eZ,eX,seval,V3,V6,W7,Vy,Wa,V0,W3,WU,Xe,lt_T i4,s6,l0,Tgr,s2,Al,AZ,BH,As,V1 x6,V1 q9,j8,tadd];exact Wk.tup (.cons (Wk.sl (.inr rfl)) (.cons (Wk.refl _) .nil))
  |true=>
   have hpm:p∈g.cells:=WA.1 j8;have x9:=M7 q9 t8 hpm;have hmf:BN (.int .i64 (lowB g.cells p:Int)) (ctEs (BO g.cells (x.take j)) 0)=if(x.take j).contains p then some (.bool true)else none:=by rw[Lt,x9]
   cases o7:(x.take j).contains p with
   |true=>
    rw[i7 (by rw[j8,o7];rfl)];rw[o7,Vv rfl]at hmf;simp only[eZ,eX,seval,V3,xE,W7,Vy,Wa,V0,W3,WU,Xe,lt_T i4,s6,l0,Tgr,s2,Al,AZ,BH,As,V1 x6,V1 q9,j8,hm,hmf,Qs,xE,KT.is,CQ,tadd];exact Wk.tup (.cons (Wk.sl (.inr rfl)) (.cons (Wk.refl _) .nil))
   |false=>
    rw[o7,V5 zd]at hmf;have hms:=ct_set (l:=BO g.cells (x.take j)) (x:=(lowB g.cells p:Int)) (by rw[x9];exact o7);rw[d6]at hms;have htm:tkG 1 (n+1) (hset H1 n (.map (ctEs (BO g.cells (x.take j)++[(lowB g.cells p:Int)]) 0) (j+1))) tc:=m9.set (.inl zo);have q1:At (hset H1 n (.map (ctEs (BO g.cells (x.take j)++[(lowB g.cells p:Int)]) 0) (j+1))) 1 tc=True:=V1 htm.app;have q2:(j<=35184372088831)=True:=V1 zo;have q3:small (j+1) 8=True:=V1 (AP zo zd);have yn:∀k,(n=n1+k)=False:=λk=>Vs zo
    simp only[eZ,eX,seval,V3,xE,Option.getD_none,Option.isSome_none,W7,Vy,Wa,V0,W3,WU,Xe,lt_T i4,s6,l0,Tgr,s2,Al,AZ,BH,As,V1 x6,V1 q9,j8,hm,hmf,Qs,xE,KT.is,CQ,ej,hms,q1,q2,q3,d6,yn,fr1 e9,tadd];generalize hG2:hset H1 n (.map (ctEs (BO g.cells (x.take j)++[(lowB g.cells p:Int)]) 0) (j+1))=H2 at htm;have hf2:AR H2 n1:=by rw[<-hG2];exact e9.hset (V4 _) zo
    have hk2:∀id,id<n->hget H2 id=hget H id:=λid d7=>by rw[<-hG2,AA _ _ _ _ zo];exact hk id d7
    have hm2:hget H2 n=some (.map (ctEs (BO g.cells (x.take j)++[(lowB g.cells p:Int)]) 0) (j+1)):=by rw[<-hG2];exact AB ..
    have w9:BO g.cells (x.take (j+1))=BO g.cells (x.take j)++[(lowB g.cells p:Int)]:=t7;refine .mk ⟨j+1,.own (n1+3) 1,hset (AL H2 tc) (n1+3) .tok,n1+5⟩ ?_ ⟨i4,zp,(AT htm hf2).hset (m:=n1+5) zo zo,λid d7=>?_,?_,.inr (.inr ⟨n1+3,rfl,zo,AB ..⟩),.inl rfl,λq hq=>?_,?_,?_⟩ zp
    ·rw[w9,Vt];rfl
    ·simp only[];rw[AA _ _ _ _ zo,AX htm (.inl zo)];exact hk2 id d7
    ·simp only[];rw[AA _ _ _ _ zo,AX htm (.inl zo),w9];exact hm2
    ·simp only[m5]at hq;rcases WH.1 hq with q1|q1
     ·exact t8 q q1
     ·rw[WV.1 q1];exact hpm
    ·simp only[];rw[m5,w8,j8,o7];rfl
    ·simp only[];rw[m5,Xo];refine⟨m0,zw,λa ha b hb e=>?_⟩;rw[WV]at hb;subst hb;subst e;rw[WA.2 ha]at o7;cases o7
 have x7:j=x.length:=zo
 subst x7;rw[WC,Vw]at w8;rw[Vw]at hm;have hlx:(BO g.cells (x.take x.length)).length=x.length:=by rw[Fl,Vw]
 by_cases hx0:x.length=0
 ·have i7:rgsV g.cells lists= .tup [eLl [],.int .i64 130]:=j7 (by rw[heq,Eo,hx0];simp);rw[i7];simp only[eZ,seval,V0,lt_F i4,hlx,BA (show((x.length:Nat):Int)=0 by omega)];exact Wk.tup (.cons (Wk.sl (.inr rfl)) (.cons (Wk.refl _) .nil))
 have hEl:E.length<=64:=by
  have:=hE.len;simp only[V0,W0]at this;omega
 have j0:tkG 1 1 H1 tl:=by
  rcases c7 with rfl|rfl|⟨id,rfl,h1,h2⟩
  ·exact .inl rfl
  ·exact .inr (.inl rfl)
  ·exact .inr (.inr ⟨id,rfl,h1,by rw[hk id (d5.lt h2)];exact h2⟩)
 have q1:At H1 1 tl=True:=V1 j0.app;have q2:(E.length<=35184372088831)=True:=V1 zo;have q3:small (E.length+1) 24=True:=V1 (AP zo zd);simp only[eZ,seval,V0,lt_F i4,hlx,Az (show ¬((x.length:Nat):Int)=0 by omega),e,q1,q2,q3,fr1 e9];refine .mk ⟨i+1,E++[.sl tc ((BO g.cells x).map eI)],.own (n1+3) 1,hset (AL H1 tl) (n1+3) .tok,n1+5⟩ ?_ ⟨c6,zp,(AT j0 e9).hset (m:=n1+5) zo zo,?_,.inr (.inr ⟨n1+3,rfl,zo,AB ..⟩),.inl rfl,?_,?_⟩ zp
 ·rw[Vw]
 ·simp only[];rw[AA _ _ _ _ zo,AX j0 (.inl zo)];exact l0
 ·simp only[];rw[w7,Vt];exact hE.app (.cons (Wk.sl (s5.imp id λq=>by rw[X1.1 q];rfl)) .nil)
 ·simp only[];have i5:DU g.cells x=true:=by rw[Eo,w8];simp [F3];omega
  rw[heq,i5,Xs]
def gtZ{n:Nat}(k:Nat)(z:Int)(hz:z=(k:Int)):decide (z<(n:Int))= !decide (n<=k):=by subst hz;rw[Wg];simp
def Ex(r:Z6):Bool:=decide (r.ls.length<=40)&&r.ls.all λl=>decide (l.length<=40)
def Fm(r:Yz):Bool:=decide (r.ns.length<=20)&&decide (r.os.length<=20)
def HW(d:Z8):Bool:=decide (d.holes.length<=40)&&decide (d.syms.length<=20)&&decide (d.regs.length<=8)&&decide (d.clus.length<=8)&&decide (d.ruls.length<=20)&&d.regs.all Ex&&d.ruls.all Fm
def Kb{d:Z8}(h:HW d=true):Z4 d:=by
 unfold HW Ex Fm at h;simp only[V7,Vu,W4]at h;obtain⟨⟨⟨⟨⟨⟨h1,h2⟩,h3⟩,h4⟩,h5⟩,h6⟩,h7⟩:=h;exact⟨show d.holes.length<_ by omega,show d.syms.length<_ by omega,show d.regs.length<_ by omega,λr hm=>⟨show r.ls.length<_ by have:=(h6 r hm).1;omega,λl hl=>show l.length<_ by have:=(h6 r hm).2 l hl;omega⟩,show d.clus.length<_ by omega,show d.ruls.length<_ by omega,λr hm=>by have:=h7 r hm;exact⟨show r.ns.length<_ by omega,show r.os.length<_ by omega⟩⟩
def p9(d:Z8):Pur prog 9 [encD d] (.bool (HW d)):=by
 refine .mk ⟨AW 0 d,trivial⟩ trivial (c9.a (AE AI.tnil (AF ?_)));have g40:=λ{n:Nat}=>gtZ (n:=n) 40 40 rfl
 have g20:=λ{n:Nat}=>gtZ (n:=n) 20 20 rfl
 have g8:=λ{n:Nat}=>gtZ (n:=n) 8 8 rfl
 simp only[eZ,seval,V0,c9,AK,g40,g20,g8];rw[cK_i];refine⟨λhB=>?_,λhB=>?_⟩
 ·simp only[eE,eN,seval];cases q:HW d with
  |false=>rfl
  |true=>
   unfold HW at q;simp only[V7]at q;obtain⟨⟨⟨⟨⟨⟨h1,h2⟩,h3⟩,h4⟩,h5⟩,h6⟩,h7⟩:=q;simp [h1,h2,h3,h4,h5]at hB
 simp only[Xm,XM]at hB;obtain⟨⟨⟨⟨h1,h2⟩,h3⟩,h4⟩,h5⟩:=hB;have hr8:d.regs.length<=8:=by simpa using h3
 have hu20:d.ruls.length<=20:=by simpa using h5
 unfold HW;rw[h1,h2,h3,h4,h5];simp only[Xs];simp only[eE,eN,seval,V3];refine AO (λi:Nat=>⟨[(1,true,.ptr 0 0),(3,true,.int .i64 i)],hset hnil 0 (.box (AK d)),2⟩) (λi=>i<=d.regs.length/\∀j (hj:j<d.regs.length),j<i->Ex d.regs[j]=true) (λi=>d.regs.length-i) 0 rfl ⟨V8 _,λj hj h=>zo⟩ ?_;rintro i ⟨hi,hall⟩;by_cases c6:i<d.regs.length
 ·have hg:=V2 c6;have hm:=W1 c6;have e:=AG (k:=i) zo;have fin:Ex d.regs[i]=false->d.regs.all Ex=false:=λh=>List.all_eq_false.2 ⟨_,hm,by rw[h];decide⟩
  generalize u0:d.regs[i]=r at hg fin;cases b1:(decide (r.ls.length<=40))with
  |false=>
   simp only[eZ,seval,V6,eY,AK,lt_T c6,hg,g40,b1];rw[fin (by unfold Ex;rw[b1];rfl)];rfl
  |true=>
   have hl40:r.ls.length<=40:=Wn b1;simp only[eZ,seval,V3,eY,AK,lt_T c6,hg,g40,b1];refine AO (λk:Nat=>⟨[(1,true,.ptr 0 0),(3,true,.int .i64 i),(4,true,.int .i64 k)],hset hnil 0 (.box (AK d)),2⟩) (λk=>k<=r.ls.length/\∀j (hj:j<r.ls.length),j<k->r.ls[j].length<=40) (λk=>r.ls.length-k) 0 rfl ⟨V8 _,λj hj h=>zo⟩ ?_;rintro k ⟨hk,hal2⟩;by_cases i9:k<r.ls.length
   ·have hg2:=V2 i9;have e2:=AG (k:=k) zo;cases b2:(decide (r.ls[k].length<=40))with
    |false=>
     simp only[eZ,seval,V6,eY,AK,lt_T c6,hg,lt_T i9,hg2,g40,b2];rw[fin (by unfold Ex;rw[List.all_eq_false.2 ⟨_,W1 i9,by rw[b2];decide⟩,Bool.and_false])];rfl
    |true=>
     simp only[eZ,seval,V3,eY,AK,lt_T c6,hg,lt_T i9,hg2,e2,g40,b2];refine .mk (k+1) rfl ⟨i9,λj hj h=>?_⟩ zo;by_cases q:j=k
     ·subst q;exact Wn b2
     ·exact hal2 j hj zo
   simp only[eZ,seval,eY,AK,lt_T c6,hg,lt_F i9,e];refine .mk (i+1) rfl ⟨c6,λj hj h=>?_⟩ zo;by_cases q:j=i
   ·subst q;rw[u0];unfold Ex;rw[b1,Xs];exact W4.2 λl hl=>by
     obtain⟨j,hj,rfl⟩:=WP.1 hl;exact Wo (hal2 j hj zo)
   ·exact hall j hj zo
 have hqa:d.regs.all Ex=true:=W4.2 λq hq=>by
  obtain⟨j,hj,rfl⟩:=WP.1 hq;exact hall j hj zo
 rw[hqa,Xs];simp only[eZ,seval,V0,AK,lt_F c6];clear c6 hall hi;refine AO (λi:Nat=>⟨[(1,true,.ptr 0 0),(5,true,.int .i64 i)],hset hnil 0 (.box (AK d)),2⟩) (λi=>i<=d.ruls.length/\∀j (hj:j<d.ruls.length),j<i->Fm d.ruls[j]=true) (λi=>d.ruls.length-i) 0 rfl ⟨V8 _,λj hj h=>zo⟩ ?_;rintro i ⟨hi,hall⟩;by_cases c6:i<d.ruls.length
 ·have hg:=V2 c6;have hm:=W1 c6;have e:=AG (k:=i) zo;have fin:Fm d.ruls[i]=false->d.ruls.all Fm=false:=λh=>List.all_eq_false.2 ⟨_,hm,by rw[h];decide⟩
  generalize u0:d.ruls[i]=r at hg fin;cases b1:(decide (r.ns.length<=20))with
  |false=>
   simp only[eZ,seval,V3,V6,eY,AK,lt_T c6,hg,g20,b1];exact(fin (by unfold Fm;rw[b1];rfl)).symm
  |true=>
   cases b2:(decide (r.os.length<=20))with
   |false=>
    simp only[eZ,seval,V3,V6,eY,AK,lt_T c6,hg,g20,b1,b2];exact(fin (by unfold Fm;rw[b1,b2];rfl)).symm
   |true=>
    simp only[eZ,seval,V3,eY,AK,lt_T c6,hg,e,g20,b1,b2];refine .mk (i+1) rfl ⟨c6,λj hj h=>?_⟩ zo;by_cases q:j=i
    ·subst q;rw[u0];unfold Fm;rw[b1,b2];rfl
    ·exact hall j hj zo
 simp only[eZ,seval,V0,AK,lt_F c6];exact(W4.2 λq hq=>by
  obtain⟨j,hj,rfl⟩:=WP.1 hq;exact hall j hj zo).symm
end Go.AM
