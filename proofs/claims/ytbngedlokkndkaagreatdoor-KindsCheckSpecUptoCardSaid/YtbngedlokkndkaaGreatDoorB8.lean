/-
  What is told of functions, argument by argument; lists that grow, and objects beside one another · Declarations, plainly.
  Conditions: none beyond those of its parts.
-/
import Derived.Test.YtbngedlokkndkaaGreatDoorB5
import Derived.Test.YtbngedlokkndkaaGreatDoorProg
import Derived.Test.YtbngedlokkndkaaGreatDoorB6
import Derived.Test.YtbngedlokkndkaaGreatDoorShelf
import Derived.Test.YtbngedlokkndkaaGreatDoorB7

set_option maxRecDepth 20000
set_option linter.all false
namespace Go.AM
open Go.Lib Go.Proofs Go.Proofs.Tryz
section
abbrev Bs:=List UInt8
abbrev eI(n:Int):Fs:=.int .i64 n
abbrev Fw(l:List Bs):Fs:=.sl (.none 1) (l.map .str)
abbrev BY(l:List Int):Fs:=.sl (.none 1) (l.map eI)
def TZ(n:Nat)(l:List Bs):sN n (l.map Fs.str):=Af (f:=Fs.str) (λx=>zt) _
def Rs(n:Nat)(l:List Int):sN n (l.map eI):=Af (f:=eI) (λx=>zt) _
def Hv(l:List Bs):(l.map Fs.str).map HN=l:=by rw[pO];exact rP _
def Ew(l:List Int):(l.map eI).map BV=l:=by rw[pO];exact rP _
inductive Wks:List Fs->List Fs->Prop
 |nil:Wks [] []
 |cons {a b:Fs} {ws us:List Fs}:Wk a b->Wks ws us->Wks (a::ws) (b::us)
theorem Wks.rel{g:z8}:∀{ws us:List Fs},Wks ws us->∀vs,sG g ws vs->sG g us vs
 |_,_,.nil,vs,h=>h
 |_,_,.cons h t,vs,⟨v,r,e,k1,k2⟩=>⟨v,r,e,h _ _ k1,t.rel r k2⟩
def Wk.agg{ws us:List Fs}(h:Wks ws us):Wk (.agg ws) (.agg us):=by
 rintro g v ⟨vs,rfl,h1,h2⟩;exact⟨vs,rfl,h.rel _ h1,h2⟩
def Wk.sH{ws us:List Fs}(h:Wks ws us):Wk (.sH ws) (.sH us):=by
 rintro g v ⟨vs,rfl,h1⟩;exact⟨vs,rfl,h.rel _ h1⟩
def Wk.trans{a b c:Fs}(h:Wk a b)(k:Wk b c):Wk a c:=λg v q=>k g v (h g v q)
def Ci(pid:Nat)(H H':AB):Prop:=∀id ob,id≠pid->AD H id=some ob->AD H' id=some ob
variable {H H':AB} {ob:xq} {tF:FuncId} {pid n i e a b lo:Nat} {tk:xv} {α β:Type}
theorem Ci.refl(H:AB):Ci pid H H:=λ_ _ _ h=>h
theorem Ci.trans{H'':AB}(h:Ci pid H H')(k:Ci pid H' H''):Ci pid H H'':=λid ob sZ x=>k id ob sZ (h id ob sZ x)
theorem Ci.set(h:Ci pid H H'):Ci pid H (sA H' pid ob):=λid o sZ x=>by
 rw[AA _ _ _ _ (Ne.symm sZ)];exact h id o sZ x
theorem Ci.new(hf:AU H n)(hi:n<=i)(h:Ci pid H H'):Ci pid H (sA H' i ob):=λid o sZ x=>by
 have:=hf.lt x;rw[AA _ _ _ _ zo];exact h id o sZ x
section
variable {n pid:Nat} {H:AB}
theorem Bx(h:AU H n)(k:Nat):AD H (n+k)=none:=h _ zo
theorem W0(h:AU H n):AD H n=none:=h _ (od _)
end
structure Dc(α:Type) where
 enc:α->Fs
 dec:Fs->α
 ok:Fs->Prop
 wk:∀v,ok v->Wk v (enc (dec v))
def ZM:Fs->Prop
 | .int .i64 _=>True
 |_=>False
theorem ZN(v:Fs)(h:ZM v):Wk v (eI (BV v)):=by
 unfold ZM at h;split at h
 ·exact Wk.refl _
 ·exact h.elim
def dI:Dc Int:=⟨eI,BV,ZM,ZN⟩
theorem mY(v:Fs)(h:MU v):Wk v (.str (HN v)):=by
 cases v<;>first|exact Wk.refl _|exact h.elim
def dS:Dc Bs:=⟨.str,HN,MU,mY⟩
def okL(e:Nat)(enc:α->Fs)(dec:Fs->α):Fs->Prop
 | .sl t L=>(t.esz=e\/L=[])/\L=(L.map dec).map enc
 |_=>False
def Wf(dec:Fs->α):Fs->List α
 | .sl _ L=>L.map dec
 |_=>[]
theorem Ta{enc:α->Fs}{dec:Fs->α}(v:Fs)(h:okL e enc dec v):Wk v (.sl (.none e) ((Wf dec v).map enc)):=by
 cases v<;>simp only[okL]at h<;>try exact h.elim
 simp only[Wf];rw[<-h.2];exact Wk.sl h.1
def On:Dc (List Bs):=⟨Fw,Wf HN,okL 1 .str HN,Ta⟩
def Cj:Dc (List Int):=⟨BY,Wf BV,okL 1 eI BV,Ta⟩
def s1(A:Dc α)(c:α->Prop)(f:α->Fs):List Fs->AB->Prop×Fs:=λa _=>match a with
 |[x]=>(A.ok x/\c (A.dec x),f (A.dec x))
 |_=>(False,.sH [])
def s2(A:Dc α)(B:Dc β)(c:α->β->Prop)(f:α->β->Fs):List Fs->AB->Prop×Fs:=λa _=>match a with
 |[x,y]=>(A.ok x/\B.ok y/\c (A.dec x) (B.dec y),f (A.dec x) (B.dec y))
 |_=>(False,.sH [])
def s3{γ:Type}(A:Dc α)(B:Dc β)(C:Dc γ)(c:α->β->γ->Prop)(f:α->β->γ->Fs):List Fs->AB->Prop×Fs:=λa _=>match a with
 |[x,y,z]=>(A.ok x/\B.ok y/\C.ok z/\c (A.dec x) (B.dec y) (C.dec z),f (A.dec x) (B.dec y) (C.dec z))
 |_=>(False,.sH [])
theorem q1{A:Dc α}{c:α->Prop}{f:α->Fs}(h:∀x,c x->A6 prog tF [A.enc x] (f x)):∀args H n,(s1 A c f args H).1->Ad prog tF args H n (s1 A c f args H).2:=by
 intro args H n hh;unfold s1 at hh⊢;split at hh
 ·obtain⟨h1,h2⟩:=hh;refine AO.args ((h _ h2).quiet H n) ?_;rintro g vs ⟨v,r,rfl,k1,k2⟩;exact⟨v,_,rfl,A.wk _ h1 _ _ k1,k2⟩
 ·exact hh.elim
theorem q2{A:Dc α}{B:Dc β}{c:α->β->Prop}{f:α->β->Fs}(h:∀x y,c x y->A6 prog tF [A.enc x,B.enc y] (f x y)):∀args H n,(s2 A B c f args H).1->Ad prog tF args H n (s2 A B c f args H).2:=by
 intro args H n hh;unfold s2 at hh⊢;split at hh
 ·obtain⟨h1,h2,h3⟩:=hh;refine AO.args ((h _ _ h3).quiet H n) ?_;rintro g vs ⟨v,r,rfl,k1,w,r',rfl,k2,k3⟩;exact⟨v,_,rfl,A.wk _ h1 _ _ k1,w,_,rfl,B.wk _ h2 _ _ k2,k3⟩
 ·exact hh.elim
theorem q3{γ:Type}{A:Dc α}{B:Dc β}{C:Dc γ}{c:α->β->γ->Prop}{f:α->β->γ->Fs}(h:∀x y z,c x y z->A6 prog tF [A.enc x,B.enc y,C.enc z] (f x y z)):∀args H n,(s3 A B C c f args H).1->Ad prog tF args H n (s3 A B C c f args H).2:=by
 intro args H n hh;unfold s3 at hh⊢;split at hh
 ·obtain⟨h1,h2,h3,h4⟩:=hh;refine AO.args ((h _ _ _ h4).quiet H n) ?_;rintro g vs ⟨v,r,rfl,k1,w,r',rfl,k2,u,r'',rfl,k3,k4⟩;exact⟨v,_,rfl,A.wk _ h1 _ _ k1,w,_,rfl,B.wk _ h2 _ _ k2,u,_,rfl,C.wk _ h3 _ _ k3,k4⟩
 ·exact hh.elim
theorem A6.all{P:Program}{f:FuncId}{args:List Fs}{r r':Fs}(h:A6 P f args r)(e:r=r'):A6 P f args r':=e▸h
abbrev I7(_:α):Prop:=True
abbrev Wg(_:α)(_:β):Prop:=True
theorem map_take{f:α->β}{l:List α}(h:i<l.length):(l.take (i+1)).map f=(l.take i).map f++[f l[i]]:=by
 rw[oG,o8 h,oD];rfl
theorem AT(h:a<b):((a:Int)<(b:Int))=True:=o7 zo
theorem Ah(h:¬a<b):((a:Int)<(b:Int))=False:=oA zo
theorem An{x:Int}(h1: -9223372036854775808<=x)(h2:x<=9223372036854775807):IntKind.wrap .i64 x=x:=by rw[IntKind.wrap_i64];omega
theorem AI{k:Nat}(h:k<9000000000000000000):IntKind.wrap .i64 ((k:Int)+1)=((k+1:Nat):Int):=by rw[An zo zo];rfl
theorem c0:((0:Nat):Int)=0:=rfl
theorem c1:((1:Nat):Int)=1:=rfl
theorem cS1:((0:Int)<((n+1:Nat):Int))=True:=o7 zo
theorem i00:((0:Int)<0)=False:=oA zd
def EG(e lo:Nat)(H:AB)(tk:xv):Prop:=tk= .nil\/tk= .exact e\/∃id,tk= .own id e/\lo<=id/\AD H id=some .tok
theorem EG.app(h:EG e lo H tk):At H e tk:=by
 rcases h with rfl|rfl|⟨id,rfl,h1,h2⟩
 ·trivial
 ·rfl
 ·exact⟨rfl,h2⟩
theorem EG.set(h:EG e lo H tk)(hi:i<lo\/(∃cs,AD H i=some (.box cs))\/AD H i=none):EG e lo (sA H i ob) tk:=by
 rcases h with rfl|rfl|⟨id,rfl,h1,h2⟩
 ·exact .inl rfl
 ·exact .inr (.inl rfl)
 ·refine .inr (.inr ⟨id,rfl,h1,?_⟩);rw[AA _ _ _ _ ?_]
  ·exact h2
  ·rintro rfl;rcases hi with q|⟨cs,q⟩|q
   ·omega
   ·rw[h2]at q;cases q
   ·rw[h2]at q;cases q
theorem Ai(h:EG e lo H tk)(hi:i<lo\/∃cs,AD H i=some (.box cs)):AD (AR H tk) i=AD H i:=by
 rcases h with rfl|rfl|⟨id,rfl,h1,h2⟩
 ·rfl
 ·rfl
 ·simp only[AR];rw[AA _ _ _ _ ?_];rintro rfl;rcases hi with q|⟨cs,q⟩
  ·omega
  ·rw[h2]at q;cases q
theorem AZ(h:EG e lo H tk)(hf:AU H n):AU (AR H tk) n:=by
 rcases h with rfl|rfl|⟨id,rfl,h1,h2⟩
 ·exact hf
 ·exact hf
 ·exact hf.sA (od _) (hf.lt h2)
theorem Oo(h:EG e lo H tk)(hi:AD H i=none):AD (AR H tk) i=none:=by
 rcases h with rfl|rfl|⟨id,rfl,h1,h2⟩
 ·exact hi
 ·exact hi
 ·simp only[AR];rw[AA _ _ _ _ ?_]
  ·exact hi
  ·rintro rfl;rw[h2]at hi;cases hi
theorem EG.kill{e' lo':Nat}{tk':xv}(h:EG e lo H tk)(h':EG e' lo' H tk')(hd:∀i,tk= .own i e->tk'≠ .own i e'):EG e lo (AR H tk') tk:=by
 rcases h' with rfl|rfl|⟨j,rfl,h1,h2⟩
 ·exact h
 ·exact h
 ·rcases h with rfl|rfl|⟨id,rfl,h3,h4⟩
  ·exact .inl rfl
  ·exact .inr (.inl rfl)
  ·refine .inr (.inr ⟨id,rfl,h3,?_⟩);simp only[AR];rw[AA _ _ _ _ (λe=>hd id rfl (by rw[e]))];exact h4
abbrev sR(l:List α):Prop:=l.length<1000000000
abbrev wide(l:List α):Prop:=l.length<1125899906842624
theorem Dk{l:List α}(h:sR l):wide l:=by
 have:l.length<1000000000:=h;show l.length<_;omega
theorem FJ{a b:List α}(hl:a.length=b.length)(h:∀j,j<a.length->a[j]?=b[j]?):a=b:=List.ext_getElem? λj=>by
 rcases Nat.lt_or_ge j a.length with q|q
 ·exact h j q
 ·rw[qY q,qY zo]
theorem Hw(h:a≠b):((a:Int)=(b:Int))=False:=oA zo
theorem Hx(h:a=b):((a:Int)=(b:Int))=True:=o7 zo
theorem AY(h:n<=1000000000)(hb:b<=1000):small n b:=by
 have:n*b<=1000000000*1000:=Nat.mul_le_mul h hb;unfold small;omega
theorem GH{enc:α->Fs}{dec:Fs->α}(h:∀x,dec (enc x)=x)(l:List α):(l.map enc).map dec=l:=by
 rw[pO];exact(pC λx _=>h x).trans (rP _)
theorem C8.mono{P:Program}{args:List Fs}{rv:Fs}{Rc Rc':AB->Nat->Prop}(h:C8 P tF args rv H n Rc)(hr:∀H' n',Rc H' n'->Rc' H' n'):C8 P tF args rv H n Rc':=
 λg w vs u hR hV hu=>CallsDIn.mono (h g w vs u hR hV hu) λe u' w' ⟨h1,h2,g',H',n',h3,h4⟩=>⟨h1,h2,g',H',n',hr _ _ h3,h4⟩
def eY:=A @Option.getD_none.{0}<|A @oQ.{0}<|A @Option.isSome_none.{0}<|A @Option.isSome_some.{0}<|A @c0<|A @c1<|A @i00<|A @Int.toNat_zero<|A @Int.toNat_one<|A @rH<|A @oH<|A @oS<|A @o6.{0,0}<|A @oO.{0,0}<|A @pQ.{0}<| @qp.{0}
end
structure xz where
 nm:List UInt8
 v:Int
 deriving DecidableEq
structure x9 where
 nm:List UInt8
 ls:List (List Int)
 deriving DecidableEq
structure x7 where
 nm:List UInt8
 on:List UInt8
 tQ:Int
 ty:Int
 lo:Int
 hi:Int
 deriving DecidableEq
structure zj where
 nm:List UInt8
 on:List UInt8
 kind:Int
 tQ:Int
 ns:List (List UInt8)
 os:List (List UInt8)
 set:Int
 sU:Int
 op:Int
 n:Int
 tY:List UInt8
 sM:Int
 deriving DecidableEq
structure x8 where
 nm:List UInt8
 uw:Int
 sh:Int
 w:Int
 h:Int
 sB:List Int
 sI:List xz
 sJ:List x9
 sD:List x7
 sC:List zj
 deriving DecidableEq
def CL:List (List UInt8):=[[99,101,108,108,115],[114,111,119,115],[99,111,108,117,109,110,115],[100,105,97,103,111,110,97,108,115],[97,114,111,117,110,100],[110,101,97,114],[112,97,105,114,115],[97,108,108]]
def Ak{α:Type}[DecidableEq α]:List α->Bool
 |[]=>false
 |x::r=>(r.any λy=>decide (y=x))||Ak r
def Bd(d:x8):List (List UInt8):=CL++d.sJ.map (·.nm)
def BQ(l:List (List UInt8))(s:List UInt8):Option Int:=(l.findIdx? λx=>decide (x=s)).map λ(i:Nat)=>(i:Int)
def CI(l:List (List UInt8)):List (List UInt8)->Option Int
 |[]=>some 0
 |s::r=>match l.findIdx? (λx=>decide (x=s)),CI l r with
  |some i,some n=>some (Int.ofNat (Nat.lor (1<<<i) n.toNat))
  |_,_=>none
def Bq(d:x8)(c:x7):Option x7:=(BQ (Bd d) c.on).map λf=>{c with tQ:=f}
def BJ(d:x8)(r:zj):Option zj:=
 match (if r.on=[]then some 0 else BQ (Bd d) r.on),CI (d.sI.map (·.nm)) r.ns,CI (d.sI.map (·.nm)) r.os,(if r.tY=[]then some (-1)else BQ (d.sD.map (·.nm)) r.tY)with
 |some f,some a,some b,some c=>some {r with tQ:=f,set:=a,sU:=b,sM:=c}
 |_,_,_,_=>none
def Ae{α β:Type}(f:α->Option β):List α->Option (List β)
 |[]=>some []
 |x::r=>match f x,Ae f r with
  |some y,some s=>some (y::s)
  |_,_=>none
def B3(d:x8):Except Int x8:=
 if 16<d.sI.length then .error 2 else if Ak (d.sI.map (·.nm))then .error 161 else if Ak (Bd d)then .error 161 else if Ak (d.sD.map (·.nm))then .error 161
 else match Ae (Bq d) d.sD with
  |none=>.error 160
  |some cs=>if Ak (d.sC.map (·.nm))then .error 161 else match Ae (BJ d) d.sC with
   |none=>.error 160
   |some rs=>.ok {d with sD:=cs,sC:=rs}
def CW:Int->List Int->Bool
 |_,[]=>true
 |a,x::r=>decide (a<x)&&CW x r
def Aq(sh w h:Int)(sB:List Int):Option (List Int):=
 if(sh=1\/sh=2)/\1<=w/\w<=16/\1<=h/\h<=16/\(sB.length:Int)<w*h/\CW (-1) sB=true/\(sB.all λp=>decide (p<w*h))=true then
  some (((List.range (w*h).toNat).map λ(i:Nat)=>(i:Int)).filter λp=>!sB.contains p)
 else none
def EX(cells l:List Int):Bool:=(l.all λp=>cells.contains p)&& !Ak l&&decide (1<=l.length)
def DL(a b:List Int):Bool:=(a.all λx=>b.contains x)&&b.all λx=>a.contains x
def CX:List (List Int)->Bool
 |[]=>false
 |x::r=>(r.any λy=>DL y x)||CX r
def Ke(cells:List Int)(r:x9):Int:=if(decide (r.ls.length<=64)&&r.ls.all (EX cells))=false then 130 else if CX r.ls=true then 161 else 0
def DA(cells:List Int):List x9->Int
 |[]=>0
 |r::s=>if Ke cells r=0 then DA cells s else Ke cells r
def Dl(c:x7):Bool:=
 if c.ty=1 then decide (c.tQ=0)&&decide (c.lo=0)&&decide (c.hi=0)
 else if c.ty=2 then decide (0<=c.lo)&&decide (c.lo<=c.hi)&&decide (c.hi<=65536)
 else if c.ty=3 then(decide (1<=c.tQ)&&decide (c.tQ<=3)||decide (8<=c.tQ))&&decide (c.lo=0)&&decide (c.hi=0)
 else false
structure FormD where
 on:Bool:=false
 set:Bool:=false
 sU:Bool:=false
 sS:Bool:=false
 num:Bool:=false
 rdb:Bool:=false
 knw:Bool:=false
 sM:Int:=0
def C0(k:Int):FormD:=
 if k=1 then{on:=true,rdb:=true,knw:=true}else if k=2 then{on:=true,set:=true,sS:=true,rdb:=true,knw:=true}
 else if k=3 then{on:=true,sS:=true,rdb:=true,knw:=true}else if k=4 then{on:=true,rdb:=true,knw:=true}
 else if k=5 then{on:=true,set:=true,rdb:=true,knw:=true,sM:=3}else if k=6 then{rdb:=true,knw:=true}
 else if k=7 then{num:=true,rdb:=true,knw:=true}else if k=8 then{set:=true,sU:=true,rdb:=true,knw:=true}
 else if k=9 then{set:=true,rdb:=true,knw:=true}else if k=10 then{set:=true,rdb:=true,knw:=true}
 else if k=11 then{rdb:=true,knw:=true,sM:=1}else if k=12 then{on:=true,knw:=true}else if k=13 then{sS:=true,knw:=true}else{}
def Kh(cl:List x7)(r:zj)(w:Int):Bool:=if r.sM<0\/(cl.length:Int)<=r.sM then false else match cl[r.sM.toNat]? with
 |some c=>decide (c.ty=w)&&(decide (w=1)||decide (c.tQ=r.tQ))
 |none=>false
def DW(cl:List x7)(r:zj):Bool:=
 let f:=C0 r.kind
 if f.knw=false then false
 else if(f.on !=decide (r.on≠[]))||(f.set !=decide (r.set≠0))||(f.sU !=decide (r.sU≠0))||(!f.on&&decide (r.tQ≠0))||(!f.set&&decide (0<r.ns.length))||(!f.sU&&decide (0<r.os.length))then false
 else if(f.sS !=(decide (1<=r.op)&&decide (r.op<=3)))||(!f.sS&&decide (r.op≠0))||decide (r.n<0)||decide (65536<r.n)then false
 else if !(f.num||f.sS&&decide (r.tY=[]))&&decide (r.n≠0)then false
 else
  let want:=if f.sS&&decide (r.tY≠[])then 2 else f.sM
  if want=0 then decide (r.tY=[])&&decide (r.sM= -1)else Kh cl r want
def DX(rs:List zj)(i:Nat):Nat:=(rs.filter λr=>decide (r.sM=(i:Int))).length
def Bv(d:x8):Bool:=(d.sI.all λs=>decide (0<=s.v)&&decide (s.v<=99))&&d.sC.all (DW d.sD)&&((List.range d.sD.length).all λi=>decide (DX d.sC i=1))&&d.sD.all Dl
def Hy(r:zj):Bool:=decide (1<=r.kind)&&decide (r.kind<=11)
def Bl(rs:List zj):List Int:=((List.range rs.length).filter λi=>match rs[i]? with|some r=>!Hy r|none=>false).map λ(i:Nat)=>(i:Int)
def If(d:x8):Bool:=decide (0<d.sI.length)&&decide (d.sI.length<=16)&&decide (d.sJ.length<=4)&&decide (d.sD.length<=4)&&decide (d.sC.length<=16)
def EH(d:x8):Int:=
 if If d=false then 2 else match B3 d with
  | .error e=>e
  | .ok x=>if x≠d then 170 else if d.uw<1\/255<d.uw then 170 else match Aq d.sh d.w d.h d.sB with
   |none=>130
   |some cells=>if DA cells d.sJ≠0 then DA cells d.sJ else if Bv d=false then 170 else if Bl d.sC≠[]then 171 else 0
abbrev Fa(x y:Int):Bool:=decide (x<=y)
theorem Cs{α:Type}[DecidableEq α]:∀{l:List α},Ak l=false↔l.Nodup
 |[]=>by simp [Ak]
 |x::r=>by
  have ih:=Cs (l:=r);simp only[Ak,qA,List.any_eq_false,oC,qO,ih];constructor
  ·exact λ⟨h1,h2⟩=>⟨λhx=>h1 x hx rfl,h2⟩
  ·exact λ⟨h1,h2⟩=>⟨λy hy e=>h1 (e▸hy),h2⟩
def Wh{a b:List Int}:DL a b=true↔∀x,x∈a↔x∈b:=by
 unfold DL;simp only[oo,oM,pF];exact⟨λ⟨h1,h2⟩ x=>⟨h1 x,h2 x⟩,λh=>⟨λx hx=>(h x).1 hx,λx hx=>(h x).2 hx⟩⟩
def Hz(l:List Int):List.Pairwise (λx y=>x<=y) (l.mergeSort Fa):=by
 have:=List.pairwise_mergeSort (le:=Fa) (λa b c h1 h2=>by simp only[Fa,oC]at*;omega) (λa b=>by simp only[Fa,oV,oC];omega) l;exact this.imp λh=>by simpa using h
def ND{a b:List Int}(ha:a.Nodup)(hb:b.Nodup):DL a b=decide (a.mergeSort Fa=b.mergeSort Fa):=by
 rw[oZ,Wh,oC,<-ry ha hb];constructor
 ·intro h;have p:(a.mergeSort Fa).Perm (b.mergeSort Fa):=(qE a Fa).trans (h.trans (qE b Fa).symm);exact p.eq_of_pairwise (le:=λx y:Int=>x<=y) (λx y _ _ h1 h2=>zo) (Hz a) (Hz b)
 ·intro h;exact(qE a Fa).symm.trans (h▸qE b Fa)
def DB(cl:List x7)(r:zj)(kind:Int)(on:Bool):Bool:=
 if r.sM<0\/(cl.length:Int)<=r.sM then false else match cl[r.sM.toNat]? with
  |some c=>decide (c.ty=kind)&&(!on||decide (c.tQ=r.tQ))
  |none=>false
def FQ(cl:List x7)(r:zj):Bool:=
 if r.op<1\/3<r.op then false else if r.tY=[]then decide (0<=r.n)&&decide (r.n<=65536)&&decide (r.sM= -1)else decide (r.n=0)&&DB cl r 2 true
def Ki(cl:List x7)(r:zj):Bool:=
 let f:=C0 r.kind
 let uC:=decide (f.sM≠0)
 if f.knw=false then false
 else if(!f.on&&(decide (r.on≠[])||decide (r.tQ≠0)))||(!f.set&&(decide (0<r.ns.length)||decide (r.set≠0)))||(!f.sU&&(decide (0<r.os.length)||decide (r.sU≠0)))then false
 else if(f.on&&decide (r.on=[]))||(f.set&&decide (r.set=0))||(f.sU&&decide (r.sU=0))then false
 else if !f.sS&&(decide (r.op≠0)||(!f.num&&decide (r.n≠0))||(!uC&&(decide (r.tY≠[])||decide (r.sM≠ -1))))then false
 else if(f.sS&& !FQ cl r)||(f.num&&(decide (r.n<0)||decide (65536<r.n)))then false
 else if r.kind=5 then DB cl r 3 true
 else if r.kind=11 then DB cl r 1 false else true
def Tb(k:Int):(C0 k).knw=false\/((k=5/\(C0 k).sM=3/\(C0 k).sS=false/\(C0 k).num=false)\/(k=11/\(C0 k).sM=1/\(C0 k).sS=false/\(C0 k).num=false)\/(k≠5/\k≠11/\(C0 k).sM=0/\((C0 k).sS=true->(C0 k).num=false))):=by
 by_cases h:1<=k/\k<=13
 ·have:k=1\/k=2\/k=3\/k=4\/k=5\/k=6\/k=7\/k=8\/k=9\/k=10\/k=11\/k=12\/k=13:=zo
  rcases this with rfl|rfl|rfl|rfl|rfl|rfl|rfl|rfl|rfl|rfl|rfl|rfl|rfl<;>decide
 ·left;unfold C0;repeat rw[og zo]
def ZO(cl:List x7)(r:zj)(w:Int):Kh cl r w=DB cl r w (!decide (w=1)):=by
 unfold DB Kh;split
 ·rfl
 ·cases cl[r.sM.toNat]?<;>simp
def bA:∀(on set sU o s t f n m:Bool),((on !=o)||(set !=s)||(sU !=t)||(!on&&f)||(!set&&n)||(!sU&&m))=
  (((!on&&(o||f))||(!set&&(n||s))||(!sU&&(m||t)))||((on&& !o)||(set&& !s)||(sU&& !t))):=zd
def bB:∀(sS num p q lo hi nn b0 cm c2:Bool),(!p||q)=true->(!lo||nn)=true->(!hi||nn)=true->(!sS|| !num)=true->
  (if((sS !=p)||(!sS&&q)||lo||hi)=true then false else if(!(num||sS&&b0)&&nn)=true then false else if(sS&& !b0)=true then c2 else b0&&cm)=
  (if(!sS&&(q||(!num&&nn)||(!b0|| !cm)))=true then false else if((sS&& !(if p=false then false else if b0=true then !lo&& !hi&&cm else !nn&&c2))||(num&&(lo||hi)))=true then false else true):=zd
def bC:∀(p q lo hi nn c3:Bool),(!p||q)=true->(!lo||nn)=true->(!hi||nn)=true->
  (if((false !=p)||q||lo||hi)=true then false else if nn=true then false else c3)=(if(q||nn)=true then false else c3):=zd
def nd{α:Prop}[Decidable α]:decide α= !decide (¬α):=by by_cases h:α<;>simp [h]
def d6(cl:List x7)(r:zj):DW cl r=Ki cl r:=by
 unfold DW Ki;simp only[];rcases Tb r.kind with hk|hk
 ·rw[oE hk,oE hk]
 by_cases hkw:(C0 r.kind).knw=false
 ·rw[oE hkw,oE hkw]
 rw[og hkw,og hkw,ZO,bA];generalize hf:C0 r.kind=f at hk hkw;rw[nd (α:=r.on=[]),nd (α:=r.set=0),nd (α:=r.sU=0)];generalize hA1:(!f.on&&(decide (r.on≠[])||decide (r.tQ≠0))|| !f.set&&(decide (0<r.ns.length)||decide (r.set≠0))|| !f.sU&&(decide (0<r.os.length)||decide (r.sU≠0)))=A1;generalize hA2:(f.on&& !decide (¬r.on=[])||f.set&& !decide (¬r.set=0)||f.sU&& !decide (¬r.sU=0))=A2;cases A1;case true=>simp
 cases A2;case true=>simp
 simp only[Bool.or_false,oP,pb];have i1:(!(decide (1<=r.op)&&decide (r.op<=3))||decide (r.op≠0))=true:=by by_cases h:r.op=0<;>simp [h]
 have i2:(!decide (r.n<0)||decide (r.n≠0))=true:=by by_cases h:r.n=0<;>simp [h]
 have i3:(!decide (65536<r.n)||decide (r.n≠0))=true:=by by_cases h:r.n=0<;>simp [h]
 have n1:decide (r.tY≠[])= !decide (r.tY=[]):=by by_cases h:r.tY=[]<;>simp [h]
 have n2:decide (r.sM≠ -1)= !decide (r.sM= -1):=by by_cases h:r.sM= -1<;>simp [h]
 have n3:decide (r.n=0)= !decide (r.n≠0):=by by_cases h:r.n=0<;>simp [h]
 have n4:decide (0<=r.n)= !decide (r.n<0):=by by_cases h:r.n<0<;>simp [h]<;>omega
 have n5:decide (r.n<=65536)= !decide (65536<r.n):=by by_cases h:65536<r.n<;>simp [h]<;>omega
 have n6:(if r.op<1\/3<r.op then false else if r.tY=[]then decide (0<=r.n)&&decide (r.n<=65536)&&decide (r.sM= -1)else decide (r.n=0)&&DB cl r 2 true)=
   (if(decide (1<=r.op)&&decide (r.op<=3))=false then false else if decide (r.tY=[])=true then !decide (r.n<0)&& !decide (65536<r.n)&&decide (r.sM= -1)else !decide (r.n≠0)&&DB cl r 2 true):=by
  rw[n3,n4,n5];by_cases h:r.op<1\/3<r.op
  ·have hp:(decide (1<=r.op)&&decide (r.op<=3))=false:=by rcases h with h|h<;>simp<;>omega
   rw[oE h,hp];rfl
  ·have hp:(decide (1<=r.op)&&decide (r.op<=3))=true:=by simp;omega
   rw[og h,hp];by_cases hb:r.tY=[]
   ·rw[oE hb,og zd,oE (by simp [hb])]
   ·rw[og hb,og zd,og (by simp [hb])]
 rw[n1,n2];unfold FQ;rw[n6];have w7:decide (r.n≠0)=decide (r.n≠0):=rfl;generalize (decide (1<=r.op)&&decide (r.op<=3))=p at i1⊢;generalize decide (r.op≠0)=q at i1⊢;generalize decide (r.n≠0)=nn at i2 i3⊢;generalize decide (r.n<0)=lo at i2⊢;generalize decide (65536<r.n)=hi at i3⊢;generalize decide (r.tY=[])=b0;generalize decide (r.sM= -1)=cm;obtain⟨on,set,sU,sS,num,rdb,knw,sM⟩:=f;simp only at hk⊢;rcases hk with⟨h1,rfl,rfl,rfl⟩|⟨h1,rfl,rfl,rfl⟩|⟨h1,h2,rfl,h3⟩
 ·have:=bC p q lo hi nn (DB cl r 3 true) i1 i2 i3;simpa [h1]using this
 ·have:=bC p q lo hi nn (DB cl r 1 false) i1 i2 i3;simpa [h1]using this
 ·have:=bB sS num p q lo hi nn b0 cm (DB cl r 2 true) i1 i2 i3 (by cases sS<;>cases num<;>simp_all);rw[og h1,og h2];cases sS<;>cases b0<;>first|simpa using this|simp
structure ResOK(d:x8):Prop where
 n16:d.sI.length<=16
 ts:Ak (d.sI.map (·.nm))=false
 tf:Ak (Bd d)=false
 tc:Ak (d.sD.map (·.nm))=false
 tr:Ak (d.sC.map (·.nm))=false
 cl:∀c∈d.sD,Bq d c=some c
 ru:∀r∈d.sC,BJ d r=some r
structure DclOK(d:x8):Prop where
 lim:If d=true
 res:ResOK d
 uw:1<=d.uw/\d.uw<=255
 reg:∃cells,Aq d.sh d.w d.h d.sB=some cells/\DA cells d.sJ=0
 form:Bv d=true
def Rt{d x:x8}(h:B3 d= .ok x):x.nm=d.nm/\x.uw=d.uw/\x.sh=d.sh/\x.w=d.w/\x.h=d.h/\x.sB=d.sB/\x.sI=d.sI/\x.sJ=d.sJ:=by
 unfold B3 at h;split at h
 ·cases h
 split at h
 ·cases h
 split at h
 ·cases h
 split at h
 ·cases h
 split at h
 ·cases h
 split at h
 ·cases h
 split at h
 ·cases h
 ·cases h;exact⟨rfl,rfl,rfl,rfl,rfl,rfl,rfl,rfl⟩
def Tc(rs:List zj)(r:zj):Bl (rs++[r])=Bl rs++(if Hy r=true then[]else[(rs.length:Int)]):=by
 unfold Bl;rw[ou,List.length_singleton,pU,qv,oD];congr 1
 ·congr 1;apply rS;intro i hi;have:=px.1 hi;rw[pH this]
 ·rw[qh,pB (od _),sa];simp only[pQ,rY];by_cases h:Hy r=true
  ·simp [h]
  ·simp [show Hy r=false by simpa using h]
def Wi{α:Type}[DecidableEq α]{l:List α}{x:α}:Ak (l++[x])=false↔Ak l=false/\x∉l:=by
 rw[Cs,Cs,qD];simp only[qO,qV,rC,List.nodup_nil,sb,pR,pV];constructor
 ·exact λ⟨h1,h2⟩=>⟨h1,λhx=>h2 x hx x rfl rfl⟩
 ·exact λ⟨h1,h2⟩=>⟨h1,λa ha b hb e=>h2 (by rw[<-hb,<-e];exact ha)⟩
def Oq{l:List (List UInt8)}{s:List UInt8}{n:Int}(h:BQ l s=some n):0<=n/\n<l.length:=by
 unfold BQ at h;rw[pY]at h;obtain⟨i,h1,rfl⟩:=h;have:=qk.1 h1;obtain⟨hi,-⟩:=this;omega
structure SmallD(d:x8):Prop where
 top:d.nm.length+d.sB.length+d.sI.length+d.sJ.length+d.sD.length+d.sC.length<2000
 sy:∀s∈d.sI,s.nm.length<2000
 rg:∀r∈d.sJ,r.nm.length+r.ls.length<2000/\∀l∈r.ls,l.length<2000
 cl:∀c∈d.sD,c.nm.length+c.on.length<2000
 ru:∀r∈d.sC,r.nm.length+r.on.length+r.tY.length+r.ns.length+r.os.length<2000/\(∀s∈r.ns,s.length<2000)/\∀s∈r.os,s.length<2000
theorem G2:∀{a:Int} {l:List Int},CW a l=true↔(∀x∈l,a<x)/\List.Pairwise (λx y=>x<y) l
 |a,[]=>by simp [CW]
 |a,x::r=>by
  have ih:=G2 (a:=x) (l:=r);simp only[CW,oo,oC,ih,ph,forall_eq_or_imp,qH];constructor
  ·exact λ⟨h1,h2,h3⟩=>⟨⟨h1,λy hy=>by have:=h2 y hy;omega⟩,h2,h3⟩
  ·exact λ⟨⟨h1,h2⟩,h3,h4⟩=>⟨h1,h3,h4⟩
def CM(n:Int):List Int:=(List.range n.toNat).map λ(i:Nat)=>(i:Int)
def P2{n x:Int}:x∈CM n↔0<=x/\x<n:=by
 unfold CM;rw[pz];constructor
 ·rintro⟨i,hi,rfl⟩;have:=px.1 hi;omega
 ·intro h;exact⟨x.toNat,px.2 zo,zo⟩
def Wj(n:Int):(CM n).Nodup:=by
 unfold CM;rw[List.Nodup,rB];exact(List.nodup_range (n:=n.toNat)).imp λh e=>h zo
def Uv(n:Int):(CM n).length=n.toNat:=by simp [CM]
theorem Or{α:Type}(p:α->Bool):∀l:List α,l.length=(l.filter p).length+(l.filter λx=>!p x).length
 |[]=>rfl
 |x::r=>by
  have ih:=Or p r;rw[qh,qh,oI];cases p x<;>simp<;>omega
def ZP{n:Int}{sB:List Int}(hd:sB.Nodup)(hr:∀x∈sB,0<=x/\x<n):((CM n).filter λp=>!sB.contains p).length+sB.length=n.toNat:=by
 have h1:((CM n).filter λp=>sB.contains p).Perm sB:=by
  rw[ry ((Wj n).sublist rM) hd];intro x;rw[qn,pF,P2];exact⟨λh=>h.2,λh=>⟨hr x h,h⟩⟩
 have h2:=Or (λp=>sB.contains p) (CM n);rw[h1.length_eq,Uv]at h2;omega
def Td(sh w h:Int)(sB:List Int):Option (List Int):=
 if(sh=1\/sh=2)/\1<=w/\w<=16/\1<=h/\h<=16/\(∀x∈sB,0<=x/\x<w*h)/\List.Pairwise (λx y=>x<y) sB/\((CM (w*h)).filter λp=>!sB.contains p)≠[]then
  some ((CM (w*h)).filter λp=>!sB.contains p)
 else none
def Wl(sh w h:Int)(sB:List Int):Td sh w h sB=Aq sh w h sB:=by
 unfold Td Aq;have e:∀(p q:Prop) [Decidable p] [Decidable q] (x:Option (List Int)),(p↔q)->(if p then x else none)=if q then x else none:=λp q _ _ x hpq=>by
  by_cases hp:p
  ·rw[oE hp,oE (hpq.1 hp)]
  ·rw[og hp,og λhq=>hp (hpq.2 hq)]
 refine e _ _ _ ?_;have hk:∀(h1:∀x∈sB,0<=x/\x<w*h) (h2:List.Pairwise (λx y=>x<y) sB),(((CM (w*h)).filter λp=>!sB.contains p)≠[]↔(sB.length:Int)<w*h):=by
  intro h1 h2;have hl:=ZP (h2.imp λq=>zo) h1;rw[<-List.length_pos_iff];omega
 rw[G2];simp only[oM,oC];constructor
 ·rintro⟨a,b,c,d,e,f,g,i⟩;exact⟨a,b,c,d,e,(hk f g).1 i,⟨λx hx=>by have:=f x hx;omega,g⟩,λx hx=>(f x hx).2⟩
 ·rintro⟨a,b,c,d,e,f,⟨g,g2⟩,i⟩;have hr:∀x∈sB,0<=x/\x<w*h:=λx hx=>⟨by have:=g x hx;omega,i x hx⟩
  exact⟨a,b,c,d,e,hr,g2,(hk hr g2).2 f⟩
def BP{sh w h:Int}{sB cells:List Int}(hc:Aq sh w h sB=some cells):List.Pairwise (λx y=>x<y) cells/\cells.length<=256/\∀x∈cells,0<=x/\x<256:=by
 unfold Aq at hc;split at hc
 ·rename_i hcond;obtain⟨-,a,b,c,d,-⟩:=hcond;cases hc;have so:w*h<=256:=by
   have:w*h<=16*16:=Int.mul_le_mul b d zo zo;omega
  have hpw:List.Pairwise (λx y:Int=>x<y) (CM (w*h)):=by
   unfold CM;rw[rB];exact rj.imp λq=>zo
  refine⟨hpw.sublist rM,?_,λx hx=>?_⟩
  ·have h1:=qa (λp=>!sB.contains p) (CM (w*h));rw[Uv]at h1;have:((CM (w*h)).filter λp=>!sB.contains p).length<=256:=zo
   exact this
  ·have:=P2.1 (qn.1 hx).1;omega
 ·cases hc
def FT(l:List Int)(x:Int):Nat:=(l.filter λy=>decide (y<x)).length
theorem P3:∀{l:List Int} {x:Int} {i:Nat},i<=l.length->(∀k (hk:k<l.length),k<i->l[k]<x)->(∀k (hk:k<l.length),i<=k->x<=l[k])->FT l x=i
 |[],x,i,hi,_,_=>by simp at hi;subst hi;rfl
 |y::r,x,0,_,_,h2=>by
  have h0:=h2 0 zw (od 0);have ih:=P3 (l:=r) (x:=x) (i:=0) (oq _) (λk hk h=>zo) (λk hk _=>h2 (k+1) (by simp;omega) (oq _));unfold FT at ih⊢;rw[qh,og (by simp at h0;simp;omega)];exact ih
 |y::r,x,i+1,hi,h1,h2=>by
  have h0:=h1 0 zw zo;have ih:=P3 (l:=r) (x:=x) (i:=i) (by simp at hi;omega) (λk hk h=>h1 (k+1) (by simp;omega) zo) (λk hk h=>h2 (k+1) (by simp;omega) zo);unfold FT at ih⊢;rw[qh,oE (by simpa using h0),oI,ih]
def d7{l:List Int}(hp:List.Pairwise (λx y=>x<y) l){i j:Nat}(hj:j<l.length)(hij:i<=j):l[i]<=l[j]:=by
 by_cases e:i=j
 ·subst e;exact rH _
 ·have:=pW.1 hp i j zo hj zo;omega
def Gg(cells:List Int):List Int->List Int->Bool
 |_,[]=>true
 |met,p::r=>cells.contains p&& !met.contains p&&Gg cells (met++[p]) r
theorem Uw(cells:List Int):∀(l met:List Int),Gg cells met l=true↔(∀p∈l,p∈cells/\p∉met)/\l.Nodup
 |[],met=>by simp [Gg]
 |p::r,met=>by
  have ih:=Uw cells r (met++[p]);simp only[Gg,oo,qM,pF,ih,ph,forall_eq_or_imp,qO,pI,qV,or_false,not_or];rw[<-Bool.not_eq_true,pF];constructor
  ·exact λ⟨⟨a,b⟩,c,d⟩=>⟨⟨⟨a,b⟩,λx hx=>⟨(c x hx).1,(c x hx).2.1⟩⟩,λhm=>(c p hm).2.2 rfl,d⟩
  ·exact λ⟨⟨⟨a,b⟩,c⟩,d,e⟩=>⟨⟨a,b⟩,λx hx=>⟨(c x hx).1,(c x hx).2,λq=>d (q▸hx)⟩,e⟩
def Gh(cells l:List Int):EX cells l=(Gg cells [] l&&decide (1<=l.length)):=by
 unfold EX;congr 1;rw[oZ,Uw,oo,oM];simp only[pF,qV,rC,qz,qM,Cs]
section
theorem Wm(a b:List (List UInt8))(s:List UInt8):BQ (a++b) s=match BQ a s with
  |some i=>some i
  |none=>(BQ b s).map λi=>(a.length:Int)+i:=by
 unfold BQ;rw[List.findIdx?_append];cases h:a.findIdx? λx=>decide (x=s)with
 |some i=>rfl
 |none=>
  simp only[Option.none_or,qd];cases b.findIdx? λx=>decide (x=s)with
  |none=>rfl
  |some i=>simp [Int.add_comm]
variable {l:List (List UInt8)}
theorem CU{s:List UInt8}:BQ l s=none↔s∉l:=by
 unfold BQ;rw[Option.map_eq_none_iff,rG];simp only[qq];exact⟨λh hm=>h s hm rfl,λh x hx e=>h (e▸hx)⟩
theorem d8(d:x8)(s:List UInt8):BQ (Bd d) s=match BQ CL s with
  |some i=>some i
  |none=>(BQ (d.sJ.map (·.nm)) s).map λi=>8+i:=by
 unfold Bd;rw[Wm];rfl
theorem NE{s:List UInt8}{r:List (List UInt8)}:CI l (s::r)=match l.findIdx? (λx=>decide (x=s)),CI l r with
  |some i,some n=>some (Int.ofNat (Nat.lor (1<<<i) n.toNat))
  |_,_=>none:=rfl
def bits(is:List Nat):Nat:=is.foldr (λi n=>Nat.lor (1<<<i) n) 0
theorem Te{ss:List (List UInt8)}:CI l ss=(Ae (λs=>l.findIdx? λx=>decide (x=s)) ss).map λis=>(bits is:Int):=by
 induction ss with
 |nil=>rfl
 |cons s r ih=>
  rw[NE,ih];simp only[Ae];cases l.findIdx? λx=>decide (x=s)with
  |none=>rfl
  |some i=>
   cases Ae (λs=>l.findIdx? λx=>decide (x=s)) r with
   |none=>rfl
   |some is=>rfl
end
section
abbrev Bm(l:List (List Int)):Fs:=.sl (.none 1) (l.map BY)
abbrev Cb(s:xz):Fs:=.agg [.str s.nm,.int .i64 s.v]
abbrev Fb(r:x9):Fs:=.agg [.str r.nm,Bm r.ls]
abbrev BO(c:x7):Fs:=.agg [.str c.nm,.str c.on,.int .i64 c.tQ,.int .i64 c.ty,.int .i64 c.lo,.int .i64 c.hi]
abbrev BT(r:zj):List Fs:=[.str r.nm,.str r.on,.int .i64 r.kind,.int .i64 r.tQ,Fw r.ns,Fw r.os,.int .i64 r.set,.int .i64 r.sU,.int .i64 r.op,.int .i64 r.n,.str r.tY,.int .i64 r.sM]
abbrev Ao(r:zj):Fs:=.agg (BT r)
abbrev HP(l:List xz):Fs:=.sl (.none 2) (l.map Cb)
abbrev GV(l:List x9):Fs:=.sl (.none 2) (l.map Fb)
abbrev EY(l:List x7):Fs:=.sl (.none 6) (l.map BO)
abbrev DT(l:List zj):Fs:=.sl (.none 12) (l.map Ao)
abbrev AL(d:x8):List Fs:=[.str d.nm,.int .i64 d.uw,.int .i64 d.sh,.int .i64 d.w,.int .i64 d.h,BY d.sB,HP d.sI,GV d.sJ,EY d.sD,DT d.sC]
abbrev Ba(d:x8):Fs:=.agg (AL d)
def Av(n:Nat)(l:List Int):(BY l).under n:=⟨zt,Rs n _⟩
def Bo(n:Nat)(l:List Bs):(Fw l).under n:=⟨zt,TZ n _⟩
def A0(n:Nat)(l:List (List Int)):(Bm l).under n:=⟨zt,Af (Av n) _⟩
def LM(n:Nat)(s:xz):(Cb s).under n:=⟨zt,zt,zt⟩
def EA(n:Nat)(r:x9):(Fb r).under n:=⟨zt,A0 n _,zt⟩
def GI(n:Nat)(c:x7):(BO c).under n:=⟨zt,zt,zt,zt,zt,zt,zt⟩
def BA(n:Nat)(r:zj):(Ao r).under n:=⟨zt,zt,zt,zt,Bo n _,Bo n _,zt,zt,zt,zt,zt,zt,zt⟩
def G3(n:Nat)(l:List xz):(HP l).under n:=⟨zt,Af (LM n) _⟩
def Ex(n:Nat)(l:List x9):(GV l).under n:=⟨zt,Af (EA n) _⟩
def Ey(n:Nat)(l:List x7):(EY l).under n:=⟨zt,Af (GI n) _⟩
def DM(n:Nat)(l:List zj):(DT l).under n:=⟨zt,Af (BA n) _⟩
def Ag(n:Nat)(d:x8):(Ba d).under n:=⟨zt,zt,zt,zt,zt,Av n _,G3 n _,Ex n _,Ey n _,DM n _,zt⟩
def LN:Fs->List Int
 | .sl _ L=>L.map BV
 |_=>[]
def ZQ:Fs->List Bs
 | .sl _ L=>L.map HN
 |_=>[]
def Ot:Fs->List (List Int)
 | .sl _ L=>L.map LN
 |_=>[]
def Ux:Fs->xz
 | .agg [.str nm,.int _ v]=>⟨nm,v⟩
 |_=>⟨[],0⟩
def Ru:Fs->x9
 | .agg [.str nm,l]=>⟨nm,Ot l⟩
 |_=>⟨[],[]⟩
def Uy:Fs->x7
 | .agg [.str nm,.str on,.int _ f,.int _ t,.int _ lo,.int _ hi]=>⟨nm,on,f,t,lo,hi⟩
 |_=>⟨[],[],0,0,0,0⟩
def Rv:Fs->zj
 | .agg [.str nm,.str on,.int _ k,.int _ f,ns,os,.int _ s,.int _ o,.int _ op,.int _ n,.str b,.int _ c]=>⟨nm,on,k,f,ZQ ns,ZQ os,s,o,op,n,b,c⟩
 |_=>⟨[],[],0,0,[],[],0,0,0,0,[],0⟩
variable {α:Type}
def Rw(f:Fs->α):Fs->List α
 | .sl _ L=>L.map f
 |_=>[]
def ZR:Fs->x8
 | .agg [.str nm,.int _ v,.int _ sh,.int _ w,.int _ h,ho,sy,rg,cl,ru]=>⟨nm,v,sh,w,h,LN ho,Rw Ux sy,Rw Ru rg,Rw Uy cl,Rw Rv ru⟩
 |_=>⟨[],0,0,0,0,[],[],[],[],[]⟩
theorem Fj(l:List Int):LN (BY l)=l:=Ew l
theorem Gi(l:List (List Int)):Ot (Bm l)=l:=GH Fj l
theorem IW(s:xz):Ux (Cb s)=s:=rfl
theorem Gj(r:x9):Ru (Fb r)=r:=by simp only[Ru,Gi]
theorem IX(c:x7):Uy (BO c)=c:=rfl
theorem Gk(r:zj):Rv (Ao r)=r:=by simp only[Rv,ZQ,Hv]
theorem NF(d:x8):ZR (Ba d)=d:=by
 simp only[ZR,LN,Rw,Ew,GH IW,GH Gj,GH IX,GH Gk]
def d9(enc:α->Fs)(dec:Fs->α):Dc α:=⟨enc,dec,λv=>Wk v (enc (dec v)),λ_ h=>h⟩
theorem I8{enc:α->Fs}{dec:Fs->α}(h:∀x,dec (enc x)=x)(x:α):(d9 enc dec).ok (enc x)=True:=o7 (by show Wk _ _;rw[h];exact Wk.refl _)
def dSy:Dc xz:=d9 Cb Ux
def ZS:Dc x9:=d9 Fb Ru
def nr:Dc x7:=d9 BO Uy
def Kj:Dc zj:=d9 Ao Rv
def dD:Dc x8:=d9 Ba ZR
theorem Tf(x:xz):dSy.ok (Cb x)=True:=I8 IW x
theorem P4(x:xz):dSy.dec (Cb x)=x:=rfl
theorem I9(x:x9):ZS.ok (Fb x)=True:=I8 Gj x
theorem G4(x:x9):ZS.dec (Fb x)=x:=Gj x
theorem H8(x:x7):nr.ok (BO x)=True:=I8 IX x
theorem GJ(x:x7):nr.dec (BO x)=x:=rfl
theorem B0(x:zj):Kj.ok (Ao x)=True:=I8 Gk x
theorem BU(x:zj):Kj.dec (Ao x)=x:=Gk x
theorem Az(x:x8):dD.ok (Ba x)=True:=I8 NF x
theorem Ap(x:x8):dD.dec (Ba x)=x:=NF x
def gM(e:Nat)(enc:α->Fs)(dec:Fs->α):Dc (List α):=⟨λl=>.sl (.none e) (l.map enc),Wf dec,okL e enc dec,Ta⟩
theorem JA{e:Nat}{enc:α->Fs}{dec:Fs->α}(h:∀x,dec (enc x)=x){t:xv}{l:List α}(ht:t.esz=e\/l=[]):(gM e enc dec).ok (.sl t (l.map enc))=True:=o7 (by
 refine⟨ht.imp id λq=>by rw[q];rfl,?_⟩;rw[GH h])
theorem G5{e:Nat}{enc:α->Fs}{dec:Fs->α}(h:∀x,dec (enc x)=x){t:xv}{l:List α}:(gM e enc dec).dec (.sl t (l.map enc))=l:=GH h l
def Le:Dc (List (List Int)):=gM 1 BY LN
def ZT:Dc (List xz):=gM 2 Cb Ux
def P5:Dc (List x9):=gM 2 Fb Ru
def ZU:Dc (List x7):=gM 6 BO Uy
def ZV:Dc (List zj):=gM 12 Ao Rv
theorem As(l:List Int):Cj.ok (BY l)=True:=o7 ⟨.inl rfl,by rw[Ew]⟩
theorem Al(l:List Int):Cj.dec (BY l)=l:=Ew l
theorem FU(l:List Bs):On.ok (Fw l)=True:=o7 ⟨.inl rfl,by rw[Hv]⟩
theorem Do(l:List Bs):On.dec (Fw l)=l:=Hv l
theorem BR(x:Int):dI.ok (.int .i64 x)=True:=o7 zt
theorem Ax(x:Int):dI.dec (.int .i64 x)=x:=rfl
theorem Fc(x:Bs):dS.ok (.str x)=True:=o7 zt
theorem Db(x:Bs):dS.dec (.str x)=x:=rfl
theorem wk_Dk{nm:Bs}{uw sh w h:Int}{ho:List Int}{sy:List xz}{rg:List x9}{cl:List x7}{ru:List zj}{a b c e f:Fs}(ha:Wk a (BY ho))(hb:Wk b (HP sy))(hc:Wk c (GV rg))(he:Wk e (EY cl))(hf:Wk f (DT ru)):
  Wk (.agg [.str nm,.int .i64 uw,.int .i64 sh,.int .i64 w,.int .i64 h,a,b,c,e,f]) (Ba ⟨nm,uw,sh,w,h,ho,sy,rg,cl,ru⟩):=
 Wk.agg (.cons (Wk.refl _) (.cons (Wk.refl _) (.cons (Wk.refl _) (.cons (Wk.refl _) (.cons (Wk.refl _) (.cons ha (.cons hb (.cons hc (.cons he (.cons hf .nil))))))))))
abbrev G6:x8:=⟨[],0,0,0,0,[],[],[],[],[]⟩
end
theorem Ay{a b:Bs}:scmp .neq a b= !decide (a=b):=rfl
theorem BS{a b:Bs}:scmp .eql a b=decide (a=b):=rfl
def eA{a b:xz}:a=b↔a.nm=b.nm/\a.v=b.v:=by cases a;cases b;simp only[xz.mk.injEq]
def eD{a b:x7}:a=b↔a.nm=b.nm/\a.on=b.on/\a.tQ=b.tQ/\a.ty=b.ty/\a.lo=b.lo/\a.hi=b.hi:=by cases a;cases b;simp only[x7.mk.injEq]
def eF{a b:x9}:a=b↔a.nm=b.nm/\a.ls=b.ls:=by cases a;cases b;simp only[x9.mk.injEq]
def Kk(s t:xz):tN [.str s.nm,.int .i64 s.v] [.str t.nm,.int .i64 t.v]=decide (s=t):=by
 rw[oZ,oC,eA];simp [tN,HQ]
def Kl(s t:x7):tN [.str s.nm,.str s.on,.int .i64 s.tQ,.int .i64 s.ty,.int .i64 s.lo,.int .i64 s.hi] [.str t.nm,.str t.on,.int .i64 t.tQ,.int .i64 t.ty,.int .i64 t.lo,.int .i64 t.hi]=decide (s=t):=by
 rw[oZ,oC,eD];simp [tN,HQ]
def BL{p:Prop}[Decidable p](h:p):decide p=true:=pk h
def A5{p:Prop}[Decidable p](h:¬p):decide p=false:=oN h
def nu(a b:List Int)(hb:wide b):A6 prog 28 [BY a,BY b] (.bool (decide (a=b))):=by
 refine .mk ⟨Av 0 a,Av 0 b,zt⟩ zt (c28.a (AE AG.sE (AF ?_)));by_cases hl:a.length=b.length;case neg=>
  simp only[eZ,seval,oh,o6,c28,Hw hl,oh];exact(oN λe=>hl (by rw[e])).symm
 simp only[eZ,seval,o9,o6,c28,Hx hl];refine AQ (λi:Nat=>⟨[(0,true,BY a),(1,true,BY b),(12,true,.int .i64 a.length),(13,true,.int .i64 i)],Ac,0⟩) (λi=>i<=a.length/\∀j,j<i->a[j]?=b[j]?) (λi=>a.length-i) 0 rfl ⟨oq _,λj hj=>zo⟩ ?_;rintro i ⟨hi,sX⟩;by_cases e9:i<a.length;case neg=>
  simp only[eZ,seval,Ah e9];exact(pk (FJ hl λj hj=>sX j zo)).symm
 have l7:i<b.length:=zo
 have uH:=o8 e9;have s6:=o8 l7;have e:=AI (k:=i) (by have:b.length<1125899906842624:=hb;omega);by_cases hs:a[i]=b[i]
 ·simp only[eZ,seval,o9,oQ,oH,oS,o6,oO,AT e9,AT l7,uH,s6,e,BL hs];refine .mk (i+1) rfl ⟨e9,λj h=>?_⟩ zo;by_cases q:j=i
  ·subst q;rw[uH,s6,hs]
  ·exact sX j zo
 ·simp only[eZ,seval,oh,oQ,oH,oS,o6,oO,AT e9,AT l7,uH,s6,A5 hs];exact(oN λq=>hs (by simp [q])).symm
def p76(a b:List Bs)(hb:wide b):A6 prog 76 [Fw a,Fw b] (.bool (decide (a=b))):=by
 refine .mk ⟨Bo 0 a,Bo 0 b,zt⟩ zt (c76.a (AE AG.sE (AF ?_)));by_cases hl:a.length=b.length;case neg=>
  simp only[eZ,seval,oh,o6,c76,Hw hl,oh];exact(oN λe=>hl (by rw[e])).symm
 simp only[eZ,seval,o9,o6,c76,Hx hl];refine AQ (λi:Nat=>⟨[(0,true,Fw a),(1,true,Fw b),(12,true,.int .i64 a.length),(13,true,.int .i64 i)],Ac,0⟩) (λi=>i<=a.length/\∀j,j<i->a[j]?=b[j]?) (λi=>a.length-i) 0 rfl ⟨oq _,λj hj=>zo⟩ ?_;rintro i ⟨hi,sX⟩;by_cases e9:i<a.length;case neg=>
  simp only[eZ,seval,Ah e9];exact(pk (FJ hl λj hj=>sX j zo)).symm
 have l7:i<b.length:=zo
 have uH:=o8 e9;have s6:=o8 l7;have e:=AI (k:=i) (by have:b.length<1125899906842624:=hb;omega);by_cases hs:a[i]=b[i]
 ·simp only[eZ,seval,o9,oQ,oH,oS,o6,oO,AT e9,AT l7,uH,s6,e,Ay,BL hs];refine .mk (i+1) rfl ⟨e9,λj h=>?_⟩ zo;by_cases q:j=i
  ·subst q;rw[uH,s6,hs]
  ·exact sX j zo
 ·simp only[eZ,seval,oh,oQ,oH,oS,o6,oO,AT e9,AT l7,uH,s6,Ay,A5 hs];exact(oN λq=>hs (by simp [q])).symm
def p77(a b:List xz)(hb:sR b):A6 prog 77 [HP a,HP b] (.bool (decide (a=b))):=by
 refine .mk ⟨G3 0 a,G3 0 b,zt⟩ zt (a77 (AE AG.sE (AF ?_)));by_cases hl:a.length=b.length;case neg=>
  simp only[eZ,seval,oh,o6,c77,Hw hl,oh];exact(oN λe=>hl (by rw[e])).symm
 simp only[eZ,seval,o9,o6,c77,Hx hl];refine AQ (λi:Nat=>⟨[(0,true,HP a),(1,true,HP b),(12,true,.int .i64 a.length),(13,true,.int .i64 i)],Ac,0⟩) (λi=>i<=a.length/\∀j,j<i->a[j]?=b[j]?) (λi=>a.length-i) 0 rfl ⟨oq _,λj hj=>zo⟩ ?_;rintro i ⟨hi,sX⟩;by_cases e9:i<a.length;case neg=>
  simp only[eZ,seval,Ah e9];exact(pk (FJ hl λj hj=>sX j zo)).symm
 have l7:i<b.length:=zo
 have uH:=o8 e9;have s6:=o8 l7;have e:=AI (k:=i) (by have:b.length<1000000000:=hb;omega);by_cases hs:a[i]=b[i]
 ·simp only[eZ,seval,o9,oQ,oH,oS,o6,oO,AT e9,AT l7,uH,s6,e,Kk,ED,BL hs];refine .mk (i+1) rfl ⟨e9,λj h=>?_⟩ zo;by_cases q:j=i
  ·subst q;rw[uH,s6,hs]
  ·exact sX j zo
 ·simp only[eZ,seval,oh,oQ,oH,oS,o6,oO,AT e9,AT l7,uH,s6,Kk,ED,A5 hs];exact(oN λq=>hs (by simp [q])).symm
def p79(a b:List x7)(hb:sR b):A6 prog 79 [EY a,EY b] (.bool (decide (a=b))):=by
 refine .mk ⟨Ey 0 a,Ey 0 b,zt⟩ zt (a79 (AE AG.sE (AF ?_)));by_cases hl:a.length=b.length;case neg=>
  simp only[eZ,seval,oh,o6,c79,Hw hl,oh];exact(oN λe=>hl (by rw[e])).symm
 simp only[eZ,seval,o9,o6,c79,Hx hl];refine AQ (λi:Nat=>⟨[(0,true,EY a),(1,true,EY b),(12,true,.int .i64 a.length),(13,true,.int .i64 i)],Ac,0⟩) (λi=>i<=a.length/\∀j,j<i->a[j]?=b[j]?) (λi=>a.length-i) 0 rfl ⟨oq _,λj hj=>zo⟩ ?_;rintro i ⟨hi,sX⟩;by_cases e9:i<a.length;case neg=>
  simp only[eZ,seval,Ah e9];exact(pk (FJ hl λj hj=>sX j zo)).symm
 have l7:i<b.length:=zo
 have uH:=o8 e9;have s6:=o8 l7;have e:=AI (k:=i) (by have:b.length<1000000000:=hb;omega);by_cases hs:a[i]=b[i]
 ·simp only[eZ,seval,o9,oQ,oH,oS,o6,oO,AT e9,AT l7,uH,s6,e,Kl,ED,BL hs];refine .mk (i+1) rfl ⟨e9,λj h=>?_⟩ zo;by_cases q:j=i
  ·subst q;rw[uH,s6,hs]
  ·exact sX j zo
 ·simp only[eZ,seval,oh,oQ,oH,oS,o6,oO,AT e9,AT l7,uH,s6,Kl,ED,A5 hs];exact(oN λq=>hs (by simp [q])).symm
def W1{α β:Type}(cl:Nat)(A:Dc α)(B:Dc β)(c:α->β->Prop)(f:α->β->Fs):List Fs->AB->Prop×Fs:=λa _=>match a with
 |[x,y,.fn (.func k) [] []]=>(k=cl/\A.ok x/\B.ok y/\c (A.dec x) (B.dec y),f (A.dec x) (B.dec y))
 |_=>(False,.sH [])
def q2f{α β:Type}{cl:Nat}{A:Dc α}{B:Dc β}{c:α->β->Prop}{f:α->β->Fs}{tF:FuncId}(h:∀x y,c x y->A6 prog tF [A.enc x,B.enc y,.fn (.func cl) [] []] (f x y)):∀args H n,(W1 cl A B c f args H).1->Ad prog tF args H n (W1 cl A B c f args H).2:=by
 intro args H n hh;unfold W1 at hh⊢;split at hh
 ·obtain⟨rfl,h1,h2,h3⟩:=hh;refine AO.args ((h _ _ h3).quiet H n) ?_;rintro g vs ⟨v,r,rfl,k1,w,r',rfl,k2,k3⟩;exact⟨v,_,rfl,A.wk _ h1 _ _ k1,w,_,rfl,B.wk _ h2 _ _ k2,k3⟩
 ·exact hh.elim
def Cp(x:List (List Int)):Le.ok (Bm x)=True:=JA Fj (.inl rfl)
def CC(x:List (List Int)):Le.dec (Bm x)=x:=G5 Fj
def Uz(x:List xz):ZT.ok (HP x)=True:=JA IW (.inl rfl)
def Rx(x:List xz):ZT.dec (HP x)=x:=G5 IW
def U0(x:List x9):P5.ok (GV x)=True:=JA Gj (.inl rfl)
def Ry(x:List x9):P5.dec (GV x)=x:=G5 Gj
def U1(x:List x7):ZU.ok (EY x)=True:=JA IX (.inl rfl)
def Rz(x:List x7):ZU.dec (EY x)=x:=G5 IX
def U2(x:List zj):ZV.ok (DT x)=True:=JA Gk (.inl rfl)
def R5(x:List zj):ZV.dec (DT x)=x:=G5 Gk
abbrev B4(l:List (List Int)):Prop:=sR l/\∀x∈l,wide x
abbrev NG(r:x9):Prop:=B4 r.ls
abbrev GK(r:zj):Prop:=wide r.ns/\wide r.os
structure zy(d:x8):Prop where
 ho:sR d.sB
 sy:sR d.sI
 rg:sR d.sJ
 rgs:∀r∈d.sJ,NG r
 cl:sR d.sD
 ru:sR d.sC
 rus:∀r∈d.sC,GK r
def P6{a b:zj}:a=b↔(((((a.ns=b.ns/\a.os=b.os)/\a.nm=b.nm)/\a.on=b.on)/\a.tY=b.tY)/\a.kind=b.kind/\a.tQ=b.tQ/\a.set=b.set/\a.sU=b.sU/\a.op=b.op/\a.n=b.n/\a.sM=b.sM):=by
 cases a;cases b;simp only[zj.mk.injEq];constructor
 ·rintro⟨a,b,c,d,e,f,g,h,i,j,k,l⟩;exact⟨⟨⟨⟨⟨e,f⟩,a⟩,b⟩,k⟩,c,d,g,h,i,j,l⟩
 ·rintro⟨⟨⟨⟨⟨e,f⟩,a⟩,b⟩,k⟩,c,d,g,h,i,j,l⟩;exact⟨a,b,c,d,e,f,g,h,i,j,k,l⟩
def ceq_7(a b c d e f g a' b' c' d' e' f' g':Int):tN [.int .i64 a,.int .i64 b,.int .i64 c,.int .i64 d,.int .i64 e,.int .i64 f,.int .i64 g] [.int .i64 a',.int .i64 b',.int .i64 c',.int .i64 d',.int .i64 e',.int .i64 f',.int .i64 g']=decide (a=a'/\b=b'/\c=c'/\d=d'/\e=e'/\f=f'/\g=g'):=by
 rw[oZ,oC];simp [tN,HQ]
def eG{a b:x8}:a=b↔((((((((((a.nm=b.nm/\a.uw=b.uw)/\a.sh=b.sh)/\a.w=b.w)/\a.h=b.h)/\a.sB=b.sB)/\a.sI=b.sI)/\a.sJ=b.sJ)/\a.sD=b.sD)/\a.sC=b.sC)):=by
 cases a;cases b;simp only[x8.mk.injEq];constructor
 ·rintro⟨a,b,c,d,e,f,g,h,i,j⟩;exact⟨⟨⟨⟨⟨⟨⟨⟨⟨a,b⟩,c⟩,d⟩,e⟩,f⟩,g⟩,h⟩,i⟩,j⟩
 ·rintro⟨⟨⟨⟨⟨⟨⟨⟨⟨a,b⟩,c⟩,d⟩,e⟩,f⟩,g⟩,h⟩,i⟩,j⟩;exact⟨a,b,c,d,e,f,g,h,i,j⟩
def Tci:Bk:=AJ 28 (s2 Cj Cj (λ_ b=>wide b) λa b=>.bool (decide (a=b))) sE
def mZ:AG prog Tci:=AG.sE.add (q2 nu)
def p74(a b:List (List Int))(hb:sR b)(hx:∀x∈b,wide x):A6 prog 74 [Bm a,Bm b,.fn (.func 28) [] []] (.bool (decide (a=b))):=by
 refine .mk ⟨A0 0 a,A0 0 b,by simp [Fs.under,sN],zt⟩ zt (c74.a (AE mZ (AF ?_)));by_cases hl:a.length=b.length;case neg=>
  simp only[eZ,seval,oh,o6,c74,Hw hl,oh];exact(oN λe=>hl (by rw[e])).symm
 simp only[eZ,seval,o9,o6,c74,Hx hl];refine AQ (λi:Nat=>⟨[(1,true,Bm b),(2,true,.fn (.func 28) [] []),(15,true,Bm a),(16,true,.int .i64 a.length),(17,true,.int .i64 i)],Ac,0⟩) (λi=>i<=a.length/\∀j,j<i->a[j]?=b[j]?) (λi=>a.length-i) 0 rfl ⟨oq _,λj hj=>zo⟩ ?_;rintro i ⟨hi,sX⟩;by_cases e9:i<a.length;case neg=>
  simp only[eZ,seval,Ah e9];exact(pk (FJ hl λj hj=>sX j zo)).symm
 have l7:i<b.length:=zo
 have uH:=o8 e9;have s6:=o8 l7;have e:=AI (k:=i) (by have:b.length<1000000000:=hb;omega);have hf:=hx _ (oK l7);by_cases hs:a[i]=b[i]
 ·simp only[eZ,seval,o9,oQ,oH,oS,o6,oO,AT e9,AT l7,uH,s6,e,Tci,s2,As,Al,o7 hf,BL hs,AJ];refine ZA.drop (i+1) rfl rfl rfl rfl AU.nil (λ_ _ h=>by cases h) ⟨A0 0 b,by simp [Fs.under,sN],A0 0 a,zt,zt,zt⟩ ⟨e9,λj h=>?_⟩ zo;by_cases q:j=i
  ·subst q;rw[uH,s6,hs]
  ·exact sX j zo
 ·simp only[eZ,seval,oh,oQ,oH,oS,o6,oO,AT e9,AT l7,uH,s6,Tci,s2,As,Al,o7 hf,A5 hs,AJ];exact(oN λq=>hs (by simp [q])).symm
def Tcl:Bk:=AJ 74 (W1 28 Le Le (λ_ b=>B4 b) λa b=>.bool (decide (a=b))) sE
def ZW:AG prog Tcl:=AG.sE.add (q2f λa b h=>p74 a b h.1 h.2)
def p73(a b:x9)(hb:NG b):A6 prog 73 [Fb a,Fb b] (.bool (decide (a=b))):=by
 refine .mk ⟨EA 0 a,EA 0 b,zt⟩ zt (c73.a (AE ZW (AF ?_)));simp only[eZ,seval,c73,BS,Tcl,W1,Cp,CC,o7 hb,AJ];rw[oZ];simp only[oo,oC,eF]
def Tcr:Bk:=AJ 73 (s2 ZS ZS (λ_ b=>NG b) λa b=>.bool (decide (a=b))) sE
def ma:AG prog Tcr:=AG.sE.add (q2 p73)
def p78(a b:List x9)(hb:sR b)(hx:∀x∈b,NG x):A6 prog 78 [GV a,GV b,.fn (.func 73) [] []] (.bool (decide (a=b))):=by
 refine .mk ⟨Ex 0 a,Ex 0 b,by simp [Fs.under,sN],zt⟩ zt (c78.a (AE ma (AF ?_)));by_cases hl:a.length=b.length;case neg=>
  simp only[eZ,seval,oh,o6,c78,Hw hl,oh];exact(oN λe=>hl (by rw[e])).symm
 simp only[eZ,seval,o9,o6,c78,Hx hl];refine AQ (λi:Nat=>⟨[(1,true,GV b),(2,true,.fn (.func 73) [] []),(15,true,GV a),(16,true,.int .i64 a.length),(17,true,.int .i64 i)],Ac,0⟩) (λi=>i<=a.length/\∀j,j<i->a[j]?=b[j]?) (λi=>a.length-i) 0 rfl ⟨oq _,λj hj=>zo⟩ ?_;rintro i ⟨hi,sX⟩;by_cases e9:i<a.length;case neg=>
  simp only[eZ,seval,Ah e9];exact(pk (FJ hl λj hj=>sX j zo)).symm
 have l7:i<b.length:=zo
 have uH:=o8 e9;have s6:=o8 l7;have e:=AI (k:=i) (by have:b.length<1000000000:=hb;omega);have hf:=hx _ (oK l7);by_cases hs:a[i]=b[i]
 ·simp only[eZ,seval,o9,oQ,oH,oS,o6,oO,AT e9,AT l7,uH,s6,e,Tcr,s2,I9,G4,o7 hf,BL hs,AJ];refine ZA.drop (i+1) rfl rfl rfl rfl AU.nil (λ_ _ h=>by cases h) ⟨Ex 0 b,by simp [Fs.under,sN],Ex 0 a,zt,zt,zt⟩ ⟨e9,λj h=>?_⟩ zo;by_cases q:j=i
  ·subst q;rw[uH,s6,hs]
  ·exact sX j zo
 ·simp only[eZ,seval,oh,oQ,oH,oS,o6,oO,AT e9,AT l7,uH,s6,Tcr,s2,I9,G4,o7 hf,A5 hs,AJ];exact(oN λq=>hs (by simp [q])).symm
def Tcs:Bk:=AJ 76 (s2 On On (λ_ b=>wide b) λa b=>.bool (decide (a=b))) sE
def mb:AG prog Tcs:=AG.sE.add (q2 p76)
def p75(a b:zj)(hb:GK b):A6 prog 75 [Ao a,Ao b] (.bool (decide (a=b))):=by
 refine .mk ⟨BA 0 a,BA 0 b,zt⟩ zt (a75 (AE mb (AF ?_)));have h1:=hb.1;have h2:=hb.2;simp only[eZ,seval,c75,BS,Tcs,s2,FU,Do,o7 h1,o7 h2,ceq_7,ED,AJ];rw[oZ];simp only[oo,oC,P6]
def Tcu:Bk:=AJ 75 (s2 Kj Kj (λ_ b=>GK b) λa b=>.bool (decide (a=b))) sE
def mc:AG prog Tcu:=AG.sE.add (q2 p75)
def p80(a b:List zj)(hb:sR b)(hx:∀x∈b,GK x):A6 prog 80 [DT a,DT b,.fn (.func 75) [] []] (.bool (decide (a=b))):=by
 refine .mk ⟨DM 0 a,DM 0 b,by simp [Fs.under,sN],zt⟩ zt (c80.a (AE mc (AF ?_)));by_cases hl:a.length=b.length;case neg=>
  simp only[eZ,seval,oh,o6,c80,Hw hl,oh];exact(oN λe=>hl (by rw[e])).symm
 simp only[eZ,seval,o9,o6,c80,Hx hl];refine AQ (λi:Nat=>⟨[(1,true,DT b),(2,true,.fn (.func 75) [] []),(15,true,DT a),(16,true,.int .i64 a.length),(17,true,.int .i64 i)],Ac,0⟩) (λi=>i<=a.length/\∀j,j<i->a[j]?=b[j]?) (λi=>a.length-i) 0 rfl ⟨oq _,λj hj=>zo⟩ ?_;rintro i ⟨hi,sX⟩;by_cases e9:i<a.length;case neg=>
  simp only[eZ,seval,Ah e9];exact(pk (FJ hl λj hj=>sX j zo)).symm
 have l7:i<b.length:=zo
 have uH:=o8 e9;have s6:=o8 l7;have e:=AI (k:=i) (by have:b.length<1000000000:=hb;omega);have hf:=hx _ (oK l7);by_cases hs:a[i]=b[i]
 ·simp only[eZ,seval,o9,oQ,oH,oS,o6,oO,AT e9,AT l7,uH,s6,e,Tcu,s2,B0,BU,o7 hf,BL hs,AJ];refine ZA.drop (i+1) rfl rfl rfl rfl AU.nil (λ_ _ h=>by cases h) ⟨DM 0 b,by simp [Fs.under,sN],DM 0 a,zt,zt,zt⟩ ⟨e9,λj h=>?_⟩ zo;by_cases q:j=i
  ·subst q;rw[uH,s6,hs]
  ·exact sX j zo
 ·simp only[eZ,seval,oh,oQ,oH,oS,o6,oO,AT e9,AT l7,uH,s6,Tcu,s2,B0,BU,o7 hf,A5 hs,AJ];exact(oN λq=>hs (by simp [q])).symm
def Tsa:Bk:=AJ 28 (s2 Cj Cj (λ_ b=>wide b) λa b=>.bool (decide (a=b))) (AJ 77 (s2 ZT ZT (λ_ b=>sR b) λa b=>.bool (decide (a=b))) (AJ 78 (W1 73 P5 P5 (λ_ b=>sR b/\∀x∈b,NG x) λa b=>.bool (decide (a=b))) (AJ 79 (s2 ZU ZU (λ_ b=>sR b) λa b=>.bool (decide (a=b))) (AJ 80 (W1 75 ZV ZV (λ_ b=>sR b/\∀x∈b,GK x) λa b=>.bool (decide (a=b))) sE))))
def md:AG prog Tsa:=((((AG.sE.add (q2f λa b h=>p80 a b h.1 h.2)).add (q2 p79)).add (q2f λa b h=>p78 a b h.1 h.2)).add (q2 p77)).add (q2 nu)
def p29(a b:x8)(hb:zy b):A6 prog 29 [Ba a,Ba b] (.bool (decide (a=b))):=by
 refine .mk ⟨Ag 0 a,Ag 0 b,zt⟩ zt (c29.a (AE md (AF ?_)));simp only[eZ,seval,c29,BS,Tsa,s2,W1,As,Al,Uz,Rx,U0,Ry,U1,Rz,U2,R5,o7 (Dk hb.ho),o7 hb.sy,o7 hb.rg,o7 hb.rgs,o7 hb.cl,o7 hb.ru,o7 hb.rus,AJ];rw[oZ];simp only[oo,oC,eG]
section
theorem NH:∀{a b:List Int},List.Pairwise (λx y=>x<y) a->List.Pairwise (λx y=>x<y) b->(∀x,x∈a↔x∈b)->a=b
 |[],[],_,_,_=>rfl
 |[],y::s,_,_,h=>by have:=(h y).2 zw;cases this
 |x::r,[],_,_,h=>by have:=(h x).1 zw;cases this
 |x::r,y::s,ha,hb,h=>by
  obtain⟨a1,a2⟩:=qH.1 ha;obtain⟨b1,b2⟩:=qH.1 hb;have e:x=y:=by
   rcases ph.1 ((h x).1 zw)with q|q
   ·exact q
   ·rcases ph.1 ((h y).2 zw)with p|p
    ·exact p.symm
    ·have:=a1 y p;have:=b1 x q;omega
  subst e;refine congrArg _ (NH a2 b2 λz=>?_);constructor
  ·intro hz;rcases ph.1 ((h z).1 (by simp [hz]))with q|q
   ·subst q;have:=a1 z hz;omega
   ·exact q
  ·intro hz;rcases ph.1 ((h z).2 (by simp [hz]))with q|q
   ·subst q;have:=b1 z hz;omega
   ·exact q
def ZX(n:Int):List.Pairwise (λx y:Int=>x<y) (CM n):=by
 unfold CM;rw[rB];exact rj.imp λq=>zo
def Wn{n:Int}{sB:List Int}(h1:∀x∈sB,0<=x/\x<n)(h2:List.Pairwise (λx y=>x<y) sB):((CM n).filter λp=>sB.contains p)=sB:=by
 refine NH ((ZX n).sublist rM) h2 λx=>?_
 rw[qn,pF,P2];exact⟨λh=>h.2,λh=>⟨h1 x h,h⟩⟩
def H9{sh w h:Int}{sB cells:List Int}(hc:Aq sh w h sB=some cells):(sh=1\/sh=2)/\1<=w/\w<=16/\1<=h/\h<=16/\(sB.length:Int)<w*h/\(∀x∈sB,0<=x/\x<w*h)/\List.Pairwise (λx y=>x<y) sB/\cells=(CM (w*h)).filter λp=>!sB.contains p:=by
 unfold Aq at hc;split at hc
 ·rename_i hq;obtain⟨a,b,c,d,e,f,g,i⟩:=hq;cases hc;rw[G2]at g;simp only[oM,oC]at i;exact⟨a,b,c,d,e,f,λx hx=>⟨by have:=g.1 x hx;omega,i x hx⟩,g.2,rfl⟩
 ·cases hc
def ZY{w h:Int}(h1:1<=w)(h2:w<=16)(h3:1<=h)(h4:h<=16):1<=w*h/\w*h<=256:=by
 have a:w*h<=16*16:=Int.mul_le_mul h2 h4 zo zo;have b:1*1<=w*h:=Int.mul_le_mul h1 h3 zo zo;omega
def Bb(cells l:List Int):List Int:=l.map λp=>(FT cells p:Int)
variable {l:List Int}
theorem Tg(hp:List.Pairwise (λx y=>x<y) l){i:Nat}(hi:i<l.length):FT l l[i]=i:=by
 refine P3 (Nat.le_of_lt hi) (λk hk h=>pW.1 hp k i hk hi h) λk hk h=>d7 hp hk h
theorem eJ(hp:List.Pairwise (λx y=>x<y) l){x y:Int}(hx:x∈l)(hy:y∈l)(h:FT l x=FT l y):x=y:=by
 obtain⟨i,hi,rfl⟩:=pP.1 hx;obtain⟨j,hj,rfl⟩:=pP.1 hy;rw[Tg hp hi,Tg hp hj]at h;subst h;rfl
theorem IA:∀{l:List (List Int)},CX l=true↔∃(a b:Nat) (ha:a<l.length) (hb:b<l.length),b<a/\DL l[a] l[b]=true
 |[]=>by simp [CX]
 |x::r=>by
  have ih:=IA (l:=r);simp only[CX,oV,ih,List.any_eq_true];constructor
  ·rintro(⟨y,hy,h⟩|⟨a,b,ha,hb,hab,h⟩)
   ·obtain⟨i,hi,rfl⟩:=pP.1 hy;exact⟨i+1,0,by simp;omega,zw,zo,h⟩
   ·exact⟨a+1,b+1,by simp;omega,by simp;omega,zo,h⟩
  ·rintro⟨a,b,ha,hb,hab,h⟩;cases a with
   |zero=>omega
   |succ a=>
    cases b with
    |zero=>exact .inl ⟨r[a]'(by simp at ha;omega),oK _,h⟩
    |succ b=>exact .inr ⟨a,b,by simp at ha;omega,by simp at hb;omega,zo,h⟩
theorem Ou(cells:List Int)(l:List x9)(i:Nat)(hi:i<l.length):DA cells (l.drop i)=if Ke cells l[i]=0 then DA cells (l.drop (i+1))else Ke cells l[i]:=by
 rw[oX hi];rfl
theorem G7{cells:List Int}(h:EX cells l=true):l.Nodup/\1<=l.length/\∀p∈l,p∈cells:=by
 unfold EX at h;simp only[oo,qM,oC,Cs,oM,pF]at h;exact⟨h.1.2,h.2,h.1.1⟩
end
section
def G8:List Bs->Nat->List (Fs×Fs×Nat)
 |[],_=>[]
 |s::r,i=>(.str s,.int .i64 (i:Int),i)::G8 r (i+1)
theorem Ez:∀(l:List Bs) (i:Nat),D6 .str (G8 l i)=True
 |[],_=>rfl
 |s::r,i=>by rw[G8,D6,Ez r (i+1)];simp [KT.is]
def Th(x:Bs)(r:List Bs)(s:Bs):BQ (x::r) s=if x=s then some 0 else(BQ r s).map (· +1):=by
 unfold BQ;rw[List.findIdx?_cons];by_cases h:x=s
 ·simp [h]
 ·simp only[h,se,oP,pb];cases List.findIdx? (λx=>decide (x=s)) r<;>simp
theorem U3:∀(l:List Bs) (s:Bs) (i:Nat),BZ (.str s) (G8 l i)=(BQ l s).map λn=>.int .i64 (n+(i:Int))
 |[],s,i=>rfl
 |x::r,s,i=>by
  rw[G8,BZ,Th,U3 r s (i+1)];by_cases h:x=s
  ·subst h;simp [HQ]
  ·have:¬s=x:=λq=>h q.symm
   simp only[HQ,h,this,se,oP,pb];cases BQ r s with
   |none=>rfl
   |some n=>simp only[pr];congr 2;omega
def Fx(l:List Bs)(s:Bs):BZ (.str s) (G8 l 0)=(BQ l s).map λn=>.int .i64 n:=by
 rw[U3];congr 1;funext n;simp
theorem ZZ:∀(l:List Bs) (s:Bs) (i:Nat),G8 (l++[s]) i=G8 l i++[(.str s,.int .i64 ((i+l.length:Nat):Int),i+l.length)]
 |[],s,i=>rfl
 |x::r,s,i=>by
  rw[pp,G8,ZZ r s (i+1),G8,pp,oI,show i+1+r.length=i+(r.length+1)by omega]
variable {v:Fs} {c:Nat}
theorem Jv{k:Fs}:∀{es:List (Fs×Fs×Nat)},BZ k es=none->EE k v c es=es++[(k,v,c)]
 |[],_=>rfl
 |(k',v',b)::r,h=>by
  rw[BZ]at h;split at h
  ·cases h
  ·rename_i q;rw[EE,og q,Jv h];rfl
theorem NI{l:List Bs}{s:Bs}(h:BQ l s=none):EE (.str s) (.int .i64 (l.length:Int)) l.length (G8 l 0)=G8 (l++[s]) 0:=by
 rw[Jv (by rw[Fx,h];rfl),ZZ];simp
theorem Za{α:Type}[DecidableEq α]{a b:List α}{x:α}(h:x∈a):Ak (a++x::b)=true:=by
 cases q:Ak (a++x::b)with
 |true=>rfl
 |false=>exact absurd rfl ((qD.1 (Cs.1 q)).2.2 x h x zw)
def IB:List Int->Nat->List (Fs×Fs×Nat)
 |[],_=>[]
 |s::r,i=>(.int .i64 s,.bool true,i)::IB r (i+1)
theorem Ti:∀(l:List Int) (i:Nat),D6 (.int .i64) (IB l i)=True
 |[],_=>rfl
 |s::r,i=>by rw[IB,D6,Ti r (i+1)];simp [KT.is]
theorem P7:∀(l:List Int) (x:Int) (i:Nat),BZ (.int .i64 x) (IB l i)=if l.contains x then some (.bool true)else none
 |[],x,i=>rfl
 |y::r,x,i=>by
  rw[IB,BZ,P7 r x (i+1),List.contains_cons];by_cases h:x=y
  ·subst h;simp [HQ]
  ·simp only[HQ,h,se,oP,pb,beq_eq_false_iff_ne.2 h,qT]
theorem Zb:∀(l:List Int) (s:Int) (i:Nat),IB (l++[s]) i=IB l i++[(.int .i64 s,.bool true,i+l.length)]
 |[],s,i=>rfl
 |x::r,s,i=>by
  rw[pp,IB,Zb r s (i+1),IB,pp,oI,show i+1+r.length=i+(r.length+1)by omega]
theorem mf{l:List Int}{x:Int}(h:l.contains x=false):EE (.int .i64 x) (.bool true) l.length (IB l 0)=IB (l++[x]) 0:=by
 rw[Jv (by rw[P7,h];rfl),Zb];simp
theorem Km{x y:Int}{v:Fs}{c:Nat}:∀{es:List (Fs×Fs×Nat)},D6 (.int .i64) es->BZ (.int .i64 x) (EE (.int .i64 y) v c es)=if x=y then some v else BZ (.int .i64 x) es
 |[],_=>by
  rw[EE,BZ,BZ];by_cases h:x=y<;>simp [HQ,h,BZ]
 |(k',v',b)::r,hf=>by
  obtain⟨h1,h2⟩:=hf;have ih:=Km (x:=x) (y:=y) (v:=v) (c:=c) h2;cases k'<;>simp only[KT.is]at h1;rename_i kk z;subst h1;rw[EE];by_cases hy:y=z
  ·subst hy;rw[oE (by simp [HQ])];rw[BZ,BZ];by_cases hx:x=y
   ·subst hx;simp [HQ]
   ·simp [HQ,hx]
  ·rw[og (by simp [HQ,hy])];rw[BZ,ih,BZ];by_cases hx:x=z
   ·subst hx;have:¬x=y:=λq=>hy q.symm
    simp [HQ,this]
   ·simp [HQ,hx]
theorem Kn{y:Int}:∀{es:List (Fs×Fs×Nat)},D6 (.int .i64) es->D6 (.int .i64) (EE (.int .i64 y) v c es)
 |[],_=>⟨rfl,zt⟩
 |(k',v',b)::r,⟨h1,h2⟩=>by
  rw[EE];split
  ·exact⟨h1,h2⟩
  ·exact⟨h1,Kn h2⟩
def JB(rs:List zj)(z:Int):Nat:=(rs.filter λr=>decide (r.sM=z)).length
theorem R6(rs:List zj)(i:Nat):JB rs (i:Int)=DX rs i:=rfl
theorem U4(rs:List zj)(r:zj)(z:Int):JB (rs++[r]) z=JB rs z+if r.sM=z then 1 else 0:=by
 unfold JB;rw[qv,ou];by_cases h:r.sM=z<;>simp [h]
theorem Zc(rs:List zj)(z:Int):JB rs z<=rs.length:=qa ..
def NJ(rs:List zj)(es:List (Fs×Fs×Nat)):Prop:=D6 (.int .i64) es/\∀z:Int,(BZ (.int .i64 z) es).getD (.int .i64 0)= .int .i64 (JB rs z:Int)
theorem NJ.next{rs:List zj}{es:List (Fs×Fs×Nat)}{r:zj}(h:NJ rs es):NJ (rs++[r]) (EE (.int .i64 r.sM) (.int .i64 ((JB rs r.sM+1:Nat):Int)) c es):=by
 refine⟨Kn h.1,λz=>?_⟩;rw[Km h.1,U4];by_cases q:z=r.sM
 ·subst q;rw[oE rfl,oE rfl];rfl
 ·rw[og q,og (λe=>q e.symm)];exact h.2 z
end
end Go.AM
namespace Go.AM
open Go.Lib Go.Proofs Go.RowKit Go.Sort Go.Proofs.Tryz
theorem Ko{g:z8}{f:Nat->Option Value}:∀(ws:List Int) (o:Nat),sK g 1 f o (ws.map eI)->∀(j:Nat) x,ws[j]?=some x->f (o+j)=some (.int .i64 x)
 |[],_,_,j,x,h=>by simp at h
 |y::ws,o,⟨⟨v,q1,q2,q3⟩,h'⟩,j,x,h=>by
  cases j with
  |zero=>
   simp at h;subst h;have q1':v= .int .i64 y:=q1;subst q1';exact q3 0 _ rfl
  |succ j=>rw[show o+(j+1)=o+1+j by omega];exact Ko ws (o+1) h' j x (by simpa using h)
theorem Jw{g:z8}{f:Nat->Option Value}:∀(ws:List Int) (o:Nat),(∀(j:Nat) x,ws[j]?=some x->f (o+j)=some (.int .i64 x))->sK g 1 f o (ws.map eI)
 |[],_,_=>trivial
 |y::ws,o,h=>by
  refine⟨⟨.int .i64 y,rfl,⟨rfl,λx hx=>by simp [Value.cells]at hx;subst hx;rfl⟩,λj x hx=>?_⟩,Jw ws (o+1) λj x hx=>by
   have:=h (j+1) x (by simpa using hx);rw[<-this];congr 1;omega⟩
  cases j with
  |zero=>
   have hx':some (Value.int .i64 y)=some x:=hx;cases hx';exact h 0 y rfl
  |succ j=>simp [Value.cells]at hx
def Tj(w:World)(k:Nat):Below w.heap.size w (w.drewN k) where
 os:=rfl
 tape:=rfl
 output:=rfl
 size:=od _
 block:=λi hi=>rfl
def p150(l:List Int)(x:Int)(hl:l.length<1000000000)(hs:List.Pairwise (λx y=>x<y) l):A6 prog 150 [BY l,.int .i64 x] (.sH [.int .i64 (FT l x),.bool (l.contains x)]):=by
 refine Gz c150.l ⟨⟨zt,Rs 0 l⟩,zt,zt⟩ ⟨zt,zt,zt⟩ ?_;rintro g w vs hR ⟨v,r,rfl,k1,v2,r2,rfl,k2,k3⟩;have k2':v2= .int .i64 x:=k2;have k3':r2=[]:=k3;subst k2';subst k3';have uq:∀q,l=[]\/q=l.take l.length->AP g (.sH [.int .i64 (FT l x),.bool (l.contains x)]) (.tuple #[.int .i64 (((l.take l.length).countP (· <x):Nat):Int),.bool ((l.take l.length).contains x)]):=λq _=>by
  rw[oF];have e:(l.countP λy=>decide (y<x))=FT l x:=List.countP_eq_length_filter;rw[e];exact⟨_,rfl,_,_,rfl,rfl,_,_,rfl,rfl,rfl⟩
 have uq:=uq l (.inr (oF).symm);rcases k1 with⟨k1,rfl,-⟩|⟨-,b,o,cap,⟨sp,rfl,uE⟩,hc,sY,-⟩
 ·have:l=[]:=by simpa using k1
  subst this;refine(slices_BinarySearch_int_empty none 0 x w).mono ?_;rintro e w' ⟨rfl,rfl⟩;exact⟨⟨_,rfl,uq⟩,Below.refl _ _⟩
 ·cases l with
  |nil=>
   refine(slices_BinarySearch_int_empty _ _ x w).mono ?_;rintro e w' ⟨rfl,rfl⟩;exact⟨⟨_,rfl,uq⟩,Below.refl _ _⟩
  |cons y ys=>
   obtain rfl:sp=none:=uE.resolve_right λq=>by cases q.1
   have tK:=Ko _ _ sY;have hk:=slices_BinarySearch_int b o (y::ys).length cap (y::ys) x w (od _) zo (λj hj=>hR.σw _ _ _ (tK j _ (by rw[o8 hj];simp [List.getD,o8 hj]))) (by rw[oF];exact hs.imp λq=>zo);simp only[o6]at hk⊢;refine hk.mono ?_;rintro e w' ⟨rfl,q,rfl⟩;exact⟨⟨_,rfl,uq⟩,Tj _ _⟩
def gN:CF prog 153:=⟨f153,by kernel_rfl,by kernel_rfl,by kernel_rfl⟩
def P8{H:AB}{n id len cap:Nat}{zs:List Int}(ho:AD H id=some (.arr 1 (zs.map eI)))(hl:len<=zs.length)(hz:len<1000000000):
  AO prog 153 [.ref id 1 0 len cap] H n λo H' n'=>o= .ret (.sH [])/\H'=sA H id (.arr 1 (((zs.take len).mergeSort Fa++zs.drop len).map eI))/\n'=n:=by
 refine⟨gN,λg w vs hR hv=>?_⟩;obtain⟨v,r,rfl,k1,k2⟩:=hv;have k2':r=[]:=k2;subst k2';obtain⟨L,h1,h2,rfl⟩:=k1;obtain⟨L',c,e,j1,j2,j3,j4,j5,j6⟩:=hR.obj id _ ho;rw[h1]at j1;cases j1;have tK:=Ko _ _ j6;simp only[pn]at tK;have tB:c.size=zs.length:=by rw[<-j5];simp
 have tM:(zs.take len).length=len:=by simp;omega
 have hb:L.sO<w.heap.size:=(oU.1 j4).1;have hc:=slices_Sort_int L.sO 0 cap (zs.take len) w (λj hj=>by
  have ul:j<(zs.take len).length:=by simpa using hj
  refine⟨?_,?_⟩
  ·rw[pn,getElem!_pos _ j hj];simp only[World.cell?,j4];rw[tK j _ (show zs[j]?=some zs[j]from o8 zo)];simp
  ·simp [World.frozen?,j4]) hb zo
 rw[tM]at hc;simp only[qR]at hc⊢;refine hc.mono ?_;rintro ee w' ⟨rfl,k,os,rfl⟩;generalize hS:(zs.take len).mergeSort (λx y=>decide (x<=y))=S;have hSl:S.length=len:=by rw[<-hS,List.length_mergeSort,tM]
 have hblk:(putRow (Value.int .i64) (Sort.ahead w k) L.sO 0 S.toArray).heap[L.sO]?=some (.cells (Go.Sort.putCells (Value.int .i64) 0 S.toArray c) e (0,0)):=by
  simp only[putRow,mapBlock,Sort.ahead,Array.getElem?_modify,pG,j4,pr,onCells]
 have AD:∀j:Nat,(Go.Sort.putCells (Value.int .i64) 0 S.toArray c)[j]?=if j<len then(S[j]?).map (Value.int .i64)else c[j]?:=λj=>by
  simp only[Go.Sort.putCells,Array.getElem?_mapIdx,oq,pR,pn,Nat.sub_zero,List.size_toArray,hSl];by_cases q:j<len
  ·simp only[q,pG];have hjc:j<c.size:=zo
   have hjS:j<S.length:=zo
   rw[qj hjc,o8 hjS];simp [hjS]
  ·simp only[q,pb];cases c[j]?<;>rfl
 obtain⟨r1,r2⟩:=hR.upd (m:=n) (w':=putRow (Value.int .i64) (Sort.ahead w k) L.sO 0 S.toArray) (ob':=.arr 1 ((S++zs.drop len).map eI)) ho rfl h1 rfl rfl rfl (by simp [putRow,mapBlock,Sort.ahead])
  (λb sZ=>by simp only[putRow,mapBlock,Sort.ahead,Array.getElem?_modify];rw[og (Ne.symm sZ)])
  (.inl ⟨c,e,(0,0),_,j4,hblk,by simp [Go.Sort.putCells],λo ho'=>by
   rw[AD,og (by rcases ho' with q|q<;>omega)]⟩)
  ⟨L,_,e,h1,h2,by rw[j3];simp [Go.Sort.putCells],hblk,by simp [Go.Sort.putCells,hSl];omega,Jw _ _ λj x hx=>by
   rw[pn,AD];by_cases q:j<len
   ·rw[oE q];rw[pH zo]at hx;rw[hx];rfl
   ·rw[og q];rw[pB zo,rp]at hx;exact tK j x (by rw[<-hx];congr 1;omega)⟩
 have hx:I1 (putRow (Value.int .i64) (Sort.ahead w k) L.sO 0 S.toArray) (grow (putRow (Value.int .i64) (Sort.ahead w k) L.sO 0 S.toArray) os):=λb ob hb=>by
  show(_++os)[b]?=some ob;rw[Array.getElem?_append_left (oU.1 hb).1];exact hb
 have r3:=r1.grow hx (σ':=g.σ) (λ_ _ _ q=>q) (λ_ _ _ q=>.inl q);exact⟨g,.ret (.sH []),_,n,⟨rfl,rfl,rfl⟩,⟨_,rfl,rfl⟩,r3,od _,r2.trans (q8.grow hx rfl rfl rfl (λ_ _ _ q=>q) (λ_ _ _ q=>.inl q))⟩
abbrev AK(sh w h:Int)(sB cells:List Int):List Fs:=[.int .i64 sh,.int .i64 w,.int .i64 h,BY sB,BY cells]
abbrev Ec(sh w h:Int)(sB cells:List Int):Fs:=.agg (AK sh w h sB cells)
def BF(n:Nat)(sh w h:Int)(sB cells:List Int):(Ec sh w h sB cells).under n:=⟨zt,zt,zt,Av n _,Av n _,zt⟩
def BX(sh w h:Int)(sB:List Int):Fs:=match Aq sh w h sB with
 |some cells=>.sH [Ec sh w h sB cells,.int .i64 0]
 |none=>.sH [Ec 0 0 0 [] [],.int .i64 130]
def LO(sh w h:Int)(sB:List Int):(BX sh w h sB).under 0:=by
 unfold BX;split<;>exact⟨BF 0 ..,zt,zt⟩
def P9{sh w h:Int}{sB cells:List Int}{a b:Fs}{e:Int}(h1:Wk a (BY sB))(h2:Wk b (BY cells)):Wk (.sH [.agg [.int .i64 sh,.int .i64 w,.int .i64 h,a,b],.int .i64 e]) (.sH [Ec sh w h sB cells,.int .i64 e]):=
 Wk.sH (.cons (Wk.agg (.cons (Wk.refl _) (.cons (Wk.refl _) (.cons (Wk.refl _) (.cons h1 (.cons h2 .nil)))))) (.cons (Wk.refl _) .nil))
def p149(l:List Int)(hl:sR l):A6 prog 149 [BY l] (BY l):=by
 refine .mk ⟨Av 0 l,zt⟩ (Av 0 l) (dY.a (AE AG.sE (AF ?_)));have a1:(l.length<=35184372088832)=True:=o7 (by have:l.length<1000000000:=hl;omega);have a2:small l.length 8=True:=o7 (AY (by have:l.length<1000000000:=hl;omega) zd);cases l with
 |nil=>
  simp only[eZ,seval,dY];refine⟨?_,?_⟩
  ·simp only[eZ,seval,small,qR,oq];exact Wk.sl (.inl rfl)
  ·simp only[eZ,seval,oh];exact Wk.sl (.inr rfl)
 |cons x r=>
  rw[oI]at a1 a2;simp only[eZ,seval,o6,dY,BY,a1,a2];exact Wk.sl (.inl rfl)
def Tmk:Bk:=AJ 149 (s1 Cj sR λl=>BY l) (AJ 150 (s2 Cj dI (λl _=>sR l/\List.Pairwise (λx y=>x<y) l) λl x=>.sH [.int .i64 (FT l x),.bool (l.contains x)]) sE)
def mg:AG prog Tmk:=(AG.sE.add (q2 λl x h=>p150 l x h.1 h.2)).add (q1 p149)
def Dm(sB:List Int)(k:Nat):List Int:=((List.range k).map λ(i:Nat)=>(i:Int)).filter λp=>!sB.contains p
def Ov(sB:List Int)(k:Nat):Dm sB (k+1)=if sB.contains (k:Int)then Dm sB k else Dm sB k++[(k:Int)]:=by
 unfold Dm;rw[pU,oD,qv];cases h:sB.contains (k:Int)<;>simp only[oL,pc,qh,rY,h,o9,oh,pG,pb,oP,oR]
def U5(sB:List Int)(k:Nat):(Dm sB k).length<=k:=by
 have:=qa (λp=>!sB.contains p) ((List.range k).map λ(i:Nat)=>(i:Int));simpa [Dm]using this
structure VM where
 k:Nat
 tk:xv
 H:AB
 n:Nat
structure IM(sh w h:Int)(sB:List Int)(m:Nat)(v:VM):Prop where
 hk:v.k<=m
 hn:2<=v.n
 fr:AU v.H v.n
 h0:AD v.H 0=some (.box [.int .i64 sh,.int .i64 w,.int .i64 h,BY sB,.sl v.tk ((Dm sB v.k).map eI)])
 tok:EG 1 1 v.H v.tk
 es:v.tk.esz=1\/Dm sB v.k=[]
def p86(sh w h:Int)(sB:List Int)(hl:sR sB):A6 prog 86 [.int .i64 sh,.int .i64 w,.int .i64 h,BY sB] (BX sh w h sB):=by
 refine .mk ⟨zt,zt,zt,Av 0 _,zt⟩ (LO sh w h sB) (c86.a (AE mg (AF ?_)));have hE:∀b,(b=true↔¬((sh=1\/sh=2)/\1<=w/\w<=16/\1<=h/\h<=16/\(sB.length:Int)<w*h))->(!decide (sh=1)&& !decide (sh=2)||decide (w<1)||decide (16<w)||decide (h<1)||decide (16<h)||decide (IntKind.wrap .i64 (w*h)<=(sB.length:Int)))=b:=by
  intro b hb;rw[oZ,hb];simp only[oV,oo,qM,oC,qq];by_cases so:1<=w/\w<=16/\1<=h/\h<=16
  ·have:=ZY so.1 so.2.1 so.2.2.1 so.2.2.2;rw[An zo zo];omega
  ·omega
 by_cases hc:(sh=1\/sh=2)/\1<=w/\w<=16/\1<=h/\h<=16/\(sB.length:Int)<w*h;case neg=>
  have hn:BX sh w h sB= .sH [Ec 0 0 0 [] [],.int .i64 130]:=by
   unfold BX Aq;rw[og λq=>hc ⟨q.1,q.2.1,q.2.2.1,q.2.2.2.1,q.2.2.2.2.1,q.2.2.2.2.2.1⟩]
  have hb:=hE true (by simp [hc]);rw[hn];simp only[eZ,seval,Au,o6,c86,hb];exact P9 (Wk.sl (.inr rfl)) (Wk.sl (.inr rfl))
 have hb:=hE false (by simp [hc]);obtain⟨hsh,hw1,hw2,hh1,hh2,uz⟩:=hc;obtain⟨p1,p2⟩:=ZY hw1 hw2 hh1 hh2;have so:IntKind.wrap .i64 (w*h)=w*h:=An zo zo;have hG:Aq sh w h sB=if(CW (-1) sB&&sB.all λp=>decide (p<w*h))=true then some (Dm sB (w*h).toNat)else none:=by
  unfold Aq;by_cases q:(CW (-1) sB&&sB.all λp=>decide (p<w*h))=true
  ·rw[oE q];rw[oo]at q;rw[oE ⟨hsh,hw1,hw2,hh1,hh2,uz,q.1,q.2⟩];rfl
  ·rw[og q];rw[oo]at q;rw[og λz=>q ⟨z.2.2.2.2.2.2.1,z.2.2.2.2.2.2.2⟩]
 simp only[eZ,seval,o6,c86,hb];refine AQ (λv:Nat×Int=>⟨[(0,true,.int .i64 sh),(1,true,.int .i64 w),(2,true,.int .i64 h),(3,true,BY sB),(8,true,.ptr 0 0),(10,true,.int .i64 v.2),(47,true,BY sB),(48,true,.int .i64 sB.length),(49,true,.int .i64 v.1)],sA Ac 0 (.box [z0,z0,z0,zs,zs]),2⟩)
  (λv=>v.1<=sB.length/\(CW (-1) sB&&sB.all λp=>decide (p<w*h))=(CW v.2 (sB.drop v.1)&&(sB.drop v.1).all λp=>decide (p<w*h))) (λv=>sB.length-v.1) (0,-1) rfl ⟨oq _,rfl⟩ ?_
 rintro⟨i,last⟩ ⟨hi,he⟩;simp only at hi he;by_cases e9:i<sB.length
 ·have hg:=o8 e9;have e:=AI (k:=i) (by have:sB.length<1000000000:=hl;omega);rw[oX e9,CW,qJ]at he;by_cases t9:last<sB[i]/\sB[i]<w*h
  ·have hd:(decide (sB[i]<=last)||decide (w*h<=sB[i]))=false:=by simp;omega
   simp only[eZ,seval,oQ,oH,oS,o6,oO,AT e9,hg,e,so,hd];refine .mk (i+1,sB[i]) rfl ⟨e9,?_⟩ zp;simp only[];rw[he,pk t9.1,pk t9.2];simp
  ·have hd:(decide (sB[i]<=last)||decide (w*h<=sB[i]))=true:=by simp;omega
   have hn:BX sh w h sB= .sH [Ec 0 0 0 [] [],.int .i64 130]:=by
    unfold BX;rw[hG,og];rw[he];intro q;simp only[oo,oC]at q;exact t9 ⟨q.1.1,q.2.1⟩
   rw[hn];simp only[eZ,seval,Au,oQ,oH,oS,o6,oO,AT e9,hg,so,hd];exact P9 (Wk.sl (.inr rfl)) (Wk.sl (.inr rfl))
 have v7:i=sB.length:=zo
 subst v7;rw[pA]at he;have hS:Aq sh w h sB=some (Dm sB (w*h).toNat):=by rw[hG,oE (by rw[he];rfl)]
 have hrise:=(H9 hS).2.2.2.2.2.2.2.1;have hM:BX sh w h sB= .sH [Ec sh w h sB (Dm sB (w*h).toNat),.int .i64 0]:=by unfold BX;rw[hS]
 rw[hM];obtain⟨m,hm⟩:∃m:Nat,w*h=(m:Int):=⟨(w*h).toNat,zo⟩;have sw:(w*h).toNat=m:=zo
 have hwm:IntKind.wrap .i64 (m:Int)=m:=by rw[<-hm];exact so
 rw[sw];simp only[eZ,seval,Ah e9,Tmk,s1,As,Al,o7 hl,hwm,hm,AH,AJ];refine AQ (λv:VM=>⟨[(3,true,BY sB),(8,true,.ptr 0 0),(74,true,.int .i64 m),(75,true,.int .i64 v.k)],v.H,v.n⟩) (IM sh w h sB m) (λv=>m-v.k)
  ⟨0,.nil,sA Ac 0 (.box [.int .i64 sh,.int .i64 w,.int .i64 h,BY sB,.sl .nil []]),2⟩ rfl ⟨oq _,od _,AU.nil.sA (m:=2) (oq 2) (show 0<2 by decide),rfl,.inl rfl,.inr rfl⟩ ?_
 rintro⟨k,tk,H,n⟩ hI;have hk:=hI.hk;have hn:=hI.hn;have l0:=hI.fr;have h0:=hI.h0;have l6:=hI.tok;have s9:=hI.es;simp only at hk hn l0 h0 l6 s9;by_cases e9:k<m
 ·have e:=AI (k:=k) zo;have td:=Ov sB k;cases w9:sB.contains (k:Int)with
  |true=>
   rw[w9,oE rfl]at td;simp only[eZ,seval,o9,oQ,pQ,qp,AT e9,Tmk,s2,As,Al,BR,Ax,o7 hl,o7 hrise,w9,e,AJ];exact .mk ⟨k+1,tk,H,n⟩ rfl ⟨e9,hn,l0,by simp only[td];exact h0,l6,by simp only[td];exact s9⟩ zp
  |false=>
   rw[w9,og zd]at td;have tj:=U5 sB k;have q1:At H 1 tk=True:=o7 l6.app;have q2:((Dm sB k).length<=35184372088831)=True:=o7 zo;have q3:small ((Dm sB k).length+1) 8=True:=o7 (AY zo zd);have kx:AD (AR H tk) 0=some (.box [.int .i64 sh,.int .i64 w,.int .i64 h,BY sB,.sl tk ((Dm sB k).map eI)]):=by rw[Ai l6 (.inl zo)];exact h0
   have y0:∀j,(n+j=0)=False:=λj=>oA zo
   simp only[eZ,seval,oh,oQ,o6,pQ,qp,AT e9,Tmk,s2,As,Al,BR,Ax,o7 hl,o7 hrise,w9,e,h0,q1,q2,q3,Bx l0,kx,y0,AJ];refine .mk ⟨k+1,.own (n+4) 1,sA (sA (AR H tk) (n+4) .tok) 0 (.box [.int .i64 sh,.int .i64 w,.int .i64 h,BY sB,.sl (.own (n+4) 1) ((Dm sB (k+1)).map eI)]),n+7⟩ ?_ ⟨e9,zp,((AZ l6 l0).sA (m:=n+7) zo zo).sA (od (n+7)) (show 0<n+7 by omega),AC ..,.inr (.inr ⟨n+4,rfl,zo,by rw[AA _ _ _ _ zo];exact AC ..⟩),.inl rfl⟩ zp;rw[td,oD];rfl
 obtain rfl:k=m:=zo
 simp only[eZ,seval,Au,Ah e9,h0];exact P9 (Wk.refl _) (Wk.sl (s9.imp id λq=>by rw[q];rfl))
def Tgc:Bk:=AJ 86 (λa H=>match a with
 |[.int .i64 sh,.int .i64 w,.int .i64 h,x]=>(Cj.ok x/\sR (Cj.dec x),BX sh w h (Cj.dec x))
 |_=>(False,.sH [])) (AJ 28 (s2 Cj Cj (λ_ b=>sR b) λa b=>.bool (decide (a=b))) sE)
theorem Zd:∀args H n,((λ(a:List Fs) (H:AB)=>match a with
 |[.int .i64 sh,.int .i64 w,.int .i64 h,x]=>(Cj.ok x/\sR (Cj.dec x),BX sh w h (Cj.dec x))
 |_=>(False,Fs.sH [])) args H).1->Ad prog 86 args H n ((λ(a:List Fs) (H:AB)=>match a with
 |[.int .i64 sh,.int .i64 w,.int .i64 h,x]=>(Cj.ok x/\sR (Cj.dec x),BX sh w h (Cj.dec x))
 |_=>(False,Fs.sH [])) args H).2:=by
 intro args H n hh;simp only at hh⊢;split at hh
 ·obtain⟨h1,h2⟩:=hh;refine AO.args ((p86 _ _ _ _ h2).quiet H n) ?_;rintro g vs ⟨v,r,rfl,k1,w,r',rfl,k2,u,r2,rfl,k3,z,r3,rfl,k4,k5⟩;exact⟨v,_,rfl,k1,w,_,rfl,k2,u,_,rfl,k3,z,_,rfl,Cj.wk _ h1 _ _ k4,k5⟩
 ·exact hh.elim
def mh:AG prog Tgc:=(AG.sE.add (q2 λa b h=>nu a b (Dk h))).add Zd
def F6(sh w h:Int)(sB cells:List Int):Bool:=decide (Aq sh w h sB=some cells)
def p151(sh w h:Int)(sB cells:List Int)(hl:sR sB)(hc:sR cells):A6 prog 151 [Ec sh w h sB cells] (.int .i64 (if F6 sh w h sB cells=true then 0 else 130)):=by
 refine .mk ⟨BF 0 ..,zt⟩ zt (db.a (AE mh (AF ?_)));cases hG:Aq sh w h sB with
 |none=>
  have hM:BX sh w h sB= .sH [Ec 0 0 0 [] [],.int .i64 130]:=by unfold BX;rw[hG]
  have hk:F6 sh w h sB cells=false:=by unfold F6;rw[hG];simp
  rw[hk];simp only[eZ,seval,o9,oh,oQ,pQ,qp,db,Tgc,As,Al,o7 hl,hM,Ec,AJ]
 |some cs=>
  have hM:BX sh w h sB= .sH [Ec sh w h sB cs,.int .i64 0]:=by unfold BX;rw[hG]
  have hk:F6 sh w h sB cells=decide (cs=cells):=by unfold F6;rw[hG];simp
  rw[hk];by_cases hq:cs=cells
  ·simp only[eZ,seval,o9,oQ,pQ,qp,db,Tgc,s2,As,Al,o7 hl,hM,Ec,o7 hc,BL hq,AJ]
  ·simp only[eZ,seval,o9,oh,oQ,pQ,qp,db,Tgc,s2,As,Al,o7 hl,hM,Ec,o7 hc,A5 hq,AJ]
structure xk where
 sh:Int
 w:Int
 h:Int
 sB:List Int
 cells:List Int
 deriving DecidableEq
abbrev B9(g:xk):Fs:=Ec g.sh g.w g.h g.sB g.cells
def R7:Fs->xk
 | .agg [.int _ sh,.int _ w,.int _ h,ho,ce]=>⟨sh,w,h,LN ho,LN ce⟩
 |_=>⟨0,0,0,[],[]⟩
def Kp(g:xk):R7 (B9 g)=g:=by simp only[R7,Fj]
def DD:Dc xk:=d9 B9 R7
def D0(x:xk):DD.ok (B9 x)=True:=I8 Kp x
def Ct(x:xk):DD.dec (B9 x)=x:=Kp x
def Fd{sh w h:Int}{sB cells:List Int}:DD.ok (Ec sh w h sB cells)=True:=D0 ⟨sh,w,h,sB,cells⟩
def Dd{sh w h:Int}{sB cells:List Int}:DD.dec (Ec sh w h sB cells)=⟨sh,w,h,sB,cells⟩:=Ct ⟨sh,w,h,sB,cells⟩
abbrev JC(g:xk):Fs:=.int .i64 (if F6 g.sh g.w g.h g.sB g.cells=true then 0 else 130)
def nv:Bk:=AJ 151 (s1 DD (λg=>sR g.sB/\sR g.cells) JC) (AJ 150 (s2 Cj dI (λl _=>sR l/\List.Pairwise (λx y=>x<y) l) λl x=>.sH [.int .i64 (FT l x),.bool (l.contains x)]) sE)
def mj:AG prog nv:=(AG.sE.add (q2 λl x h=>p150 l x h.1 h.2)).add (q1 λg h=>p151 g.sh g.w g.h g.sB g.cells h.1 h.2)
def Wks.len{ws us:List Fs}(h:Wks ws us):ws.length=us.length:=by
 induction h with
 |nil=>rfl
 |cons _ _ ih=>simp [ih]
def Wks.app{a b c d:List Fs}(h:Wks a b)(k:Wks c d):Wks (a++c) (b++d):=by
 induction h with
 |nil=>exact k
 |cons h1 _ ih=>exact .cons h1 ih
def Ze{g:z8}{e:Nat}{f:Nat->Option Value}{l m:List Fs}(hw:Wks l m):∀o,sK g e f o l->sK g e f o m:=by
 induction hw with
 |nil=>exact λ_ _=>zt
 |cons h1 _ ih=>exact λo ⟨⟨v,q1,q2,q3⟩,h'⟩=>⟨⟨v,h1 _ _ q1,q2,q3⟩,ih _ h'⟩
def Wk.slx{t:xv}{e:Nat}{l m:List Fs}(h:t.esz=e\/l=[])(hw:Wks l m):Wk (.sl t l) (.sl (.none e) m):=by
 intro g v hv;have hv:=Wk.sl h g v hv;rcases hv with⟨h1,rfl,-⟩|⟨-,b,o,cap,⟨sp,rfl,uE⟩,hc,sY,-⟩
 ·have hl:=hw.len;subst h1;have:m=[]:=pt (by rw[<-hl];rfl);subst this;exact .inl ⟨rfl,rfl,zt⟩
 ·have hl:=hw.len;refine .inr ⟨zt,b,o,cap,⟨sp,by rw[hl],?_⟩,by rw[<-hl];exact hc,Ze hw _ sY,zt⟩;rcases uE with q|⟨q,q2⟩
  ·exact .inl q
  ·refine .inr ⟨?_,.inr ⟨e,rfl⟩⟩;subst q;exact pt (by rw[<-hl];rfl)
def R8{cells l:List Int}{p:Int}(hp:List.Pairwise (λx y=>x<y) cells)(hl:∀q∈l,q∈cells)(hc:p∈cells):(Bb cells l).contains (FT cells p:Int)=l.contains p:=by
 rw[oZ,pF,pF];unfold Bb;rw[pz];constructor
 ·rintro⟨q,hq,e⟩;have:=eJ hp (hl q hq) hc zo;rw[<-this];exact hq
 ·exact λh=>⟨p,h,rfl⟩
def IY(cells l:List Int):(Bb cells l).length=l.length:=o6 ..
def D2(cells:List Int)(lists:List (List Int)):Fs:=if(decide (lists.length<=64)&&lists.all (EX cells))=true then .sH [Bm (lists.map (Bb cells)),.int .i64 0]else .sH [Bm [],.int .i64 130]
theorem Jx:∀{l m:List Int},l.Nodup->(∀q∈l,q∈m)->l.length<=m.length
 |[],_,_,_=>oq _
 |a::l,m,hd,hs=>by
  obtain⟨h1,h2⟩:=qO.1 hd;have ha:=hs a zw;have ih:=Jx (m:=m.erase a) h2 λq hq=>(List.mem_erase_of_ne (λe:q=a=>by subst e;exact h1 hq)).2 (hs q (by simp [hq]))
  rw[List.length_erase_of_mem ha]at ih;have:=List.length_pos_of_mem ha;rw[oI];omega
structure VRg where
 i:Nat
 E:List Fs
 tl:xv
 H:AB
 n:Nat
structure IRg(g:xk)(lists:List (List Int))(v:VRg):Prop where
 hi:v.i<=lists.length
 hn:3<=v.n
 fr:AU v.H v.n
 h0:AD v.H 0=some (.box (AK g.sh g.w g.h g.sB g.cells))
 tok:EG 1 1 v.H v.tl
 es:v.tl.esz=1\/v.E=[]
 hE:Wks v.E (((lists.take v.i).map (Bb g.cells)).map BY)
 eq:lists.all (EX g.cells)=(lists.drop v.i).all (EX g.cells)
structure VRi where
 j:Nat
 tc:xv
 H:AB
 n:Nat
structure IRi(g:xk)(x:List Int)(H0:AB)(n0:Nat)(v:VRi):Prop where
 hj:v.j<=x.length
 hn:n0+2<=v.n
 fr:AU v.H v.n
 hk:∀id,id<n0->AD v.H id=AD H0 id
 hm:AD v.H n0=some (.map (IB (Bb g.cells (x.take v.j)) 0) v.j)
 tok:EG 1 (n0+1) v.H v.tc
 es:v.tc.esz=1\/v.j=0
 sub:∀q∈x.take v.j,q∈g.cells
 eq:Gg g.cells [] x=Gg g.cells (x.take v.j) (x.drop v.j)
 nd:(x.take v.j).Nodup
def p89(g:xk)(lists:List (List Int))(hG:Aq g.sh g.w g.h g.sB=some g.cells)(hh:sR g.sB)(hl:B4 lists):A6 prog 89 [B9 g,Bm lists] (D2 g.cells lists):=by
 refine .mk ⟨BF 0 ..,A0 0 _,zt⟩ (by unfold D2;split<;>exact⟨A0 0 _,zt,zt⟩) (c89.a (AE mj (AF ?_)));obtain⟨ti,ub,uh⟩:=BP hG;have uk:sR g.cells:=show g.cells.length<_ by omega
 have sn:F6 g.sh g.w g.h g.sB g.cells=true:=by unfold F6;rw[hG];simp
 by_cases h64:64<lists.length
 ·have hv:D2 g.cells lists= .sH [Bm [],.int .i64 130]:=by unfold D2;rw[og];simp;omega
  have l64:((64:Int)<(lists.length:Int))=True:=o7 zo;rw[hv];simp only[eZ,seval,o9,o6,c89,nv,s1,Fd,Dd,o7 hh,o7 uk,sn,l64,AJ];exact Wk.sH (.cons (Wk.sl (.inr rfl)) (.cons (Wk.refl _) .nil))
 have l64:((64:Int)<(lists.length:Int))=False:=oA zo;simp only[eZ,seval,o9,o6,c89,nv,s1,Fd,Dd,o7 hh,o7 uk,sn,l64,AJ];have w8:lists.all (EX g.cells)=false->D2 g.cells lists= .sH [Bm [],.int .i64 130]:=λq=>by unfold D2;rw[q,Bool.and_false,og zd]
 refine AQ (λv:VRg=>⟨[(2,true,.ptr 0 0),(4,true,.sl v.tl v.E),(22,true,Bm lists),(23,true,.int .i64 lists.length),(24,true,.int .i64 v.i)],v.H,v.n⟩) (IRg g lists) (λv=>lists.length-v.i)
  ⟨0,[],.nil,sA Ac 0 (.box (AK g.sh g.w g.h g.sB g.cells)),3⟩ rfl ⟨oq _,od _,AU.nil.sA (m:=3) (oq 3) (show 0<3 by decide),rfl,.inl rfl,.inr rfl,.nil,rfl⟩ ?_
 rintro⟨i,E,tl,H,n⟩ hI;have hi:=hI.hi;have hn:=hI.hn;have l0:=hI.fr;have h0:=hI.h0;have l6:=hI.tok;have s9:=hI.es;have hE:=hI.hE;have heq:=hI.eq;simp only at hi hn l0 h0 l6 s9 hE heq;by_cases e9:i<lists.length;case neg=>
  have v7:i=lists.length:=zo
  subst v7;rw[pA]at heq;rw[oF]at hE;have hv:D2 g.cells lists= .sH [Bm (lists.map (Bb g.cells)),.int .i64 0]:=by
   unfold D2;rw[heq,oE];simp;omega
  rw[hv];simp only[eZ,seval,Ah e9];exact Wk.sH (.cons (Wk.slx s9 hE) (.cons (Wk.refl _) .nil))
 have hg:=o8 e9;have e:=AI (k:=i) zo;have my:=hl.2 _ (oK e9);have ud:=map_take (f:=Bb g.cells) e9;rw[oX e9,qJ]at heq;generalize hx:lists[i]=x at hg my heq ud;have hxl:x.length<1125899906842624:=my;have hmk:AD (sA H n (.map [] 0)) 0=some (.box (AK g.sh g.w g.h g.sB g.cells)):=by rw[AA _ _ _ _ zo];exact h0
 simp only[eZ,seval,xE,oQ,oH,oS,o6,oO,AT e9,hg,W0 l0];refine AQ (λv:VRi=>⟨[(2,true,.ptr 0 0),(4,true,.sl tl E),(8,true,.sl v.tc ((Bb g.cells (x.take v.j)).map eI)),(9,true,.mp n),(22,true,Bm lists),(23,true,.int .i64 lists.length),(24,true,.int .i64 i),(29,true,BY x),(30,true,.int .i64 x.length),(31,true,.int .i64 v.j)],v.H,v.n⟩)
  (IRi g x H n) (λv=>x.length-v.j) ⟨0,.nil,sA H n (.map [] 0),n+2⟩ rfl ⟨oq _,od _,(l0.sA (m:=n+2) zo zo),λid s5=>AA _ _ _ _ zo,AC ..,.inl rfl,.inr rfl,λq hq=>by(simp at hq),rfl,zw⟩ ?_
 rintro⟨j,tc,H1,n1⟩ hJ;have hj:=hJ.hj;have w7:=hJ.hn;have t7:=hJ.fr;have hk:=hJ.hk;have hm:=hJ.hm;have sr:=hJ.tok;have tn:=hJ.es;have tq:=hJ.sub;have ue:=hJ.eq;have sg:=hJ.nd;simp only at hj w7 t7 hk hm sr tn tq ue sg;have hj256:j<=256:=by
  have:=Jx sg tq;rw[oJ]at this;omega
 have z9:AD H1 0=some (.box (AK g.sh g.w g.h g.sB g.cells)):=by rw[hk 0 zo];exact h0
 by_cases t8:j<x.length
 ·have to:=o8 t8;have ej:=AI (k:=j) zo;have te:=map_take (f:=λp=>(FT g.cells p:Int)) t8;have sj:x.take (j+1)=x.take j++[x[j]]:=by rw[oG,to];rfl
  rw[oX t8,Gg]at ue;have l9:(Bb g.cells (x.take j)).length=j:=by rw[IY,oJ];omega
  generalize hp:x[j]=p at to te sj ue;have u9:(g.cells.contains p&& !(x.take j).contains p)=false->D2 g.cells lists= .sH [Bm [],.int .i64 130]:=λq=>w8 (by
   rw[heq,Gh,ue,q];simp)
  cases w9:g.cells.contains p with
  |false=>
   rw[u9 (by rw[w9];rfl)];simp only[eZ,eX,seval,o9,oh,oQ,oH,oS,o6,oO,pQ,qp,AT t8,to,z9,nv,s2,As,Al,BR,Ax,o7 uk,o7 ti,w9,AJ];exact Wk.sH (.cons (Wk.sl (.inr rfl)) (.cons (Wk.refl _) .nil))
  |true=>
   have hpm:p∈g.cells:=pF.1 w9;have hcm:=R8 ti tq hpm;have hmf:BZ (.int .i64 (FT g.cells p:Int)) (IB (Bb g.cells (x.take j)) 0)=if(x.take j).contains p then some (.bool true)else none:=by rw[P7,hcm]
   cases sw:(x.take j).contains p with
   |true=>
    rw[u9 (by rw[w9,sw];rfl)];rw[sw,oE rfl]at hmf;simp only[eZ,eX,seval,o9,xE,oQ,oH,oS,o6,oO,pQ,qp,AT t8,to,z9,nv,s2,As,Al,BR,Ax,o7 uk,o7 ti,w9,hm,hmf,Ti,xE,KT.is,Cm,AJ];exact Wk.sH (.cons (Wk.sl (.inr rfl)) (.cons (Wk.refl _) .nil))
   |false=>
    rw[sw,og zd]at hmf;have hms:=mf (l:=Bb g.cells (x.take j)) (x:=(FT g.cells p:Int)) (by rw[hcm];exact sw);rw[l9]at hms;have htm:EG 1 (n+1) (sA H1 n (.map (IB (Bb g.cells (x.take j)++[(FT g.cells p:Int)]) 0) (j+1))) tc:=sr.set (.inl zo);have q1:At (sA H1 n (.map (IB (Bb g.cells (x.take j)++[(FT g.cells p:Int)]) 0) (j+1))) 1 tc=True:=o7 htm.app;have q2:(j<=35184372088831)=True:=o7 zo;have q3:small (j+1) 8=True:=o7 (AY zo zd);have yn:∀k,(n=n1+k)=False:=λk=>oA zo
    simp only[eZ,eX,seval,o9,xE,Option.getD_none,Option.isSome_none,oQ,oH,oS,o6,oO,pQ,qp,AT t8,to,z9,nv,s2,As,Al,BR,Ax,o7 uk,o7 ti,w9,hm,hmf,Ti,xE,KT.is,Cm,ej,hms,q1,q2,q3,l9,yn,Bx t7,AJ];generalize hG2:sA H1 n (.map (IB (Bb g.cells (x.take j)++[(FT g.cells p:Int)]) 0) (j+1))=H2 at htm;have hf2:AU H2 n1:=by rw[<-hG2];exact t7.sA (od _) zo
    have uR:∀id,id<n->AD H2 id=AD H id:=λid s5=>by rw[<-hG2,AA _ _ _ _ zo];exact hk id s5
    have hm2:AD H2 n=some (.map (IB (Bb g.cells (x.take j)++[(FT g.cells p:Int)]) 0) (j+1)):=by rw[<-hG2];exact AC ..
    have uf:Bb g.cells (x.take (j+1))=Bb g.cells (x.take j)++[(FT g.cells p:Int)]:=te;refine .mk ⟨j+1,.own (n1+3) 1,sA (AR H2 tc) (n1+3) .tok,n1+5⟩ ?_ ⟨t8,zp,(AZ htm hf2).sA (m:=n1+5) zo zo,λid s5=>?_,?_,.inr (.inr ⟨n1+3,rfl,zo,AC ..⟩),.inl rfl,λq hq=>?_,?_,?_⟩ zp
    ·rw[uf,oD];rfl
    ·simp only[];rw[AA _ _ _ _ zo,Ai htm (.inl zo)];exact uR id s5
    ·simp only[];rw[AA _ _ _ _ zo,Ai htm (.inl zo),uf];exact hm2
    ·simp only[sj]at hq;rcases pI.1 hq with q1|q1
     ·exact tq q q1
     ·rw[pV.1 q1];exact hpm
    ·simp only[];rw[sj,ue,w9,sw];rfl
    ·simp only[];rw[sj,qD];refine⟨sg,zw,λa ha b hb e=>?_⟩;rw[pV]at hb;subst hb;subst e;rw[pF.2 ha]at sw;cases sw
 have ul:j=x.length:=zo
 subst ul;rw[pA,oF]at ue;rw[oF]at hm;have hlx:(Bb g.cells (x.take x.length)).length=x.length:=by rw[IY,oF]
 by_cases hx0:x.length=0
 ·have u9:D2 g.cells lists= .sH [Bm [],.int .i64 130]:=w8 (by rw[heq,Gh,hx0];simp);rw[u9];simp only[eZ,seval,o6,Ah t8,hlx,BL (show((x.length:Nat):Int)=0 by omega)];exact Wk.sH (.cons (Wk.sl (.inr rfl)) (.cons (Wk.refl _) .nil))
 have hEl:E.length<=64:=by
  have:=hE.len;simp only[o6,oJ]at this;omega
 have v9:EG 1 1 H1 tl:=by
  rcases l6 with rfl|rfl|⟨id,rfl,h1,h2⟩
  ·exact .inl rfl
  ·exact .inr (.inl rfl)
  ·exact .inr (.inr ⟨id,rfl,h1,by rw[hk id (l0.lt h2)];exact h2⟩)
 have q1:At H1 1 tl=True:=o7 v9.app;have q2:(E.length<=35184372088831)=True:=o7 zo;have q3:small (E.length+1) 24=True:=o7 (AY zo zd);simp only[eZ,seval,o6,Ah t8,hlx,A5 (show ¬((x.length:Nat):Int)=0 by omega),e,q1,q2,q3,Bx t7];refine .mk ⟨i+1,E++[.sl tc ((Bb g.cells x).map eI)],.own (n1+3) 1,sA (AR H1 tl) (n1+3) .tok,n1+5⟩ ?_ ⟨e9,zp,(AZ v9 t7).sA (m:=n1+5) zo zo,?_,.inr (.inr ⟨n1+3,rfl,zo,AC ..⟩),.inl rfl,?_,?_⟩ zp
 ·rw[oF]
 ·simp only[];rw[AA _ _ _ _ zo,Ai v9 (.inl zo)];exact z9
 ·simp only[];rw[ud,oD];exact hE.app (.cons (Wk.sl (tn.imp id λq=>by rw[qb.1 q];rfl)) .nil)
 ·simp only[];have t9:EX g.cells x=true:=by rw[Gh,ue];simp [Gg];omega
  rw[heq,t9,qK]
def gtZ{n:Nat}(k:Nat)(z:Int)(hz:z=(k:Int)):decide (z<(n:Int))= !decide (n<=k):=by subst hz;rw[oZ];simp
def leZ{n:Nat}(k:Nat)(z:Int)(hz:z=(k:Int)):decide ((n:Int)<=z)=decide (n<=k):=by subst hz;rw[oZ];simp
def FW(r:x9):Bool:=decide (r.ls.length<=40)&&r.ls.all λl=>decide (l.length<=40)
def Fy(r:zj):Bool:=decide (r.ns.length<=20)&&decide (r.os.length<=20)
def C1(d:x8):Bool:=decide (d.sB.length<=40)&&decide (d.sI.length<=20)&&decide (d.sJ.length<=8)&&decide (d.sD.length<=8)&&decide (d.sC.length<=20)&&d.sJ.all FW&&d.sC.all Fy
def IZ{d:x8}(h:C1 d=true):zy d:=by
 unfold C1 FW Fy at h;simp only[oo,oC,oM]at h;obtain⟨⟨⟨⟨⟨⟨h1,h2⟩,h3⟩,h4⟩,h5⟩,h6⟩,h7⟩:=h;exact⟨show d.sB.length<_ by omega,show d.sI.length<_ by omega,show d.sJ.length<_ by omega,λr hm=>⟨show r.ls.length<_ by have:=(h6 r hm).1;omega,λl hl=>show l.length<_ by have:=(h6 r hm).2 l hl;omega⟩,show d.sD.length<_ by omega,show d.sC.length<_ by omega,λr hm=>by have:=h7 r hm;exact⟨show r.ns.length<_ by omega,show r.os.length<_ by omega⟩⟩
def p14(d:x8):A6 prog 14 [Ba d] (.bool (C1 d)):=by
 refine .mk ⟨Ag 0 d,zt⟩ zt (c14.a (AE AG.sE (AF ?_)));have g40:=λ{n:Nat}=>gtZ (n:=n) 40 40 rfl
 have g20:=λ{n:Nat}=>gtZ (n:=n) 20 20 rfl
 have g8:=λ{n:Nat}=>gtZ (n:=n) 8 8 rfl
 simp only[eZ,seval,o6,c14,AL,g40,g20,g8];rw[cK_i];refine⟨λhB=>?_,λhB=>?_⟩
 ·simp only[eE,eN,seval];cases q:C1 d with
  |false=>rfl
  |true=>
   unfold C1 at q;simp only[oo]at q;obtain⟨⟨⟨⟨⟨⟨h1,h2⟩,h3⟩,h4⟩,h5⟩,h6⟩,h7⟩:=q;simp [h1,h2,h3,h4,h5]at hB
 simp only[qA,rl]at hB;obtain⟨⟨⟨⟨h1,h2⟩,h3⟩,h4⟩,h5⟩:=hB;have hr8:d.sJ.length<=8:=by simpa using h3
 have hu20:d.sC.length<=20:=by simpa using h5
 unfold C1;rw[h1,h2,h3,h4,h5];simp only[qK];simp only[eE,eN,seval,o9];refine AQ (λi:Nat=>⟨[(1,true,.ptr 0 0),(3,true,.int .i64 i)],sA Ac 0 (.box (AL d)),2⟩) (λi=>i<=d.sJ.length/\∀j (hj:j<d.sJ.length),j<i->FW d.sJ[j]=true) (λi=>d.sJ.length-i) 0 rfl ⟨oq _,λj hj h=>zo⟩ ?_;rintro i ⟨hi,sX⟩;by_cases e9:i<d.sJ.length
 ·have hg:=o8 e9;have hm:=oK e9;have e:=AI (k:=i) zo;have fin:FW d.sJ[i]=false->d.sJ.all FW=false:=λh=>List.all_eq_false.2 ⟨_,hm,by rw[h];decide⟩
  generalize tv:d.sJ[i]=r at hg fin;cases b1:(decide (r.ls.length<=40))with
  |false=>
   simp only[eZ,seval,oh,eY,AL,AT e9,hg,g40,b1];rw[fin (by unfold FW;rw[b1];rfl)];rfl
  |true=>
   have hl40:r.ls.length<=40:=pg b1;simp only[eZ,seval,o9,eY,AL,AT e9,hg,g40,b1];refine AQ (λk:Nat=>⟨[(1,true,.ptr 0 0),(3,true,.int .i64 i),(4,true,.int .i64 k)],sA Ac 0 (.box (AL d)),2⟩) (λk=>k<=r.ls.length/\∀j (hj:j<r.ls.length),j<k->r.ls[j].length<=40) (λk=>r.ls.length-k) 0 rfl ⟨oq _,λj hj h=>zo⟩ ?_;rintro k ⟨hk,hal2⟩;by_cases v8:k<r.ls.length
   ·have hg2:=o8 v8;have e2:=AI (k:=k) zo;cases b2:(decide (r.ls[k].length<=40))with
    |false=>
     simp only[eZ,seval,oh,eY,AL,AT e9,hg,AT v8,hg2,g40,b2];rw[fin (by unfold FW;rw[List.all_eq_false.2 ⟨_,oK v8,by rw[b2];decide⟩,Bool.and_false])];rfl
    |true=>
     simp only[eZ,seval,o9,eY,AL,AT e9,hg,AT v8,hg2,e2,g40,b2];refine .mk (k+1) rfl ⟨v8,λj hj h=>?_⟩ zo;by_cases q:j=k
     ·subst q;exact pg b2
     ·exact hal2 j hj zo
   simp only[eZ,seval,eY,AL,AT e9,hg,Ah v8,e];refine .mk (i+1) rfl ⟨e9,λj hj h=>?_⟩ zo;by_cases q:j=i
   ·subst q;rw[tv];unfold FW;rw[b1,qK];exact oM.2 λl hl=>by
     obtain⟨j,hj,rfl⟩:=pP.1 hl;exact pk (hal2 j hj zo)
   ·exact sX j hj zo
 have hqa:d.sJ.all FW=true:=oM.2 λq hq=>by
  obtain⟨j,hj,rfl⟩:=pP.1 hq;exact sX j hj zo
 rw[hqa,qK];simp only[eZ,seval,o6,AL,Ah e9];clear e9 sX hi;refine AQ (λi:Nat=>⟨[(1,true,.ptr 0 0),(5,true,.int .i64 i)],sA Ac 0 (.box (AL d)),2⟩) (λi=>i<=d.sC.length/\∀j (hj:j<d.sC.length),j<i->Fy d.sC[j]=true) (λi=>d.sC.length-i) 0 rfl ⟨oq _,λj hj h=>zo⟩ ?_;rintro i ⟨hi,sX⟩;by_cases e9:i<d.sC.length
 ·have hg:=o8 e9;have hm:=oK e9;have e:=AI (k:=i) zo;have fin:Fy d.sC[i]=false->d.sC.all Fy=false:=λh=>List.all_eq_false.2 ⟨_,hm,by rw[h];decide⟩
  generalize tv:d.sC[i]=r at hg fin;cases b1:(decide (r.ns.length<=20))with
  |false=>
   simp only[eZ,seval,o9,oh,eY,AL,AT e9,hg,g20,b1];exact(fin (by unfold Fy;rw[b1];rfl)).symm
  |true=>
   cases b2:(decide (r.os.length<=20))with
   |false=>
    simp only[eZ,seval,o9,oh,eY,AL,AT e9,hg,g20,b1,b2];exact(fin (by unfold Fy;rw[b1,b2];rfl)).symm
   |true=>
    simp only[eZ,seval,o9,eY,AL,AT e9,hg,e,g20,b1,b2];refine .mk (i+1) rfl ⟨e9,λj hj h=>?_⟩ zo;by_cases q:j=i
    ·subst q;rw[tv];unfold Fy;rw[b1,b2];rfl
    ·exact sX j hj zo
 simp only[eZ,seval,o6,AL,Ah e9];exact(oM.2 λq hq=>by
  obtain⟨j,hj,rfl⟩:=pP.1 hq;exact sX j hj zo).symm
end Go.AM
