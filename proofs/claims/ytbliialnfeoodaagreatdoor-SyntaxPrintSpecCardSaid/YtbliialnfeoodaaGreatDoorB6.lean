/-
  What is told of functions, argument by argument; lists that grow, and objects beside one another · Tokens: the library's functions as rows of the table, by the shelf's contracts · Tokens: bytes, their classes, names · Tokens: valid ones, few ones, equal ones · Tokens: a table's name · Tokens: the scanner's run · Tokens: the scanner's steps · Tokens: Lex · Tokens: decimal numbers of the reference · Tokens: Text · Tokens: the table of the layer's functions · Tokens: digits and numbers, and single steps of the scanner · Tokens: the reference's Lex · Tokens: the lexer by suffixes: one step, all steps, and that Lex is this · Tokens: the lexer's laws: places move, sources joined, errors, words · Tokens: texts of tokens are lexed as these tokens.
  Conditions: none beyond those of its parts.
-/
import Derived.Test.YtbliialnfeoodaaGreatDoorB4
import Derived.Test.YtbliialnfeoodaaGreatDoorProg
import Derived.Test.YtbliialnfeoodaaGreatDoorShelf
import Derived.Test.YtbliialnfeoodaaGreatDoorB5

section
set_option maxRecDepth 20000
set_option linter.all false
namespace Go.AM
open Go.Proofs Go.Lib
abbrev Bs:=List UInt8
abbrev eI (n:Int):AVal:=.int .i64 n
abbrev eSs (l:List Bs):AVal:=.sl (.none 1) (l.map .str)
abbrev eIs (l:List Int):AVal:=.sl (.none 1) (l.map eI)
theorem Hr (n:Nat) (l:List Bs):unders n (l.map AVal.str):=A2 (f:=AVal.str) (fun x=>trivial) _
theorem LT (n:Nat) (l:List Int):unders n (l.map eI):=A2 (f:=eI) (fun x=>trivial) _
theorem Io (l:List Bs):(l.map AVal.str).map toS=l:=by rw[List.map_map];exact List.map_id _
theorem LU (l:List Int):(l.map eI).map toI=l:=by rw[List.map_map];exact List.map_id _
theorem Bb {P:Program} {T:Tab} {Q:AExit→AS→Prop} {v:AVal} {s:AS}:∀(k:List Item),kont P T Q k (.pan v) s=Q (.pan v) s
 |[]=>Im
 | .c c::k=>by rw[RG];exact Bb k
 | .blk i::k=>by rw[OB];exact Bb k
inductive Wks:List AVal→List AVal→Prop
 |nil:Wks [] []
 |cons {a b:AVal} {ws us:List AVal}:Wk a b→Wks ws us→Wks (a::ws) (b::us)
theorem Wks.rel {g:Ghost}:∀{ws us:List AVal},Wks ws us→∀vs,VRels g ws vs→VRels g us vs
 |_,_,.nil,vs,h=>h
 |_,_,.cons h t,vs,⟨v,r,e,k1,k2⟩=>⟨v,r,e,h _ _ k1,t.rel r k2⟩
theorem Wk.agg {ws us:List AVal} (h:Wks ws us):Wk (.agg ws) (.agg us):=by
 rintro g v ⟨vs,rfl,h1,h2⟩
 exact⟨vs,rfl,h.rel _ h1,h2⟩
theorem Wk.tup {ws us:List AVal} (h:Wks ws us):Wk (.tup ws) (.tup us):=by
 rintro g v ⟨vs,rfl,h1⟩
 exact⟨vs,rfl,h.rel _ h1⟩
theorem Wk.trans {a b c:AVal} (h:Wk a b) (k:Wk b c):Wk a c:=fun g v q=>k g v (h g v q)
def AZ (pid:Nat) (H H':AD):Prop:=∀id ob,id≠pid→hget H id=some ob→hget H' id=some ob
theorem AZ.refl {pid:Nat} (H:AD):AZ pid H H:=fun _ _ _ h=>h
theorem AZ.trans {pid:Nat} {H H' H'':AD} (h:AZ pid H H') (k:AZ pid H' H''):AZ pid H H'':=fun id ob hne x=>k id ob hne (h id ob hne x)
theorem AZ.set {pid:Nat} {H H':AD} {ob:AObj} (h:AZ pid H H'):AZ pid H (hset H' pid ob):=fun id o hne x=>by
 rw[AC _ _ _ _ (Ne.symm hne)];exact h id o hne x
section
variable {n pid:Nat} {H:AD}
theorem sep1 (h:pid<n) (k:Nat):(pid=n+k)=False:=eq_false (by omega)
theorem sep2 (h:pid<n) (k:Nat):(n+k=pid)=False:=eq_false (by omega)
theorem sep3 (h:pid<n):(pid=n)=False:=eq_false (by omega)
theorem sep4 (h:pid<n):(n=pid)=False:=eq_false (by omega)
theorem fr1 (h:Ab H n) (k:Nat):hget H (n+k)=none:=h _ (by omega)
theorem fr0 (h:Ab H n):hget H n=none:=h _ (Nat.le_refl _)
end
theorem natE3 {a b c:Nat}:(a+b=a+c)=(b=c):=propext ⟨fun h=>by omega,fun h=>by omega⟩
structure Dc (α:Type) where
 enc:α→AVal
 dec:AVal→α
 ok:AVal→Prop
 wk:∀v,ok v→Wk v (enc (dec v))
def Sp:AVal→Prop
 | .int .i64 _=>True
 |_=>False
theorem P2 (v:AVal) (h:Sp v):Wk v (eI (toI v)):=by
 unfold Sp at h
 split at h
 ·exact Wk.refl _
 ·exact h.elim
def dI:Dc Int:=⟨eI,toI,Sp,P2⟩
theorem isS_wk (v:AVal) (h:isS v):Wk v (.str (toS v)):=by
 cases v<;>first|exact Wk.refl _|exact h.elim
def dS:Dc Bs:=⟨.str,toS,isS,isS_wk⟩
def okL {α:Type} (e:Nat) (enc:α→AVal) (dec:AVal→α):AVal→Prop
 | .sl t L=>(t.esz=e∨L=[])∧L=(L.map dec).map enc
 |_=>False
def decL {α:Type} (dec:AVal→α):AVal→List α
 | .sl _ L=>L.map dec
 |_=>[]
theorem OF {α:Type} {e:Nat} {enc:α→AVal} {dec:AVal→α} (v:AVal) (h:okL e enc dec v):Wk v (.sl (.none e) ((decL dec v).map enc)):=by
 cases v<;>simp only[okL]at h<;>try exact h.elim
 simp only[decL]
 rw[←h.2];exact Wk.sl h.1
def dSs:Dc (List Bs):=⟨eSs,decL toS,okL 1 .str toS,OF⟩
def dIs:Dc (List Int):=⟨eIs,decL toI,okL 1 eI toI,OF⟩
def s1 {α:Type} (A:Dc α) (c:α→Prop) (f:α→AVal):List AVal→AD→Prop×AVal:=fun a _=>match a with
 |[x]=>(A.ok x∧c (A.dec x),f (A.dec x))
 |_=>(False,.tup [])
def s2 {α β:Type} (A:Dc α) (B:Dc β) (c:α→β→Prop) (f:α→β→AVal):List AVal→AD→Prop×AVal:=fun a _=>match a with
 |[x,y]=>(A.ok x∧B.ok y∧c (A.dec x) (B.dec y),f (A.dec x) (B.dec y))
 |_=>(False,.tup [])
def s3 {α β γ:Type} (A:Dc α) (B:Dc β) (C:Dc γ) (c:α→β→γ→Prop) (f:α→β→γ→AVal):List AVal→AD→Prop×AVal:=fun a _=>match a with
 |[x,y,z]=>(A.ok x∧B.ok y∧C.ok z∧c (A.dec x) (B.dec y) (C.dec z),f (A.dec x) (B.dec y) (C.dec z))
 |_=>(False,.tup [])
theorem q1 {α:Type} {A:Dc α} {c:α→Prop} {f:α→AVal} {fid:FuncId} (h:∀x,c x→Pur Tryz.prog fid [A.enc x] (f x)):∀args H n,(s1 A c f args H).1→Bw Tryz.prog fid args H n (s1 A c f args H).2:=by
 intro args H n hh
 unfold s1 at hh⊢
 split at hh
 ·obtain⟨h1,h2⟩:=hh
  refine AP.args ((h _ h2).quiet H n) ?_
  rintro g vs ⟨v,r,rfl,k1,k2⟩
  exact⟨v,_,rfl,A.wk _ h1 _ _ k1,k2⟩
 ·exact hh.elim
theorem q2 {α β:Type} {A:Dc α} {B:Dc β} {c:α→β→Prop} {f:α→β→AVal} {fid:FuncId} (h:∀x y,c x y→Pur Tryz.prog fid [A.enc x,B.enc y] (f x y)):∀args H n,(s2 A B c f args H).1→Bw Tryz.prog fid args H n (s2 A B c f args H).2:=by
 intro args H n hh
 unfold s2 at hh⊢
 split at hh
 ·obtain⟨h1,h2,h3⟩:=hh
  refine AP.args ((h _ _ h3).quiet H n) ?_
  rintro g vs ⟨v,r,rfl,k1,w,r',rfl,k2,k3⟩
  exact⟨v,_,rfl,A.wk _ h1 _ _ k1,w,_,rfl,B.wk _ h2 _ _ k2,k3⟩
 ·exact hh.elim
theorem q3 {α β γ:Type} {A:Dc α} {B:Dc β} {C:Dc γ} {c:α→β→γ→Prop} {f:α→β→γ→AVal} {fid:FuncId} (h:∀x y z,c x y z→Pur Tryz.prog fid [A.enc x,B.enc y,C.enc z] (f x y z)):∀args H n,(s3 A B C c f args H).1→Bw Tryz.prog fid args H n (s3 A B C c f args H).2:=by
 intro args H n hh
 unfold s3 at hh⊢
 split at hh
 ·obtain⟨h1,h2,h3,h4⟩:=hh
  refine AP.args ((h _ _ _ h4).quiet H n) ?_
  rintro g vs ⟨v,r,rfl,k1,w,r',rfl,k2,u,r'',rfl,k3,k4⟩
  exact⟨v,_,rfl,A.wk _ h1 _ _ k1,w,_,rfl,B.wk _ h2 _ _ k2,u,_,rfl,C.wk _ h3 _ _ k3,k4⟩
 ·exact hh.elim
theorem Pur.all {P:Program} {f:FuncId} {args:List AVal} {r r':AVal} (h:Pur P f args r) (e:r=r'):Pur P f args r':=e▸h
abbrev any1 {α:Type} (_:α):Prop:=True
abbrev any2 {α β:Type} (_:α) (_:β):Prop:=True
theorem lt_T {a b:Nat} (h:a<b):((a:Int)<(b:Int))=True:=eq_true (by omega)
theorem lt_F {a b:Nat} (h:¬a<b):((a:Int)<(b:Int))=False:=eq_false (by omega)
theorem Fr {x:Int} (h1: -9223372036854775808≤x) (h2:x≤9223372036854775807):IntKind.wrap .i64 x=x:=by rw[IntKind.wrap_i64];omega
theorem AO {k:Nat} (h:k<1000000000000):IntKind.wrap .i64 ((k:Int)+1)=((k+1:Nat):Int):=by rw[Fr (by omega) (by omega)];rfl
theorem c0:((0:Nat):Int)=0:=rfl
theorem c1:((1:Nat):Int)=1:=rfl
theorem cS0 {n:Nat}:(((n+1:Nat):Int)=0)=False:=eq_false (by omega)
theorem cS1 {n:Nat}:((0:Int)<((n+1:Nat):Int))=True:=eq_true (by omega)
theorem nS1 {n:Nat}:(0<n+1)=True:=eq_true (by omega)
theorem i00:((0:Int)<0)=False:=eq_false (by decide)
theorem cS2 {n:Nat}:((1:Int)≤((n+1:Nat):Int))=True:=eq_true (by omega)
def tkG (e lo:Nat) (H:AD) (tk:Tok):Prop:=tk= .nil∨tk= .exact e∨∃id,tk= .own id e∧lo≤id∧hget H id=some .tok
theorem tkG.app {e lo:Nat} {H:AD} {tk:Tok} (h:tkG e lo H tk):CF H e tk:=by
 rcases h with rfl|rfl|⟨id,rfl,h1,h2⟩
 ·trivial
 ·rfl
 ·exact⟨rfl,h2⟩
theorem tkG.set {e lo i:Nat} {H:AD} {tk:Tok} {ob:AObj} (h:tkG e lo H tk) (hi:i<lo∨(∃cs,hget H i=some (.box cs))∨hget H i=none):tkG e lo (hset H i ob) tk:=by
 rcases h with rfl|rfl|⟨id,rfl,h1,h2⟩
 ·exact .inl rfl
 ·exact .inr (.inl rfl)
 ·refine .inr (.inr ⟨id,rfl,h1,?_⟩)
  rw[AC _ _ _ _ ?_]
  ·exact h2
  ·rintro rfl
   rcases hi with q|⟨cs,q⟩|q
   ·omega
   ·rw[h2]at q;cases q
   ·rw[h2]at q;cases q
theorem Aa {e lo i:Nat} {H:AD} {tk:Tok} (h:tkG e lo H tk) (hi:i<lo∨∃cs,hget H i=some (.box cs)):hget (AK H tk) i=hget H i:=by
 rcases h with rfl|rfl|⟨id,rfl,h1,h2⟩
 ·rfl
 ·rfl
 ·simp only[AK]
  rw[AC _ _ _ _ ?_]
  rintro rfl
  rcases hi with q|⟨cs,q⟩
  ·omega
  ·rw[h2]at q;cases q
theorem BO {e lo n:Nat} {H:AD} {tk:Tok} (h:tkG e lo H tk) (hf:Ab H n):Ab (AK H tk) n:=by
 rcases h with rfl|rfl|⟨id,rfl,h1,h2⟩
 ·exact hf
 ·exact hf
 ·exact hf.hset (Nat.le_refl _) (hf.lt h2)
theorem OG {e lo i:Nat} {H:AD} {tk:Tok} {ob:AObj} (h:tkG e lo H tk) (hi:hget H i=some ob) (ho:ob≠ .tok):hget (AK H tk) i=some ob:=by
 rcases h with rfl|rfl|⟨id,rfl,h1,h2⟩
 ·exact hi
 ·exact hi
 ·simp only[AK]
  rw[AC _ _ _ _ (by rintro rfl;rw[h2]at hi;cases hi;exact ho rfl)];exact hi
abbrev few {α:Type} (l:List α):Prop:=l.length<1000000000
theorem DY {α:Type} {a b:List α} (hl:a.length=b.length) (h:∀j,j<a.length→a[j]?=b[j]?):a=b:=List.ext_getElem? fun j=>by
 rcases Nat.lt_or_ge j a.length with q|q
 ·exact h j q
 ·rw[List.getElem?_eq_none q,List.getElem?_eq_none (by omega)]
theorem Gk {a b:Nat} (h:a≠b):((a:Int)=(b:Int))=False:=eq_false (by omega)
theorem Gl {a b:Nat} (h:a=b):((a:Int)=(b:Int))=True:=eq_true (by omega)
theorem Ar {n b:Nat} (h:n≤1000000000) (hb:b≤1000):Ao n b:=by
 have:n*b≤1000000000*1000:=Nat.mul_le_mul h hb
 unfold Ao;omega
theorem Eo {α:Type} {enc:α→AVal} {dec:AVal→α} (h:∀x,dec (enc x)=x) (l:List α):(l.map enc).map dec=l:=by
 rw[List.map_map];exact(List.map_congr_left fun x _=>h x).trans (List.map_id _)
def dEx {α:Type} (enc:α→AVal) (dec:AVal→α):Dc α:=⟨enc,dec,fun v=>v=enc (dec v),fun v h=>h▸Wk.refl _⟩
theorem Bz.mono {P:Program} {fid:FuncId} {args:List AVal} {rv:AVal} {H:AD} {n:Nat} {Rc Rc':AD→Nat→Prop} (h:Bz P fid args rv H n Rc) (hr:∀H' n',Rc H' n'→Rc' H' n'):Bz P fid args rv H n Rc':=
 fun g w vs u hR hV hu=>CallsDIn.mono (h g w vs u hR hV hu) fun e u' w' ⟨h1,h2,g',H',n',h3,h4⟩=>⟨h1,h2,g',H',n',hr _ _ h3,h4⟩
end Go.AM
end
section
set_option maxRecDepth 20000
set_option linter.all false
set_option maxHeartbeats 1000000
namespace Go.AM
open Go.Proofs Go.Lib Go.RowKit Go.Sort
theorem Mk {w:World} {k:Nat} {os:Array Obj}:Below w.heap.size w (grow (w.drewN k) os) where
 os:=rfl
 tape:=rfl
 output:=rfl
 size:=by simp [grow]
 block:=fun i hi=>by simp [grow,Array.getElem?_append,hi]
def s90:List AVal→AD→Prop×AVal:=fun a H=>match a with
 |[.str l,.int .u8 c]=>(0≤c∧c<256,.int .i64 (indexByte l (UInt8.ofNat c.toNat)))
 |_=>(False,.tup [])
theorem q90:∀args H n,(s90 args H).1→Bw Tryz.prog 90 args H n (s90 args H).2:=by
 intro args H n h
 unfold s90 at h⊢
 split at h
 ·rename_i l c
  refine Pur.quiet ?_ H n
  refine BQ l90 ⟨trivial,trivial,trivial⟩ trivial ?_
  rintro g w vs hR ⟨v,r,rfl,k1,v2,r2,rfl,k2,k3⟩
  have k1':v= .string ⟨l.toArray⟩:=k1
  have k2':v2= .int .u8 c:=k2
  have k3':r2=[]:=k3
  subst k1';subst k2';subst k3'
  refine(Tryz.strings_IndexByte ⟨l.toArray⟩ c w).mono ?_
  rintro e w' ⟨rfl,rfl⟩
  exact⟨⟨_,rfl,rfl⟩,Below.refl _ _⟩
 ·exact h.elim
def s22:List AVal→AD→Prop×AVal:=fun a H=>match a with
 |[.str l,.str p]=>(True,.bool (hasPrefix l p))
 |_=>(False,.tup [])
theorem q22:∀args H n,(s22 args H).1→Bw Tryz.prog 22 args H n (s22 args H).2:=by
 intro args H n h
 unfold s22 at h⊢
 split at h
 ·rename_i l p
  refine Pur.quiet ?_ H n
  refine BQ l22 ⟨trivial,trivial,trivial⟩ trivial ?_
  rintro g w vs hR ⟨v,r,rfl,k1,v2,r2,rfl,k2,k3⟩
  have k1':v= .string ⟨l.toArray⟩:=k1
  have k2':v2= .string ⟨p.toArray⟩:=k2
  have k3':r2=[]:=k3
  subst k1';subst k2';subst k3'
  refine(Tryz.strings_HasPrefix ⟨l.toArray⟩ ⟨p.toArray⟩ w).mono ?_
  rintro e w' ⟨rfl,rfl⟩
  exact⟨⟨_,rfl,rfl⟩,Below.refl _ _⟩
 ·exact h.elim
def s51:List AVal→AD→Prop×AVal:=fun a H=>match a with
 |[.int .i64 z]=>(-9223372036854775808≤z∧z≤9223372036854775807,.str (itoa z))
 |_=>(False,.tup [])
theorem tab_is {g:Ghost} {w:World} (hR:Rel g hnil 0 w):TabIs Tryz.prog w "internal/strconv.uint64pow10" .u64 pow10Tab:=by
 have hn:Tryz.prog.globalNamed "internal/strconv.uint64pow10" =some 3:=by kernel_rfl
 obtain⟨c,e,fz,h1,h2⟩:=hR.gz 3 _ rfl
 have h3:=hR.gl 3 _ rfl
 have hc:c=(pow10Tab.map fun z=>Value.int .u64 z).toArray:=by
  have hs:∀(i:Nat) z,pow10Tab[i]?=some z→c[i]?=some (.int .u64 z):=by
   intro i z hz
   have key:∀(l:List Int) (o:Nat),PStab g (g.σ 3) o (l.map fun z=>AVal.int .u64 z)→∀(i:Nat) z,l[i]?=some z→g.σ 3 (o+i)=some (.int .u64 z):=by
    intro l
    induction l with
    |nil=>intro o _ i z h;simp at h
    |cons x l ih=>
     intro o h i z hz
     obtain⟨⟨v,q1,q2,q3⟩,h'⟩:=h
     cases i with
     |zero=>simp at hz;subst hz;have q2':v= .int .u64 x:=q2;subst q2';exact q1
     |succ i=>rw[show o+(i+1)=o+1+i by omega];exact ih (o+1) h' i z (by simpa using hz)
   have h4:=hR.σw _ _ _ (key pow10Tab 0 (by exact h3) i z hz)
   rw[Nat.zero_add]at h4
   simpa [World.cell?,h1]using h4
  have hl:c.size=pow10Tab.length:=by rw[h2];rfl
  refine Array.ext_getElem? fun i=>?_
  by_cases hi:i<pow10Tab.length
  ·rw[hs i _ (List.getElem?_eq_getElem hi)];simp [hi]
  ·rw[Array.getElem?_eq_none (by omega),Array.getElem?_eq_none (by simp;omega)]
 unfold TabIs World.var?
 rw[hn]
 simp only[Option.bind_some,h1,hc]
theorem q51:∀args H n,(s51 args H).1→Bw Tryz.prog 51 args H n (s51 args H).2:=by
 intro args H n h
 unfold s51 at h⊢
 split at h
 ·rename_i z
  refine Pur.quiet ?_ H n
  refine BQ l51 ⟨trivial,trivial⟩ trivial ?_
  rintro g w vs hR ⟨v,r,rfl,k1,k3⟩
  have k1':v= .int .i64 z:=k1
  have k3':r=[]:=k3
  subst k1';subst k3'
  refine(Tryz.strconv_Itoa z h.1 h.2 w (tab_is hR)).mono ?_
  rintro e w' ⟨rfl,k,os,rfl⟩
  exact⟨⟨_,rfl,rfl⟩,Mk⟩
 ·exact h.elim
def s89:List AVal→AD→Prop×AVal:=fun a H=>match a with
 |[.str l]=>(l.length≤281474976710656,match atoiAll l with| .ok v=>.tup [.int .i64 v,.nilifc]| .range=>.tup [.int .i64 (atoiSat l),.ifc 186 .up]|_=>.tup [.int .i64 0,.ifc 186 .up])
 |_=>(False,.tup [])
theorem q89:∀args H n,(s89 args H).1→Bw Tryz.prog 89 args H n (s89 args H).2:=by
 intro args H n h
 unfold s89 at h⊢
 split at h
 ·rename_i l
  simp only at h
  have hsz:(⟨l.toArray⟩:ByteArray).size=l.length:=by simp [ByteArray.size]
  cases ha:atoiAll l with
  |ok v=>
   refine Pur.quiet ?_ H n
   refine BQ l89 ⟨trivial,trivial⟩ ⟨trivial,trivial,trivial⟩ ?_
   rintro g w vs hR ⟨v,r,rfl,k1,k3⟩
   have k1':v= .string ⟨l.toArray⟩:=k1
   have k3':r=[]:=k3
   subst k1';subst k3'
   refine(Tryz.strconv_Atoi_ok ⟨l.toArray⟩ (by omega) _ ha w).mono ?_
   rintro e w' ⟨rfl,hw⟩
   refine⟨⟨_,rfl,⟨_,rfl,_,_,rfl,rfl,_,_,rfl,rfl,rfl⟩⟩,?_⟩
   rcases hw with rfl|⟨t,rfl⟩
   ·exact Below.refl _ _
   ·exact Lib.bytesWorld_below _ _ _
  |range=>
   refine Pur.quiet ?_ H n
   refine BQ l89 ⟨trivial,trivial⟩ ⟨trivial,trivial,trivial⟩ ?_
   rintro g w vs hR ⟨v,r,rfl,k1,k3⟩
   have k1':v= .string ⟨l.toArray⟩:=k1
   have k3':r=[]:=k3
   subst k1';subst k3'
   obtain⟨⟨ev,e1,⟨z,e2,_⟩,_⟩,_⟩:=hR.gl 1 _ rfl
   refine(Tryz.strconv_Atoi_range ⟨l.toArray⟩ (by omega) ha ev w (hR.σw _ _ _ e1) (.inr ⟨_,_,e2⟩)).mono ?_
   rintro e w' ⟨N,rfl,_,_,hb⟩
   exact⟨⟨_,rfl,⟨_,rfl,_,_,rfl,rfl,_,_,rfl,⟨_,rfl,_,rfl⟩,rfl⟩⟩,hb⟩
  |_=>
   refine Pur.quiet ?_ H n
   refine BQ l89 ⟨trivial,trivial⟩ ⟨trivial,trivial,trivial⟩ ?_
   rintro g w vs hR ⟨v,r,rfl,k1,k3⟩
   have k1':v= .string ⟨l.toArray⟩:=k1
   have k3':r=[]:=k3
   subst k1';subst k3'
   obtain⟨⟨ev,e1,⟨z,e2,_⟩,_⟩,_⟩:=hR.gl 0 _ rfl
   refine(Tryz.strconv_Atoi_syntax ⟨l.toArray⟩ (by omega) ha ev w (hR.σw _ _ _ e1) (.inr ⟨_,_,e2⟩)).mono ?_
   rintro e w' ⟨N,rfl,_,_,hb⟩
   exact⟨⟨_,rfl,⟨_,rfl,_,_,rfl,rfl,_,_,rfl,⟨_,rfl,_,rfl⟩,rfl⟩⟩,hb⟩
 ·exact h.elim
def s52:List AVal→AD→Prop×AVal:=fun a H=>match a with
 |[.sl tok L,.str sep]=>(∃ws:List (List UInt8),L=ws.map .str∧tok.under 0∧tok.esz=1∧ws.length≤140737488355328∧(join ws sep).length≤140737488355328,.str (join (L.map fun x=>match x with| .str s=>s|_=>[]) sep))
 |[.ref id 1 0 len cap,.str sep]=>match hget H id with
  |some (.arr 1 L)=>(∃ws:List (List UInt8),L=ws.map .str∧len=ws.length∧len≤cap∧ws.length≤140737488355328∧(join ws sep).length≤140737488355328,.str (join (L.map fun x=>match x with| .str s=>s|_=>[]) sep))
  |_=>(False,.tup [])
 |_=>(False,.tup [])
theorem Gm {g:Ghost} {f:Nat→Option Value}:∀(ws:List (List UInt8)) (o:Nat),Stab g 1 f o (ws.map .str)→∀(j:Nat) x,ws[j]?=some x→f (o+j)=some (.string ⟨x.toArray⟩)
 |[],_,_,j,x,h=>by simp at h
 |y::ws,o,⟨⟨v,q1,q2,q3⟩,h'⟩,j,x,h=>by
  cases j with
  |zero=>
   simp at h;subst h
   have q1':v= .string ⟨y.toArray⟩:=q1
   subst q1'
   exact q3 0 _ rfl
  |succ j=>rw[show o+(j+1)=o+1+j by omega];exact Gm ws (o+1) h' j x (by simpa using h)
theorem q52:∀args H n,(s52 args H).1→Bw Tryz.prog 52 args H n (s52 args H).2:=by
 intro args H n h
 unfold s52 at h⊢
 split at h
 ·rename_i tok L sep
  obtain⟨ws,rfl,ht,he,h1,h2⟩:=h
  have hm:((ws.map AVal.str).map fun x=>match x with| .str s=>s|_=>[])=ws:=by rw[List.map_map];exact List.map_id _
  refine Pur.quiet ?_ H n
  refine BQ l52 ⟨⟨ht,A2 (f:=AVal.str) (fun _=>trivial) ws⟩,trivial,trivial⟩ trivial ?_
  rintro g w vs hR ⟨v,r,rfl,k1,v2,r2,rfl,k2,k3⟩
  have k2':v2= .string ⟨sep.toArray⟩:=k2
  have k3':r2=[]:=k3
  subst k2';subst k3'
  simp only[hm]
  rcases k1 with⟨k1,rfl,-⟩|⟨-,b,o,cap,⟨sp,rfl,hsp⟩,hc,hs,-⟩
  ·have:ws=[]:=by simpa using k1
   subst this
   refine(Tryz.strings_Join_none none 0 ⟨sep.toArray⟩ w).mono ?_
   rintro e w' ⟨rfl,rfl⟩
   exact⟨⟨_,rfl,rfl⟩,Below.refl _ _⟩
  ·rw[he]at hs
   cases ws with
   |nil=>
    refine(Tryz.strings_Join_none _ _ ⟨sep.toArray⟩ w).mono ?_
    rintro e w' ⟨rfl,rfl⟩
    exact⟨⟨_,rfl,rfl⟩,Below.refl _ _⟩
   |cons w0 wr=>
    obtain rfl:sp=none:=hsp.resolve_right fun q=>by cases q.1
    have hcell:=Gm _ _ hs
    have hmm:(((w0::wr).map fun s=>(⟨s.toArray⟩:ByteArray)).map (·.data.toList))=w0::wr:=by simp [Function.comp_def]
    have hb:b<w.heap.size:=Lib.lt_of_cell (a:=⟨b,_,none⟩) (hR.σw _ _ _ (hcell 0 w0 rfl))
    have hj:=Tryz.strings_Join b o cap ((w0::wr).map fun s=>(⟨s.toArray⟩:ByteArray)) ⟨sep.toArray⟩ w (fun j x hx=>by
     rw[List.getElem?_map,Option.map_eq_some_iff]at hx
     obtain⟨y,hy,rfl⟩:=hx
     exact hR.σw _ _ _ (hcell j y hy)) hb (by simpa using h1) (by simpa using hc) (by rw[hmm];exact h2)
    rw[hmm]at hj
    simp only[List.length_map]at hj⊢
    refine hj.mono ?_
    rintro e w' ⟨rfl,hw⟩
    exact⟨⟨_,rfl,rfl⟩,hw⟩
 ·rename_i id len cap sep
  split at h
  ·rename_i L ho
   obtain⟨ws,rfl,rfl,hc,h1,h2⟩:=h
   have hm:((ws.map AVal.str).map fun x=>match x with| .str s=>s|_=>[])=ws:=by rw[List.map_map];exact List.map_id _
   refine HE l52 ?_
   rintro g w vs hR ⟨v,r,rfl,k1,v2,r2,rfl,k2,k3⟩
   have k2':v2= .string ⟨sep.toArray⟩:=k2
   have k3':r2=[]:=k3
   subst k2';subst k3'
   obtain⟨Lc,b1,b2,rfl⟩:=k1
   obtain⟨Lc',c,e,o1,o2,o3,o4,o5,o6⟩:=hR.obj id _ ho
   rw[b1]at o1;cases o1
   simp only[hm]
   cases ws with
   |nil=>
    refine(Tryz.strings_Join_none _ _ ⟨sep.toArray⟩ w).mono ?_
    rintro e w' ⟨rfl,rfl⟩
    exact⟨⟨_,rfl,rfl⟩,Below.refl _ _⟩
   |cons w0 wr=>
    have hcell:=Gm _ _ o6
    have hmm:(((w0::wr).map fun s=>(⟨s.toArray⟩:ByteArray)).map (·.data.toList))=w0::wr:=by simp [Function.comp_def]
    have hb:Lc.blk<w.heap.size:=(Array.getElem?_eq_some_iff.1 o4).1
    have hj:=Tryz.strings_Join Lc.blk (0*1) cap ((w0::wr).map fun s=>(⟨s.toArray⟩:ByteArray)) ⟨sep.toArray⟩ w (fun j x hx=>by
     rw[List.getElem?_map,Option.map_eq_some_iff]at hx
     obtain⟨y,hy,rfl⟩:=hx
     have:=hcell j y hy
     rw[Nat.zero_add]at this
     simp only[Nat.zero_mul,Nat.zero_add]
     simpa [World.cell?,o4]using this) hb (by simpa using h1) (by simpa using hc) (by rw[hmm];exact h2)
    rw[hmm]at hj
    simp only[List.length_map]at hj⊢
    refine hj.mono ?_
    rintro e w' ⟨rfl,hw⟩
    exact⟨⟨_,rfl,rfl⟩,hw⟩
  ·exact h.elim
 ·exact h.elim
def T1:Tab:=tadd 51 s51 (tadd 52 s52 (tadd 89 s89 (tadd 22 s22 (tadd 90 s90 tnil))))
theorem T1_ok:AI Tryz.prog T1:=((((AI.tnil.add q90).add q22).add q89).add q52).add q51
theorem T1_90 (a:List AVal) (H:AD):T1 90 a H=s90 a H:=rfl
end Go.AM
end
section
set_option maxRecDepth 20000
set_option linter.all false
set_option maxHeartbeats 1000000
namespace Go.AM
open Go.Proofs Go.Lib
def Ch (x:Int):Bool:=(decide (97≤x)&&decide (x≤122))||(decide (65≤x)&&decide (x≤90))
def C3 (x:Int):Bool:=decide (48≤x)&&decide (x≤57)
def isSp (x:Int):Bool:=decide (x=32)||decide (x=9)||decide (x=10)||decide (x=13)
abbrev sgnL:List UInt8:=[123,125,40,41,59,44,61,58,46,60,62,33,43,45,42,47]
def Ep (x:Int):Bool:=decide (0≤indexByte sgnL (UInt8.ofNat x.toNat))
def clsI (x:Int):Int:=if Ch x then 2 else if C3 x then 3 else if x=95 then 5 else if isSp x then 1 else if Ep x then 4 else 0
def Dh (x:Int):Bool:=Ch x||C3 x||decide (x=95)
theorem p59 (x:Int):Pur Tryz.prog 59 [.int .u8 x] (.bool (Ch x)):=by
 refine .mk (by simp [unders,AVal.under]) trivial (a59 (AF AI.tnil (AE ?_)))
 simp only[eE,eN,sel,reduceCtorEq,Nat.reduceEqDiff,↓reduceIte,c59]
 rfl
theorem p61 (x:Int):Pur Tryz.prog 61 [.int .u8 x] (.bool (C3 x)):=by
 refine .mk (by simp [unders,AVal.under]) trivial (a61 (AF AI.tnil (AE ?_)))
 simp only[eE,eN,sel,reduceCtorEq,Nat.reduceEqDiff,↓reduceIte,c61]
 rfl
theorem p58 (x:Int):Pur Tryz.prog 58 [.int .u8 x] (.bool (isSp x)):=by
 refine .mk (by simp [unders,AVal.under]) trivial (a58 (AF AI.tnil (AE ?_)))
 simp only[eE,eN,sel,reduceCtorEq,Nat.reduceEqDiff,↓reduceIte,c58]
 rfl
theorem p49 (x:Int) (h0:0≤x) (h1:x<256):Pur Tryz.prog 49 [.int .u8 x] (.int .i64 (clsI x)):=by
 refine .mk (by simp [unders,AVal.under]) trivial (a49 (AF T1_ok (AE ?_)))
 simp only[eE,eN,An,sel,reduceCtorEq,Nat.reduceEqDiff,↓reduceIte,c49,T1_90,s90]
 refine⟨fun h=>?_,fun g1=>⟨fun h=>?_,fun g2=>⟨fun h=>?_,fun g3=>⟨fun h=>?_,fun g4=>⟨⟨h0,h1⟩,fun h=>?_,fun h=>?_⟩⟩⟩⟩⟩
 ·have:Ch x=true:=by simp [Ch];omega
  simp [clsI,this]
 ·have k1:Ch x=false:=by simp [Ch];simp at g1;omega
  have:C3 x=true:=by simp [C3];omega
  simp [clsI,this,k1]
 ·have k1:Ch x=false:=by simp [Ch];simp at g1;omega
  have k2:C3 x=false:=by simp [C3];simp at g2;omega
  simp only[clsI,h,if_true]
  subst h;rfl
 ·have k1:Ch x=false:=by simp [Ch];simp at g1;omega
  have k2:C3 x=false:=by simp [C3];simp at g2;omega
  have:isSp x=true:=by simp [isSp];omega
  simp [clsI,g3,this,k1,k2]
 ·have k1:Ch x=false:=by simp [Ch];simp at g1;omega
  have k2:C3 x=false:=by simp [C3];simp at g2;omega
  have k4:isSp x=false:=by simp [isSp];omega
  have k5:Ep x=true:=by simpa [Ep]using h
  simp [clsI,g3,k4,k5,k1,k2]
 ·have k1:Ch x=false:=by simp [Ch];simp at g1;omega
  have k2:C3 x=false:=by simp [C3];simp at g2;omega
  have k4:isSp x=false:=by simp [isSp];omega
  have k5:Ep x=false:=by simpa [Ep]using h
  simp [clsI,g3,k4,k5,k1,k2]
def sB (f:Int→AVal):List AVal→AD→Prop×AVal:=fun a H=>match a with
 |[.int .u8 x]=>(0≤x∧x<256,f x)
 |_=>(False,.tup [])
theorem qB {fid:FuncId} {f:Int→AVal} (h:∀x,0≤x→x<256→Pur Tryz.prog fid [.int .u8 x] (f x)):∀args H n,(sB f args H).1→Bw Tryz.prog fid args H n (sB f args H).2:=by
 intro args H n hh
 unfold sB at hh⊢
 split at hh
 ·exact(h _ hh.1 hh.2).quiet H n
 ·exact hh.elim
abbrev s49:=sB fun x=>.int .i64 (clsI x)
abbrev s59:=sB fun x=>.bool (Ch x)
abbrev s61:=sB fun x=>.bool (C3 x)
abbrev s58:=sB fun x=>.bool (isSp x)
def T2:Tab:=tadd 49 s49 (tadd 59 s59 (tadd 61 s61 (tadd 58 s58 T1)))
theorem T2_ok:AI Tryz.prog T2:=(((T1_ok.add (qB fun x _ _=>p58 x)).add (qB fun x _ _=>p61 x)).add (qB fun x _ _=>p59 x)).add (qB p49)
theorem T2_59 (a:List AVal) (H:AD):T2 59 a H=s59 a H:=rfl
theorem T2_61 (a:List AVal) (H:AD):T2 61 a H=s61 a H:=rfl
theorem p60 (x:Int) (h0:0≤x) (h1:x<256):Pur Tryz.prog 60 [.int .u8 x] (.bool (Dh x)):=by
 refine .mk (by simp [unders,AVal.under]) trivial (a60 (AF T2_ok (AE ?_)))
 simp only[eE,eN,sel,reduceCtorEq,Nat.reduceEqDiff,↓reduceIte,c60,T2_59,T2_61,sB,h0,h1]
 rfl
theorem RI:∀x:Fin 256,Ep (x.val:Int)=true↔∃j:Fin 16,((sgnL[j.val]?.getD 0).toNat:Int)=x.val:=by decide+kernel
theorem p54 (x:Int) (h0:0≤x) (h1:x<256):Pur Tryz.prog 54 [.int .u8 x] (.bool (Ep x)):=by
 obtain⟨k,rfl⟩:∃k:Nat,x=k:=⟨x.toNat,by omega⟩
 have hk:k<256:=by omega
 refine .mk (by simp [unders,AVal.under]) trivial (a54 (AF AI.tnil (AE ?_)))
 simp only[eE,eN,reduceCtorEq,Nat.reduceEqDiff,↓reduceIte,c54]
 refine AW (fun i:Nat=>⟨[(0,true,.int .u8 k),(3,true,.str sgnL),(4,true,.int .i64 i)],hnil,0⟩)
  (fun i=>i≤16∧∀j<i,((sgnL[j]?.getD 0).toNat:Int)≠k) (fun i=>16-i) 0 rfl ⟨by omega,fun j hj=>by omega⟩ ?_
 rintro i ⟨hi,hall⟩
 have e:=AO (k:=i) (by omega)
 by_cases hlt:i<16
 ·simp only[eE,eN,An,reduceCtorEq,Nat.reduceEqDiff,↓reduceIte,Nat.reduceAdd,Int.reduceEq,Int.ofNat_lt,hlt,Int.natCast_nonneg,Int.toNat_natCast,e]
  refine⟨fun h=>((RI ⟨k,hk⟩).2 ⟨⟨i,hlt⟩,h⟩).symm,fun h=>.mk (i+1) rfl ⟨by omega,fun j hj=>?_⟩ (by omega)⟩
  by_cases q:j=i
  ·subst q;exact h
  ·exact hall j (by omega)
 ·simp only[eE,eN,An,reduceCtorEq,Nat.reduceEqDiff,↓reduceIte,Nat.reduceAdd,Int.reduceEq,Int.ofNat_lt,hlt]
  refine(Bool.eq_false_iff.2 fun h=>?_).symm
  obtain⟨j,hj⟩:=(RI ⟨k,hk⟩).1 h
  exact hall j.val (by omega) hj
abbrev s60:=sB fun x=>.bool (Dh x)
abbrev s54:=sB fun x=>.bool (Ep x)
def letB (b:UInt8):Bool:=Ch b.toNat
def digB (b:UInt8):Bool:=C3 b.toNat
def F2 (b:UInt8):Bool:=Dh b.toNat
def spB (b:UInt8):Bool:=isSp b.toNat
def sgnB (b:UInt8):Bool:=Ep b.toNat
theorem OH (x:Int):clsI x=2↔Ch x=true:=by
 unfold clsI
 cases Ch x<;>cases C3 x<;>cases isSp x<;>cases Ep x<;>simp<;>split<;>simp
theorem LW (x:Int):(clsI x=2∨clsI x=3∨clsI x=5)↔Dh x=true:=by
 unfold clsI Dh
 cases Ch x<;>cases C3 x<;>cases isSp x<;>cases Ep x<;>by_cases h:x=95<;>simp [h]
theorem FF (b:UInt8):(0:Int)≤b.toNat∧(b.toNat:Int)<256:=⟨by omega,by have:=b.toNat_lt;omega⟩
def Bx (s:List UInt8):Bool:=decide (1≤s.length)&&decide (s.length≤32)&&letB (s[0]?.getD 0)&&s.all F2
def T3:Tab:=tadd 60 s60 (tadd 54 s54 T2)
theorem Sq:AI Tryz.prog T3:=(T2_ok.add (qB p54)).add (qB p60)
theorem T3_49 (a:List AVal) (H:AD):T3 49 a H=s49 a H:=rfl
theorem T3_59 (a:List AVal) (H:AD):T3 59 a H=s59 a H:=rfl
theorem T3_60 (a:List AVal) (H:AD):T3 60 a H=s60 a H:=rfl
theorem LX {s:List UInt8} {i:Nat} (hi:i<s.length) (h:Dh ((s[i]).toNat:Int)=false):s.all F2=false:=by
 refine Bool.eq_false_iff.2 fun hh=>?_
 have:=List.all_eq_true.1 hh s[i] (List.getElem_mem hi)
 unfold F2 at this
 rw[h]at this;cases this
theorem LY {s:List UInt8} (h:∀j (hj:j<s.length),Dh ((s[j]).toNat:Int)=true):s.all F2=true:=by
 refine List.all_eq_true.2 fun x hx=>?_
 obtain⟨j,hj,rfl⟩:=List.mem_iff_getElem.1 hx
 exact h j hj
theorem p53 (s:List UInt8):Pur Tryz.prog 53 [.str s] (.bool (Bx s)):=by
 refine .mk (by simp [unders,AVal.under]) trivial (a53 (AF Sq (AE ?_)))
 simp only[eE,eN,An,sel,reduceCtorEq,Nat.reduceEqDiff,↓reduceIte,Int.reduceLE,Int.reduceToNat,c53,T3_59,sB,Int.natCast_nonneg,FF]
 refine⟨by omega,fun h=>?_,fun h=>?_⟩
 ·refine(Bool.eq_false_iff.2 fun hh=>?_).symm
  simp only[Bx,Bool.and_eq_true,decide_eq_true_eq]at hh
  obtain⟨⟨⟨h1,h2⟩,h3⟩,-⟩:=hh
  rcases h with(h|h)|h
  ·omega
  ·omega
  ·rw[letB,h]at h3;cases h3
 refine AW (fun i:Nat=>⟨[(0,true,.str s),(3,true,.int .i64 i)],hnil,0⟩)
  (fun i=>i≤s.length∧∀j (hj:j<s.length),j<i→Dh ((s[j]).toNat:Int)=true) (fun i=>s.length-i) 0 rfl ⟨by omega,fun j _ hj=>by omega⟩ ?_
 rintro i ⟨hi,hall⟩
 by_cases hlt:i<s.length
 ·have e:=AO (k:=i) (by omega)
  simp only[eE,eN,An,reduceCtorEq,Nat.reduceEqDiff,↓reduceIte,Int.reduceEq,T3_60,sB,FF,Int.ofNat_lt,hlt,Int.natCast_nonneg,Int.toNat_natCast,e,List.getElem?_eq_getElem hlt,Option.getD_some]
  refine⟨fun hp=>?_,fun hp=>.mk (i+1) rfl ⟨by omega,fun j hj hji=>?_⟩ (by omega)⟩
  ·simp only[Bx,LX hlt hp,Bool.and_false]
  ·by_cases q:j=i
   ·subst q;exact hp
   ·exact hall j hj (by omega)
 ·simp only[eE,eN,An,reduceCtorEq,Nat.reduceEqDiff,↓reduceIte,Int.reduceEq,Int.ofNat_lt,hlt]
  rw[Bx,LY fun j hj=>hall j hj (by omega)]
  simp [letB,h.2];omega
theorem Ip (s:List UInt8):scmp .eql s []=decide (s.length=0):=by cases s<;>rfl
theorem p91 (s:List UInt8):Pur Tryz.prog 91 [.str s] (.bool (Bx s)):=by
 refine .mk (by simp [unders,AVal.under]) trivial (a91 (AF Sq (AE ?_)))
 simp only[eE,eN,An,sel,reduceCtorEq,Nat.reduceEqDiff,↓reduceIte,Int.reduceLE,Int.reduceToNat,c91,T3_49,sB,FF,Ip]
 refine⟨by omega,fun h=>?_,fun h=>?_⟩
 ·refine(Bool.eq_false_iff.2 fun hh=>?_).symm
  simp only[Bx,Bool.and_eq_true,decide_eq_true_eq]at hh
  obtain⟨⟨⟨h1,h2⟩,h3⟩,-⟩:=hh
  rcases h with(h|h)|h
  ·omega
  ·omega
  ·rw[OH]at h;exact h h3
 refine AW (fun i:Nat=>⟨[(0,true,.str s),(19,true,.int .i64 s.length),(20,true,.int .i64 i)],hnil,0⟩)
  (fun i=>i≤s.length∧∀j (hj:j<s.length),j<i→Dh ((s[j]).toNat:Int)=true) (fun i=>s.length-i) 0 rfl ⟨by omega,fun j _ hj=>by omega⟩ ?_
 rintro i ⟨hi,hall⟩
 by_cases hlt:i<s.length
 ·have e:=AO (k:=i) (by omega)
  simp only[eE,eN,An,sel,reduceCtorEq,Nat.reduceEqDiff,↓reduceIte,Int.reduceEq,T3_49,sB,FF,Int.ofNat_lt,hlt,Int.natCast_nonneg,Int.toNat_natCast,e,List.getElem?_eq_getElem hlt,Option.getD_some]
  refine⟨fun hp=>?_,fun hp=>.mk (i+1) rfl ⟨by omega,fun j hj hji=>?_⟩ (by omega)⟩
  ·have:Dh ((s[i]).toNat:Int)=false:=Bool.eq_false_iff.2 fun hh=>by rw[←LW]at hh;simp [hp]at hh
   simp only[Bx,LX hlt this,Bool.and_false]
  ·by_cases q:j=i
   ·subst q;rw[←LW];simp at hp;omega
   ·exact hall j hj (by omega)
 ·simp only[eE,eN,An,sel,reduceCtorEq,Nat.reduceEqDiff,↓reduceIte,Int.reduceEq,Int.ofNat_lt,hlt]
  rw[Bx,LY fun j hj=>hall j hj (by omega)]
  have h3:=h.2
  rw[OH]at h3
  simp [letB,h3];omega
end Go.AM
end
section
set_option maxRecDepth 20000
set_option linter.all false
set_option maxHeartbeats 1000000
namespace Go.AM
open Go.Proofs Go.Lib
structure Tkn where
 K:Int
 T:List UInt8
 N:Int
 A:Int
abbrev encK (t:Tkn):AVal:=.agg [.int .i64 t.K,.str t.T,.int .i64 t.N,.int .i64 t.A]
def decK:AVal→Tkn
 | .agg [.int _ a,.str s,.int _ b,.int _ c]=>⟨a,s,b,c⟩
 |_=>⟨0,[],0,0⟩
theorem Jh (t:Tkn):decK (encK t)=t:=rfl
theorem DZ (l:List Tkn):(l.map encK).map decK=l:=by rw[List.map_map];exact List.map_id _
def Sr (L:List AVal):Prop:=L=(L.map decK).map encK
theorem Bu (n:Nat) (l:List Tkn):unders n (l.map encK):=A2 (fun x=>by simp [AVal.under,unders]) l
def Ad (t:Tkn):Bool:=
 if t.K=1 then Bx t.T&&decide (t.N=0)
 else if t.K=2 then decide (t.T.length=0)&&decide (0≤t.N)&&decide (t.N≤1099511627776)
 else if t.K=3 then decide (t.T.length=1)&&sgnB (t.T[0]?.getD 0)&&decide (t.N=0)
 else false
def sS (f:List UInt8→AVal):List AVal→AD→Prop×AVal:=fun a H=>match a with
 |[.str x]=>(True,f x)
 |_=>(False,.tup [])
theorem qS {fid:FuncId} {f:List UInt8→AVal} (h:∀x,Pur Tryz.prog fid [.str x] (f x)):∀args H n,(sS f args H).1→Bw Tryz.prog fid args H n (sS f args H).2:=by
 intro args H n hh
 unfold sS at hh⊢
 split at hh
 ·exact(h _).quiet H n
 ·exact hh.elim
abbrev s91:=sS fun x=>.bool (Bx x)
def T4:Tab:=tadd 91 s91 (tadd 53 s91 T3)
theorem P3:AI Tryz.prog T4:=(Sq.add (qS p53)).add (qS p91)
theorem T4_91 (a:List AVal) (H:AD):T4 91 a H=s91 a H:=rfl
theorem T4_53 (a:List AVal) (H:AD):T4 53 a H=s91 a H:=rfl
theorem T4_49 (a:List AVal) (H:AD):T4 49 a H=s49 a H:=rfl
theorem T4_54 (a:List AVal) (H:AD):T4 54 a H=s54 a H:=rfl
theorem Ss (b:UInt8):clsI b.toNat=4↔sgnB b=true:=by
 have key:∀x:Fin 256,clsI (x.val:Int)=4↔Ep (x.val:Int)=true:=by decide+kernel
 exact key ⟨b.toNat,b.toNat_lt⟩
theorem p50 (t:Tkn):Pur Tryz.prog 50 [encK t] (.bool (Ad t)):=by
 refine .mk (by simp [unders,AVal.under]) trivial (a50 (AF P3 (AE ?_)))
 simp only[eE,eN,An,sel,Nat.reduceEqDiff,↓reduceIte,Nat.reduceAdd,Nat.reduceLeDiff,Int.reduceLE,Int.reduceToNat,c50,T4_91,sS,T4_49,sB,FF,Ip]
 refine⟨fun h=>?_,fun h1=>⟨fun h=>?_,fun h2=>⟨fun h=>⟨fun q=>?_,?_⟩,fun h3=>?_⟩⟩⟩
 ·simp [Ad,h]
 ·rw[Bool.eq_iff_iff];simp [Ad,h]
 ·omega
 ·rw[Bool.eq_iff_iff]
  simp only[Ad,h,Bool.and_eq_true,decide_eq_true_eq,Ss]
  simp
  omega
 ·simp [Ad,h1,h2,h3]
def sK (f:Tkn→AVal):List AVal→AD→Prop×AVal:=fun a H=>match a with
 |[.agg [.int .i64 a,.str s,.int .i64 b,.int .i64 c]]=>(True,f ⟨a,s,b,c⟩)
 |_=>(False,.tup [])
theorem qK {fid:FuncId} {f:Tkn→AVal} (h:∀x,Pur Tryz.prog fid [encK x] (f x)):∀args H n,(sK f args H).1→Bw Tryz.prog fid args H n (sK f args H).2:=by
 intro args H n hh
 unfold sK at hh⊢
 split at hh
 ·exact(h ⟨_,_,_,_⟩).quiet H n
 ·exact hh.elim
abbrev s50:=sK fun x=>.bool (Ad x)
theorem P4 (s t:List UInt8):scmp .neq s t= !decide (s=t):=rfl
def T5:Tab:=tadd 50 s50 T4
theorem T5_ok:AI Tryz.prog T5:=P3.add (qK p50)
end Go.AM
end
section
set_option maxRecDepth 20000
set_option linter.all false
set_option maxHeartbeats 1000000
namespace Go.AM
open Go.Proofs Go.Lib
def T6:Tab:=T5
theorem T6_ok:AI Tryz.prog T6:=T5_ok
end Go.AM
end
section
set_option maxRecDepth 20000
set_option linter.all false
set_option maxHeartbeats 1000000
namespace Go.AM
open Go.Proofs Go.Lib
def idxZ:List Int→Int→Option Nat
 |[],_=>none
 |z::r,x=>if z=x then some 0 else(idxZ r x).map (· +1)
theorem Ji {x:Int}:∀(i:Nat) (zs:List Int),zs[i]?=some x→(∀j<i,zs[j]?≠some x)→idxZ zs x=some i
 |_,[],h,_=>by simp at h
 |0,z::r,h,_=>by simp at h;simp [idxZ,h]
 |i+1,z::r,h,hn=>by
  have h0:z≠x:=fun e=>hn 0 (by omega) (by simp [e])
  rw[idxZ,if_neg h0,Ji i r (by simpa using h) fun j hj=>by have:=hn (j+1) (by omega);simpa using this]
  rfl
theorem Jj {x:Int}:∀(zs:List Int),(∀j:Nat,zs[j]?≠some x)→idxZ zs x=none
 |[],_=>rfl
 |z::r,h=>by
  have h0:z≠x:=fun e=>h 0 (by simp [e])
  rw[idxZ,if_neg h0,Jj r fun j=>by have:=h (j+1);simpa using this]
  rfl
def idxV:Option Nat→Int
 |some i=>i
 |none=>-1
theorem OI {x:Int}:∀(zs:List Int),decide (0≤idxV (idxZ zs x))=zs.contains x
 |[]=>rfl
 |z::r=>by
  have ih:=OI (x:=x) r
  rw[idxZ]
  by_cases h:z=x
  ·rw[if_pos h];simp [idxV,h]
  ·rw[if_neg h]
   have h':¬x=z:=fun e=>h e.symm
   rw[List.contains_cons,show(x==z)=false by simp [h'],Bool.false_or,←ih]
   cases idxZ r x with
   |none=>rfl
   |some i=>
    show decide ((0:Int)≤((i+1:Nat):Int))=decide ((0:Int)≤(i:Int))
    rw[decide_eq_true (by omega),decide_eq_true (by omega)]
abbrev encZ (l:List Int):List AVal:=l.map (AVal.int .i64)
def decZ:AVal→Int
 | .int _ z=>z
 |_=>0
theorem Hs (n:Nat) (l:List Int):unders n (encZ l):=A2 (f:=AVal.int .i64) (fun x=>trivial) l
theorem p133 (zs:List Int) (x:Int) (hl:zs.length<1000):Pur Tryz.prog 133 [.sl (.none 1) (encZ zs),.int .i64 x] (.int .i64 (idxV (idxZ zs x))):=by
 refine .mk ⟨⟨trivial,Hs 0 zs⟩,trivial,trivial⟩ trivial (a133 (AF AI.tnil (AE ?_)))
 simp only[eE,eN,reduceCtorEq,Nat.reduceEqDiff,↓reduceIte,Nat.reduceAdd,c133,List.length_map]
 refine AW (fun i:Nat=>⟨[(0,true,.sl (.none 1) (encZ zs)),(1,true,.int .i64 x),(7,true,.int .i64 zs.length),(8,true,.int .i64 i)],hnil,0⟩)
  (fun i=>i≤zs.length∧∀j<i,zs[j]?≠some x) (fun i=>zs.length-i) 0 rfl ⟨by omega,fun j hj=>by omega⟩ ?_
 rintro i ⟨hi,hall⟩
 by_cases hlt:i<zs.length
 ·have e:=AO (k:=i) (by omega)
  simp only[eE,eN,An,reduceCtorEq,Nat.reduceEqDiff,↓reduceIte,Int.reduceEq,List.length_map,Int.ofNat_lt,hlt,List.getElem?_map,List.getElem?_eq_getElem hlt,Int.toNat_natCast,Option.getD_some,Int.natCast_nonneg,e]
  refine⟨fun h=>?_,fun h=>.mk (i+1) rfl ⟨by omega,fun j hj=>?_⟩ (by omega)⟩
  ·rw[Ji i zs (by rw[List.getElem?_eq_getElem hlt,h]) hall];rfl
  ·by_cases q:j=i
   ·subst q;rw[List.getElem?_eq_getElem hlt];simp;exact fun e=>h e.symm
   ·exact hall j (by omega)
 ·simp only[eE,eN,An,reduceCtorEq,Nat.reduceEqDiff,↓reduceIte,Int.reduceEq,List.length_map,Int.ofNat_lt,hlt]
  rw[Jj zs fun j=>?_]
  ·rfl
  ·by_cases q:j<zs.length
   ·exact hall j (by omega)
   ·rw[List.getElem?_eq_none (by omega)];simp
def sZ (f:List Int→Int→AVal):List AVal→AD→Prop×AVal:=fun a H=>match a with
 |[.sl t L,.int .i64 x]=>(L=encZ (L.map decZ)∧(t.esz=1∨L=[])∧L.length<1000,f (L.map decZ) x)
 |_=>(False,.tup [])
theorem qZ {fid:FuncId} {f:List Int→Int→AVal} (h:∀a x,a.length<1000→Pur Tryz.prog fid [.sl (.none 1) (encZ a),.int .i64 x] (f a x)):∀args H n,(sZ f args H).1→Bw Tryz.prog fid args H n (sZ f args H).2:=by
 intro args H n hh
 unfold sZ at hh⊢
 split at hh
 ·rename_i t L x
  simp only at hh
  refine AP.args ((h (L.map decZ) x (by simpa using hh.2.2)).quiet H n) ?_
  rintro g vs ⟨v,r,rfl,k1,w,r',rfl,k2,k3⟩
  refine⟨v,_,rfl,?_,w,r',rfl,k2,k3⟩
  rw[←hh.1];exact Wk.sl hh.2.1 _ _ k1
 ·exact hh.elim
abbrev s133:=sZ fun a x=>.int .i64 (idxV (idxZ a x))
def T7:Tab:=tadd 133 s133 T6
theorem T7_ok:AI Tryz.prog T7:=T6_ok.add (qZ p133)
theorem T7_133 (a:List AVal) (H:AD):T7 133 a H=s133 a H:=rfl
theorem Iq (l:List Int):(encZ l).map decZ=l:=by rw[List.map_map];exact List.map_id _
theorem p118 (zs:List Int) (x:Int) (hl:zs.length<1000):Pur Tryz.prog 118 [.sl (.none 1) (encZ zs),.int .i64 x] (.bool (zs.contains x)):=by
 refine .mk ⟨⟨trivial,Hs 0 zs⟩,trivial,trivial⟩ trivial (a118 (AF T7_ok (AE ?_)))
 simp only[eE,eN,reduceCtorEq,Nat.reduceEqDiff,↓reduceIte,Nat.reduceAdd,c118,T7_133,sZ,Iq,List.length_map,hl,OI]
abbrev s118:=sZ fun a x=>.bool (a.contains x)
def T8:Tab:=tadd 118 s118 T7
theorem St:AI Tryz.prog T8:=T7_ok.add (qZ p118)
theorem RJ (a:List AVal) (H:AD):T8 118 a H=s118 a H:=rfl
theorem T8_49 (a:List AVal) (H:AD):T8 49 a H=s49 a H:=rfl
def runS (zs:List Int) (l:List UInt8):List UInt8:=l.takeWhile fun b=>zs.contains (clsI b.toNat)
theorem Ht {p:UInt8→Bool}:∀(k:Nat) (l:List UInt8),(∀j (hj:j<l.length),j<k→p l[j]=true)→(∀(hk:k<l.length),p l[k]=false)→l.take k=l.takeWhile p
 |0,[],_,_=>rfl
 |0,b::l,_,h=>by
  have h0:p b=false:=h (by simp)
  simp [List.takeWhile,h0]
 |k+1,[],_,_=>rfl
 |k+1,b::l,h1,h2=>by
  have h0:p b=true:=h1 0 (by simp) (by omega)
  rw[List.take_succ_cons,List.takeWhile_cons,if_pos h0,Ht k l (fun j hj hk=>by have:=h1 (j+1) (by simp;omega) (by omega);simpa using this) fun hk=>by have:=h2 (by simp;omega);simpa using this]
theorem p87 {id:Nat} {H:AD} {n:Nat} {src:List UInt8} {at':Nat} {x:AVal} {zs:List Int} (ho:hget H id=some (.box [.str src,.int .i64 at',x])) (h1:at'≤src.length) (h2:src.length<1000000000) (hz:zs.length<1000):
  Bw Tryz.prog 87 [.ptr id 0,.sl (.none 1) (encZ zs)] H n (.str (runS zs (src.drop at'))):=by
 refine Bw.of l87 trivial fun hf=>a87 (AF St (AE ?_))
 simp only[eE,eN,reduceCtorEq,Nat.reduceEqDiff,↓reduceIte,Nat.reduceAdd,Nat.reduceLeDiff,c87,ho]
 refine AW (fun i:Nat=>⟨[(0,true,.ptr id 0),(1,true,.sl (.none 1) (encZ zs)),(5,true,.int .i64 i)],H,n⟩)
  (fun i=>at'≤i∧i≤src.length∧∀j (hj:j<src.length),at'≤j→j<i→zs.contains (clsI (src[j]).toNat)=true) (fun i=>src.length-i) at' rfl ⟨by omega,by omega,fun j _ _ hj=>by omega⟩ ?_
 rintro i ⟨hi,hil,hall⟩
 have fin:(∀(hk:i<src.length),zs.contains (clsI (src[i]).toNat)=false)→(src.take i).drop at'=runS zs (src.drop at'):=by
  intro hk
  rw[List.drop_take,runS]
  refine Ht _ _ (fun j hj hji=>?_) fun hk'=>?_
  ·simp only[List.length_drop]at hj
   rw[List.getElem_drop];exact hall _ (by omega) (by omega) (by omega)
  ·simp only[List.length_drop]at hk'
   rw[List.getElem_drop]
   have:=hk (by omega)
   have e:at'+(i-at')=i:=by omega
   simp only[e];exact this
 by_cases hlt:i<src.length
 ·have e:=AO (k:=i) (by omega)
  simp only[eE,eN,An,sel,reduceCtorEq,Nat.reduceEqDiff,↓reduceIte,Nat.reduceAdd,Nat.reduceLeDiff,Int.reduceEq,ho,T8_49,sB,RJ,sZ,Iq,List.length_map,hz,FF,Int.ofNat_lt,hlt,List.getElem?_eq_getElem hlt,Int.toNat_natCast,Option.getD_some,Int.natCast_nonneg,e,FZ.refl]
  refine⟨fun hc=>.mk (i+1) rfl ⟨by omega,by omega,fun j hj h3 h4=>?_⟩ (by omega),fun hc=>⟨by omega,fin fun _=>hc⟩⟩
  by_cases q:j=i
  ·subst q;exact hc
  ·exact hall j hj h3 (by omega)
 ·simp only[eE,eN,An,sel,reduceCtorEq,Nat.reduceEqDiff,↓reduceIte,Nat.reduceAdd,Nat.reduceLeDiff,Int.reduceEq,ho,T8_49,sB,RJ,sZ,Iq,List.length_map,hz,FF,Int.ofNat_lt,hlt,FZ.refl,Int.toNat_natCast,Int.natCast_nonneg]
  exact⟨by omega,fin fun q=>absurd q hlt⟩
end Go.AM
end
section
set_option maxRecDepth 20000
set_option linter.all false
set_option maxHeartbeats 1000000
namespace Go.AM
open Go.Proofs Go.Lib
def tokK (H:AD) (tok:Tok) (out:List Tkn):Prop:=(tok= .nil∧out=[])∨∃id,tok= .own id 4∧hget H id=some .tok
def Ac (sid:Nat) (H H':AD):Prop:=∀id ob,hget H id=some ob→id≠sid→ob≠ .tok→hget H' id=some ob
theorem Ac.refl (sid:Nat) (H:AD):Ac sid H H:=fun _ _ h _ _=>h
theorem Ac.trans {sid:Nat} {H H' H'':AD} (h:Ac sid H H') (k:Ac sid H' H''):Ac sid H H'':=fun id ob x y z=>k id ob (h id ob x y z) y z
inductive ScR where
 |ok (a:Nat) (ts:List Tkn)
 |err (a:Nat)
abbrev OJ (src:List UInt8) (a:Nat) (tk:Tok) (ts:List Tkn):AObj:=.box [.str src,.int .i64 a,.sl tk (ts.map encK)]
def CH (H:AD) (n sid:Nat) (src:List UInt8):ScR→AOut→AD→Nat→Prop
 | .ok a ts=>fun o H' n'=>o= .ret (.tup [])∧n≤n'∧(∃tk,hget H' sid=some (OJ src a tk ts)∧tokK H' tk ts)∧Ab H' n'∧Ac sid H H'
 | .err a=>fun o H' n'=>o= .pan (.ifc 87 (.int .i64 a))∧n≤n'∧Ab H' n'∧Ac sid H H'
structure Sc (H:AD) (n sid:Nat) (src:List UInt8) (a:Nat) (tk:Tok) (ts:List Tkn):Prop where
 box:hget H sid=some (OJ src a tk ts)
 tok:tokK H tk ts
 fr:Ab H n
 le:a≤src.length
 sz:src.length≤65536
 few:ts.length≤a
theorem T8_50 (a:List AVal) (H:AD):T8 50 a H=s50 a H:=rfl
def addS (a:Nat) (ts:List Tkn) (text:List UInt8) (t:Tkn):ScR:=if Ad t then .ok (a+text.length) (ts++[⟨t.K,t.T,t.N,a⟩])else .err a
theorem p88 {H:AD} {n sid:Nat} {src:List UInt8} {a:Nat} {tk:Tok} {ts:List Tkn} (sc:Sc H n sid src a tk ts) (text:List UInt8) (t:Tkn) (ht:text.length≤65536):
  AP Tryz.prog 88 [.ptr sid 0,.str text,encK t] H n (CH H n sid src (addS a ts text t)):=by
 obtain⟨hb,htk,hfr,hle,hsz,hfew⟩:=sc
 have hlt:=hfr.lt hb
 have e0:(n=sid)=False:=eq_false (by omega)
 have e1:(n+8=sid)=False:=eq_false (by omega)
 have e:IntKind.wrap .i64 ((a:Int)+text.length)=((a+text.length:Nat):Int):=by rw[Fr (by omega) (by omega)];rfl
 have hn:=hfr n (Nat.le_refl _)
 have hn8:=hfr (n+8) (by omega)
 have e3:(n=n+8)=False:=eq_false (by omega)
 have l1:(ts.length≤35184372088831)=True:=eq_true (by omega)
 have l2:Ao (ts.length+1) 40=True:=eq_true (by unfold Ao;omega)
 have bad:Ad t=false→CH H n sid src (addS a ts text t) (.pan (.ifc 87 (.int .i64 a))) (hset H n (.box [.int .i64 t.K,.str t.T,.int .i64 t.N,.int .i64 t.A])) (n+1):=by
  intro hv
  simp only[addS,hv,Bool.false_eq_true,if_false]
  exact⟨rfl,by omega,hfr.hset (by omega) (by omega),fun j ob ho _ _=>by rw[AC _ _ _ _ (by have:=hfr.lt ho;omega)];exact ho⟩
 refine a88 (AF St (AE ?_))
 rcases htk with⟨rfl,rfl⟩|⟨id,rfl,hid⟩
 ·simp only[eE,eN,An,reduceCtorEq,Nat.reduceEqDiff,↓reduceIte,Nat.reduceAdd,Nat.reduceLeDiff,Nat.reduceMul,Nat.reduceLT,c88,T8_50,sK,hb,e0,e1,e,hn,hn8,e3,isF]
  refine⟨bad,fun hv=>?_⟩
  simp only[addS,hv,if_true]
  refine⟨by simp [Ao],rfl,by omega,⟨.own (n+8) 4,AB ..,.inr ⟨_,rfl,?_⟩⟩,?_,?_⟩
  ·simp only[AA]
   rw[if_neg (by omega),if_neg (by omega),if_pos trivial]
  ·intro j hj
   simp only[AA];repeat rw[if_neg (by omega)]
   exact hfr j (by omega)
  ·intro j ob ho hj hne
   have:=hfr.lt ho
   simp only[AA];repeat rw[if_neg (by omega)]
   exact ho
 ·have f1:(id=sid)=False:=eq_false (by rintro rfl;rw[hb]at hid;cases hid)
  have f2:(n=id)=False:=eq_false (by have:=hfr.lt hid;omega)
  have f3:(n+8=id)=False:=eq_false (by have:=hfr.lt hid;omega)
  have f4:(id=n+8)=False:=eq_false (by have:=hfr.lt hid;omega)
  simp only[eE,eN,An,reduceCtorEq,Nat.reduceEqDiff,↓reduceIte,Nat.reduceAdd,Nat.reduceLeDiff,Nat.reduceMul,Nat.reduceLT,c88,T8_50,sK,hb,e0,e1,e,hn,hn8,e3,isF,f1,f2,hid,List.length_map,l1,l2]
  refine⟨bad,fun hv=>?_⟩
  simp only[addS,hv,if_true]
  have hidn:=hfr.lt hid
  have hids:id≠sid:=by rintro rfl;rw[hb]at hid;cases hid
  refine⟨rfl,by omega,⟨.own (n+8) 4,?_,.inr ⟨_,rfl,?_⟩⟩,?_,?_⟩
  ·rw[AB];simp only[OJ,List.map_append,List.map_cons,List.map_nil]
  ·simp only[AA]
   rw[if_neg (by omega),if_neg (by omega),if_pos trivial]
  ·intro j hj
   simp only[AA];repeat rw[if_neg (by omega)]
   exact hfr j (by omega)
  ·intro j ob ho hj hne
   have:=hfr.lt ho
   have hji:j≠id:=by rintro rfl;rw[hid]at ho;cases ho;exact hne rfl
   simp only[AA];repeat rw[if_neg (by omega)]
   exact ho
def s87:List AVal→AD→Prop×AVal:=fun a H=>match a with
 |[.ptr id 0,.sl t L]=>match hget H id with
  |some (.box [.str src,.int .i64 p,x])=>(L=encZ (L.map decZ)∧(t.esz=1∨L=[])∧L.length<1000∧0≤p∧p≤src.length∧src.length<1000000000,.str (runS (L.map decZ) (src.drop p.toNat)))
  |_=>(False,.tup [])
 |_=>(False,.tup [])
theorem q87:∀args H n,(s87 args H).1→Bw Tryz.prog 87 args H n (s87 args H).2:=by
 intro args H n hh
 unfold s87 at hh⊢
 split at hh
 ·rename_i id t L
  split at hh
  ·rename_i src p x ho
   obtain⟨h1,h2,h3,h4,h5,h6⟩:=hh
   obtain⟨k,rfl⟩:∃k:Nat,p=k:=⟨p.toNat,by omega⟩
   simp only[]
   refine AP.args (p87 (n:=n) (zs:=L.map decZ) ho (by omega) h6 (by simpa using h3)) ?_
   rintro g vs ⟨v,r,rfl,k1,w,r',rfl,k2,k3⟩
   refine⟨v,_,rfl,k1,w,r',rfl,?_,k3⟩
   rw[←h1];exact Wk.sl h2 _ _ k2
  ·exact hh.elim
 ·exact hh.elim
def T9:Tab:=tadd 87 s87 T8
theorem HF:AI Tryz.prog T9:=St.add q87
theorem OK (a:List AVal) (H:AD):T9 87 a H=s87 a H:=rfl
theorem P5 (a:List AVal) (H:AD):T9 51 a H=s51 a H:=rfl
theorem Su (a:List AVal) (H:AD):T9 89 a H=s89 a H:=rfl
theorem T9_22 (a:List AVal) (H:AD):T9 22 a H=s22 a H:=rfl
theorem T9_90 (a:List AVal) (H:AD):T9 90 a H=s90 a H:=rfl
theorem p44 {H:AD} {n sid:Nat} {src:List UInt8} {a:Nat} {tk:Tok} {ts:List Tkn} (sc:Sc H n sid src a tk ts):AP Tryz.prog 44 [.ptr sid 0] H n (CH H n sid src (.err a)):=by
 obtain⟨hb,htk,hfr,hle,hsz,hfew⟩:=sc
 refine a44 (AF HF (AE ?_))
 simp only[eE,eN,↓reduceIte,Nat.reduceAdd,Nat.reduceLeDiff,c44,hb,isF]
 exact⟨rfl,Nat.le_refl _,hfr,.refl _ _⟩
theorem GC (zs:List Int) (l:List UInt8):(runS zs l).length≤l.length:=(List.takeWhile_sublist _).length_le
theorem p45 {H:AD} {n sid:Nat} {src:List UInt8} {a:Nat} {tk:Tok} {ts:List Tkn} (sc:Sc H n sid src a tk ts):
  AP Tryz.prog 45 [.ptr sid 0] H n (CH H n sid src (.ok (a+(runS [1] (src.drop a)).length) ts)):=by
 obtain⟨hb,htk,hfr,hle,hsz,hfew⟩:=sc
 have hlt:=hfr.lt hb
 have hr:=GC [1] (src.drop a)
 rw[List.length_drop]at hr
 refine a45 (AF HF (AE ?_))
 simp only[eE,eN,reduceCtorEq,Nat.reduceEqDiff,↓reduceIte,Nat.reduceAdd,Nat.reduceLeDiff,Nat.reduceMul,Nat.reduceLT,c45,hb,OK,s87,decZ,Int.natCast_nonneg,Int.toNat_natCast]
 have e:IntKind.wrap .i64 ((a:Int)+(runS [1] (src.drop a)).length)=((a+(runS [1] (src.drop a)).length:Nat):Int):=by rw[Fr (by omega) (by omega)];rfl
 refine⟨⟨by omega,by omega⟩,rfl,Nat.le_refl _,⟨tk,?_,?_⟩,?_,?_⟩
 ·rw[AB,e]
 ·rcases htk with h|⟨id,rfl,hid⟩
  ·exact .inl h
  ·refine .inr ⟨id,rfl,?_⟩
   rw[AC _ _ _ _ (by rintro rfl;rw[hb]at hid;cases hid)];exact hid
 ·intro j hj
  rw[AC _ _ _ _ (by omega)];exact hfr j hj
 ·intro j ob ho hj hne
  rw[AC _ _ _ _ (by omega)];exact ho
theorem Ka {H:AD} {n sid:Nat} {src:List UInt8} {r:ScR} {b:Nat} {d:Option Nat} {kp:List Nat} {s:AS} {o:AOut} {H':AD} {m:Nat} (hp:CH H n sid src r o H' m):
  retK Tryz.prog T9 b d [] kp [] (Cg [] (CH H n sid src r)) s o H' m:=by
 have hp':=hp
 cases r with
 |ok a ts=>obtain⟨rfl,-⟩:=hp';simp only[eE,eN,retK];cases d<;>exact hp
 |err a=>obtain⟨rfl,-⟩:=hp';simp only[eE,eN,retK];exact hp
theorem Sv {b:Nat} {q:Bool} {H:AD}:xE b (.nileq 0 q) H [.nilifc]=(True,H,.bool (!q)):=rfl
theorem P6 {b:Nat} {q:Bool} {H:AD} {t:Nat} {v:AVal}:xE b (.nileq 0 q) H [.ifc t v]=(True,H,.bool q):=rfl
theorem p46 {H:AD} {n sid:Nat} {src:List UInt8} {a:Nat} {tk:Tok} {ts:List Tkn} (sc:Sc H n sid src a tk ts):
  AP Tryz.prog 46 [.ptr sid 0] H n (CH H n sid src (addS a ts (runS [2,3,5] (src.drop a)) ⟨1,runS [2,3,5] (src.drop a),0,0⟩)):=by
 have sc0:=sc
 obtain⟨hb,htk,hfr,hle,hsz,hfew⟩:=sc
 have hlt:=hfr.lt hb
 have hr:=GC [2,3,5] (src.drop a)
 rw[List.length_drop]at hr
 refine a46 (AF HF (AE ?_))
 simp only[eE,eN,reduceCtorEq,Nat.reduceEqDiff,↓reduceIte,Nat.reduceAdd,Nat.reduceLeDiff,Nat.reduceMul,Nat.reduceLT,c46,hb,OK,s87,decZ,Int.natCast_nonneg,Int.toNat_natCast,Dn]
 exact⟨⟨by omega,by omega⟩,(p88 sc0 (runS [2,3,5] (src.drop a)) ⟨1,runS [2,3,5] (src.drop a),0,0⟩ (by omega)).mono fun o H' m hp=>Ka hp⟩
def numR (t:List UInt8):Option Int:=match atoiAll t with
 | .ok v=>if itoa v=t then some v else none
 |_=>none
theorem p47 {H:AD} {n sid:Nat} {src:List UInt8} {a:Nat} {tk:Tok} {ts:List Tkn} (sc:Sc H n sid src a tk ts):
  AP Tryz.prog 47 [.ptr sid 0] H n (CH H n sid src (match numR (runS [3] (src.drop a))with|some v=>addS a ts (runS [3] (src.drop a)) ⟨2,[],v,0⟩|none=>.err a)):=by
 have sc0:=sc
 obtain⟨hb,htk,hfr,hle,hsz,hfew⟩:=sc
 have hlt:=hfr.lt hb
 have hr:=GC [3] (src.drop a)
 rw[List.length_drop]at hr
 have bad:CH H n sid src (.err a) (.pan (.ifc 87 (.int .i64 a))) H n:=⟨rfl,Nat.le_refl _,hfr,.refl _ _⟩
 have r1:((a:Int)≤src.length)=True:=eq_true (by omega)
 have r2:(src.length<1000000000)=True:=eq_true (by omega)
 have r3:((runS [3] (src.drop a)).length≤281474976710656)=True:=eq_true (by omega)
 refine a47 (AF HF (AE ?_))
 generalize ht:runS [3] (src.drop a)=t at*
 cases ha:atoiAll t with
 |ok v=>
  have hv:=atoiAll_bounds ha
  simp only[eE,eN,An,sel,reduceCtorEq,Nat.reduceEqDiff,↓reduceIte,Nat.reduceAdd,Nat.reduceLeDiff,Nat.reduceMul,Nat.reduceLT,c47,hb,OK,s87,decZ,Int.natCast_nonneg,Int.toNat_natCast,Dn,Su,s89,P5,s51,ha,r1,r2,r3,ht,Sv,List.getElem?_cons_zero,List.getElem?_cons_succ,Option.getD_some,Bool.not_true,hv.1,hv.2,P4,isF]
  refine⟨fun q=>?_,fun q=>?_⟩
  ·rw[show numR t=none by simp [numR,ha,q]];exact bad
  ·rw[show numR t=some v by simp [numR,ha,q]]
   exact(p88 sc0 t ⟨2,[],v,0⟩ (by omega)).mono fun o H' m hp=>Ka hp
 |range=>
  simp only[eE,eN,An,sel,reduceCtorEq,Nat.reduceEqDiff,↓reduceIte,Nat.reduceAdd,Nat.reduceLeDiff,Nat.reduceMul,Nat.reduceLT,c47,hb,OK,s87,decZ,Int.natCast_nonneg,Int.toNat_natCast,Dn,Su,s89,P5,s51,ha,r1,r2,r3,ht,P6,List.getElem?_cons_zero,List.getElem?_cons_succ,Option.getD_some,Bool.not_true,isF]
  rw[show numR t=none by simp [numR,ha]];exact bad
 |_=>
  simp only[eE,eN,An,sel,reduceCtorEq,Nat.reduceEqDiff,↓reduceIte,Nat.reduceAdd,Nat.reduceLeDiff,Nat.reduceMul,Nat.reduceLT,Int.reduceLE,c47,hb,OK,s87,decZ,Int.natCast_nonneg,Int.toNat_natCast,Dn,Su,s89,P5,s51,ha,r1,r2,r3,ht,P6,List.getElem?_cons_zero,List.getElem?_cons_succ,Option.getD_some,Bool.not_true,isF]
  rw[show numR t=none by simp [numR,ha]];exact bad
def HG (a:Nat) (ts:List Tkn) (l:List UInt8) (len:Nat):ScR:=
 if hasPrefix l [47,47]then .ok (if 0≤indexByte l 10 then a+(indexByte l 10).toNat else len) ts
 else addS a ts (l.take 1) ⟨3,l.take 1,0,0⟩
theorem D6 (c:UInt8):∀(l:List UInt8),indexByte l c<l.length∨(indexByte l c= -1)
 |[]=>.inr rfl
 |b::l=>by
  have:=D6 c l
  have h0:=indexByte_ge l c
  rw[indexByte]
  split
  ·left;simp
  ·split
   ·right;rfl
   ·left;rename_i h;simp at h;simp only[List.length_cons];omega
theorem p48 {H:AD} {n sid:Nat} {src:List UInt8} {a:Nat} {tk:Tok} {ts:List Tkn} (sc:Sc H n sid src a tk ts) (ha:a<src.length):
  AP Tryz.prog 48 [.ptr sid 0] H n (CH H n sid src (HG a ts (src.drop a) src.length)):=by
 have sc0:=sc
 obtain⟨hb,htk,hfr,hle,hsz,hfew⟩:=sc
 have hlt:=hfr.lt hb
 have hi:=D6 10 (src.drop a)
 rw[List.length_drop]at hi
 have r1:((a:Int)≤src.length)=True:=eq_true (by omega)
 have mv:∀k:Nat,CH H n sid src (.ok k ts) (.ret (.tup [])) (hset H sid (OJ src k tk ts)) n:=by
  intro k
  refine⟨rfl,Nat.le_refl _,⟨tk,AB ..,?_⟩,?_,?_⟩
  ·rcases htk with h|⟨id,rfl,hid⟩
   ·exact .inl h
   ·refine .inr ⟨id,rfl,?_⟩
    rw[AC _ _ _ _ (by rintro rfl;rw[hb]at hid;cases hid)];exact hid
  ·intro j hj
   rw[AC _ _ _ _ (by omega)];exact hfr j hj
  ·intro j ob ho hj hne
   rw[AC _ _ _ _ (by omega)];exact ho
 have e:IntKind.wrap .i64 ((a:Int)+1)=((a+1:Nat):Int):=AO (by omega)
 refine a48 (AF HF (AE ?_))
 have t1:(src.take (a+1)).drop a=(src.drop a).take 1:=by rw[List.drop_take];congr 1;omega
 have l1:((src.drop a).take 1).length≤65536:=by rw[List.length_take];omega
 simp only[eE,eN,An,reduceCtorEq,Nat.reduceEqDiff,↓reduceIte,Nat.reduceAdd,Nat.reduceLeDiff,Int.reduceEq,Int.reduceLE,Int.reduceLT,Int.reduceToNat,c48,hb,T9_22,s22,T9_90,s90,Int.natCast_nonneg,Int.toNat_natCast,Dn,r1,e,List.take_length,t1]
 have u10:UInt8.ofNat 10=10:=rfl
 refine⟨Int.le_refl _,fun hp=>⟨Int.le_refl _,fun q=>?_,fun q=>?_⟩,fun hp=>⟨⟨by omega,by omega⟩,?_⟩⟩
 ·rw[u10]at q⊢
  have e2:IntKind.wrap .i64 ((a:Int)+indexByte (src.drop a) 10)=((a+(indexByte (src.drop a) 10).toNat:Nat):Int):=by rw[Fr (by omega) (by omega)];omega
  rw[e2,HG,if_pos hp,if_pos q]
  exact mv _
 ·rw[u10]at q
  rw[HG,if_pos hp,if_neg q]
  exact mv _
 ·rw[HG,if_neg (by simp [hp])]
  exact(p88 sc0 ((src.drop a).take 1) ⟨3,(src.drop a).take 1,0,0⟩ l1).mono fun o H' m hp=>Ka hp
end Go.AM
end
section
set_option maxRecDepth 20000
set_option linter.all false
set_option maxHeartbeats 1000000
namespace Go.AM
open Go.Proofs Go.Lib
def BG (src:List UInt8) (a:Nat) (ts:List Tkn):ScR:=
 let l:=src.drop a
 let c:=clsI ((src[a]?.getD 0).toNat:Int)
 if c=1 then .ok (a+(runS [1] l).length) ts
 else if c=2 then addS a ts (runS [2,3,5] l) ⟨1,runS [2,3,5] l,0,0⟩
 else if c=3 then(match numR (runS [3] l)with|some v=>addS a ts (runS [3] l) ⟨2,[],v,0⟩|none=>.err a)
 else if c=4 then HG a ts l src.length
 else .err a
def lexL:Nat→List UInt8→Nat→List Tkn→ScR
 |0,src,a,ts=>.ok a ts
 |f+1,src,a,ts=>if a<src.length then(match BG src a ts with| .ok a' ts'=>lexL f src a' ts'| .err e=>.err e)else .ok a ts
def lexR (src:List UInt8):ScR:=lexL (src.length+1) src 0 []
def lexV (src:List UInt8):AVal:=
 if 65536<src.length then .tup [.sl (.none 4) [],.int .i64 0,.int .i64 2]else
  match lexR src with
  | .ok _ ts=>.tup [.sl (.none 4) (ts.map encK),.int .i64 0,.int .i64 0]
  | .err a=>.tup [.sl (.none 4) [],.int .i64 a,.int .i64 100]
theorem Ml (a:List AVal) (H:AD):T9 49 a H=s49 a H:=rfl
theorem d43n {H:AD} {n i0 i1 i2:Nat}:Bz Tryz.prog 43 [.ptr i0 0,.ptr i1 0,.ptr i2 0] .nilifc H n (fun H' n'=>H'=H∧n'=n):=by
 refine a43 (AF HF (AE ?_))
 simp only[eE,eN,An,reduceCtorEq,Nat.reduceEqDiff,↓reduceIte,Nat.reduceAdd,c43,Sv,Bool.not_true]
theorem xe_tas {b:Nat} {H:AD} {t t':Nat} {z v:AVal}:xE b (.tas t false z) H [.ifc t' v]=(t'=t,H,v):=rfl
theorem d43p {H:AD} {n i0 i1 i2:Nat} {x y z:AVal} {p:Int} (h0:hget H i0=some (.box [x])) (h1:hget H i1=some (.box [y])) (h2:hget H i2=some (.box [z])) (n01:i0≠i1) (n02:i0≠i2) (n12:i1≠i2):
  Bz Tryz.prog 43 [.ptr i0 0,.ptr i1 0,.ptr i2 0] (.ifc 87 (.int .i64 p)) H n (fun H' n'=>H'=hset (hset (hset H i0 (.box [.sl .nil []])) i1 (.box [.int .i64 p])) i2 (.box [.int .i64 100])∧n'=n):=by
 refine a43 (AF HF (AE ?_))
 simp only[eE,eN,An,reduceCtorEq,Nat.reduceEqDiff,↓reduceIte,Nat.reduceAdd,c43,P6,xe_tas,h0,h1,h2,n01,n02,n12]
theorem Kb {a b c a' b' c':AVal} (h1:Wk a a') (h2:Wk b b') (h3:Wk c c'):Wk (.tup [a,b,c]) (.tup [a',b',c']):=by
 rintro g v ⟨vs,rfl,x,r,e1,k1,y,r1,rfl,k2,z,r2,rfl,k3,k4⟩
 exact⟨vs,rfl,x,_,e1,h1 _ _ k1,y,_,rfl,h2 _ _ k2,z,_,rfl,h3 _ _ k3,k4⟩
abbrev rs3:List RC:=[.c 2 1 false,.c 3 1 false,.c 4 1 false]
abbrev envL (src:List UInt8):List (Nat×Bool×AVal):=[(0,true,.str src),(2,true,.ptr 0 0),(3,true,.ptr 1 0),(4,true,.ptr 2 0)]
theorem rc_ok {src:List UInt8} {H:AD} {n:Nat} {x y z r:AVal} (h0:hget H 0=some (.box [x])) (h1:hget H 1=some (.box [y])) (h2:hget H 2=some (.box [z])) (hw:Wk (.tup [x,y,z]) r):RcOf rs3 (envL src) (Ret r) H n:=by
 unfold RcOf
 simp only[eE,reduceCtorEq,Nat.reduceEqDiff,↓reduceIte,Al,h0,h1,h2]
 exact hw
structure LxS where
 H:AD
 n:Nat
 a:Nat
 tk:Tok
 ts:List Tkn
abbrev fnsL:List AVal:=[.fn (.func 44) [] [],.fn (.func 45) [] [],.fn (.func 46) [] [],.fn (.func 47) [] [],.fn (.func 48) [] [],.fn (.func 44) [] []]
structure LxI (src:List UInt8) (x:LxS):Prop where
 sc:Sc x.H x.n 6 src x.a x.tk x.ts
 b0:hget x.H 0=some (.box [.sl .nil []])
 b1:hget x.H 1=some (.box [.int .i64 0])
 b2:hget x.H 2=some (.box [.int .i64 0])
 b3:hget x.H 3=some (.box fnsL)
 res:lexR src=lexL (src.length-x.a+1) src x.a x.ts
theorem OL (b:UInt8):clsI b.toNat=0∨clsI b.toNat=1∨clsI b.toNat=2∨clsI b.toNat=3∨clsI b.toNat=4∨clsI b.toNat=5:=by
 unfold clsI
 repeat' split
 all_goals simp
theorem Ir {c b:UInt8} {l:List UInt8} (h:(b==c)=false):indexByte (b::l) c= -1∨1≤indexByte (b::l) c:=by
 have h0:=indexByte_ge l c
 rw[indexByte,h]
 simp only[Bool.false_eq_true,if_false]
 split
 ·left;rfl
 ·right;rename_i q;simp at q;omega
theorem OM {zs:List Int} {b:UInt8} {l:List UInt8} (h:zs.contains (clsI b.toNat)=true):1≤(runS zs (b::l)).length:=by
 rw[runS,List.takeWhile_cons,if_pos h];simp
theorem Kd {a a':Nat} {ts ts':List Tkn} {text:List UInt8} {t:Tkn} (h:addS a ts text t= .ok a' ts'):a'=a+text.length∧ts'.length=ts.length+1:=by
 unfold addS at h
 split at h
 ·cases h;simp
 ·cases h
theorem Da {src:List UInt8} {a a':Nat} {ts ts':List Tkn} (hlt:a<src.length) (hf:ts.length≤a) (h:BG src a ts= .ok a' ts'):a<a'∧a'≤src.length∧ts'.length≤a':=by
 have hd:src.drop a=src[a]::src.drop (a+1):=List.drop_eq_getElem_cons hlt
 have hg:src[a]?.getD 0=src[a]:=by rw[List.getElem?_eq_getElem hlt];rfl
 have rl:∀zs,(runS zs (src.drop a)).length≤src.length-a:=fun zs=>by have:=GC zs (src.drop a);rwa[List.length_drop]at this
 have rp:∀zs:List Int,zs.contains (clsI (src[a]).toNat)=true→1≤(runS zs (src.drop a)).length:=fun zs hz=>by rw[hd];exact OM hz
 unfold BG at h
 simp only[hg]at h
 split at h
 ·rename_i hc
  have h1:=rl [1];have h2:=rp [1] (by rw[hc];rfl)
  cases h;omega
 ·split at h
  ·rename_i hc
   have h1:=rl [2,3,5];have h2:=rp [2,3,5] (by rw[hc];rfl)
   obtain⟨e1,e2⟩:=Kd h;omega
  ·split at h
   ·rename_i hc
    have h1:=rl [3];have h2:=rp [3] (by rw[hc];rfl)
    split at h
    ·obtain⟨e1,e2⟩:=Kd h;omega
    ·cases h
   ·split at h
    ·rename_i hc
     have hi:=D6 10 (src.drop a)
     rw[List.length_drop]at hi
     unfold HG at h
     split at h
     ·cases h
      have h10:(src[a]==10)=false:=by
       rw[beq_eq_false_iff_ne];intro e;rw[e]at hc;exact absurd hc (by decide)
      have h3:=Ir (l:=src.drop (a+1)) h10
      rw[←hd]at h3
      split<;>omega
     ·obtain⟨e1,e2⟩:=Kd h
      have:((src.drop a).take 1).length=1:=by rw[hd];rfl
      omega
    ·cases h
theorem FG {src:List UInt8}:∀(f:Nat) (a:Nat) (ts:List Tkn),ts.length≤a→a≤src.length→src.length-a<f→lexL f src a ts=lexL (src.length-a+1) src a ts
 |0,a,ts,_,_,h=>by omega
 |f+1,a,ts,hf,hle,h=>by
  rw[lexL,lexL]
  by_cases hlt:a<src.length
  ·rw[if_pos hlt,if_pos hlt]
   cases hs:BG src a ts with
   |err e=>rfl
   |ok a' ts'=>
    obtain⟨p1,p2,p3⟩:=Da hlt hf hs
    simp only
    rw[FG f a' ts' p3 p2 (by omega),FG (src.length-a) a' ts' p3 p2 (by omega)]
  ·rw[if_neg hlt,if_neg hlt]
theorem LxI.next {src:List UInt8} {x:LxS} (hx:LxI src x) (hlt:x.a<src.length) {a' m:Nat} {ts':List Tkn} {H':AD} {tk':Tok} (hr:BG src x.a x.ts= .ok a' ts') (hm:x.n≤m) (hbx:hget H' 6=some (OJ src a' tk' ts'))
  (htk:tokK H' tk' ts') (hfr:Ab H' m) (hfk:Ac 6 x.H H'):LxI src ⟨H',m,a',tk',ts'⟩∧src.length-a'<src.length-x.a:=by
 obtain⟨p1,p2,p3⟩:=Da hlt hx.sc.few hr
 refine⟨⟨⟨hbx,htk,hfr,p2,hx.sc.sz,p3⟩,hfk _ _ hx.b0 (by decide) (by simp),hfk _ _ hx.b1 (by decide) (by simp),hfk _ _ hx.b2 (by decide) (by simp),hfk _ _ hx.b3 (by decide) (by simp),?_⟩,by omega⟩
 rw[hx.res,lexL,if_pos hlt,hr]
 exact FG _ _ _ p3 p2 (by omega)
theorem Hu {src:List UInt8} {x:LxS} (hx:LxI src x) (hlt:x.a<src.length) (h':¬65536<src.length) {e m:Nat} {H':AD} (hr:BG src x.a x.ts= .err e) (hfk:Ac 6 x.H H'):
  N4 Tryz.prog 43 [.ptr 0 0,.ptr 1 0,.ptr 2 0] rs3 (envL src) (Ret (lexV src)) (.pan (.ifc 87 (.int .i64 e))) ⟨[],H',m⟩:=by
 have hv:lexV src= .tup [.sl (.none 4) [],.int .i64 e,.int .i64 100]:=by
  rw[lexV,if_neg h',hx.res,lexL,if_pos hlt,hr]
 rw[hv]
 refine Bz.mono (d43p (hfk _ _ hx.b0 (by decide) (by simp)) (hfk _ _ hx.b1 (by decide) (by simp)) (hfk _ _ hx.b2 (by decide) (by simp)) (by decide) (by decide) (by decide)) ?_
 rintro H2 n2 ⟨rfl,-⟩
 exact rc_ok (x:=.sl .nil []) (y:=.int .i64 e) (z:=.int .i64 100) rfl rfl rfl (Kb (Wk.sl (.inr rfl)) (Wk.refl _) (Wk.refl _))
theorem lx_end {src:List UInt8} {x:LxS} (hx:LxI src x) (hlt:¬x.a<src.length) (h':¬65536<src.length) {env:List (Nat×Bool×AVal)}:
  N4 Tryz.prog 43 [.ptr 0 0,.ptr 1 0,.ptr 2 0] rs3 (envL src) (Ret (lexV src)) .ret ⟨env,hset (hset (hset x.H 0 (.box [.sl x.tk (x.ts.map encK)])) 1 (.box [.int .i64 0])) 2 (.box [.int .i64 0]),x.n⟩:=by
 have hv:lexV src= .tup [.sl (.none 4) (x.ts.map encK),.int .i64 0,.int .i64 0]:=by
  rw[lexV,if_neg h',hx.res,lexL,if_neg hlt]
 rw[hv]
 refine Bz.mono d43n ?_
 rintro H2 n2 ⟨rfl,-⟩
 refine rc_ok (x:=.sl x.tk (x.ts.map encK)) (y:=.int .i64 0) (z:=.int .i64 0) rfl rfl rfl (Kb (Wk.sl ?_) (Wk.refl _) (Wk.refl _))
 rcases hx.sc.tok with⟨_,h2⟩|⟨id,h1,_⟩
 ·right;rw[h2];rfl
 ·left;rw[h1];rfl
theorem p18 (src:List UInt8) (hs:src.length<1000000000):Pur Tryz.prog 18 [.str src] (lexV src):=by
 refine .mk ⟨trivial,trivial⟩ (by unfold lexV;split<;>(try split)<;>simp [AVal.under,unders,Tok.under,Bu]) (a18 (AF HF (AE ?_)))
 simp only[eE,eN,An,reduceCtorEq,Nat.reduceEqDiff,↓reduceIte,Sm,Sn,FC,KS,AN,Al]
 refine⟨fun h=>?_,fun h=>?_⟩
 ·have h':65536<src.length:=by omega
  rw[lexV,if_pos h']
  exact Kb (Wk.sl (.inr rfl)) (Wk.refl _) (Wk.refl _)
 ·have h':¬65536<src.length:=by omega
  refine⟨_,_,rfl,AF HF (AE ?_)⟩
  generalize hE:List.filter (fun(e:Nat×Bool×AVal)=>Nat.blt e.1 5) _=E
  have hE':E=envL src:=by rw[←hE];rfl
  subst hE'
  clear hE
  simp only[eE,eN,reduceCtorEq,Nat.reduceEqDiff,↓reduceIte,Nat.reduceAdd,Nat.reduceLeDiff,c18]
  refine AW (fun x:LxS=>⟨[(0,true,.str src),(2,true,.ptr 0 0),(3,true,.ptr 1 0),(4,true,.ptr 2 0),(5,true,.ptr 3 0),(6,true,.ptr 6 0)],x.H,x.n⟩)
   (LxI src) (fun x=>src.length-x.a)
   ⟨hset (hset (hset (hset (hset (hset hnil 0 (.box [.sl .nil []])) 1 (.box [.int .i64 0])) 2 (.box [.int .i64 0])) 3 (.box [.nilfn,.nilfn,.nilfn,.nilfn,.nilfn,.nilfn])) 3 (.box fnsL)) 6 (.box [.str src,.int .i64 0,.sl .nil []]),8,0,.nil,[]⟩ rfl
   ⟨⟨AB ..,.inl ⟨rfl,rfl⟩,?_,Nat.zero_le _,by omega,Nat.le_refl _⟩,rfl,rfl,rfl,rfl,rfl⟩ ?_
  ·intro j hj
   have hj:8≤j:=hj
   show hget (hset _ 6 _) j=none
   simp only[AA];repeat rw[if_neg (by omega)]
   rfl
  rintro x hx
  have hb:=hx.sc.box
  have hle:=hx.sc.le
  have hb3:=hx.b3
  have hn8:=hx.sc.fr.lt hb
  by_cases hlt:x.a<src.length
  ·have hg:src[x.a]?.getD 0=src[x.a]:=by rw[List.getElem?_eq_getElem hlt];rfl
   have lt6:(0:Int)<((6:Nat):Int):=by decide
   rcases OL src[x.a]with hc|hc|hc|hc|hc|hc
   ·have hst:BG src x.a x.ts= .err x.a:=by simp [BG,hg,hc]
    simp only[eE,eN,An,reduceCtorEq,Nat.reduceEqDiff,↓reduceIte,Nat.reduceAdd,Nat.reduceLeDiff,Nat.reduceMul,Int.reduceLE,Int.reduceToNat,hb,hb3,Int.ofNat_lt,hlt,Int.natCast_nonneg,Int.toNat_natCast,List.getElem?_eq_getElem hlt,Option.getD_some,Ml,sB,FF,hc,Dn]
    refine⟨by decide,(p44 hx.sc).mono ?_⟩
    intro o H' m hp
    have hp:CH x.H x.n 6 src (BG src x.a x.ts) o H' m:=by rw[hst];exact hp
    generalize hr:BG src x.a x.ts=r at hp
    cases r with
    |ok a' ts'=>
     obtain⟨rfl,hm,⟨tk',hbx,htk⟩,hfr,hfk⟩:=hp
     simp only[eE,eN,reduceCtorEq,Nat.reduceEqDiff,↓reduceIte,retK]
     have hn:=hx.next hlt hr hm hbx htk hfr hfk
     exact .mk ⟨H',m,a',tk',ts'⟩ rfl hn.1 hn.2
    |err e=>
     obtain⟨rfl,hm,hfr,hfk⟩:=hp
     simp only[eE,eN,retK]
     exact Hu hx hlt h' hr hfk
   ·have hst:BG src x.a x.ts= .ok (x.a+(runS [1] (src.drop x.a)).length) x.ts:=by simp [BG,hg,hc]
    simp only[eE,eN,An,reduceCtorEq,Nat.reduceEqDiff,↓reduceIte,Nat.reduceAdd,Nat.reduceLeDiff,Nat.reduceMul,Int.reduceLE,Int.reduceToNat,hb,hb3,Int.ofNat_lt,hlt,Int.natCast_nonneg,Int.toNat_natCast,List.getElem?_eq_getElem hlt,Option.getD_some,Ml,sB,FF,hc,Dn]
    refine⟨by decide,(p45 hx.sc).mono ?_⟩
    intro o H' m hp
    have hp:CH x.H x.n 6 src (BG src x.a x.ts) o H' m:=by rw[hst];exact hp
    generalize hr:BG src x.a x.ts=r at hp
    cases r with
    |ok a' ts'=>
     obtain⟨rfl,hm,⟨tk',hbx,htk⟩,hfr,hfk⟩:=hp
     simp only[eE,eN,reduceCtorEq,Nat.reduceEqDiff,↓reduceIte,retK]
     have hn:=hx.next hlt hr hm hbx htk hfr hfk
     exact .mk ⟨H',m,a',tk',ts'⟩ rfl hn.1 hn.2
    |err e=>
     obtain⟨rfl,hm,hfr,hfk⟩:=hp
     simp only[eE,eN,retK]
     exact Hu hx hlt h' hr hfk
   ·have hst:BG src x.a x.ts=addS x.a x.ts (runS [2,3,5] (src.drop x.a)) ⟨1,runS [2,3,5] (src.drop x.a),0,0⟩:=by simp [BG,hg,hc]
    simp only[eE,eN,An,reduceCtorEq,Nat.reduceEqDiff,↓reduceIte,Nat.reduceAdd,Nat.reduceLeDiff,Nat.reduceMul,Int.reduceLE,Int.reduceToNat,hb,hb3,Int.ofNat_lt,hlt,Int.natCast_nonneg,Int.toNat_natCast,List.getElem?_eq_getElem hlt,Option.getD_some,Ml,sB,FF,hc,Dn]
    refine⟨by decide,(p46 hx.sc).mono ?_⟩
    intro o H' m hp
    have hp:CH x.H x.n 6 src (BG src x.a x.ts) o H' m:=by rw[hst];exact hp
    generalize hr:BG src x.a x.ts=r at hp
    cases r with
    |ok a' ts'=>
     obtain⟨rfl,hm,⟨tk',hbx,htk⟩,hfr,hfk⟩:=hp
     simp only[eE,eN,reduceCtorEq,Nat.reduceEqDiff,↓reduceIte,retK]
     have hn:=hx.next hlt hr hm hbx htk hfr hfk
     exact .mk ⟨H',m,a',tk',ts'⟩ rfl hn.1 hn.2
    |err e=>
     obtain⟨rfl,hm,hfr,hfk⟩:=hp
     simp only[eE,eN,retK]
     exact Hu hx hlt h' hr hfk
   ·have hst:BG src x.a x.ts=(match numR (runS [3] (src.drop x.a))with|some v=>addS x.a x.ts (runS [3] (src.drop x.a)) ⟨2,[],v,0⟩|none=>.err x.a):=by simp [BG,hg,hc]
    simp only[eE,eN,An,reduceCtorEq,Nat.reduceEqDiff,↓reduceIte,Nat.reduceAdd,Nat.reduceLeDiff,Nat.reduceMul,Int.reduceLE,Int.reduceToNat,hb,hb3,Int.ofNat_lt,hlt,Int.natCast_nonneg,Int.toNat_natCast,List.getElem?_eq_getElem hlt,Option.getD_some,Ml,sB,FF,hc,Dn]
    refine⟨by decide,(p47 hx.sc).mono ?_⟩
    intro o H' m hp
    have hp:CH x.H x.n 6 src (BG src x.a x.ts) o H' m:=by rw[hst];exact hp
    generalize hr:BG src x.a x.ts=r at hp
    cases r with
    |ok a' ts'=>
     obtain⟨rfl,hm,⟨tk',hbx,htk⟩,hfr,hfk⟩:=hp
     simp only[eE,eN,reduceCtorEq,Nat.reduceEqDiff,↓reduceIte,retK]
     have hn:=hx.next hlt hr hm hbx htk hfr hfk
     exact .mk ⟨H',m,a',tk',ts'⟩ rfl hn.1 hn.2
    |err e=>
     obtain⟨rfl,hm,hfr,hfk⟩:=hp
     simp only[eE,eN,retK]
     exact Hu hx hlt h' hr hfk
   ·have hst:BG src x.a x.ts=HG x.a x.ts (src.drop x.a) src.length:=by simp [BG,hg,hc]
    simp only[eE,eN,An,reduceCtorEq,Nat.reduceEqDiff,↓reduceIte,Nat.reduceAdd,Nat.reduceLeDiff,Nat.reduceMul,Int.reduceLE,Int.reduceToNat,hb,hb3,Int.ofNat_lt,hlt,Int.natCast_nonneg,Int.toNat_natCast,List.getElem?_eq_getElem hlt,Option.getD_some,Ml,sB,FF,hc,Dn]
    refine⟨by decide,(p48 hx.sc hlt).mono ?_⟩
    intro o H' m hp
    have hp:CH x.H x.n 6 src (BG src x.a x.ts) o H' m:=by rw[hst];exact hp
    generalize hr:BG src x.a x.ts=r at hp
    cases r with
    |ok a' ts'=>
     obtain⟨rfl,hm,⟨tk',hbx,htk⟩,hfr,hfk⟩:=hp
     simp only[eE,eN,reduceCtorEq,Nat.reduceEqDiff,↓reduceIte,retK]
     have hn:=hx.next hlt hr hm hbx htk hfr hfk
     exact .mk ⟨H',m,a',tk',ts'⟩ rfl hn.1 hn.2
    |err e=>
     obtain⟨rfl,hm,hfr,hfk⟩:=hp
     simp only[eE,eN,retK]
     exact Hu hx hlt h' hr hfk
   ·have hst:BG src x.a x.ts= .err x.a:=by simp [BG,hg,hc]
    simp only[eE,eN,An,reduceCtorEq,Nat.reduceEqDiff,↓reduceIte,Nat.reduceAdd,Nat.reduceLeDiff,Nat.reduceMul,Int.reduceLE,Int.reduceToNat,hb,hb3,Int.ofNat_lt,hlt,Int.natCast_nonneg,Int.toNat_natCast,List.getElem?_eq_getElem hlt,Option.getD_some,Ml,sB,FF,hc,Dn]
    refine⟨by decide,(p44 hx.sc).mono ?_⟩
    intro o H' m hp
    have hp:CH x.H x.n 6 src (BG src x.a x.ts) o H' m:=by rw[hst];exact hp
    generalize hr:BG src x.a x.ts=r at hp
    cases r with
    |ok a' ts'=>
     obtain⟨rfl,hm,⟨tk',hbx,htk⟩,hfr,hfk⟩:=hp
     simp only[eE,eN,reduceCtorEq,Nat.reduceEqDiff,↓reduceIte,retK]
     have hn:=hx.next hlt hr hm hbx htk hfr hfk
     exact .mk ⟨H',m,a',tk',ts'⟩ rfl hn.1 hn.2
    |err e=>
     obtain⟨rfl,hm,hfr,hfk⟩:=hp
     simp only[eE,eN,retK]
     exact Hu hx hlt h' hr hfk
  ·simp only[eE,eN,An,reduceCtorEq,Nat.reduceEqDiff,↓reduceIte,Nat.reduceAdd,Nat.reduceLeDiff,hb,hx.b0,hx.b1,hx.b2,Int.ofNat_lt,hlt]
   exact lx_end hx hlt h'
end Go.AM
end
section
set_option maxRecDepth 20000
set_option linter.all false
set_option maxHeartbeats 1000000
namespace Go.AM
open Go.Proofs Go.Lib
structure V40 where
 v:Nat
 s:List UInt8
def preD (v:Nat):List UInt8:=if v<10 then[]else decDigits (v/10)
theorem ON (v:Nat):decDigits v=preD v++[UInt8.ofNat (48+v % 10)]:=by
 rw[decDigits,preD]
 split
 ·rename_i h;rw[Nat.mod_eq_of_lt h];rfl
 ·rfl
theorem wu8 {n:Nat} (h:n<256):IntKind.wrap .u8 (n:Int)=n:=by
 unfold IntKind.wrap;simp [IntKind.bits,IntKind.signed];omega
theorem OO {k:Nat} (hk:k<10):(UInt8.ofNat (48+k)).toNat=48+k:=by simp;omega
theorem RK (v:Nat):IntKind.wrap .u8 (IntKind.wrap .i64 (48+(v:Int).tmod 10))=((48+v % 10:Nat):Int):=by
 have e0:(v:Int).tmod 10=((v % 10:Nat):Int):=by rw[Int.tmod_eq_emod_of_nonneg (by omega)];omega
 rw[e0,show IntKind.wrap .i64 (48+((v % 10:Nat):Int))=((48+v % 10:Nat):Int)by rw[Fr (by omega) (by omega)];omega,wu8 (by omega)]
theorem quo_mk {v:Nat} (h:v≤9223372036854775807):IntKind.wrap .i64 ((v:Int).tdiv 10)=((v/10:Nat):Int):=by
 rw[Int.tdiv_eq_ediv_of_nonneg (by omega),Fr (by omega) (by omega)];omega
theorem RL (v:Nat):∃bs:List UInt8,[AVal.int .u8 ((48+v % 10:Nat):Int)]=bs.map fun b=>.int .u8 b.toNat:=
 ⟨[UInt8.ofNat (48+v % 10)],by simp only[List.map_cons,List.map_nil,OO (Nat.mod_lt v (by omega))]⟩
theorem OP:∀(k u:Nat),u<10^(k+1)→(decDigits u).length≤k+1
 |0,u,h=>by rw[decDigits,dif_pos (by simpa using h)];simp
 |k+1,u,h=>by
  rw[decDigits]
  split
  ·simp
  ·have:=OP k (u/10) (by rw[Nat.pow_succ]at h;omega)
   simp only[List.length_append,List.length_cons,List.length_nil];omega
theorem Jk {u:Nat} (hu:u≤1099511627776):(decDigits u).length≤13:=OP 12 u (by omega)
theorem p86 (u:Nat) (hu:u≤1099511627776):Pur Tryz.prog 86 [.int .i64 u] (.str (decDigits u)):=by
 refine .mk ⟨trivial,trivial⟩ trivial (a86 (AF AI.tnil (AE ?_)))
 simp only[eE,eN,reduceCtorEq,↓reduceIte,Nat.reduceLeDiff,Nat.reduceMul,Nat.reduceLT,Int.reduceEq,c86,RK,Int.toNat_natCast]
 refine⟨RL u,?_⟩
 refine AW (fun w:V40=>⟨[(0,true,.int .i64 w.v),(3,true,.str w.s)],hnil,0⟩) (fun w=>w.v≤1099511627776∧decDigits u=preD w.v++w.s) (fun w=>w.v) ⟨u,[UInt8.ofNat (48+u % 10)]⟩ rfl ⟨hu,ON u⟩ ?_
 rintro⟨v,s⟩ ⟨hv,hd⟩
 simp only at hv hd
 have hl:s.length≤13:=by
  have:=congrArg List.length hd
  rw[List.length_append]at this
  have:=Jk hu
  omega
 by_cases h1:v<10
 ·have c1:((10:Int)≤v)=False:=eq_false (by omega)
  simp only[eE,eN,An,reduceCtorEq,Nat.reduceEqDiff,↓reduceIte,Nat.reduceLeDiff,Nat.reduceMul,Nat.reduceLT,Int.reduceEq,c1]
  rw[hd,preD,if_pos h1];rfl
 ·have c1:((10:Int)≤v)=True:=eq_true (by omega)
  simp only[eE,eN,An,reduceCtorEq,Nat.reduceEqDiff,↓reduceIte,Nat.reduceLeDiff,Nat.reduceMul,Nat.reduceLT,Int.reduceEq,c1,quo_mk (show v≤9223372036854775807 by omega),RK,Int.toNat_natCast]
  refine⟨RL (v/10),by unfold Ao;omega,.mk ⟨v/10,UInt8.ofNat (48+v/10 % 10)::s⟩ rfl ⟨by simp only[];omega,?_⟩ (by simp only[];omega)⟩
  simp only[]
  rw[hd,preD,if_neg h1,ON (v/10)];simp
structure V34 where
 i:Nat
 v:Nat
end Go.AM
end
section
set_option maxRecDepth 20000
set_option linter.all false
set_option maxHeartbeats 1000000
namespace Go.AM
open Go.Proofs Go.Lib
def B0 (t:Tkn):List UInt8:=if t.K=2 then itoa t.N else t.T
def Db (l:List Tkn):AVal:=if l.all Ad then .tup [.str (join (l.map B0) [32]),.int .i64 0]else .tup [.str [],.int .i64 100]
theorem T9_50 (a:List AVal) (H:AD):T9 50 a H=s50 a H:=rfl
theorem T9_52 (a:List AVal) (H:AD):T9 52 a H=s52 a H:=rfl
abbrev EV (l:List Tkn) (i:Nat):List AVal:=(l.take i).map (fun t=>AVal.str (B0 t))++List.replicate (l.length-i) (.str [])
theorem Hv {n:Nat}:∀{a b:List AVal},unders n a→unders n b→unders n (a++b)
 |[],_,_,hb=>hb
 |_::_,_,ha,hb=>⟨ha.1,Hv ha.2 hb⟩
theorem LZ {B:Nat}:∀(ws:List (List UInt8)),(∀w∈ws,w.length≤B)→(joinTail [32] ws).length≤ws.length*(B+1)
 |[],_=>by simp [joinTail]
 |w::r,h=>by
  have ih:=LZ r fun x hx=>h x (List.mem_cons_of_mem _ hx)
  have hw:=h w (List.mem_cons_self ..)
  simp only[joinTail,List.map_cons,List.flatten_cons,List.length_append,List.length_cons,List.length_nil]at ih⊢
  rw[Nat.add_mul];omega
theorem La {B:Nat}:∀(ws:List (List UInt8)),(∀w∈ws,w.length≤B)→(join ws [32]).length≤ws.length*(B+1)
 |[],_=>by simp [join_nil]
 |w::r,h=>by
  have ih:=LZ r fun x hx=>h x (List.mem_cons_of_mem _ hx)
  have hw:=h w (List.mem_cons_self ..)
  rw[join_cons,List.length_append,List.length_cons,Nat.add_mul];omega
theorem FH {t:Tkn} (h:Ad t=true) (hk:t.K=2):0≤t.N∧t.N≤1099511627776:=by
 simp [Ad,hk]at h;omega
theorem OQ {t:Tkn} (h:Ad t=true):t.T.length≤32:=by
 unfold Ad at h
 split at h
 ·simp [Bx]at h;omega
 ·split at h
  ·simp at h;simp [h.1]
  ·split at h
   ·simp at h;omega
   ·cases h
theorem Is {t:Tkn} (h:Ad t=true):(B0 t).length≤32:=by
 unfold B0
 split
 ·rename_i hk
  obtain⟨h1,h2⟩:=FH h hk
  rw[itoa,if_neg (by omega)]
  have:=Jk (u:=t.N.toNat) (by omega)
  omega
 ·exact OQ h
theorem p19 (l:List Tkn) (hl:l.length≤1000000):Pur Tryz.prog 19 [.sl (.none 4) (l.map encK)] (Db l):=by
 refine .mk ⟨⟨trivial,Bu 0 l⟩,trivial⟩ (by unfold Db;split<;>simp [AVal.under,unders]) (a19 (AF HF (AE ?_)))
 simp only[eE,eN,reduceCtorEq,Nat.reduceEqDiff,↓reduceIte,c19,List.length_map,Int.natCast_nonneg,Int.toNat_natCast]
 refine⟨⟨by unfold Ao;omega,by omega⟩,?_⟩
 refine AW (fun i:Nat=>⟨[(4,true,.ref 2 1 0 l.length l.length),(10,true,.sl (.none 4) (l.map encK)),(11,true,.int .i64 l.length),(12,true,.int .i64 i)],hset hnil 2 (.arr 1 (EV l i)),4⟩)
  (fun i=>i≤l.length∧∀j (hj:j<l.length),j<i→Ad l[j]=true) (fun i=>l.length-i) 0 (by simp [EV]) ⟨Nat.zero_le _,fun j _ hj=>by omega⟩ ?_
 rintro i ⟨hi,hall⟩
 have hlen:∀k,k≤l.length→(EV l k).length=l.length:=fun k hk=>by simp [EV];omega
 by_cases hlt:i<l.length
 ·have e:=AO (k:=i) (by omega)
  have hfl:=hlen i hi
  have hset':(EV l i).set i (.str (B0 l[i]))=EV l (i+1):=by
   apply List.ext_getElem?
   intro k
   simp only[EV,List.getElem?_set,List.getElem?_append,List.getElem?_map,List.length_map,List.length_take,List.getElem?_take,List.getElem?_replicate,List.length_append,List.length_replicate]
   grind
  simp only[eE,eN,E6,An,reduceCtorEq,Nat.reduceEqDiff,↓reduceIte,Nat.reduceAdd,Nat.reduceLeDiff,Int.reduceEq,List.length_map,Int.ofNat_lt,hlt,List.getElem?_map,List.getElem?_eq_getElem hlt,Int.toNat_natCast,Option.getD_some,Int.natCast_nonneg,e,T9_50,sK,P5,s51,hfl]
  have nxt:Ad l[i]=true→∀(w:List UInt8),w=B0 l[i]→lpN (fun i:Nat=>(⟨[(4,true,.ref 2 1 0 l.length l.length),(10,true,.sl (.none 4) (l.map encK)),(11,true,.int .i64 l.length),(12,true,.int .i64 i)],hset hnil 2 (.arr 1 (EV l i)),4⟩:AS))
    (fun i=>i≤l.length∧∀j (hj:j<l.length),j<i→Ad l[j]=true) (fun i=>l.length-i) i
    ⟨[(4,true,.ref 2 1 0 l.length l.length),(10,true,.sl (.none 4) (l.map encK)),(11,true,.int .i64 l.length),(12,true,.int .i64 ((i+1:Nat):Int))],
     hset (hset (hset (hset hnil 2 (.arr 1 (EV l i))) 7 (.box [.int .i64 0,.str [],.int .i64 0,.int .i64 0])) 7 (.box [.int .i64 l[i].K,.str l[i].T,.int .i64 l[i].N,.int .i64 l[i].A])) 2 (.arr 1 ((EV l i).set i (.str w))),10⟩:=by
   rintro hv w rfl
   rw[hset']
   refine⟨i+1,.inr ⟨Hq (En _ rfl),.inr ⟨rfl,⟨fun id ob ho=>?_,fun id h=>?_⟩,?_⟩⟩,⟨hlt,fun j hj hji=>?_⟩,by simp only[];omega⟩
   ·have ho':hget (hset hnil 2 (.arr 1 (EV l (i+1)))) id=some ob:=ho
    rw[AA]at ho'
    by_cases q:2=id
    ·rw[if_pos q]at ho';cases ho'
     refine⟨by show id<4;omega,⟨.arr 1 (EV l (i+1)),?_,OWk.refl _⟩,.inl ?_⟩
     ·subst q;exact AB ..
     ·exact Hv (A2 (f:=fun t=>AVal.str (B0 t)) (fun t=>trivial) _) (Fy trivial)
    ·rw[if_neg q]at ho';simp [hget,hnil]at ho'
   ·have h':hget (hset hnil 2 (.arr 1 (EV l i))) id≠none:=h
    show hget (hset hnil 2 (.arr 1 (EV l (i+1)))) id≠none
    rw[AA]at h'⊢
    by_cases q:2=id
    ·rw[if_pos q];simp
    ·rw[if_neg q]at h';simp [hget,hnil]at h'
   ·exact⟨(by show 2<4;omega),⟨trivial,Bu _ l⟩,trivial,trivial,trivial⟩
   ·by_cases q:j=i
    ·subst q;exact hv
    ·exact hall j hj (by omega)
  refine⟨fun hv=>?_,fun hv=>⟨fun hk=>⟨?_,nxt hv _ (by rw[B0,if_pos hk])⟩,fun hk=>nxt hv _ (by rw[B0,if_neg hk])⟩⟩
  ·have hv':Ad l[i]=false:=hv
   rw[Db,if_neg]
   ·exact Wk.refl _
   ·intro hh
    have:=List.all_eq_true.1 hh l[i] (List.getElem_mem hlt)
    rw[hv']at this;cases this
  ·have:=FH hv hk
   simp only at this
   omega
 ·have:i=l.length:=by omega
  subst this
  have hav:l.all Ad=true:=List.all_eq_true.2 fun t ht'=>by
   obtain⟨j,hj,rfl⟩:=List.mem_iff_getElem.1 ht'
   exact hall j hj hj
  have hfe:EV l l.length=(l.map B0).map .str:=by simp [EV,Function.comp_def]
  have hjl:=La (B:=32) (l.map B0) (fun w hw=>by
   obtain⟨t,ht',rfl⟩:=List.mem_map.1 hw
   exact Is (List.all_eq_true.1 hav t ht'))
  rw[List.length_map]at hjl
  simp only[eE,eN,E6,An,Nat.reduceEqDiff,↓reduceIte,Nat.reduceAdd,Int.reduceEq,List.length_map,Int.ofNat_lt,hlt,T9_52,s52]
  refine⟨⟨l.map B0,hfe,by simp,by simp;omega,by omega⟩,?_⟩
  rw[Db,if_pos hav,hfe]
  refine(congrArg (fun z=>Wk (.tup [.str (join z [32]),.int .i64 0]) _) ?_).mpr (Wk.refl _)
  rw[List.map_map];exact List.map_id _
end Go.AM
end
section
set_option maxRecDepth 20000
set_option linter.all false
set_option maxHeartbeats 1000000
namespace Go.AM
open Go.Proofs Go.Lib
def s18:List AVal→AD→Prop×AVal:=fun a H=>match a with
 |[.str x]=>(x.length<1000000000,lexV x)
 |_=>(False,.tup [])
theorem q18:∀args H n,(s18 args H).1→Bw Tryz.prog 18 args H n (s18 args H).2:=by
 intro args H n h
 unfold s18 at h⊢
 split at h
 ·exact(p18 _ h).quiet H n
 ·exact h.elim
def s1K (c:List Tkn→Prop) (f:List Tkn→AVal):List AVal→AD→Prop×AVal:=fun a H=>match a with
 |[.sl t L]=>(Sr L∧(t.esz=4∨L=[])∧c (L.map decK),f (L.map decK))
 |_=>(False,.tup [])
theorem q1K {fid:FuncId} {c:List Tkn→Prop} {f:List Tkn→AVal} (h:∀a:List Tkn,c a→Pur Tryz.prog fid [.sl (.none 4) (a.map encK)] (f a)):∀args H n,(s1K c f args H).1→Bw Tryz.prog fid args H n (s1K c f args H).2:=by
 intro args H n hh
 unfold s1K at hh⊢
 split at hh
 ·rename_i t L
  simp only at hh
  refine AP.args ((h (L.map decK) hh.2.2).quiet H n) ?_
  rintro g vs ⟨v,r,rfl,k1,k2⟩
  refine⟨v,_,rfl,?_,k2⟩
  rw[←hh.1];exact Wk.sl hh.2.1 _ _ k1
 ·exact hh.elim
def okT (l:List Tkn):Prop:=l.length≤1000000
abbrev s19:=s1K okT Db
end Go.AM
end
section
set_option maxRecDepth 20000
set_option linter.all false
set_option maxHeartbeats 1000000
namespace Go.AM
open Go.Proofs Go.Lib
def valN:List UInt8→Nat→Nat
 |[],n=>n
 |b::r,n=>valN r (10*n+(b.toNat-48))
theorem Ke:∀(s:List UInt8) (n:Nat),n≤valN s n
 |[],n=>Nat.le_refl _
 |b::r,n=>by have:=Ke r (10*n+(b.toNat-48));rw[valN];omega
theorem Gn:∀(s t:List UInt8) (n:Nat),valN (s++t) n=valN t (valN s n)
 |[],t,n=>rfl
 |b::r,t,n=>by rw[List.cons_append,valN,valN,Gn r t]
theorem Hw {b:UInt8} (h:digB b=true):48≤b.toNat∧b.toNat≤57:=by
 simp only[digB,C3,Bool.and_eq_true,decide_eq_true_eq]at h;omega
theorem Lb:∀(s:List UInt8) (n:Nat),(∀b∈s,digB b=true)→valN s n≤1099511627776→parseUint10 n s= .ok (valN s n)
 |[],n,_,_=>rfl
 |b::r,n,hd,h=>by
  have h1:=Hw (hd b (List.mem_cons_self ..))
  rw[valN]at h
  have:=Ke r (10*n+(b.toNat-48))
  rw[parseUint10,if_pos h1,if_neg (by omega),if_neg (by omega),valN,Nat.mul_comm n 10]
  exact Lb r _ (fun x hx=>hd x (List.mem_cons_of_mem _ hx)) h
theorem Jl:∀(s:List UInt8) (n u:Nat),(∀b∈s,digB b=true)→parseUint10 n s= .ok u→u=valN s n
 |[],n,u,_,h=>by rw[parseUint10]at h;cases h;rfl
 |b::r,n,u,hd,h=>by
  have h1:=Hw (hd b (List.mem_cons_self ..))
  rw[parseUint10,if_pos h1]at h
  split at h
  ·cases h
  ·split at h
   ·cases h
   ·rw[valN,Nat.mul_comm 10 n]
    exact Jl r _ u (fun x hx=>hd x (List.mem_cons_of_mem _ hx)) h
def canB (t:List UInt8):Bool:=decide (t.length=1)||decide ((t[0]?.getD 0).toNat≠48)
theorem dec_ne (u:Nat):decDigits u≠[]:=by rw[decDigits];split<;>simp
theorem Ld:∀(u:Nat),1≤u→((decDigits u)[0]?.getD 0).toNat≠48
 |u,h=>by
  rw[decDigits]
  split
  ·rename_i hu
   simp only[List.getElem?_cons_zero,Option.getD_some]
   rw[OO hu];omega
  ·rename_i hu
   have ih:=Ld (u/10) (by omega)
   rw[List.getElem?_append_left (by have:=dec_ne (u/10);exact List.length_pos_iff.2 this)]
   exact ih
 termination_by u=>u
theorem Sw (u:Nat):canB (decDigits u)=true:=by
 unfold canB
 by_cases h:u=0
 ·subst h;rw[decDigits,dif_pos (by decide)];rfl
 ·simp [Ld u (by omega)]
theorem Sy {t:List UInt8} (h:0<t.length) (hd:∀b∈t,digB b=true) (hc:(t[0]?.getD 0).toNat≠48):1≤valN t 0:=by
 cases t with
 |nil=>simp at h
 |cons b r=>
  have h1:=Hw (hd b (List.mem_cons_self ..))
  simp only[List.getElem?_cons_zero,Option.getD_some]at hc
  have:=Ke r (10*0+(b.toNat-48))
  rw[valN];omega
theorem Gp:∀(k:Nat) (t:List UInt8),t.length=k→0<t.length→(∀b∈t,digB b=true)→canB t=true→decDigits (valN t 0)=t
 |0,t,hk,h,_,_=>by omega
 |k+1,t,hk,h,hd,hc=>by
  obtain⟨s,b,rfl⟩:∃s b,t=s++[b]:=⟨t.dropLast,t.getLast (List.length_pos_iff.1 h),(List.dropLast_concat_getLast (List.length_pos_iff.1 h)).symm⟩
  have h1:=Hw (hd b (by simp))
  have hb:UInt8.ofNat (48+(b.toNat-48))=b:=by
   rw[show 48+(b.toNat-48)=b.toNat by omega];simp
  rw[Gn,valN,valN]
  by_cases hs:s=[]
  ·subst hs
   rw[valN,decDigits,dif_pos (by omega)]
   simp only[List.nil_append,List.cons.injEq,and_true]
   rw[show 10*0+(b.toNat-48)=b.toNat-48 by omega,hb]
  ·have hsl:0<s.length:=List.length_pos_iff.2 hs
   have hne:(s[0]?.getD 0).toNat≠48:=by
    unfold canB at hc
    rw[List.length_append,List.getElem?_append_left hsl]at hc
    simpa [show s.length≠0 by omega]using hc
   have hd':∀x∈s,digB x=true:=fun x hx=>hd x (by simp [hx])
   have hv:=Sy hsl hd' hne
   have ih:=Gp k s (by simpa using hk) hsl hd' (by unfold canB;simp [hne])
   rw[decDigits,dif_neg (by omega),show(10*valN s 0+(b.toNat-48))/10=valN s 0 by omega,ih,show(10*valN s 0+(b.toNat-48)) % 10=b.toNat-48 by omega,hb]
theorem Kf {t:List UInt8} (h:0<t.length) (hd:∀b∈t,digB b=true):decDigits (valN t 0)=t↔canB t=true:=
 ⟨fun e=>e▸Sw _,fun hc=>Gp _ t rfl h hd hc⟩
theorem It (u:Nat):itoa (u:Int)=decDigits u:=by rw[itoa,if_neg (by omega)];rfl
theorem Sz {t:List UInt8} (h:0<t.length) (hd:∀b∈t,digB b=true) (hv:valN t 0≤1099511627776):atoiAll t= .ok (valN t 0):=by
 cases t with
 |nil=>simp at h
 |cons c r=>
  have h1:=Hw (hd c (List.mem_cons_self ..))
  have hp:parseMag (c::r)= .ok (valN (c::r) 0):=by
   rw[parseMag,if_neg (by simp)];exact Lb _ _ hd hv
  simp only[atoiAll]
  rw[if_neg (by omega),hp]
  simp only
  rw[if_neg (by omega),if_neg (by omega),if_neg (by omega)]
theorem P7 {t:List UInt8} {v:Int} (h:0<t.length) (hd:∀b∈t,digB b=true) (ha:atoiAll t= .ok v):v=(valN t 0:Nat):=by
 cases t with
 |nil=>simp at h
 |cons c r=>
  have h1:=Hw (hd c (List.mem_cons_self ..))
  simp only[atoiAll]at ha
  rw[if_neg (by omega)]at ha
  cases hp:parseMag (c::r)with
  |range=>rw[hp]at ha;cases ha
  |ok u=>
   rw[hp]at ha
   have hu:u=valN (c::r) 0:=by
    rw[parseMag,if_neg (by simp)]at hp;exact Jl _ _ _ hd hp
   simp only at ha
   split at ha
   ·cases ha
   ·rename_i g1
    rw[if_neg (by omega),if_neg (by omega)]at ha
    cases ha;rw[hu]
  |_=>rw[hp]at ha;cases ha
theorem Iu (v:Int):Ad ⟨2,[],v,0⟩=(decide (0≤v)&&decide (v≤1099511627776)):=by
 simp [Ad]
theorem P8 {a:Nat} {ts:List Tkn} {t:List UInt8} (h:0<t.length) (hd:∀b∈t,digB b=true):
  (match numR t with|some v=>addS a ts t ⟨2,[],v,0⟩|none=>.err a)=if valN t 0≤1099511627776∧canB t=true then .ok (a+t.length) (ts++[⟨2,[],valN t 0,a⟩])else .err a:=by
 by_cases hv:valN t 0≤1099511627776
 ·simp only[numR,Sz h hd hv,It]
  by_cases hc:canB t=true
  ·rw[if_pos ((Kf h hd).2 hc),if_pos ⟨hv,hc⟩]
   simp only[addS]
   rw[if_pos (by rw[Iu];simp;omega)]
  ·rw[if_neg (fun e=>hc ((Kf h hd).1 e)),if_neg (fun e=>hc e.2)]
 ·rw[if_neg (fun e=>hv e.1)]
  unfold numR
  cases ha:atoiAll t with
  |range=>rfl
  |ok v=>
   have:=P7 h hd ha
   simp only
   by_cases hi:itoa v=t
   ·rw[if_pos hi]
    simp only[addS]
    rw[if_neg (by rw[Iu];simp;omega)]
   ·rw[if_neg hi]
  |_=>rfl
def lexC (src:List UInt8) (a:Nat) (ts:List Tkn):ScR:=lexL (src.length-a+1) src a ts
theorem lexR_C (src:List UInt8):lexR src=lexC src 0 []:=rfl
theorem DE {src:List UInt8} {a a':Nat} {ts ts':List Tkn} (hlt:a<src.length) (hf:ts.length≤a) (h:BG src a ts= .ok a' ts'):lexC src a ts=lexC src a' ts':=by
 obtain⟨p1,p2,p3⟩:=Da hlt hf h
 rw[lexC,lexL,if_pos hlt,h]
 exact FG _ _ _ p3 p2 (by omega)
theorem Iv {src:List UInt8} {a e:Nat} {ts:List Tkn} (hlt:a<src.length) (h:BG src a ts= .err e):lexC src a ts= .err e:=by
 rw[lexC,lexL,if_pos hlt,h]
theorem P9 {src:List UInt8} {a:Nat} {ts:List Tkn} (h:src.length≤a):lexC src a ts= .ok a ts:=by
 rw[lexC,lexL,if_neg (by omega)]
theorem FI (b:UInt8):(spB b=true→clsI b.toNat=1)∧(letB b=true→clsI b.toNat=2)∧(digB b=true→clsI b.toNat=3)∧(sgnB b=true→clsI b.toNat=4)∧
  (spB b=false→letB b=false→digB b=false→sgnB b=false→clsI b.toNat=0∨clsI b.toNat=5):=by
 have key:∀x:Fin 256,(isSp (x.val:Int)=true→clsI (x.val:Int)=1)∧(Ch (x.val:Int)=true→clsI (x.val:Int)=2)∧(C3 (x.val:Int)=true→clsI (x.val:Int)=3)∧(Ep (x.val:Int)=true→clsI (x.val:Int)=4)∧
   (isSp (x.val:Int)=false→Ch (x.val:Int)=false→C3 (x.val:Int)=false→Ep (x.val:Int)=false→clsI (x.val:Int)=0∨clsI (x.val:Int)=5):=by decide+kernel
 exact key ⟨b.toNat,b.toNat_lt⟩
theorem Gq {src:List UInt8} {a:Nat} (hlt:a<src.length):src.drop a=src[a]::src.drop (a+1):=List.drop_eq_getElem_cons hlt
theorem Gs {src:List UInt8} {a:Nat} (hlt:a<src.length):src[a]?.getD 0=src[a]:=by rw[List.getElem?_eq_getElem hlt];rfl
theorem OR {src:List UInt8} {a:Nat} {ts:List Tkn} (hlt:a<src.length) (h:clsI (src[a]).toNat=1):BG src a ts= .ok (a+(runS [1] (src.drop a)).length) ts:=by
 unfold BG
 simp only[Gs hlt]
 rw[if_pos h]
theorem S0 {src:List UInt8} {a:Nat} {ts:List Tkn} (hlt:a<src.length) (hf:ts.length≤a) (h:clsI (src[a]).toNat=1):lexC src a ts=lexC src (a+1) ts:=by
 rw[DE hlt hf (OR hlt h)]
 rw[Gq hlt,runS,List.takeWhile_cons,if_pos (by rw[h];rfl)]
 by_cases h2:a+1<src.length
 ·by_cases h3:clsI (src[a+1]).toNat=1
  ·rw[DE h2 (by omega) (OR h2 h3),List.length_cons,runS]
   congr 1;omega
  ·rw[Gq h2,List.takeWhile_cons,if_neg (by simpa using h3)];rfl
 ·rw[List.drop_eq_nil_of_le (by omega)];rfl
theorem OS {src:List UInt8} {a:Nat} {ts:List Tkn} (hlt:a<src.length) (h:letB src[a]=true):BG src a ts=if Bx (runS [2,3,5] (src.drop a))=true then .ok (a+(runS [2,3,5] (src.drop a)).length) (ts++[⟨1,runS [2,3,5] (src.drop a),0,a⟩])else .err a:=by
 have hc:=(FI src[a]).2.1 h
 unfold BG
 simp only[Gs hlt]
 rw[if_neg (by rw[hc];decide),if_pos hc,addS]
 have:Ad ⟨1,runS [2,3,5] (src.drop a),0,0⟩=Bx (runS [2,3,5] (src.drop a)):=by simp [Ad]
 rw[this]
theorem OT {b:UInt8}:[3].contains (clsI (b.toNat:Int))=digB b:=by
 have key:∀x:Fin 256,[3].contains (clsI (x.val:Int))=C3 (x.val:Int):=by decide+kernel
 exact key ⟨b.toNat,b.toNat_lt⟩
theorem QA {b:UInt8}:[2,3,5].contains (clsI (b.toNat:Int))=F2 b:=by
 have key:∀x:Fin 256,[2,3,5].contains (clsI (x.val:Int))=Dh (x.val:Int):=by decide+kernel
 exact key ⟨b.toNat,b.toNat_lt⟩
theorem S1 {l:List UInt8}:∀b∈runS [3] l,digB b=true:=fun b hb=>by
 rw[←OT];exact(List.all_takeWhile (l:=l) (p:=fun b:UInt8=>[3].contains (clsI (b.toNat:Int)))|>List.all_eq_true.1) b hb
theorem QC {src:List UInt8} {a:Nat} {ts:List Tkn} (hlt:a<src.length) (h:digB src[a]=true):BG src a ts=if valN (runS [3] (src.drop a)) 0≤1099511627776∧canB (runS [3] (src.drop a))=true then .ok (a+(runS [3] (src.drop a)).length) (ts++[⟨2,[],valN (runS [3] (src.drop a)) 0,a⟩])else .err a:=by
 have hc:=(FI src[a]).2.2.1 h
 unfold BG
 simp only[Gs hlt]
 rw[if_neg (by rw[hc];decide),if_neg (by rw[hc];decide),if_pos hc]
 refine P8 ?_ S1
 rw[Gq hlt];exact OM (by rw[hc];rfl)
theorem OU {l:List UInt8}:hasPrefix l [47,47]=true↔l[0]?=some 47∧l[1]?=some 47:=by
 match l with
 |[]=>simp [hasPrefix]
 |[b]=>simp [hasPrefix]
 |b::c::r=>simp [hasPrefix];exact⟨fun h=>⟨h.1.symm,h.2.symm⟩,fun h=>⟨h.1.symm,h.2.symm⟩⟩
theorem Lf {src:List UInt8} {a:Nat} {ts:List Tkn} (hlt:a<src.length) (h:sgnB src[a]=true):BG src a ts=HG a ts (src.drop a) src.length:=by
 have hc:=(FI src[a]).2.2.2.1 h
 unfold BG
 simp only[Gs hlt]
 rw[if_neg (by rw[hc];decide),if_neg (by rw[hc];decide),if_neg (by rw[hc];decide),if_pos hc]
theorem OV {src:List UInt8} {a:Nat} {ts:List Tkn} (hlt:a<src.length) (h:sgnB src[a]=true) (hn:¬(src[a]=47∧src[a+1]?=some 47)):BG src a ts= .ok (a+1) (ts++[⟨3,[src[a]],0,a⟩]):=by
 rw[Lf hlt h,HG,if_neg]
 ·have e:(src.drop a).take 1=[src[a]]:=by rw[Gq hlt];rfl
  rw[e,addS,if_pos (by simp [Ad,h])];rfl
 ·rw[OU,List.getElem?_drop,List.getElem?_drop]
  rw[show a+0=a from rfl,List.getElem?_eq_getElem hlt]
  simpa using hn
theorem Hx {c:UInt8}:∀{l:List UInt8},(∀b∈l,b≠c)→indexByte l c= -1
 |[],_=>rfl
 |b::l,h=>by
  rw[indexByte,Hx fun x hx=>h x (List.mem_cons_of_mem _ hx)]
  have:(b==c)=false:=by rw[beq_eq_false_iff_ne];exact h b (List.mem_cons_self ..)
  rw[this];rfl
theorem Lg {c:UInt8}:∀{l:List UInt8} {k:Nat},l[k]?=some c→(∀j<k,l[j]?≠some c)→indexByte l c=k
 |[],k,h,_=>by simp at h
 |b::l,0,h,_=>by simp at h;rw[indexByte,h];simp
 |b::l,k+1,h,hn=>by
  have h0:(b==c)=false:=by rw[beq_eq_false_iff_ne];intro e;exact hn 0 (by omega) (by simp [e])
  rw[indexByte,h0,Lg (l:=l) (k:=k) (by simpa using h) fun j hj=>by have:=hn (j+1) (by omega);simpa using this]
  simp
theorem QD {src:List UInt8} {a i:Nat} {ts:List Tkn} (hlt:a<src.length) (h1:src[a]=47) (h2:src[a+1]?=some 47) (hai:a≤i) (hil:i≤src.length) (hall:∀j (hj:j<src.length),a≤j→j<i→src[j]≠10) (he:i=src.length∨src[i]?=some 10):BG src a ts= .ok i ts:=by
 rw[Lf hlt (by rw[h1];decide),HG,if_pos]
 ·rcases he with rfl|he
  ·rw[Hx]
   ·rfl
   ·intro b hb
    obtain⟨j,hj,rfl⟩:=List.mem_iff_getElem.1 hb
    rw[List.getElem_drop]
    rw[List.length_drop]at hj
    exact hall _ (by omega) (by omega) (by omega)
  ·have:indexByte (src.drop a) 10=((i-a:Nat):Int):=by
    refine Lg ?_ fun j hj=>?_
    ·rw[List.getElem?_drop,show a+(i-a)=i by omega];exact he
    ·rw[List.getElem?_drop]
     have:i<src.length:=by
      rcases Nat.lt_or_ge i src.length with h|h
      ·exact h
      ·rw[List.getElem?_eq_none h]at he;cases he
     rw[List.getElem?_eq_getElem (by omega)]
     intro e
     exact hall (a+j) (by omega) (by omega) (by omega) (by simpa using e)
   rw[this,if_pos (by omega)]
   congr 1;simp;omega
 ·rw[OU,List.getElem?_drop,List.getElem?_drop,show a+0=a from rfl,List.getElem?_eq_getElem hlt,h1]
  exact⟨rfl,h2⟩
theorem QE {src:List UInt8} {a:Nat} {ts:List Tkn} (hlt:a<src.length) (h1:spB src[a]=false) (h2:letB src[a]=false) (h3:digB src[a]=false) (h4:sgnB src[a]=false):BG src a ts= .err a:=by
 have hc:=(FI src[a]).2.2.2.2 h1 h2 h3 h4
 unfold BG
 simp only[Gs hlt]
 rcases hc with hc|hc<;>rw[if_neg (by rw[hc];decide),if_neg (by rw[hc];decide),if_neg (by rw[hc];decide),if_neg (by rw[hc];decide)]
end Go.AM
end
section
set_option maxRecDepth 20000
set_option linter.all false
set_option maxHeartbeats 1000000
namespace Go.AM
open Go.Proofs Go.Lib
def tokX (H:AD) (tok:Tok) (out:List Tkn):Prop:=(tok= .exact 4∧out=[])∨∃id,tok= .own id 4∧hget H id=some .tok
structure V13 where
 a:Nat
 H:AD
 n:Nat
 tk:Tok
 ts:List Tkn
structure I13 (src:List UInt8) (v:V13):Prop where
 le:v.a≤src.length
 few:v.ts.length≤v.a
 tok:tokX v.H v.tk v.ts
 fr:Ab v.H v.n
 res:lexR src=lexC src v.a v.ts
end Go.AM
end
section
set_option maxRecDepth 20000
set_option linter.all false
set_option maxHeartbeats 1000000
namespace Go.AM
open Go.Proofs Go.Lib
def Jm (b:UInt8):Bool:=decide (b≠10)
def st1:List UInt8→Option (Nat×Option Tkn)
 |[]=>none
 |b::r=>
  if spB b then some (1,none)
  else if letB b then(if Bx ((b::r).takeWhile F2)then some (((b::r).takeWhile F2).length,some ⟨1,(b::r).takeWhile F2,0,0⟩)else none)
  else if digB b then(if valN ((b::r).takeWhile digB) 0≤1099511627776∧canB ((b::r).takeWhile digB)=true then some (((b::r).takeWhile digB).length,some ⟨2,[],valN ((b::r).takeWhile digB) 0,0⟩)else none)
  else if b=47∧r.head?=some 47 then some (((b::r).takeWhile Jm).length,none)
  else if sgnB b then some (1,some ⟨3,[b],0,0⟩)else none
theorem OW (l:List UInt8):runS [2,3,5] l=l.takeWhile F2:=by
 unfold runS;congr 1;funext b;exact QA
theorem OX (l:List UInt8):runS [3] l=l.takeWhile digB:=by
 unfold runS;congr 1;funext b;exact OT
theorem Jn {p:UInt8→Bool} (l:List UInt8):(l.takeWhile p).length≤l.length:=(List.takeWhile_sublist _).length_le
theorem OY {p:UInt8→Bool}:∀{l:List UInt8},(l.takeWhile p).length<l.length→∃x,l[(l.takeWhile p).length]?=some x∧p x=false
 |[],h=>by simp at h
 |b::r,h=>by
  rw[List.takeWhile_cons]at h⊢
  by_cases hp:p b=true
  ·rw[if_pos hp]at h⊢
   obtain⟨x,h1,h2⟩:=OY (l:=r) (by simpa using h)
   exact⟨x,by simpa using h1,h2⟩
  ·rw[if_neg hp]
   exact⟨b,rfl,by simpa using hp⟩
theorem tw_all {p:UInt8→Bool} {l:List UInt8} {j:Nat} (hj:j<(l.takeWhile p).length) (h:j<l.length):p l[j]=true:=by
 have h1:(l.takeWhile p)[j]∈l.takeWhile p:=List.getElem_mem hj
 have h2:(l.takeWhile p)[j]=l[j]:=by
  have:l.takeWhile p<+:l:=List.takeWhile_prefix p
  exact this.getElem hj
 rw[←h2]
 exact List.all_eq_true.1 (List.all_takeWhile (l:=l) (p:=p)) _ h1
theorem Fa {l:List UInt8} {k:Nat} {o:Option Tkn} (h:st1 l=some (k,o)):1≤k∧k≤l.length:=by
 match l with
 |[]=>cases h
 |b::r=>
  have hp:∀p:UInt8→Bool,p b=true→1≤((b::r).takeWhile p).length:=fun p hb=>by rw[List.takeWhile_cons,if_pos hb];simp
  simp only[st1]at h
  split at h
  ·cases h;simp
  ·split at h
   ·rename_i hb
    split at h
    ·cases h
     exact⟨hp _ (by simp only[letB]at hb;simp only[F2,Dh,hb,Bool.true_or]),Jn _⟩
    ·cases h
   ·split at h
    ·rename_i hb
     split at h
     ·cases h;exact⟨hp _ hb,Jn _⟩
     ·cases h
    ·split at h
     ·rename_i hb
      cases h;exact⟨hp _ (by rw[hb.1];rfl),Jn _⟩
     ·split at h
      ·cases h;simp
      ·cases h
def OZ (o:Option Tkn) (a:Nat) (r:ScR):ScR:=match o,r with
 |none,r=>r
 |some t,.ok n ts=>.ok n (⟨t.K,t.T,t.N,a⟩::ts)
 |some _,.err e=>.err e
def lx (l:List UInt8) (a:Nat):ScR:=
 match l with
 |[]=>.ok a []
 |b::r=>match h:st1 (b::r)with
  |none=>.err a
  |some (k,o)=>OZ o a (lx ((b::r).drop k) (a+k))
 termination_by l.length
 decreasing_by
  have:=Fa h
  simp only[List.length_drop];simp only[List.length_cons]at this⊢;omega
theorem Oa (a:Nat):lx [] a= .ok a []:=by rw[lx]
theorem Kg {l:List UInt8} {a:Nat} (hl:l≠[]) (h:st1 l=none):lx l a= .err a:=by
 match l,hl with
 |b::r,_=>
  rw[lx]
  split
  ·rfl
  ·rename_i k o h';rw[h]at h';cases h'
theorem Iw {l:List UInt8} {a k:Nat} {o:Option Tkn} (h:st1 l=some (k,o)):lx l a=OZ o a (lx (l.drop k) (a+k)):=by
 match l with
 |[]=>cases h
 |b::r=>
  rw[lx]
  split
  ·rename_i h';rw[h]at h';cases h'
  ·rename_i k' o' h';rw[h]at h';cases h';rfl
def appS (ts:List Tkn):ScR→ScR
 | .ok n us=>.ok n (ts++us)
 | .err e=>.err e
theorem QG (r:ScR):appS [] r=r:=by cases r<;>rfl
theorem Ob (ts:List Tkn) (t:Tkn) (a:Nat) (r:ScR):appS (ts++[⟨t.K,t.T,t.N,a⟩]) r=appS ts (OZ (some t) a r):=by
 cases r<;>simp [appS,OZ]
theorem S2 (src:List UInt8):∀(n a:Nat) (ts:List Tkn),src.length-a=n→a≤src.length→ts.length≤a→lexC src a ts=appS ts (lx (src.drop a) a):=by
 intro n
 induction n using Nat.strongRecOn with
 |_ n ih=>
 intro a ts hn hle hf
 rcases Nat.lt_or_ge a src.length with hlt|hge
 case inr=>
  rw[P9 hge,List.drop_eq_nil_of_le hge,Oa,appS,List.append_nil]
 have hd:=Gq hlt
 have hne:src.drop a≠[]:=by rw[hd];exact List.cons_ne_nil _ _
 have skip:∀k,st1 (src.drop a)=some (k,none)→lexC src a ts=lexC src (a+k) ts→lexC src a ts=appS ts (lx (src.drop a) a):=by
  intro k hs he
  obtain⟨k1,k2⟩:=Fa hs
  rw[List.length_drop]at k2
  rw[he,ih (src.length-(a+k)) (by omega) (a+k) ts rfl (by omega) (by omega),Iw hs,List.drop_drop];rfl
 have tok:∀k t,st1 (src.drop a)=some (k,some t)→lexC src a ts=lexC src (a+k) (ts++[⟨t.K,t.T,t.N,a⟩])→lexC src a ts=appS ts (lx (src.drop a) a):=by
  intro k t hs he
  obtain⟨k1,k2⟩:=Fa hs
  rw[List.length_drop]at k2
  rw[he,ih (src.length-(a+k)) (by omega) (a+k) _ rfl (by omega) (by simp;omega),Iw hs,List.drop_drop,Ob]
 have bad:st1 (src.drop a)=none→lexC src a ts= .err a→lexC src a ts=appS ts (lx (src.drop a) a):=by
  intro hs he
  rw[he,Kg hne hs];rfl
 by_cases hsp:spB src[a]=true
 ·exact skip 1 (by rw[hd];simp only[st1];rw[if_pos hsp]) (S0 hlt hf ((FI _).1 hsp))
 by_cases hlet:letB src[a]=true
 ·have hst:=OS (ts:=ts) hlt hlet
  rw[OW]at hst
  by_cases hn':Bx ((src.drop a).takeWhile F2)=true
  ·rw[if_pos hn']at hst
   refine tok _ ⟨1,(src.drop a).takeWhile F2,0,0⟩ ?_ (DE hlt hf hst)
   rw[hd]at hn'⊢;simp only[st1];rw[if_neg hsp,if_pos hlet,if_pos hn']
  ·rw[if_neg hn']at hst
   refine bad ?_ (Iv hlt hst)
   rw[hd]at hn'⊢;simp only[st1];rw[if_neg hsp,if_pos hlet,if_neg hn']
 by_cases hdig:digB src[a]=true
 ·have hst:=QC (ts:=ts) hlt hdig
  rw[OX]at hst
  by_cases hn':valN ((src.drop a).takeWhile digB) 0≤1099511627776∧canB ((src.drop a).takeWhile digB)=true
  ·rw[if_pos hn']at hst
   refine tok _ ⟨2,[],valN ((src.drop a).takeWhile digB) 0,0⟩ ?_ (DE hlt hf hst)
   rw[hd]at hn'⊢;simp only[st1];rw[if_neg hsp,if_neg hlet,if_pos hdig,if_pos hn']
  ·rw[if_neg hn']at hst
   refine bad ?_ (Iv hlt hst)
   rw[hd]at hn'⊢;simp only[st1];rw[if_neg hsp,if_neg hlet,if_pos hdig,if_neg hn']
 have hh:(src.drop (a+1)).head?=src[a+1]?:=by rw[List.head?_drop]
 by_cases hcom:src[a]=47∧src[a+1]?=some 47
 ·have hs:st1 (src.drop a)=some (((src.drop a).takeWhile Jm).length,none):=by
   rw[hd];simp only[st1];rw[if_neg hsp,if_neg hlet,if_neg hdig,if_pos (by rw[hh];exact hcom)]
  refine skip _ hs (DE hlt hf (QD hlt hcom.1 hcom.2 (by omega) (by have:=Jn (p:=Jm) (src.drop a);rw[List.length_drop]at this;omega) (fun j hj h1 h2=>?_) ?_))
  ·have:=tw_all (p:=Jm) (l:=src.drop a) (j:=j-a) (by omega) (by rw[List.length_drop];omega)
   rw[List.getElem_drop]at this
   simp only[show a+(j-a)=j by omega]at this
   simpa [Jm]using this
  ·rcases Nat.lt_or_ge ((src.drop a).takeWhile Jm).length (src.drop a).length with h|h
   ·obtain⟨x,h1,h2⟩:=OY h
    right
    rw[List.getElem?_drop]at h1
    rw[h1]
    simp [Jm]at h2
    rw[h2]
   ·left
    have:=Jn (p:=Jm) (src.drop a)
    rw[List.length_drop]at this h;omega
 by_cases hsgn:sgnB src[a]=true
 ·refine tok 1 ⟨3,[src[a]],0,0⟩ ?_ (DE hlt hf (OV hlt hsgn hcom))
  rw[hd];simp only[st1];rw[if_neg hsp,if_neg hlet,if_neg hdig,if_neg (by rw[hh];exact hcom),if_pos hsgn]
 ·refine bad ?_ (Iv hlt (QE hlt (by simpa using hsp) (by simpa using hlet) (by simpa using hdig) (by simpa using hsgn)))
  rw[hd];simp only[st1];rw[if_neg hsp,if_neg hlet,if_neg hdig,if_neg (by rw[hh];exact hcom),if_neg hsgn]
theorem S3 (src:List UInt8):lexR src=lx src 0:=by
 rw[lexR_C,S2 src _ 0 [] rfl (Nat.zero_le _) (Nat.le_refl _),List.drop_zero,QG]
end Go.AM
end
section
set_option maxRecDepth 20000
set_option linter.all false
set_option maxHeartbeats 1000000
namespace Go.AM
open Go.Proofs Go.Lib
theorem S4 {l:List UInt8} {k:Nat} {t:Tkn} (h:st1 l=some (k,some t)):Ad t=true∧B0 t=l.take k∧t.A=0:=by
 obtain⟨k1,k2⟩:=Fa h
 have tt:∀p:UInt8→Bool,l.take (l.takeWhile p).length=l.takeWhile p:=fun p=>(List.prefix_iff_eq_take.1 (List.takeWhile_prefix p)).symm
 match l with
 |[]=>cases h
 |b::r=>
  simp only[st1]at h
  split at h
  ·cases h
  ·split at h
   ·split at h
    ·rename_i q
     cases h
     refine⟨by simp [Ad,q],?_,rfl⟩
     rw[tt];rfl
    ·cases h
   ·split at h
    ·rename_i hd
     split at h
     ·rename_i q
      cases h
      have hpos:0<((b::r).takeWhile digB).length:=by rw[List.takeWhile_cons,if_pos hd];simp
      refine⟨by rw[Iu];simp;omega,?_,rfl⟩
      rw[tt,B0,if_pos rfl,It,(Kf hpos (List.all_eq_true.1 List.all_takeWhile)).2 q.2]
     ·cases h
    ·split at h
     ·cases h
     ·split at h
      ·rename_i hsg
       cases h
       exact⟨by simp [Ad,hsg],rfl,rfl⟩
      ·cases h
theorem lx_ok:∀(n:Nat) (l:List UInt8) (a e:Nat) (ts:List Tkn),l.length=n→lx l a= .ok e ts→
  e=a+l.length∧ts.all Ad=true∧(ts.map fun t=>(B0 t).length).sum≤l.length∧ts.length≤l.length:=by
 intro n
 induction n using Nat.strongRecOn with
 |_ n ih=>
 intro l a e ts hn h
 by_cases hl:l=[]
 ·subst hl;rw[Oa]at h;cases h;simp
 have hlen:=List.length_pos_iff.2 hl
 cases hs:st1 l with
 |none=>rw[Kg hl hs]at h;cases h
 |some p=>
  obtain⟨k,o⟩:=p
  obtain⟨k1,k2⟩:=Fa hs
  rw[Iw hs]at h
  cases hr:lx (l.drop k) (a+k)with
  |err e'=>rw[hr]at h;cases o<;>cases h
  |ok n' us=>
   rw[hr]at h
   obtain⟨i1,i2,i3,i4⟩:=ih (l.drop k).length (by rw[List.length_drop];omega) _ _ _ _ rfl hr
   rw[List.length_drop]at i1 i3 i4
   cases o with
   |none=>cases h;exact⟨by omega,i2,by omega,by omega⟩
   |some t=>
    cases h
    obtain⟨v1,v2,v3⟩:=S4 hs
    refine⟨by omega,?_,?_,?_⟩
    ·rw[List.all_cons,Bool.and_eq_true];exact⟨v1,i2⟩
    ·have:B0 ⟨t.K,t.T,t.N,a⟩=l.take k:=v2
     rw[List.map_cons,List.sum_cons,this,List.length_take];omega
    ·rw[List.length_cons];omega
end Go.AM
end
section
set_option maxRecDepth 20000
set_option linter.all false
set_option maxHeartbeats 1000000
namespace Go.AM
open Go.Proofs Go.Lib
end Go.AM
end
