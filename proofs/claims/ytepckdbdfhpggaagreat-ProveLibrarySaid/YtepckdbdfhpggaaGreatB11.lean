/-
  The reference of syntax: equal lists, rules, declarations (written by mku1 · The reference of grids: In, Make · The refe.
  Conditions: none beyond those of its parts.
-/
import Derived.Test.YtepckdbdfhpggaaGreatB10
import Derived.Test.YtepckdbdfhpggaaGreatB6
import Derived.Test.YtepckdbdfhpggaaGreatB7

set_option maxRecDepth 20000
set_option linter.all false
namespace Go.AM
open Go.Proofs Go.Lib
end Go.AM
namespace Go.AM
open Go.Proofs Go.Lib
def hosL (holes:List Int) (k:Nat):List Int:=((List.range k).map λ(i:Nat)=>(i:Int)).filter λp=>holes.contains p
structure VMh where
 i:Nat
 last:Int
structure VMm where
 k:Nat
 t1:Tok
 t2:Tok
 H:AB
 n:Nat
structure IMr (sh w h:Int) (holes:List Int) (m:Nat) (v:VMm):Prop where
 hk:v.k<=m
 hn:8<=v.n
 fr:AN v.H v.n
 h0:hget v.H 0=some (.box [z0,z0,z0,zs,zs])
 h6:hget v.H 6=some (.box [.int .i64 sh,.int .i64 w,.int .i64 h,.sl v.t1 ((hosL holes v.k).map eI),.sl v.t2 ((posL holes v.k).map eI)])
 tok1:tkG 1 7 v.H v.t1
 tok2:tkG 1 7 v.H v.t2
 dj:∀i,v.t1= .own i 1->v.t2≠ .own i 1
 es1:v.t1.esz=1\/hosL holes v.k=[]
 es2:v.t2.esz=1\/posL holes v.k=[]
end Go.AM
namespace Go.AM
open Go.Proofs Go.Lib
def sMk:List AVal->AB->Prop×AVal:=λa H=>match a with
 |[.int .i64 sh,.int .i64 w,.int .i64 h,x]=>(dIs.ok x/\few (dIs.dec x),CL sh w h (dIs.dec x))
 |_=>(False,.tup [])
structure IRj (g:Grd) (x:List Int) (H0:AB) (n0:Nat) (v:VRi):Prop where
 hj:v.j<=x.length
 hn:n0<=v.n
 fr:AN v.H v.n
 hk:∀id,id<n0->hget v.H id=hget H0 id
 tok:tkG 1 n0 v.H v.tc
 es:v.tc.esz=1\/v.j=0
 sub:∀q∈x.take v.j,q∈g.cells
 eq:Hf g.cells [] x=Hf g.cells (x.take v.j) (x.drop v.j)
 nd:(x.take v.j).Nodup
end Go.AM
namespace Go.AM
open Go.Proofs Go.Lib
end Go.AM
namespace Go.AM
open Go.Proofs Go.Lib
end Go.AM
namespace Go.AM
open Go.Proofs Go.Lib
end Go.AM
namespace Go.AM
open Go.Proofs Go.Lib
end Go.AM
namespace Go.AM
open Go.Proofs Go.Lib
structure VNm where
 i:Nat
 tk:Tok
 H:AB
 n:Nat
structure INm (d:Dcl) (lo m:Nat) (ns:List Bs) (v:VNm):Prop where
 hi:v.i<=m
 fr:AN v.H v.n
 hn:lo<=v.n
 h0:hget v.H 0=some (.box (AK d))
 tok:tkG 1 lo v.H v.tk
 es:v.tk.esz=1\/ns=[]
def tw:Tab:=tadd 138 (s1 dSs few λl=>.bool (Ai l)) tnil
structure VRs (α:Type) where
 i:Nat
 tk:Tok
 dn:List α
 H:AB
 n:Nat
structure IRs {α β:Type} (d:Dcl) (e:Nat) (l:List α) (f:α->Option β) (v:VRs β):Prop where
 hi:v.i<=l.length
 dl:v.dn.length=v.i
 fr:AN v.H v.n
 hn:3<=v.n
 h0:hget v.H 0=some (.box (AK d))
 tok:tkG e 3 v.H v.tk
 es:v.tk.esz=e\/v.dn=[]
 eq:Ae f l=(Ae f (l.drop v.i)).map λr=>v.dn++r
end Go.AM
namespace Go.AM
open Go.Proofs Go.Lib
end Go.AM
namespace Go.AM
open Go.Proofs Go.Lib
theorem Ex {α β:Type} {f:α->Option β}:∀{l:List α} {r:List β},Ae f l=some r->r.length=l.length/\∀y∈r,∃x∈l,f x=some y
 |[],r,h=>by
  simp only[Ae,Option.some.injEq]at h
  subst h
  exact⟨rfl,λy hy=>by cases hy⟩
 |x::l,r,h=>by
  rw[D5]at h
  cases hx:f x with
  |none=>rw[hx]at h;cases h
  |some z=>
   rw[hx]at h
   simp only at h
   cases hl:Ae f l with
   |none=>rw[hl]at h;cases h
   |some s=>
    rw[hl]at h
    simp only[XU,Option.some.injEq]at h
    subst h
    obtain⟨h1,h2⟩:=Ex hl
    refine⟨by simp [h1],λy hy=>?_⟩
    rcases XQ.1 hy with rfl|hy
    ·exact⟨x,by simp,hx⟩
    ·obtain⟨w,hw,e⟩:=h2 y hy
     exact⟨w,by simp [hw],e⟩
theorem PJ {d:Dcl} {r r':DRul} (h:BV d r=some r'):r'.ns=r.ns/\r'.os=r.os:=by
 unfold BV at h
 split at h
 ·cases h;exact⟨rfl,rfl⟩
 ·cases h
theorem JB {d x:Dcl} (hd:FewD d) (h:resD d= .ok x):FewD x:=by
 obtain⟨-,-,-,-,-,e1,e2,e3⟩:=NX h
 have key:∃cs rs,Ae (C9 d) d.clus=some cs/\Ae (BV d) d.ruls=some rs/\x.clus=cs/\x.ruls=rs:=by
  unfold resD at h
  repeat' split at h
  all_goals first
   |(cases h;done)
   |(rename_i cs hcs _ _ rs hrs
     cases h
     exact⟨_,_,hcs,hrs,rfl,rfl⟩)
 obtain⟨cs,rs,h1,h2,h3,h4⟩:=key
 obtain⟨l1,-⟩:=Ex h1
 obtain⟨l2,m2⟩:=Ex h2
 refine⟨by rw[e1];exact hd.ho,by rw[e2];exact hd.sy,by rw[e3];exact hd.rg,by rw[e3];exact hd.rgs,?_,?_,λr hr=>?_⟩
 ·rw[h3];show cs.length<_;rw[l1];exact hd.cl
 ·rw[h4];show rs.length<_;rw[l2];exact hd.ru
 ·rw[h4]at hr
  obtain⟨r0,hr0,e⟩:=m2 r hr
  obtain⟨q1,q2⟩:=PJ e
  have:=hd.rus r0 hr0
  exact⟨by rw[q1];exact this.1,by rw[q2];exact this.2⟩
end Go.AM
namespace Go.AM
open Go.Proofs Go.Lib
abbrev eLLs (ls:List (List (List Int))):AVal:=.sl (.none 1) (ls.map eLl)
abbrev AE (k:Knd):List AVal:=AK k.d++(AD k.g.sh k.g.w k.g.h k.g.holes k.g.cells++[eLl k.nb,eLLs k.ls])
abbrev BF (k:Knd):AVal:=.agg (AE k)
def PK:AVal->List (List (List Int))
 | .sl _ L=>L.map Ox
 |_=>[]
def decKn:AVal->Knd
 | .agg [nm,v,sh,w,h,ho,sy,rg,cl,ru,gs,gw,gh,gho,gce,nb,ls]=>⟨decD (.agg [nm,v,sh,w,h,ho,sy,rg,cl,ru]),Re (.agg [gs,gw,gh,gho,gce]),Ox nb,PK ls⟩
 |_=>⟨dcl0,⟨0,0,0,[],[]⟩,[],[]⟩
theorem DF (n:Nat) (l:List (List (List Int))):(eLLs l).under n:=⟨trivial,AY (Az n) _⟩
theorem Ab (n:Nat) (k:Knd):(BF k).under n:=⟨trivial,trivial,trivial,trivial,trivial,AW n _,Ec n _,Cq n _,Ed n _,Cr n _,trivial,trivial,trivial,AW n _,AW n _,Az n _,DF n _,trivial⟩
theorem Nu (l:List (List (List Int))):PK (eLLs l)=l:=Bz EP l
theorem J5 (k:Knd):decKn (BF k)=k:=by
 have h1:=Jt k.d
 have h2:=Hn k.g
 show Knd.mk (decD (encD k.d)) (Re (DS k.g)) (Ox (eLl k.nb)) (PK (eLLs k.ls))=k
 rw[h1,h2,EP,Nu]
def dLLs:Dc (List (List (List Int))):=dLi 1 eLl Ox
theorem U9 (l:List (List (List Int))):dLLs.ok (eLLs l)=True:=Hi EP (.inl rfl)
theorem SI (l:List (List (List Int))):dLLs.dec (eLLs l)=l:=FE EP
def dKn:Dc Knd:=dWk BF decKn
theorem CX (x:Knd):dKn.ok (BF x)=True:=Et J5 x
theorem Bd (x:Knd):dKn.dec (BF x)=x:=J5 x
theorem p123 (a b:List (List Int)) (hb:CK b):Pur Tryz.prog 123 [eLl a,eLl b] (.bool (decide (a=b))):=by
 refine .mk ⟨Az 0 a,Az 0 b,trivial⟩ trivial (a123 (AF Uy (AG ?_)))
 simp only[eE,eN,reduceCtorEq,Nat.reduceEqDiff,↓reduceIte,Nat.reduceAdd,c123,Tcl_e,s2f,Fa,Dq,X1 hb]
def Tke:Tab:=tadd 123 (s2 dLl dLl (λ_ b=>CK b) λa b=>.bool (decide (a=b))) tnil
theorem UI:AH Tryz.prog Tke:=AH.tnil.add (q2 p123)
theorem Tke_e (a:List AVal) (H:AB):Tke 123 a H=(s2 dLl dLl (λ_ b=>CK b) λa b=>.bool (decide (a=b))) a H:=rfl
theorem p124 (a b:List (List (List Int))) (hb:few b) (hx:∀x∈b,CK x):Pur Tryz.prog 124 [eLLs a,eLLs b,.fn (.func 123) [] []] (.bool (decide (a=b))):=by
 refine .mk ⟨DF 0 a,DF 0 b,by simp [AVal.under,unders],trivial⟩ trivial (a124 (AF UI (AG ?_)))
 by_cases hl:a.length=b.length
 case neg=>
  simp only[eE,eC,eN,reduceCtorEq,Nat.reduceEqDiff,↓reduceIte,Nat.reduceAdd,Xe,X0,c124,FU hl,Xe]
  exact(Xr λe=>hl (by rw[e])).symm
 simp only[eE,eC,eN,reduceCtorEq,Nat.reduceEqDiff,↓reduceIte,Nat.reduceAdd,X7,X0,c124,FV hl]
 refine AU (λi:Nat=>⟨[(1,true,eLLs b),(2,true,.fn (.func 123) [] []),(15,true,eLLs a),(16,true,.int .i64 a.length),(17,true,.int .i64 i)],hnil,0⟩) (λi=>i<=a.length/\∀j,j<i->a[j]?=b[j]?) (λi=>a.length-i) 0 rfl ⟨Xh _,λj hj=>by omega⟩ ?_
 rintro i ⟨hi,hall⟩
 by_cases hlt:i<a.length
 case neg=>
  simp only[eE,eC,eN,Nat.reduceEqDiff,↓reduceIte,lt_F hlt]
  exact(Xz (Cl hl λj hj=>hall j (by omega))).symm
 have hltb:i<b.length:=by omega
 have hga:=X5 hlt
 have hgb:=X5 hltb
 have e:=AL (k:=i) (by have:b.length<1000000000:=hb;omega)
 have hf:=hx _ (Xk hltb)
 by_cases hs:a[i]=b[i]
 ·simp only[eE,eC,eN,Nat.reduceEqDiff,↓reduceIte,Int.reduceEq,X7,X2,X3,X4,X0,X6,lt_T hlt,lt_T hltb,hga,hgb,e,Tke_e,s2,Fa,Dq,X1 hf,Cn hs]
  refine lpN.drop (i+1) rfl rfl rfl rfl AN.nil (λ_ _ h=>by cases h) ⟨DF 0 b,by simp [AVal.under,unders],DF 0 a,trivial,trivial,trivial⟩ ⟨hlt,λj h=>?_⟩ (by omega)
  by_cases q:j=i
  ·subst q;rw[hga,hgb,hs]
  ·exact hall j (by omega)
 ·simp only[eE,eC,eN,Nat.reduceEqDiff,↓reduceIte,Xe,X2,X3,X4,X0,X6,lt_T hlt,lt_T hltb,hga,hgb,Tke_e,s2,Fa,Dq,X1 hf,B2 hs]
  exact(Xr λq=>hs (by simp [q])).symm
structure FewKn (k:Knd):Prop where
 d:FewD k.d
 ho:wide k.g.holes
 ce:wide k.g.cells
 nb:CK k.nb
 ls:few k.ls
 lx:∀x∈k.ls,CK x
def Tks:Tab:=tadd 121 (s2 dIs dIs (λ_ b=>wide b) λa b=>.bool (decide (a=b))) (tadd 122 (s2 dD dD (λ_ b=>FewD b) λa b=>.bool (decide (a=b))) (tadd 124 (s2f 123 dLLs dLLs (λ_ b=>few b/\∀x∈b,CK x) λa b=>.bool (decide (a=b))) Tke))
theorem Tks_ok:AH Tryz.prog Tks:=((UI.add (q2f λa b h=>p124 a b h.1 h.2)).add (q2 p122)).add (q2 p121)
theorem Tks_i (a:List AVal) (H:AB):Tks 121 a H=s2 dIs dIs (λ_ b=>wide b) (λa b=>.bool (decide (a=b))) a H:=rfl
theorem Tks_s (a:List AVal) (H:AB):Tks 122 a H=s2 dD dD (λ_ b=>FewD b) (λa b=>.bool (decide (a=b))) a H:=rfl
theorem Tks_f (a:List AVal) (H:AB):Tks 124 a H=s2f 123 dLLs dLLs (λ_ b=>few b/\∀x∈b,CK x) (λa b=>.bool (decide (a=b))) a H:=rfl
theorem Tks_e (a:List AVal) (H:AB):Tks 123 a H=s2 dLl dLl (λ_ b=>CK b) (λa b=>.bool (decide (a=b))) a H:=rfl
theorem VA {a b:Knd}:a=b↔(((((((a.g.sh=b.g.sh/\a.g.w=b.g.w)/\a.g.h=b.g.h)/\a.g.holes=b.g.holes)/\a.g.cells=b.g.cells)/\a.d=b.d)/\a.nb=b.nb)/\a.ls=b.ls):=by
 obtain⟨ad,⟨a1,a2,a3,a4,a5⟩,an,al⟩:=a
 obtain⟨bd,⟨b1,b2,b3,b4,b5⟩,bn,bl⟩:=b
 simp only[Knd.mk.injEq,Grd.mk.injEq]
 constructor
 ·rintro⟨h1,⟨h2,h3,h4,h5,h6⟩,h7,h8⟩;exact⟨⟨⟨⟨⟨⟨⟨h2,h3⟩,h4⟩,h5⟩,h6⟩,h1⟩,h7⟩,h8⟩
 ·rintro⟨⟨⟨⟨⟨⟨⟨h2,h3⟩,h4⟩,h5⟩,h6⟩,h1⟩,h7⟩,h8⟩;exact⟨h1,⟨h2,h3,h4,h5,h6⟩,h7,h8⟩
theorem p86 (a b:Knd) (hb:FewKn b):Pur Tryz.prog 86 [BF a,BF b] (.bool (decide (a=b))):=by
 refine .mk ⟨Ab 0 a,Ab 0 b,trivial⟩ trivial (a86 (AF Tks_ok (AG ?_)))
 have e1:dD.ok (.agg (AK a.d))=True:=GW a.d
 have e2:dD.dec (.agg (AK a.d))=a.d:=Dx a.d
 have e3:dD.ok (.agg (AK b.d))=True:=GW b.d
 have e4:dD.dec (.agg (AK b.d))=b.d:=Dx b.d
 simp only[AK]at e1 e2 e3 e4
 simp only[eE,eC,eN,reduceCtorEq,Nat.reduceEqDiff,↓reduceIte,Nat.reduceAdd,Nat.reduceLeDiff,c86,AE,AD,AK,Tks_i,Tks_s,Tks_f,Tks_e,s2,s2f,Ax,At,Fa,Dq,U9,SI,e1,e2,e3,e4,X1 hb.d,X1 hb.ho,X1 hb.ce,X1 hb.nb,X1 hb.ls,X1 hb.lx]
 rw[Y8]
 simp only[X8,Xf,VA]
end Go.AM
namespace Go.AM
open Go.Proofs Go.Lib
end Go.AM
