/-
  The reference of syntax: equal lists, rules, declarations (written by mku1 · The reference of grids: In, Make · The refe.
  Conditions: none beyond those of its parts.
-/
import Derived.Test.YtepckdbdfhpggaaGreatB10
import Derived.Test.YtepckdbdfhpggaaGreatB6
import Derived.Test.YtepckdbdfhpggaaGreatB7

set_option maxRecDepth 20000
set_option linter.all false
namespace Go.AM
open Go.Proofs Go.Lib
end Go.AM
namespace Go.AM
open Go.Proofs Go.Lib
def hosL (holes:List Int) (k:Nat):List Int:=((List.range k).map λ(i:Nat)=>(i:Int)).filter λp=>holes.contains p
structure VMh where
 i:Nat
 last:Int
structure VMm where
 k:Nat
 t1:Tok
 t2:Tok
 H:AB
 n:Nat
structure IMr (sh w h:Int) (holes:List Int) (m:Nat) (v:VMm):Prop where
 hk:v.k<=m
 hn:8<=v.n
 fr:AN v.H v.n
 h0:hget v.H 0=some (.box [z0,z0,z0,zs,zs])
 h6:hget v.H 6=some (.box [.int .i64 sh,.int .i64 w,.int .i64 h,.sl v.t1 ((hosL holes v.k).map eI),.sl v.t2 ((posL holes v.k).map eI)])
 tok1:tkG 1 7 v.H v.t1
 tok2:tkG 1 7 v.H v.t2
 dj:∀i,v.t1= .own i 1->v.t2≠ .own i 1
 es1:v.t1.esz=1\/hosL holes v.k=[]
 es2:v.t2.esz=1\/posL holes v.k=[]
end Go.AM
namespace Go.AM
open Go.Proofs Go.Lib
def sMk:List AVal->AB->Prop×AVal:=λa H=>match a with
 |[.int .i64 sh,.int .i64 w,.int .i64 h,x]=>(dIs.ok x/\few (dIs.dec x),CI sh w h (dIs.dec x))
 |_=>(False,.tup [])
structure IRj (g:Grd) (x:List Int) (H0:AB) (n0:Nat) (v:VRi):Prop where
 hj:v.j<=x.length
 hn:n0<=v.n
 fr:AN v.H v.n
 hk:∀id,id<n0->hget v.H id=hget H0 id
 tok:tkG 1 n0 v.H v.tc
 es:v.tc.esz=1\/v.j=0
 sub:∀q∈x.take v.j,q∈g.cells
 eq:HY g.cells [] x=HY g.cells (x.take v.j) (x.drop v.j)
 nd:(x.take v.j).Nodup
end Go.AM
namespace Go.AM
open Go.Proofs Go.Lib
end Go.AM
namespace Go.AM
open Go.Proofs Go.Lib
end Go.AM
namespace Go.AM
open Go.Proofs Go.Lib
end Go.AM
namespace Go.AM
open Go.Proofs Go.Lib
end Go.AM
namespace Go.AM
open Go.Proofs Go.Lib
structure VNm where
 i:Nat
 tk:Tok
 H:AB
 n:Nat
structure INm (d:Dcl) (lo m:Nat) (ns:List Bs) (v:VNm):Prop where
 hi:v.i<=m
 fr:AN v.H v.n
 hn:lo<=v.n
 h0:hget v.H 0=some (.box (AK d))
 tok:tkG 1 lo v.H v.tk
 es:v.tk.esz=1\/ns=[]
def tw:Tab:=tadd 138 (s1 dSs few λl=>.bool (Ai l)) tnil
structure VRs (α:Type) where
 i:Nat
 tk:Tok
 dn:List α
 H:AB
 n:Nat
structure IRs {α β:Type} (d:Dcl) (e:Nat) (l:List α) (f:α->Option β) (v:VRs β):Prop where
 hi:v.i<=l.length
 dl:v.dn.length=v.i
 fr:AN v.H v.n
 hn:3<=v.n
 h0:hget v.H 0=some (.box (AK d))
 tok:tkG e 3 v.H v.tk
 es:v.tk.esz=e\/v.dn=[]
 eq:Af f l=(Af f (l.drop v.i)).map λr=>v.dn++r
end Go.AM
namespace Go.AM
open Go.Proofs Go.Lib
end Go.AM
namespace Go.AM
open Go.Proofs Go.Lib
theorem Eu {α β:Type} {f:α->Option β}:∀{l:List α} {r:List β},Af f l=some r->r.length=l.length/\∀y∈r,∃x∈l,f x=some y
 |[],r,h=>by
  simp only[Af,Option.some.injEq]at h
  subst h
  exact⟨rfl,λy hy=>by cases hy⟩
 |x::l,r,h=>by
  rw[Dy]at h
  cases hx:f x with
  |none=>rw[hx]at h;cases h
  |some z=>
   rw[hx]at h
   simp only at h
   cases hl:Af f l with
   |none=>rw[hl]at h;cases h
   |some s=>
    rw[hl]at h
    simp only[XG,Option.some.injEq]at h
    subst h
    obtain⟨h1,h2⟩:=Eu hl
    refine⟨by simp [h1],λy hy=>?_⟩
    rcases XA.1 hy with rfl|hy
    ·exact⟨x,by simp,hx⟩
    ·obtain⟨w,hw,e⟩:=h2 y hy
     exact⟨w,by simp [hw],e⟩
theorem O8 {d:Dcl} {r r':DRul} (h:BU d r=some r'):r'.ns=r.ns/\r'.os=r.os:=by
 unfold BU at h
 split at h
 ·cases h;exact⟨rfl,rfl⟩
 ·cases h
theorem I5 {d x:Dcl} (hd:FewD d) (h:resD d= .ok x):FewD x:=by
 obtain⟨-,-,-,-,-,e1,e2,e3⟩:=NP h
 have key:∃cs rs,Af (C5 d) d.clus=some cs/\Af (BU d) d.ruls=some rs/\x.clus=cs/\x.ruls=rs:=by
  unfold resD at h
  repeat' split at h
  all_goals first
   |(cases h;done)
   |(rename_i cs hcs _ _ rs hrs
     cases h
     exact⟨_,_,hcs,hrs,rfl,rfl⟩)
 obtain⟨cs,rs,h1,h2,h3,h4⟩:=key
 obtain⟨l1,-⟩:=Eu h1
 obtain⟨l2,m2⟩:=Eu h2
 refine⟨by rw[e1];exact hd.ho,by rw[e2];exact hd.sy,by rw[e3];exact hd.rg,by rw[e3];exact hd.rgs,?_,?_,λr hr=>?_⟩
 ·rw[h3];show cs.length<_;rw[l1];exact hd.cl
 ·rw[h4];show rs.length<_;rw[l2];exact hd.ru
 ·rw[h4]at hr
  obtain⟨r0,hr0,e⟩:=m2 r hr
  obtain⟨q1,q2⟩:=O8 e
  have:=hd.rus r0 hr0
  exact⟨by rw[q1];exact this.1,by rw[q2];exact this.2⟩
end Go.AM
namespace Go.AM
open Go.Proofs Go.Lib
abbrev eLLs (ls:List (List (List Int))):AVal:=.sl (.none 1) (ls.map eLl)
abbrev AD (k:Knd):List AVal:=AK k.d++(AE k.g.sh k.g.w k.g.h k.g.holes k.g.cells++[eLl k.nb,eLLs k.ls])
abbrev BJ (k:Knd):AVal:=.agg (AD k)
def O9:AVal->List (List (List Int))
 | .sl _ L=>L.map Ok
 |_=>[]
def decKn:AVal->Knd
 | .agg [nm,v,sh,w,h,ho,sy,rg,cl,ru,gs,gw,gh,gho,gce,nb,ls]=>⟨decD (.agg [nm,v,sh,w,h,ho,sy,rg,cl,ru]),RN (.agg [gs,gw,gh,gho,gce]),Ok nb,O9 ls⟩
 |_=>⟨dcl0,⟨0,0,0,[],[]⟩,[],[]⟩
theorem DA (n:Nat) (l:List (List (List Int))):(eLLs l).under n:=⟨trivial,AY (A1 n) _⟩
theorem AZ (n:Nat) (k:Knd):(BJ k).under n:=⟨trivial,trivial,trivial,trivial,trivial,AW n _,EY n _,Cp n _,EZ n _,Cq n _,trivial,trivial,trivial,AW n _,AW n _,A1 n _,DA n _,trivial⟩
theorem Nk (l:List (List (List Int))):O9 (eLLs l)=l:=By EM l
theorem Jx (k:Knd):decKn (BJ k)=k:=by
 have h1:=Jl k.d
 have h2:=Hh k.g
 show Knd.mk (decD (encD k.d)) (RN (DL k.g)) (Ok (eLl k.nb)) (O9 (eLLs k.ls))=k
 rw[h1,h2,EM,Nk]
def dLLs:Dc (List (List (List Int))):=dLi 1 eLl Ok
theorem Uu (l:List (List (List Int))):dLLs.ok (eLLs l)=True:=Hd EM (.inl rfl)
theorem Ry (l:List (List (List Int))):dLLs.dec (eLLs l)=l:=FC EM
def dKn:Dc Knd:=dWk BJ decKn
theorem CM (x:Knd):dKn.ok (BJ x)=True:=Er Jx x
theorem BX (x:Knd):dKn.dec (BJ x)=x:=Jx x
theorem p123 (a b:List (List Int)) (hb:CH b):Pur Tryz.prog 123 [eLl a,eLl b] (.bool (decide (a=b))):=by
 refine .mk ⟨A1 0 a,A1 0 b,trivial⟩ trivial (a123 (AF Uj (AG ?_)))
 simp only[eE,eN,reduceCtorEq,Nat.reduceEqDiff,↓reduceIte,Nat.reduceAdd,c123,Tcl_e,s2f,FZ,Dm,W7 hb]
def Tke:Tab:=tadd 123 (s2 dLl dLl (λ_ b=>CH b) λa b=>.bool (decide (a=b))) tnil
theorem Tz:AH Tryz.prog Tke:=AH.tnil.add (q2 p123)
theorem Tke_e (a:List AVal) (H:AB):Tke 123 a H=(s2 dLl dLl (λ_ b=>CH b) λa b=>.bool (decide (a=b))) a H:=rfl
theorem p124 (a b:List (List (List Int))) (hb:few b) (hx:∀x∈b,CH x):Pur Tryz.prog 124 [eLLs a,eLLs b,.fn (.func 123) [] []] (.bool (decide (a=b))):=by
 refine .mk ⟨DA 0 a,DA 0 b,by simp [AVal.under,unders],trivial⟩ trivial (a124 (AF Tz (AG ?_)))
 by_cases hl:a.length=b.length
 case neg=>
  simp only[eE,eC,eN,reduceCtorEq,Nat.reduceEqDiff,↓reduceIte,Nat.reduceAdd,Xa,W6,c124,FT hl,Xa]
  exact(Xn λe=>hl (by rw[e])).symm
 simp only[eE,eC,eN,reduceCtorEq,Nat.reduceEqDiff,↓reduceIte,Nat.reduceAdd,X3,W6,c124,FU hl]
 refine AV (λi:Nat=>⟨[(1,true,eLLs b),(2,true,.fn (.func 123) [] []),(15,true,eLLs a),(16,true,.int .i64 a.length),(17,true,.int .i64 i)],hnil,0⟩) (λi=>i<=a.length/\∀j,j<i->a[j]?=b[j]?) (λi=>a.length-i) 0 rfl ⟨Xd _,λj hj=>by omega⟩ ?_
 rintro i ⟨hi,hall⟩
 by_cases hlt:i<a.length
 case neg=>
  simp only[eE,eC,eN,Nat.reduceEqDiff,↓reduceIte,lt_F hlt]
  exact(XB (Ck hl λj hj=>hall j (by omega))).symm
 have hltb:i<b.length:=by omega
 have hga:=X1 hlt
 have hgb:=X1 hltb
 have e:=AL (k:=i) (by have:b.length<1000000000:=hb;omega)
 have hf:=hx _ (Xg hltb)
 by_cases hs:a[i]=b[i]
 ·simp only[eE,eC,eN,Nat.reduceEqDiff,↓reduceIte,Int.reduceEq,X3,W8,W9,X0,W6,X2,lt_T hlt,lt_T hltb,hga,hgb,e,Tke_e,s2,FZ,Dm,W7 hf,Cm hs]
  refine lpN.drop (i+1) rfl rfl rfl rfl AN.nil (λ_ _ h=>by cases h) ⟨DA 0 b,by simp [AVal.under,unders],DA 0 a,trivial,trivial,trivial⟩ ⟨hlt,λj h=>?_⟩ (by omega)
  by_cases q:j=i
  ·subst q;rw[hga,hgb,hs]
  ·exact hall j (by omega)
 ·simp only[eE,eC,eN,Nat.reduceEqDiff,↓reduceIte,Xa,W8,W9,X0,W6,X2,lt_T hlt,lt_T hltb,hga,hgb,Tke_e,s2,FZ,Dm,W7 hf,B1 hs]
  exact(Xn λq=>hs (by simp [q])).symm
structure FewKn (k:Knd):Prop where
 d:FewD k.d
 ho:wide k.g.holes
 ce:wide k.g.cells
 nb:CH k.nb
 ls:few k.ls
 lx:∀x∈k.ls,CH x
def Tks:Tab:=tadd 121 (s2 dIs dIs (λ_ b=>wide b) λa b=>.bool (decide (a=b))) (tadd 122 (s2 dD dD (λ_ b=>FewD b) λa b=>.bool (decide (a=b))) (tadd 124 (s2f 123 dLLs dLLs (λ_ b=>few b/\∀x∈b,CH x) λa b=>.bool (decide (a=b))) Tke))
theorem Tks_ok:AH Tryz.prog Tks:=((Tz.add (q2f λa b h=>p124 a b h.1 h.2)).add (q2 p122)).add (q2 p121)
theorem Tks_i (a:List AVal) (H:AB):Tks 121 a H=s2 dIs dIs (λ_ b=>wide b) (λa b=>.bool (decide (a=b))) a H:=rfl
theorem Tks_s (a:List AVal) (H:AB):Tks 122 a H=s2 dD dD (λ_ b=>FewD b) (λa b=>.bool (decide (a=b))) a H:=rfl
theorem Tks_f (a:List AVal) (H:AB):Tks 124 a H=s2f 123 dLLs dLLs (λ_ b=>few b/\∀x∈b,CH x) (λa b=>.bool (decide (a=b))) a H:=rfl
theorem Tks_e (a:List AVal) (H:AB):Tks 123 a H=s2 dLl dLl (λ_ b=>CH b) (λa b=>.bool (decide (a=b))) a H:=rfl
theorem Uv {a b:Knd}:a=b↔(((((((a.g.sh=b.g.sh/\a.g.w=b.g.w)/\a.g.h=b.g.h)/\a.g.holes=b.g.holes)/\a.g.cells=b.g.cells)/\a.d=b.d)/\a.nb=b.nb)/\a.ls=b.ls):=by
 obtain⟨ad,⟨a1,a2,a3,a4,a5⟩,an,al⟩:=a
 obtain⟨bd,⟨b1,b2,b3,b4,b5⟩,bn,bl⟩:=b
 simp only[Knd.mk.injEq,Grd.mk.injEq]
 constructor
 ·rintro⟨h1,⟨h2,h3,h4,h5,h6⟩,h7,h8⟩;exact⟨⟨⟨⟨⟨⟨⟨h2,h3⟩,h4⟩,h5⟩,h6⟩,h1⟩,h7⟩,h8⟩
 ·rintro⟨⟨⟨⟨⟨⟨⟨h2,h3⟩,h4⟩,h5⟩,h6⟩,h1⟩,h7⟩,h8⟩;exact⟨h1,⟨h2,h3,h4,h5,h6⟩,h7,h8⟩
theorem p86 (a b:Knd) (hb:FewKn b):Pur Tryz.prog 86 [BJ a,BJ b] (.bool (decide (a=b))):=by
 refine .mk ⟨AZ 0 a,AZ 0 b,trivial⟩ trivial (a86 (AF Tks_ok (AG ?_)))
 have e1:dD.ok (.agg (AK a.d))=True:=GW a.d
 have e2:dD.dec (.agg (AK a.d))=a.d:=Ds a.d
 have e3:dD.ok (.agg (AK b.d))=True:=GW b.d
 have e4:dD.dec (.agg (AK b.d))=b.d:=Ds b.d
 simp only[AK]at e1 e2 e3 e4
 simp only[eE,eC,eN,reduceCtorEq,Nat.reduceEqDiff,↓reduceIte,Nat.reduceAdd,Nat.reduceLeDiff,c86,AD,AE,AK,Tks_i,Tks_s,Tks_f,Tks_e,s2,s2f,Az,At,FZ,Dm,Uu,Ry,e1,e2,e3,e4,W7 hb.d,W7 hb.ho,W7 hb.ce,W7 hb.nb,W7 hb.ls,W7 hb.lx]
 rw[XV]
 simp only[X5,Xb,Uv]
end Go.AM
namespace Go.AM
open Go.Proofs Go.Lib
end Go.AM
