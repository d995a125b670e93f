/-
  The reference of syntax: equal lists, rules, declarations (written by mku1 · The reference of grids: In, Make · The refe.
  Conditions: none beyond those of its parts.
-/
import Derived.Test.YtncahiacfdihpaaGreatDoorB10
import Derived.Test.YtncahiacfdihpaaGreatDoorB6
import Derived.Test.YtncahiacfdihpaaGreatDoorB7

set_option maxRecDepth 20000
set_option linter.all false
namespace Go.AM
open Go.Proofs Go.Lib
end Go.AM
namespace Go.AM
open Go.Proofs Go.Lib
def hosL(holes:List Int)(k:Nat):List Int:=((List.range k).map λ(i:Nat)=>(i:Int)).filter λp=>holes.contains p
structure VMh where
 i:Nat
 last:Int
structure VMm where
 k:Nat
 t1:Tok
 t2:Tok
 H:AB
 n:Nat
structure IMr(sh w h:Int)(holes:List Int)(m:Nat)(v:VMm):Prop where
 hk:v.k<=m
 hn:8<=v.n
 fr:AN v.H v.n
 h0:hget v.H 0=some (.box [z0,z0,z0,zs,zs])
 h6:hget v.H 6=some (.box [.int .i64 sh,.int .i64 w,.int .i64 h,.sl v.t1 ((hosL holes v.k).map eI),.sl v.t2 ((posL holes v.k).map eI)])
 tok1:tkG 1 7 v.H v.t1
 tok2:tkG 1 7 v.H v.t2
 dj:∀i,v.t1= .own i 1->v.t2≠ .own i 1
 es1:v.t1.esz=1\/hosL holes v.k=[]
 es2:v.t2.esz=1\/posL holes v.k=[]
end Go.AM
namespace Go.AM
open Go.Proofs Go.Lib
def sMk:List AVal->AB->Prop×AVal:=λa H=>match a with
 |[.int .i64 sh,.int .i64 w,.int .i64 h,x]=>(dIs.ok x/\few (dIs.dec x),B5 sh w h (dIs.dec x))
 |_=>(False,.tup [])
structure IRj(g:Grd)(x:List Int)(H0:AB)(n0:Nat)(v:VRi):Prop where
 hj:v.j<=x.length
 hn:n0<=v.n
 fr:AN v.H v.n
 hk:∀id,id<n0->hget v.H id=hget H0 id
 tok:tkG 1 n0 v.H v.tc
 es:v.tc.esz=1\/v.j=0
 sub:∀q∈x.take v.j,q∈g.cells
 eq:Gv g.cells [] x=Gv g.cells (x.take v.j) (x.drop v.j)
 nd:(x.take v.j).Nodup
end Go.AM
namespace Go.AM
open Go.Proofs Go.Lib
end Go.AM
namespace Go.AM
open Go.Proofs Go.Lib
end Go.AM
namespace Go.AM
open Go.Proofs Go.Lib
end Go.AM
namespace Go.AM
open Go.Proofs Go.Lib
end Go.AM
namespace Go.AM
open Go.Proofs Go.Lib
structure VNm where
 i:Nat
 tk:Tok
 H:AB
 n:Nat
structure INm(d:Dcl)(lo m:Nat)(ns:List Bs)(v:VNm):Prop where
 hi:v.i<=m
 fr:AN v.H v.n
 hn:lo<=v.n
 h0:hget v.H 0=some (.box (AO d))
 tok:tkG 1 lo v.H v.tk
 es:v.tk.esz=1\/ns=[]
def tw:Tab:=tadd 116 (s1 dSs few λl=>.bool (Ac l)) tnil
structure VRs(α:Type) where
 i:Nat
 tk:Tok
 dn:List α
 H:AB
 n:Nat
structure IRs{α β:Type}(d:Dcl)(e:Nat)(l:List α)(f:α->Option β)(v:VRs β):Prop where
 hi:v.i<=l.length
 dl:v.dn.length=v.i
 fr:AN v.H v.n
 hn:3<=v.n
 h0:hget v.H 0=some (.box (AO d))
 tok:tkG e 3 v.H v.tk
 es:v.tk.esz=e\/v.dn=[]
 eq:Ab f l=(Ab f (l.drop v.i)).map λr=>v.dn++r
end Go.AM
namespace Go.AM
open Go.Proofs Go.Lib
end Go.AM
namespace Go.AM
open Go.Proofs Go.Lib
theorem EP{α β:Type}{f:α->Option β}:∀{l:List α} {r:List β},Ab f l=some r->r.length=l.length/\∀y∈r,∃x∈l,f x=some y
 |[],r,h=>by
  simp only[Ab,Option.some.injEq]at h
  subst h
  exact⟨rfl,λy hy=>by cases hy⟩
 |x::l,r,h=>by
  rw[Dd]at h
  cases hx:f x with
  |none=>rw[hx]at h;cases h
  |some z=>
   rw[hx]at h
   simp only at h
   cases hl:Ab f l with
   |none=>rw[hl]at h;cases h
   |some s=>
    rw[hl]at h
    simp only[VL,Option.some.injEq]at h
    subst h
    obtain⟨h1,h2⟩:=EP hl
    refine⟨by simp [h1],λy hy=>?_⟩
    rcases Vz.1 hy with rfl|hy
    ·exact⟨x,by simp,hx⟩
    ·obtain⟨w,hw,e⟩:=h2 y hy
     exact⟨w,by simp [hw],e⟩
theorem N4{d:Dcl}{r r':DRul}(h:BG d r=some r'):r'.ns=r.ns/\r'.os=r.os:=by
 unfold BG at h
 split at h
 ·cases h;exact⟨rfl,rfl⟩
 ·cases h
theorem II{d x:Dcl}(hd:FewD d)(h:resD d= .ok x):FewD x:=by
 obtain⟨-,-,-,-,-,e1,e2,e3⟩:=MT h
 have key:∃cs rs,Ab (Cs d) d.clus=some cs/\Ab (BG d) d.ruls=some rs/\x.clus=cs/\x.ruls=rs:=by
  unfold resD at h
  repeat' split at h
  all_goals first
   |(cases h;done)
   |(rename_i cs hcs _ _ rs hrs
     cases h
     exact⟨_,_,hcs,hrs,rfl,rfl⟩)
 obtain⟨cs,rs,h1,h2,h3,h4⟩:=key
 obtain⟨l1,-⟩:=EP h1
 obtain⟨l2,m2⟩:=EP h2
 refine⟨by rw[e1];exact hd.ho,by rw[e2];exact hd.sy,by rw[e3];exact hd.rg,by rw[e3];exact hd.rgs,?_,?_,λr hr=>?_⟩
 ·rw[h3];show cs.length<_;rw[l1];exact hd.cl
 ·rw[h4];show rs.length<_;rw[l2];exact hd.ru
 ·rw[h4]at hr
  obtain⟨r0,hr0,e⟩:=m2 r hr
  obtain⟨q1,q2⟩:=N4 e
  have:=hd.rus r0 hr0
  exact⟨by rw[q1];exact this.1,by rw[q2];exact this.2⟩
end Go.AM
namespace Go.AM
open Go.Proofs Go.Lib
abbrev eLLs(ls:List (List (List Int))):AVal:=.sl (.none 1) (ls.map eLl)
abbrev AL(k:Knd):List AVal:=AO k.d++(AG k.g.sh k.g.w k.g.h k.g.holes k.g.cells++[eLl k.nb,eLLs k.ls])
abbrev Bq(k:Knd):AVal:=.agg (AL k)
def N5:AVal->List (List (List Int))
 | .sl _ L=>L.map Nl
 |_=>[]
def decKn:AVal->Knd
 | .agg [nm,v,sh,w,h,ho,sy,rg,cl,ru,gs,gw,gh,gho,gce,nb,ls]=>⟨decD (.agg [nm,v,sh,w,h,ho,sy,rg,cl,ru]),QC (.agg [gs,gw,gh,gho,gce]),Nl nb,N5 ls⟩
 |_=>⟨dcl0,⟨0,0,0,[],[]⟩,[],[]⟩
theorem Cz(n:Nat)(l:List (List (List Int))):(eLLs l).under n:=⟨trivial,Ap (Ar n) _⟩
theorem Aj(n:Nat)(k:Knd):(Bq k).under n:=⟨trivial,trivial,trivial,trivial,trivial,Aa n _,D8 n _,CU n _,D9 n _,CV n _,trivial,trivial,trivial,Aa n _,Aa n _,Ar n _,Cz n _,trivial⟩
theorem Mp(l:List (List (List Int))):N5 (eLLs l)=l:=Bl Du l
theorem I9(k:Knd):decKn (Bq k)=k:=by
 have h1:=Iz k.d
 have h2:=G2 k.g
 show Knd.mk (decD (encD k.d)) (QC (DC k.g)) (Nl (eLl k.nb)) (N5 (eLLs k.ls))=k
 rw[h1,h2,Du,Mp]
def dLLs:Dc (List (List (List Int))):=dLi 1 eLl Nl
theorem TN(l:List (List (List Int))):dLLs.ok (eLLs l)=True:=Gy Du (.inl rfl)
theorem Qk(l:List (List (List Int))):dLLs.dec (eLLs l)=l:=Ee Du
def dKn:Dc Knd:=dWk Bq decKn
theorem EF(x:Knd):dKn.ok (Bq x)=True:=Fb I9 x
theorem Ct(x:Knd):dKn.dec (Bq x)=x:=I9 x
theorem p105(a b:List (List Int))(hb:Bo b):Pur Tryz.prog 105 [eLl a,eLl b] (.bool (decide (a=b))):=by
 refine .mk ⟨Ar 0 a,Ar 0 b,trivial⟩ trivial (a105 (AE TB (AF ?_)))
 simp only[eE,eN,reduceCtorEq,Nat.reduceEqDiff,↓reduceIte,Nat.reduceAdd,c105,Tcl_e,s2f,Dy,Cf,V3 hb]
def Tke:Tab:=tadd 105 (s2 dLl dLl (λ_ b=>Bo b) λa b=>.bool (decide (a=b))) tnil
theorem Sa:AH Tryz.prog Tke:=AH.tnil.add (q2 p105)
theorem Tke_e(a:List AVal)(H:AB):Tke 105 a H=(s2 dLl dLl (λ_ b=>Bo b) λa b=>.bool (decide (a=b))) a H:=rfl
theorem p106(a b:List (List (List Int)))(hb:few b)(hx:∀x∈b,Bo x):Pur Tryz.prog 106 [eLLs a,eLLs b,.fn (.func 105) [] []] (.bool (decide (a=b))):=by
 refine .mk ⟨Cz 0 a,Cz 0 b,by simp [AVal.under,unders],trivial⟩ trivial (a106 (AE Sa (AF ?_)))
 by_cases hl:a.length=b.length
 case neg=>
  simp only[eE,eC,eN,reduceCtorEq,Nat.reduceEqDiff,↓reduceIte,Nat.reduceAdd,Ve,V0,c106,FX hl,Ve]
  exact(VN λe=>hl (by rw[e])).symm
 simp only[eE,eC,eN,reduceCtorEq,Nat.reduceEqDiff,↓reduceIte,Nat.reduceAdd,V8,V0,c106,FY hl]
 refine AU (λi:Nat=>⟨[(1,true,eLLs b),(2,true,.fn (.func 105) [] []),(15,true,eLLs a),(16,true,.int .i64 a.length),(17,true,.int .i64 i)],hnil,0⟩) (λi=>i<=a.length/\∀j,j<i->a[j]?=b[j]?) (λi=>a.length-i) 0 rfl ⟨Vi _,λj hj=>by omega⟩ ?_
 rintro i ⟨hi,hall⟩
 by_cases hlt:i<a.length
 case neg=>
  simp only[eE,eC,eN,Nat.reduceEqDiff,↓reduceIte,lt_F hlt]
  exact(VJ (Cq hl λj hj=>hall j (by omega))).symm
 have hltb:i<b.length:=by omega
 have hga:=V5 hlt
 have hgb:=V5 hltb
 have e:=AJ (k:=i) (by have:b.length<1000000000:=hb;omega)
 have hf:=hx _ (Vn hltb)
 by_cases hs:a[i]=b[i]
 ·simp only[eE,eC,eN,Nat.reduceEqDiff,↓reduceIte,Int.reduceEq,V8,V1,V2,V4,V0,V6,lt_T hlt,lt_T hltb,hga,hgb,e,Tke_e,s2,Dy,Cf,V3 hf,CQ hs]
  refine lpN.drop (i+1) rfl rfl rfl rfl AN.nil (λ_ _ h=>by cases h) ⟨Cz 0 b,by simp [AVal.under,unders],Cz 0 a,trivial,trivial,trivial⟩ ⟨hlt,λj h=>?_⟩ (by omega)
  by_cases q:j=i
  ·subst q;rw[hga,hgb,hs]
  ·exact hall j (by omega)
 ·simp only[eE,eC,eN,Nat.reduceEqDiff,↓reduceIte,Ve,V1,V2,V4,V0,V6,lt_T hlt,lt_T hltb,hga,hgb,Tke_e,s2,Dy,Cf,V3 hf,Bu hs]
  exact(VN λq=>hs (by simp [q])).symm
structure FewKn(k:Knd):Prop where
 d:FewD k.d
 ho:wide k.g.holes
 ce:wide k.g.cells
 nb:Bo k.nb
 ls:few k.ls
 lx:∀x∈k.ls,Bo x
def Tks:Tab:=tadd 103 (s2 dIs dIs (λ_ b=>wide b) λa b=>.bool (decide (a=b))) (tadd 104 (s2 dD dD (λ_ b=>FewD b) λa b=>.bool (decide (a=b))) (tadd 106 (s2f 105 dLLs dLLs (λ_ b=>few b/\∀x∈b,Bo x) λa b=>.bool (decide (a=b))) Tke))
theorem Tks_ok:AH Tryz.prog Tks:=((Sa.add (q2f λa b h=>p106 a b h.1 h.2)).add (q2 p104)).add (q2 p103)
theorem Tks_i(a:List AVal)(H:AB):Tks 103 a H=s2 dIs dIs (λ_ b=>wide b) (λa b=>.bool (decide (a=b))) a H:=rfl
theorem Tks_s(a:List AVal)(H:AB):Tks 104 a H=s2 dD dD (λ_ b=>FewD b) (λa b=>.bool (decide (a=b))) a H:=rfl
theorem Tks_f(a:List AVal)(H:AB):Tks 106 a H=s2f 105 dLLs dLLs (λ_ b=>few b/\∀x∈b,Bo x) (λa b=>.bool (decide (a=b))) a H:=rfl
theorem Tks_e(a:List AVal)(H:AB):Tks 105 a H=s2 dLl dLl (λ_ b=>Bo b) (λa b=>.bool (decide (a=b))) a H:=rfl
theorem TO{a b:Knd}:a=b↔(((((((a.g.sh=b.g.sh/\a.g.w=b.g.w)/\a.g.h=b.g.h)/\a.g.holes=b.g.holes)/\a.g.cells=b.g.cells)/\a.d=b.d)/\a.nb=b.nb)/\a.ls=b.ls):=by
 obtain⟨ad,⟨a1,a2,a3,a4,a5⟩,an,al⟩:=a
 obtain⟨bd,⟨b1,b2,b3,b4,b5⟩,bn,bl⟩:=b
 simp only[Knd.mk.injEq,Grd.mk.injEq]
 constructor
 ·simp_all
 ·simp_all
theorem p58(a b:Knd)(hb:FewKn b):Pur Tryz.prog 58 [Bq a,Bq b] (.bool (decide (a=b))):=by
 refine .mk ⟨Aj 0 a,Aj 0 b,trivial⟩ trivial (a58 (AE Tks_ok (AF ?_)))
 have e1:dD.ok (.agg (AO a.d))=True:=FF a.d
 have e2:dD.dec (.agg (AO a.d))=a.d:=DA a.d
 have e3:dD.ok (.agg (AO b.d))=True:=FF b.d
 have e4:dD.dec (.agg (AO b.d))=b.d:=DA b.d
 simp only[AO]at e1 e2 e3 e4
 simp only[eE,eC,eN,reduceCtorEq,Nat.reduceEqDiff,↓reduceIte,Nat.reduceAdd,Nat.reduceLeDiff,c58,AL,AG,AO,Tks_i,Tks_s,Tks_f,Tks_e,s2,s2f,BD,At,Dy,Cf,TN,Qk,e1,e2,e3,e4,V3 hb.d,V3 hb.ho,V3 hb.ce,V3 hb.nb,V3 hb.ls,V3 hb.lx]
 rw[VS]
 simp only[V7,Vf,TO]
end Go.AM
namespace Go.AM
open Go.Proofs Go.Lib
structure FewKr(k:Knd):Prop where
 d:FewD k.d
 ho:wide k.g.holes
 ce:wide k.g.cells
 nb:Bo k.nb
 ls:wide k.ls
 lx:∀x∈k.ls,Bo x
end Go.AM
