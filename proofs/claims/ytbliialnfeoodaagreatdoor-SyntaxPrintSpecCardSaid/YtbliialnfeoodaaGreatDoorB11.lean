/-
  The reference of syntax: equal lists, rules, declarations (written by mku1 · Declarations: the reference's Text · Declarations: the reference's Few · Declarations: what was read is not too long · Declarations: the reference's Print · Declarations: the examples; the first law · Declarations: the laws, first part · Declarations: the laws, second part · Declarations: sources of any length; tokens · Declarations: the laws on beginnings and further tokens · Declarations: the law on changed tokens · Declarations: the law on white space · Declarations: the law on white space, walked · Declarations as text: from the rows to the abstract machine.
  Conditions: none beyond those of its parts.
-/
import Derived.Test.YtbliialnfeoodaaGreatDoorB9
import Derived.Test.YtbliialnfeoodaaGreatDoorB5
import Derived.Test.YtbliialnfeoodaaGreatDoorB6
import Derived.Test.YtbliialnfeoodaaGreatDoorB8
import Derived.Test.YtbliialnfeoodaaGreatDoorB10
import Derived.Test.YtbliialnfeoodaaGreatDoorB7
import Derived.Test.YtbliialnfeoodaaGreatDoorRows
import Derived.LaidLaws

section
set_option maxRecDepth 20000
set_option linter.all false
namespace Go.AM
open Go.Proofs Go.Lib
theorem p26 (a b:List Int) (ha:few a):Pur Tryz.prog 26 [eIs a,eIs b] (.bool (decide (a=b))):=by
 refine .mk ⟨Bn 0 _,Bn 0 _,trivial⟩ trivial (a26 (AF AI.tnil (AE ?_)))
 have hal:a.length<1000000000:=ha
 by_cases hl:a.length=b.length
 case neg=>
  have hR:decide (a=b)=false:=decide_eq_false fun q=>hl (by rw[q])
  have hq:((a.length:Int)=(b.length:Int))=False:=eq_false (by omega)
  rw[hR]
  simp only[eE,eC,eN,reduceCtorEq,Nat.reduceEqDiff,↓reduceIte,Nat.reduceAdd,Bool.not_false,List.length_map,c26,hq]
 have hq:((a.length:Int)=(b.length:Int))=True:=eq_true (by omega)
 simp only[eE,eC,eN,reduceCtorEq,Nat.reduceEqDiff,↓reduceIte,Nat.reduceAdd,Bool.not_true,List.length_map,c26,hq]
 refine AW (fun i:Nat=>⟨[(0,true,eIs a),(1,true,eIs b),(5,true,.int .i64 i)],hnil,0⟩) (fun i=>i≤a.length∧a.take i=b.take i) (fun i=>a.length-i) 0 rfl ⟨Nat.zero_le _,rfl⟩ ?_
 rintro i ⟨hi,htk⟩
 by_cases hlt:i<a.length
 ·have hltb:i<b.length:=by omega
  have hg:=List.getElem?_eq_getElem hlt
  have hgb:=List.getElem?_eq_getElem hltb
  have e:=AO (k:=i) (by omega)
  have ta:a.take (i+1)=a.take i++[a[i]]:=by rw[List.take_add_one,hg];rfl
  have tb:b.take (i+1)=b.take i++[b[i]]:=by rw[List.take_add_one,hgb];rfl
  generalize a[i]=x at hg ta
  generalize b[i]=y at hgb tb
  by_cases hxy:x=y
  ·simp only[eE,eC,eN,reduceCtorEq,Nat.reduceEqDiff,↓reduceIte,Int.reduceEq,Bool.not_true,Option.getD_some,Int.toNat_natCast,Int.natCast_nonneg,List.length_map,List.getElem?_map,lt_T hlt,lt_T hltb,hg,hgb,e,hxy]
   exact .mk (i+1) rfl ⟨hlt,by rw[ta,tb,htk,hxy]⟩ (by omega)
  ·have hR:decide (a=b)=false:=decide_eq_false fun q=>hxy (by rw[q]at hg;rw[hg]at hgb;exact Option.some.inj hgb)
   rw[hR]
   simp only[eE,eC,eN,reduceCtorEq,Nat.reduceEqDiff,↓reduceIte,Bool.not_false,Option.getD_some,Int.toNat_natCast,Int.natCast_nonneg,List.length_map,List.getElem?_map,lt_T hlt,lt_T hltb,hg,hgb,G3 hxy]
 obtain rfl:i=a.length:=by omega
 have hR:decide (a=b)=true:=decide_eq_true (by rw[List.take_length,hl,List.take_length]at htk;exact htk)
 rw[hR]
 simp only[eE,eC,eN,reduceCtorEq,Nat.reduceEqDiff,↓reduceIte,List.length_map,lt_F hlt]
theorem p74 (a b:List Bs) (ha:few a):Pur Tryz.prog 74 [eSs a,eSs b] (.bool (decide (a=b))):=by
 refine .mk ⟨Bo 0 _,Bo 0 _,trivial⟩ trivial (a74 (AF AI.tnil (AE ?_)))
 have hal:a.length<1000000000:=ha
 by_cases hl:a.length=b.length
 case neg=>
  have hR:decide (a=b)=false:=decide_eq_false fun q=>hl (by rw[q])
  have hq:((a.length:Int)=(b.length:Int))=False:=eq_false (by omega)
  rw[hR]
  simp only[eE,eC,eN,reduceCtorEq,Nat.reduceEqDiff,↓reduceIte,Nat.reduceAdd,Bool.not_false,List.length_map,c74,hq]
 have hq:((a.length:Int)=(b.length:Int))=True:=eq_true (by omega)
 simp only[eE,eC,eN,reduceCtorEq,Nat.reduceEqDiff,↓reduceIte,Nat.reduceAdd,Bool.not_true,List.length_map,c74,hq]
 refine AW (fun i:Nat=>⟨[(0,true,eSs a),(1,true,eSs b),(5,true,.int .i64 i)],hnil,0⟩) (fun i=>i≤a.length∧a.take i=b.take i) (fun i=>a.length-i) 0 rfl ⟨Nat.zero_le _,rfl⟩ ?_
 rintro i ⟨hi,htk⟩
 by_cases hlt:i<a.length
 ·have hltb:i<b.length:=by omega
  have hg:=List.getElem?_eq_getElem hlt
  have hgb:=List.getElem?_eq_getElem hltb
  have e:=AO (k:=i) (by omega)
  have ta:a.take (i+1)=a.take i++[a[i]]:=by rw[List.take_add_one,hg];rfl
  have tb:b.take (i+1)=b.take i++[b[i]]:=by rw[List.take_add_one,hgb];rfl
  generalize a[i]=x at hg ta
  generalize b[i]=y at hgb tb
  by_cases hxy:x=y
  ·simp only[eE,eC,eN,reduceCtorEq,Nat.reduceEqDiff,↓reduceIte,Int.reduceEq,Bool.not_true,Option.getD_some,Int.toNat_natCast,Int.natCast_nonneg,List.length_map,List.getElem?_map,lt_T hlt,lt_T hltb,hg,hgb,e,Ev,HI hxy]
   exact .mk (i+1) rfl ⟨hlt,by rw[ta,tb,htk,hxy]⟩ (by omega)
  ·have hR:decide (a=b)=false:=decide_eq_false fun q=>hxy (by rw[q]at hg;rw[hg]at hgb;exact Option.some.inj hgb)
   rw[hR]
   simp only[eE,eC,eN,reduceCtorEq,Nat.reduceEqDiff,↓reduceIte,Bool.not_false,Option.getD_some,Int.toNat_natCast,Int.natCast_nonneg,List.length_map,List.getElem?_map,lt_T hlt,lt_T hltb,hg,hgb,Ev,G3 hxy]
 obtain rfl:i=a.length:=by omega
 have hR:decide (a=b)=true:=decide_eq_true (by rw[List.take_length,hl,List.take_length]at htk;exact htk)
 rw[hR]
 simp only[eE,eC,eN,reduceCtorEq,Nat.reduceEqDiff,↓reduceIte,List.length_map,lt_F hlt]
def Tsi:Tab:=tadd 26 (s2 dIs dIs (fun a _=>few a) fun a b=>.bool (decide (a=b))) tnil
theorem Tsi_ok:AI Tryz.prog Tsi:=AI.tnil.add (q2 p26)
theorem Tsi_e (a:List AVal) (H:AD):Tsi 26 a H=s2 dIs dIs (fun a _=>few a) (fun a b=>.bool (decide (a=b))) a H:=rfl
theorem p27 (a b:List (List Int)) (ha:few a) (hf:∀x∈a,few x):Pur Tryz.prog 27 [eLl a,eLl b] (.bool (decide (a=b))):=by
 refine .mk ⟨Ci 0 _,Ci 0 _,trivial⟩ trivial (a27 (AF Tsi_ok (AE ?_)))
 have hal:a.length<1000000000:=ha
 by_cases hl:a.length=b.length
 case neg=>
  have hR:decide (a=b)=false:=decide_eq_false fun q=>hl (by rw[q])
  have hq:((a.length:Int)=(b.length:Int))=False:=eq_false (by omega)
  rw[hR]
  simp only[eE,eC,eN,reduceCtorEq,Nat.reduceEqDiff,↓reduceIte,Nat.reduceAdd,Bool.not_false,List.length_map,c27,hq]
 have hq:((a.length:Int)=(b.length:Int))=True:=eq_true (by omega)
 simp only[eE,eC,eN,reduceCtorEq,Nat.reduceEqDiff,↓reduceIte,Nat.reduceAdd,Bool.not_true,List.length_map,c27,hq]
 refine AW (fun i:Nat=>⟨[(0,true,eLl a),(1,true,eLl b),(5,true,.int .i64 i)],hnil,0⟩) (fun i=>i≤a.length∧a.take i=b.take i) (fun i=>a.length-i) 0 rfl ⟨Nat.zero_le _,rfl⟩ ?_
 rintro i ⟨hi,htk⟩
 by_cases hlt:i<a.length
 ·have hltb:i<b.length:=by omega
  have hg:=List.getElem?_eq_getElem hlt
  have hgb:=List.getElem?_eq_getElem hltb
  have e:=AO (k:=i) (by omega)
  have ta:a.take (i+1)=a.take i++[a[i]]:=by rw[List.take_add_one,hg];rfl
  have tb:b.take (i+1)=b.take i++[b[i]]:=by rw[List.take_add_one,hgb];rfl
  have hxf:=hf _ (List.getElem_mem hlt)
  generalize a[i]=x at hg ta hxf
  generalize b[i]=y at hgb tb
  by_cases hxy:x=y
  ·simp only[eE,eC,eN,reduceCtorEq,Nat.reduceEqDiff,↓reduceIte,Int.reduceEq,Bool.not_true,Option.getD_some,Int.toNat_natCast,Int.natCast_nonneg,List.length_map,List.getElem?_map,lt_T hlt,lt_T hltb,hg,hgb,e,Tsi_e,s2,B1,BS,eq_true hxf,HI hxy]
   exact .mk (i+1) rfl ⟨hlt,by rw[ta,tb,htk,hxy]⟩ (by omega)
  ·have hR:decide (a=b)=false:=decide_eq_false fun q=>hxy (by rw[q]at hg;rw[hg]at hgb;exact Option.some.inj hgb)
   rw[hR]
   simp only[eE,eC,eN,reduceCtorEq,Nat.reduceEqDiff,↓reduceIte,Bool.not_false,Option.getD_some,Int.toNat_natCast,Int.natCast_nonneg,List.length_map,List.getElem?_map,lt_T hlt,lt_T hltb,hg,hgb,Tsi_e,s2,B1,BS,eq_true hxf,G3 hxy]
 obtain rfl:i=a.length:=by omega
 have hR:decide (a=b)=true:=decide_eq_true (by rw[List.take_length,hl,List.take_length]at htk;exact htk)
 rw[hR]
 simp only[eE,eC,eN,reduceCtorEq,Nat.reduceEqDiff,↓reduceIte,List.length_map,lt_F hlt]
def Tsn:Tab:=tadd 74 (s2 dSs dSs (fun a _=>few a) fun a b=>.bool (decide (a=b))) tnil
theorem Tsn_ok:AI Tryz.prog Tsn:=AI.tnil.add (q2 p74)
theorem Tsn_e (a:List AVal) (H:AD):Tsn 74 a H=s2 dSs dSs (fun a _=>few a) (fun a b=>.bool (decide (a=b))) a H:=rfl
theorem p28 (a b:DRul) (ha:G4 a):Pur Tryz.prog 28 [Am a,Am b] (.bool (decide (a=b))):=by
 refine .mk ⟨Ah 0 _,Ah 0 _,trivial⟩ trivial (a28 (AF Tsn_ok (AE ?_)))
 obtain⟨h1,h2⟩:=ha
 simp only[eE,eC,eN,reduceCtorEq,Nat.reduceEqDiff,↓reduceIte,Nat.reduceAdd,Nat.reduceLeDiff,c28,Tsn_e,s2,Gw,Er,eq_true h1,eq_true h2,Iy]
 rw[Bool.eq_iff_iff,decide_eq_true_eq,Ow]
 simp only[Bool.and_eq_true,decide_eq_true_eq]
 constructor
 ·intro h;simp only[h,and_self]
 ·intro h;simp only[h,and_self]
def Tsd:Tab:=tadd 26 (s2 dIs dIs (fun a _=>few a) fun a b=>.bool (decide (a=b))) (tadd 27 (s2 dLl dLl (fun a _=>Mr a) fun a b=>.bool (decide (a=b))) (tadd 28 (s2 dRu dRu (fun a _=>G4 a) fun a b=>.bool (decide (a=b))) tnil))
theorem Tsd_ok:AI Tryz.prog Tsd:=((AI.tnil.add (q2 p28)).add (q2 fun a b h=>p27 a b h.1 h.2)).add (q2 p26)
theorem Rv (a:List AVal) (H:AD):Tsd 26 a H=s2 dIs dIs (fun a _=>few a) (fun a b=>.bool (decide (a=b))) a H:=rfl
theorem Tsd_l (a:List AVal) (H:AD):Tsd 27 a H=s2 dLl dLl (fun a _=>Mr a) (fun a b=>.bool (decide (a=b))) a H:=rfl
theorem Tsd_r (a:List AVal) (H:AD):Tsd 28 a H=s2 dRu dRu (fun a _=>G4 a) (fun a b=>.bool (decide (a=b))) a H:=rfl
theorem Q4 (x y:DReg):(scmp .neq x.nm y.nm|| !decide (x.ls=y.ls))= !decide (x=y):=by
 rw[Ev]
 cases x;cases y
 rw[Bool.eq_iff_iff]
 simp [DReg.mk.injEq]
theorem p12 (a b:Dcl) (hd:FewD a):Pur Tryz.prog 12 [encD a,encD b] (.bool (decide (a=b))):=by
 refine .mk ⟨Ai 0 _,Ai 0 _,trivial⟩ trivial (a12 (AF Tsd_ok (AE ?_)))
 cases h1:decide (a.nm=b.nm∧a.ver=b.ver∧a.sh=b.sh∧a.w=b.w∧a.h=b.h∧a.holes=b.holes)with
 |false=>
  have h1:=of_decide_eq_false h1
  have hR:decide (a=b)=false:=decide_eq_false fun q=>h1 (by rw[q];exact⟨rfl,rfl,rfl,rfl,rfl,rfl⟩)
  have hb:(scmp .neq a.nm b.nm|| !decide (a.ver=b.ver)|| !decide (a.sh=b.sh)|| !decide (a.w=b.w)|| !decide (a.h=b.h)|| !decide (a.holes=b.holes))=true:=by
   rw[Ev,←Bool.not_eq_false]
   intro q
   simp only[Bool.or_eq_false_iff,Bool.not_eq_false',decide_eq_true_eq,and_assoc]at q
   exact h1 q
  rw[hR]
  simp only[eE,eC,eN,reduceCtorEq,Nat.reduceEqDiff,↓reduceIte,Nat.reduceAdd,Nat.reduceLeDiff,c12,Rv,s2,B1,BS,eq_true hd.ho,hb]
 |true=>
 obtain⟨a1,a2,a3,a4,a5,a6⟩:=of_decide_eq_true h1
 have hb:(scmp .neq a.nm b.nm|| !decide (a.ver=b.ver)|| !decide (a.sh=b.sh)|| !decide (a.w=b.w)|| !decide (a.h=b.h)|| !decide (a.holes=b.holes))=false:=by
  rw[Ev];simp [a1,a2,a3,a4,a5,a6]
 clear h1
 cases h2:decide (a.syms.length=b.syms.length∧a.regs.length=b.regs.length∧a.clus.length=b.clus.length∧a.ruls.length=b.ruls.length)with
 |false=>
  have h2:=of_decide_eq_false h2
  have hR:decide (a=b)=false:=decide_eq_false fun q=>h2 (by rw[q];exact⟨rfl,rfl,rfl,rfl⟩)
  have hb2:(!decide ((a.syms.length:Int)=(b.syms.length:Int))|| !decide ((a.regs.length:Int)=(b.regs.length:Int))|| !decide ((a.clus.length:Int)=(b.clus.length:Int))|| !decide ((a.ruls.length:Int)=(b.ruls.length:Int)))=true:=by
   rw[←Bool.not_eq_false]
   intro q
   simp only[Bool.or_eq_false_iff,Bool.not_eq_false',decide_eq_true_eq,and_assoc]at q
   exact h2 (by omega)
  rw[hR]
  simp only[eE,eC,eN,reduceCtorEq,Nat.reduceEqDiff,↓reduceIte,Nat.reduceAdd,Nat.reduceLeDiff,List.length_map,c12,Rv,s2,B1,BS,eq_true hd.ho,hb,hb2]
 |true=>
 obtain⟨l1,l2,l3,l4⟩:=of_decide_eq_true h2
 have hb2:(!decide ((a.syms.length:Int)=(b.syms.length:Int))|| !decide ((a.regs.length:Int)=(b.regs.length:Int))|| !decide ((a.clus.length:Int)=(b.clus.length:Int))|| !decide ((a.ruls.length:Int)=(b.ruls.length:Int)))=false:=by
  simp [l1,l2,l3,l4]
 clear h2
 simp only[eE,eC,eN,reduceCtorEq,Nat.reduceEqDiff,↓reduceIte,Nat.reduceAdd,Nat.reduceLeDiff,List.length_map,c12,Rv,s2,B1,BS,eq_true hd.ho,hb,hb2]
 refine AW (fun i:Nat=>⟨[(2,true,.ptr 0 0),(3,true,.ptr 1 0),(5,true,.int .i64 i)],hset (hset hnil 0 (.box (A0 a))) 1 (.box (A0 b)),3⟩) (fun i=>i≤a.syms.length∧a.syms.take i=b.syms.take i) (fun i=>a.syms.length-i) 0 rfl ⟨Nat.zero_le _,rfl⟩ ?_
 rintro i ⟨hi,htk⟩
 have hfl:a.syms.length<1000000000:=hd.sy
 by_cases hlt:i<a.syms.length
 ·have hltb:i<b.syms.length:=by omega
  have hg:=List.getElem?_eq_getElem hlt
  have hgb:=List.getElem?_eq_getElem hltb
  have e:=AO (k:=i) (by omega)
  have ta:a.syms.take (i+1)=a.syms.take i++[a.syms[i]]:=by rw[List.take_add_one,hg];rfl
  have tb:b.syms.take (i+1)=b.syms.take i++[b.syms[i]]:=by rw[List.take_add_one,hgb];rfl
  generalize a.syms[i]=x at hg ta
  generalize b.syms[i]=y at hgb tb
  by_cases hxy:x=y
  ·have hc:=Lo x y
   rw[decide_eq_true hxy]at hc
   simp only[eE,eC,eN,reduceCtorEq,Nat.reduceEqDiff,↓reduceIte,Nat.reduceAdd,Nat.reduceLeDiff,Int.reduceEq,Bool.not_true,Option.getD_some,Int.toNat_natCast,Int.natCast_nonneg,List.length_map,List.getElem?_map,lt_T hlt,lt_T hltb,hg,hgb,e,hc,cfit]
   exact .mk (i+1) rfl ⟨hlt,by rw[ta,tb,htk,hxy]⟩ (by omega)
  ·have hR:decide (a=b)=false:=decide_eq_false fun q=>hxy (by rw[q]at hg;rw[hg]at hgb;exact Option.some.inj hgb)
   have hc:=Lo x y
   rw[decide_eq_false hxy]at hc
   rw[hR]
   simp only[eE,eC,eN,reduceCtorEq,Nat.reduceEqDiff,↓reduceIte,Nat.reduceAdd,Nat.reduceLeDiff,Bool.not_false,Option.getD_some,Int.toNat_natCast,Int.natCast_nonneg,List.length_map,List.getElem?_map,lt_T hlt,lt_T hltb,hg,hgb,hc,cfit]
 obtain rfl:i=a.syms.length:=by omega
 have b_syms:a.syms=b.syms:=by rw[List.take_length,l1,List.take_length]at htk;exact htk
 simp only[eE,eC,eN,reduceCtorEq,Nat.reduceEqDiff,↓reduceIte,Nat.reduceAdd,Nat.reduceLeDiff,List.length_map,lt_F hlt]
 clear hi htk hfl hlt
 refine AW (fun i:Nat=>⟨[(2,true,.ptr 0 0),(3,true,.ptr 1 0),(6,true,.int .i64 i)],hset (hset hnil 0 (.box (A0 a))) 1 (.box (A0 b)),3⟩) (fun i=>i≤a.regs.length∧a.regs.take i=b.regs.take i) (fun i=>a.regs.length-i) 0 rfl ⟨Nat.zero_le _,rfl⟩ ?_
 rintro i ⟨hi,htk⟩
 have hfl:a.regs.length<1000000000:=hd.rg
 by_cases hlt:i<a.regs.length
 ·have hltb:i<b.regs.length:=by omega
  have hg:=List.getElem?_eq_getElem hlt
  have hgb:=List.getElem?_eq_getElem hltb
  have e:=AO (k:=i) (by omega)
  have ta:a.regs.take (i+1)=a.regs.take i++[a.regs[i]]:=by rw[List.take_add_one,hg];rfl
  have tb:b.regs.take (i+1)=b.regs.take i++[b.regs[i]]:=by rw[List.take_add_one,hgb];rfl
  have hxf:Mr a.regs[i].ls:=hd.rgs _ (List.getElem_mem hlt)
  generalize a.regs[i]=x at hg ta hxf
  generalize b.regs[i]=y at hgb tb
  by_cases hxy:x=y
  ·have hc:=Q4 x y
   rw[decide_eq_true hxy]at hc
   simp only[eE,eC,eN,reduceCtorEq,Nat.reduceEqDiff,↓reduceIte,Nat.reduceAdd,Nat.reduceLeDiff,Int.reduceEq,Bool.not_true,Option.getD_some,Int.toNat_natCast,Int.natCast_nonneg,List.length_map,List.getElem?_map,lt_T hlt,lt_T hltb,hg,hgb,e,Tsd_l,s2,Ov,Kn,eq_true hxf,hc]
   exact .mk (i+1) rfl ⟨hlt,by rw[ta,tb,htk,hxy]⟩ (by omega)
  ·have hR:decide (a=b)=false:=decide_eq_false fun q=>hxy (by rw[q]at hg;rw[hg]at hgb;exact Option.some.inj hgb)
   have hc:=Q4 x y
   rw[decide_eq_false hxy]at hc
   rw[hR]
   simp only[eE,eC,eN,reduceCtorEq,Nat.reduceEqDiff,↓reduceIte,Nat.reduceAdd,Nat.reduceLeDiff,Bool.not_false,Option.getD_some,Int.toNat_natCast,Int.natCast_nonneg,List.length_map,List.getElem?_map,lt_T hlt,lt_T hltb,hg,hgb,Tsd_l,s2,Ov,Kn,eq_true hxf,hc]
 obtain rfl:i=a.regs.length:=by omega
 have b_regs:a.regs=b.regs:=by rw[List.take_length,l2,List.take_length]at htk;exact htk
 simp only[eE,eC,eN,reduceCtorEq,Nat.reduceEqDiff,↓reduceIte,Nat.reduceAdd,Nat.reduceLeDiff,List.length_map,lt_F hlt]
 clear hi htk hfl hlt
 refine AW (fun i:Nat=>⟨[(2,true,.ptr 0 0),(3,true,.ptr 1 0),(7,true,.int .i64 i)],hset (hset hnil 0 (.box (A0 a))) 1 (.box (A0 b)),3⟩) (fun i=>i≤a.clus.length∧a.clus.take i=b.clus.take i) (fun i=>a.clus.length-i) 0 rfl ⟨Nat.zero_le _,rfl⟩ ?_
 rintro i ⟨hi,htk⟩
 have hfl:a.clus.length<1000000000:=hd.cl
 by_cases hlt:i<a.clus.length
 ·have hltb:i<b.clus.length:=by omega
  have hg:=List.getElem?_eq_getElem hlt
  have hgb:=List.getElem?_eq_getElem hltb
  have e:=AO (k:=i) (by omega)
  have ta:a.clus.take (i+1)=a.clus.take i++[a.clus[i]]:=by rw[List.take_add_one,hg];rfl
  have tb:b.clus.take (i+1)=b.clus.take i++[b.clus[i]]:=by rw[List.take_add_one,hgb];rfl
  generalize a.clus[i]=x at hg ta
  generalize b.clus[i]=y at hgb tb
  by_cases hxy:x=y
  ·have hc:=Lp x y
   rw[decide_eq_true hxy]at hc
   simp only[eE,eC,eN,reduceCtorEq,Nat.reduceEqDiff,↓reduceIte,Nat.reduceAdd,Nat.reduceLeDiff,Int.reduceEq,Bool.not_true,Option.getD_some,Int.toNat_natCast,Int.natCast_nonneg,List.length_map,List.getElem?_map,lt_T hlt,lt_T hltb,hg,hgb,e,hc,cfit]
   exact .mk (i+1) rfl ⟨hlt,by rw[ta,tb,htk,hxy]⟩ (by omega)
  ·have hR:decide (a=b)=false:=decide_eq_false fun q=>hxy (by rw[q]at hg;rw[hg]at hgb;exact Option.some.inj hgb)
   have hc:=Lp x y
   rw[decide_eq_false hxy]at hc
   rw[hR]
   simp only[eE,eC,eN,reduceCtorEq,Nat.reduceEqDiff,↓reduceIte,Nat.reduceAdd,Nat.reduceLeDiff,Bool.not_false,Option.getD_some,Int.toNat_natCast,Int.natCast_nonneg,List.length_map,List.getElem?_map,lt_T hlt,lt_T hltb,hg,hgb,hc,cfit]
 obtain rfl:i=a.clus.length:=by omega
 have b_clus:a.clus=b.clus:=by rw[List.take_length,l3,List.take_length]at htk;exact htk
 simp only[eE,eC,eN,reduceCtorEq,Nat.reduceEqDiff,↓reduceIte,Nat.reduceAdd,Nat.reduceLeDiff,List.length_map,lt_F hlt]
 clear hi htk hfl hlt
 refine AW (fun i:Nat=>⟨[(2,true,.ptr 0 0),(3,true,.ptr 1 0),(8,true,.int .i64 i)],hset (hset hnil 0 (.box (A0 a))) 1 (.box (A0 b)),3⟩) (fun i=>i≤a.ruls.length∧a.ruls.take i=b.ruls.take i) (fun i=>a.ruls.length-i) 0 rfl ⟨Nat.zero_le _,rfl⟩ ?_
 rintro i ⟨hi,htk⟩
 have hfl:a.ruls.length<1000000000:=hd.ru
 by_cases hlt:i<a.ruls.length
 ·have hltb:i<b.ruls.length:=by omega
  have hg:=List.getElem?_eq_getElem hlt
  have hgb:=List.getElem?_eq_getElem hltb
  have e:=AO (k:=i) (by omega)
  have ta:a.ruls.take (i+1)=a.ruls.take i++[a.ruls[i]]:=by rw[List.take_add_one,hg];rfl
  have tb:b.ruls.take (i+1)=b.ruls.take i++[b.ruls[i]]:=by rw[List.take_add_one,hgb];rfl
  have hxf:G4 a.ruls[i]:=hd.rus _ (List.getElem_mem hlt)
  generalize a.ruls[i]=x at hg ta hxf
  generalize b.ruls[i]=y at hgb tb
  by_cases hxy:x=y
  ·simp only[eE,eC,eN,reduceCtorEq,Nat.reduceEqDiff,↓reduceIte,Nat.reduceAdd,Int.reduceEq,Bool.not_true,Option.getD_some,Int.toNat_natCast,Int.natCast_nonneg,List.length_map,List.getElem?_map,lt_T hlt,lt_T hltb,hg,hgb,e,Tsd_r,s2,Jq,Gv,eq_true hxf,HI hxy]
   exact .mk (i+1) rfl ⟨hlt,by rw[ta,tb,htk,hxy]⟩ (by omega)
  ·have hR:decide (a=b)=false:=decide_eq_false fun q=>hxy (by rw[q]at hg;rw[hg]at hgb;exact Option.some.inj hgb)
   rw[hR]
   simp only[eE,eC,eN,reduceCtorEq,Nat.reduceEqDiff,↓reduceIte,Nat.reduceAdd,Bool.not_false,Option.getD_some,Int.toNat_natCast,Int.natCast_nonneg,List.length_map,List.getElem?_map,lt_T hlt,lt_T hltb,hg,hgb,Tsd_r,s2,Jq,Gv,eq_true hxf,G3 hxy]
 obtain rfl:i=a.ruls.length:=by omega
 have b_ruls:a.ruls=b.ruls:=by rw[List.take_length,l4,List.take_length]at htk;exact htk
 have hR:decide (a=b)=true:=decide_eq_true (by
  cases a;cases b
  simp only at a1 a2 a3 a4 a5 a6 b_syms b_regs b_clus b_ruls
  subst a1 a2 a3 a4 a5 a6 b_syms b_regs b_clus b_ruls
  rfl)
 rw[hR]
 simp only[eE,eC,eN,reduceCtorEq,Nat.reduceEqDiff,↓reduceIte,Nat.reduceAdd,List.length_map,lt_F hlt]
end Go.AM
end
section
set_option maxRecDepth 20000
set_option linter.all false
namespace Go.AM
open Go.Proofs Go.Lib
theorem p21 (t:Tkn):Pur Tryz.prog 21 [encK t] (.bool (Ad t)):=by
 refine .mk (by simp [unders,AVal.under]) trivial (a21 (AF P3 (AE ?_)))
 simp only[eE,eN,An,sel,Nat.reduceEqDiff,↓reduceIte,Nat.reduceAdd,Nat.reduceLeDiff,Int.reduceLE,Int.reduceToNat,c21,T4_53,sS,T4_54,sB,FF,Ip]
 refine⟨fun h=>?_,fun h1=>⟨fun h=>?_,fun h2=>⟨fun h=>⟨fun q=>?_,?_⟩,fun h3=>?_⟩⟩⟩
 ·simp [Ad,h]
 ·rw[Bool.eq_iff_iff];simp [Ad,h]
 ·omega
 ·rw[Bool.eq_iff_iff]
  simp [Ad,h,sgnB]
  omega
 ·simp [Ad,h1,h2,h3]
theorem NA {ws:List (List UInt8)} {w sep:List UInt8} (h:ws≠[]):join (ws++[w]) sep=join ws sep++(sep++w):=by
 cases ws with
 |nil=>exact absurd rfl h
 |cons x r=>
  rw[List.cons_append,join_cons,join_cons]
  simp [joinTail]
abbrev s21:=sK fun x=>.bool (Ad x)
def s86:List AVal→AD→Prop×AVal:=fun a H=>match a with
 |[.int .i64 u]=>(0≤u∧u≤1099511627776,.str (itoa u))
 |_=>(False,.tup [])
theorem q86:∀args H n,(s86 args H).1→Bw Tryz.prog 86 args H n (s86 args H).2:=by
 intro args H n h
 unfold s86 at h⊢
 split at h
 ·rename_i u
  obtain⟨k,rfl⟩:∃k:Nat,u=k:=⟨u.toNat,by omega⟩
  simp only[It]
  exact(p86 k (by simp only at h;omega)).quiet H n
 ·exact h.elim
def T12:Tab:=tadd 86 s86 (tadd 21 s21 T4)
theorem T12_ok:AI Tryz.prog T12:=(P3.add (qK p21)).add q86
theorem PN (a:List AVal) (H:AD):T12 86 a H=s86 a H:=rfl
theorem NC (a:List AVal) (H:AD):T12 21 a H=s21 a H:=rfl
abbrev jn (l:List Tkn) (i:Nat):List UInt8:=join ((l.take i).map B0) [32]
theorem p33 (l:List Tkn) (hl:l.length≤1000000):Pur Tryz.prog 33 [.sl (.none 4) (l.map encK)] (Db l):=by
 refine .mk ⟨⟨trivial,Bu 0 l⟩,trivial⟩ (by unfold Db;split<;>simp [AVal.under,unders]) (a33 (AF T12_ok (AE ?_)))
 simp only[eE,eN,reduceCtorEq,Nat.reduceEqDiff,↓reduceIte,c33]
 refine AW (fun i:Nat=>⟨[(0,true,.sl (.none 4) (l.map encK)),(4,true,.str (jn l i)),(5,true,.int .i64 i)],hnil,0⟩)
  (fun i=>i≤l.length∧∀j (hj:j<l.length),j<i→Ad l[j]=true) (fun i=>l.length-i) 0 rfl ⟨Nat.zero_le _,fun j _ hj=>by omega⟩ ?_
 rintro i ⟨hi,hall⟩
 by_cases hlt:i<l.length
 ·have e:=AO (k:=i) (by omega)
  have hin:l[i]∈l:=List.getElem_mem hlt
  have hjl:=La (B:=32) ((l.take i).map B0) (fun w hw=>by
   obtain⟨t,ht',rfl⟩:=List.mem_map.1 hw
   obtain⟨j,hj,rfl⟩:=List.mem_iff_getElem.1 ht'
   rw[List.length_take]at hj
   rw[List.getElem_take]
   exact Is (hall j (by omega) (by omega)))
  rw[List.length_map,List.length_take]at hjl
  change (jn l i).length≤_ at hjl
  have hjl2:(jn l i).length≤33000000:=by
   have:min i l.length*(32+1)≤1000000*(32+1):=Nat.mul_le_mul_right _ (by omega)
   omega
  have htk:(l.take (i+1)).map B0=(l.take i).map B0++[B0 l[i]]:=by
   rw[List.take_succ_eq_append_getElem hlt,List.map_append];rfl
  have hw2:l[i].K=2→B0 l[i]=itoa l[i].N:=fun h=>by rw[B0,if_pos h]
  have hw3:l[i].K≠2→B0 l[i]=l[i].T:=fun h=>by rw[B0,if_neg h]
  have val':∀j (hj:j<l.length),Ad l[i]=true→j<i+1→Ad l[j]=true:=fun j hj hv h1=>by
   by_cases q:j=i
   ·subst q;exact hv
   ·exact hall j hj (by omega)
  by_cases hv:Ad l[i]=true
  case neg=>
   have hv':Ad l[i]=false:=by simpa using hv
   simp only[eE,eN,An,reduceCtorEq,Nat.reduceEqDiff,↓reduceIte,Nat.reduceAdd,Nat.reduceLeDiff,Int.reduceEq,List.length_map,Int.ofNat_lt,hlt,List.getElem?_map,List.getElem?_eq_getElem hlt,Int.toNat_natCast,Option.getD_some,Int.natCast_nonneg,e,NC,sK,hv']
   rw[Db,if_neg]
   ·exact Wk.refl _
   ·intro hh
    have:=List.all_eq_true.1 hh l[i] hin
    rw[hv']at this;cases this
  have hwl:=Is hv
  have nx:∀s,s=jn l (i+1)→lpN (fun i:Nat=>⟨[(0,true,.sl (.none 4) (l.map encK)),(4,true,.str (jn l i)),(5,true,.int .i64 i)],hnil,0⟩)
    (fun i=>i≤l.length∧∀j (hj:j<l.length),j<i→Ad l[j]=true) (fun i=>l.length-i) i ⟨[(0,true,.sl (.none 4) (l.map encK)),(4,true,.str s),(5,true,.int .i64 ((i+1:Nat):Int))],hnil,0⟩:=by
   rintro s rfl
   exact .mk (i+1) rfl ⟨hlt,fun j hj h1=>val' j hj hv h1⟩ (by omega)
  have j0:i=0→jn l (i+1)=jn l i++B0 l[i]:=fun h=>by
   have h0:l.take i=[]:=by rw[h];rfl
   rw[jn,jn,htk,h0,List.map_nil,List.nil_append,join_one,join_nil];rfl
  have j1:i≠0→jn l (i+1)=jn l i++[32]++B0 l[i]:=fun h=>by
   rw[jn,jn,htk,NA]
   ·simp
   ·intro q
    have:=congrArg List.length q
    simp at this
    rcases this with h1|h1
    ·exact h h1
    ·subst h1;simp at hlt
  by_cases hk:l[i].K=2
  ·have hkT:(l[i].K=2)=True:=eq_true hk
   obtain⟨n1,n2⟩:=FH hv hk
   rw[hw2 hk]at hwl j0 j1
   by_cases h0:i=0
   ·have h0T:((0:Int)<i)=False:=eq_false (by omega)
    simp only[eE,eN,An,reduceCtorEq,Nat.reduceEqDiff,↓reduceIte,Nat.reduceAdd,Nat.reduceLeDiff,Int.reduceEq,List.length_map,Int.ofNat_lt,hlt,List.getElem?_map,List.getElem?_eq_getElem hlt,Int.toNat_natCast,Option.getD_some,Int.natCast_nonneg,e,NC,sK,hv,hkT,PN,s86,h0T]
    exact⟨⟨n1,n2⟩,by unfold Ao;omega,nx _ (j0 h0).symm⟩
   ·have h0T:((0:Int)<i)=True:=eq_true (by omega)
    simp only[eE,eN,An,reduceCtorEq,Nat.reduceEqDiff,↓reduceIte,Nat.reduceAdd,Nat.reduceLeDiff,Int.reduceEq,List.length_map,Int.ofNat_lt,hlt,List.getElem?_map,List.getElem?_eq_getElem hlt,Int.toNat_natCast,Option.getD_some,Int.natCast_nonneg,e,NC,sK,hv,hkT,PN,s86,h0T]
    exact⟨by unfold Ao;omega,⟨n1,n2⟩,by unfold Ao;simp only[List.length_append,List.length_cons,List.length_nil];omega,nx _ (j1 h0).symm⟩
  ·have hkT:(l[i].K=2)=False:=eq_false hk
   rw[hw3 hk]at hwl j0 j1
   by_cases h0:i=0
   ·have h0T:((0:Int)<i)=False:=eq_false (by omega)
    simp only[eE,eN,An,reduceCtorEq,Nat.reduceEqDiff,↓reduceIte,Nat.reduceAdd,Nat.reduceLeDiff,Int.reduceEq,List.length_map,Int.ofNat_lt,hlt,List.getElem?_map,List.getElem?_eq_getElem hlt,Int.toNat_natCast,Option.getD_some,Int.natCast_nonneg,e,NC,sK,hv,hkT,PN,s86,h0T]
    exact⟨by unfold Ao;omega,nx _ (j0 h0).symm⟩
   ·have h0T:((0:Int)<i)=True:=eq_true (by omega)
    simp only[eE,eN,An,reduceCtorEq,Nat.reduceEqDiff,↓reduceIte,Nat.reduceAdd,Nat.reduceLeDiff,Int.reduceEq,List.length_map,Int.ofNat_lt,hlt,List.getElem?_map,List.getElem?_eq_getElem hlt,Int.toNat_natCast,Option.getD_some,Int.natCast_nonneg,e,NC,sK,hv,hkT,PN,s86,h0T]
    exact⟨by unfold Ao;omega,by unfold Ao;simp only[List.length_append,List.length_cons,List.length_nil];omega,nx _ (j1 h0).symm⟩
 ·have:i=l.length:=by omega
  subst this
  have hav:l.all Ad=true:=List.all_eq_true.2 fun t ht'=>by
   obtain⟨j,hj,rfl⟩:=List.mem_iff_getElem.1 ht'
   exact hall j hj hj
  simp only[eE,eN,An,reduceCtorEq,Nat.reduceEqDiff,↓reduceIte,Int.reduceEq,List.length_map,Int.ofNat_lt,hlt]
  rw[Db,if_pos hav,jn,List.take_length]
  exact Wk.refl _
end Go.AM
end
section
set_option maxRecDepth 20000
set_option linter.all false
namespace Go.AM
open Go.Proofs Go.Lib
def okSy (s:DSym):Bool:=decide (s.nm.length≤40)
def okRg (r:DReg):Bool:=decide (r.nm.length≤40)&&decide (r.ls.length≤20)&&r.ls.all fun l=>decide (l.length≤20)
def okCl (c:DClu):Bool:=decide (c.nm.length≤40)&&decide (c.on.length≤40)
def okRu (r:DRul):Bool:=decide (r.nm.length≤40)&&decide (r.on.length≤40)&&decide (r.byN.length≤40)&&decide (r.ns.length≤20)&&decide (r.os.length≤20)
def fewT (d:Dcl):Bool:=decide (d.nm.length≤40)&&decide (d.holes.length≤20)&&decide (d.syms.length≤20)&&decide (d.regs.length≤6)&&decide (d.clus.length≤8)&&decide (d.ruls.length≤20)&&d.syms.all okSy&&d.regs.all okRg&&d.clus.all okCl&&d.ruls.all okRu
theorem Q5 {d:Dcl} (h:fewT d=true):FewS d:=by
 unfold fewT at h
 simp only[Bool.and_eq_true,decide_eq_true_eq,List.all_eq_true]at h
 obtain⟨⟨⟨⟨⟨⟨⟨⟨⟨h1,h2⟩,h3⟩,h4⟩,h5⟩,h6⟩,h7⟩,h8⟩,h9⟩,h10⟩:=h
 refine⟨h2,h3,h4,h5,h6,fun r hr=>?_,fun r hr=>?_⟩
 ·have:=h8 r hr
  unfold okRg at this
  simp only[Bool.and_eq_true,decide_eq_true_eq,List.all_eq_true]at this
  exact⟨this.1.2,fun x hx=>this.2 x hx⟩
 ·have:=h10 r hr
  unfold okRu at this
  simp only[Bool.and_eq_true,decide_eq_true_eq]at this
  exact⟨this.1.2,this.2⟩
theorem p29 (l:List Int) (m:Int):Pur Tryz.prog 29 [eIs l,.int .i64 m] (.bool (decide ((l.length:Int)≤m))):=by
 refine .mk ⟨Bn 0 l,trivial,trivial⟩ trivial (a29 (AF AI.tnil (AE ?_)))
 simp only[eE,eN,reduceCtorEq,Nat.reduceEqDiff,↓reduceIte,Nat.reduceAdd,c29,List.length_map]
def Tfw:Tab:=tadd 29 (s2 dIs dI (fun _ _=>True) fun l m=>.bool (decide ((l.length:Int)≤m))) tnil
theorem Tfw_ok:AI Tryz.prog Tfw:=AI.tnil.add (q2 fun l m _=>p29 l m)
theorem IN (a:List AVal) (H:AD):Tfw 29 a H=s2 dIs dI (fun _ _=>True) (fun l m=>.bool (decide ((l.length:Int)≤m))) a H:=rfl
abbrev QF (b:Bool):AExit→AS→Prop:=Cg [.t 2] (Ret (.bool b))
structure VFw where
 i:Nat
 H:AD
 n:Nat
theorem E4 {α:Type} {f:α→Bool} {l:List α} {i:Nat} (h:i<l.length):(l.drop i).all f=(f l[i]&&(l.drop (i+1)).all f):=by
 rw[List.drop_eq_getElem_cons h,List.all_cons]
section
variable {d:Dcl} {b:Bool} {H:AD} {n:Nat} {X:List (Nat×Bool×AVal)}
theorem fk5 (hx:hget H 0=some (.box (A0 d))) (hf:Ab H n) (hn:1≤n) (hl:d.ruls.length≤20) (hb:b=(d.ruls.all okRu)):kont Tryz.prog Tfw (QF b) [.c (sndN 5 c13)] .normal ⟨(1,true,.ptr 0 0)::X,H,n⟩:=by
 rw[AL]
 simp only[eE,eN,Nat.reduceEqDiff,↓reduceIte,c13,sndN,sndA]
 refine AW (fun v:VFw×List (Nat×Bool×AVal)=>⟨(1,true,.ptr 0 0)::(7,true,.int .i64 v.1.i)::[],v.1.H,v.1.n⟩) (fun v=>v.1.i≤d.ruls.length∧hget v.1.H 0=some (.box (A0 d))∧Ab v.1.H v.1.n∧1≤v.1.n∧b=((d.ruls.drop v.1.i).all okRu)) (fun v=>d.ruls.length-v.1.i) (⟨0,H,n⟩,X) rfl ⟨Nat.zero_le _,hx,hf,hn,by simpa using hb⟩ ?_
 rintro⟨⟨i,H1,n1⟩,X1⟩ ⟨hi,hx1,hf1,hn1,hb1⟩
 simp only at hi hx1 hf1 hn1 hb1
 by_cases hlt:i<d.ruls.length
 case neg=>
  have:i=d.ruls.length:=by omega
  subst this
  rw[List.drop_length,List.all_nil]at hb1
  try rw[Bool.true_and]at hb1
  simp only[eE,eC,eN,Nat.reduceEqDiff,↓reduceIte,Nat.reduceAdd,List.length_map,lt_F hlt,hx1]
  exact hb1.symm
 have hg:=List.getElem?_eq_getElem hlt
 have e:=AO (k:=i) (by omega)
 rw[E4 hlt]at hb1
 generalize d.ruls[i]=x at hg hb1
 have y0:(n1+5=0)=False:=eq_false (by omega)
 by_cases t0:x.nm.length≤40
 case neg=>
  have z0:((40:Int)<(x.nm.length:Int))=True:=eq_true (by omega)
  simp only[eE,eC,eN,reduceCtorEq,Nat.reduceEqDiff,↓reduceIte,Nat.reduceAdd,Nat.reduceLeDiff,Bool.not_true,Bool.not_true,Option.getD_some,Int.toNat_natCast,Int.natCast_nonneg,List.length_map,List.getElem?_map,lt_T hlt,hg,hx1,fr1 hf1,AT,z0]
  simp [hb1,okRu,t0]
 have z0:((40:Int)<(x.nm.length:Int))=False:=eq_false (by omega)
 by_cases t1:x.on.length≤40
 case neg=>
  have z1:((40:Int)<(x.on.length:Int))=True:=eq_true (by omega)
  simp only[eE,eC,eN,reduceCtorEq,Nat.reduceEqDiff,↓reduceIte,Nat.reduceAdd,Nat.reduceLeDiff,Bool.not_true,Bool.not_true,Option.getD_some,Int.toNat_natCast,Int.natCast_nonneg,List.length_map,List.getElem?_map,lt_T hlt,hg,hx1,fr1 hf1,AT,z0,z1]
  simp [hb1,okRu,t1]
 have z1:((40:Int)<(x.on.length:Int))=False:=eq_false (by omega)
 by_cases t2:x.byN.length≤40
 case neg=>
  have z2:((40:Int)<(x.byN.length:Int))=True:=eq_true (by omega)
  simp only[eE,eC,eN,reduceCtorEq,Nat.reduceEqDiff,↓reduceIte,Nat.reduceAdd,Nat.reduceLeDiff,Bool.not_true,Bool.not_true,Option.getD_some,Int.toNat_natCast,Int.natCast_nonneg,List.length_map,List.getElem?_map,lt_T hlt,hg,hx1,fr1 hf1,AT,z0,z1,z2]
  simp [hb1,okRu,t2]
 have z2:((40:Int)<(x.byN.length:Int))=False:=eq_false (by omega)
 by_cases t3:x.ns.length≤20
 case neg=>
  have z3:((20:Int)<(x.ns.length:Int))=True:=eq_true (by omega)
  simp only[eE,eC,eN,reduceCtorEq,Nat.reduceEqDiff,↓reduceIte,Nat.reduceAdd,Nat.reduceLeDiff,Bool.not_true,Bool.not_true,Option.getD_some,Int.toNat_natCast,Int.natCast_nonneg,List.length_map,List.getElem?_map,lt_T hlt,hg,hx1,fr1 hf1,AT,z0,z1,z2,z3]
  simp [hb1,okRu,t3]
 have z3:((20:Int)<(x.ns.length:Int))=False:=eq_false (by omega)
 by_cases t4:x.os.length≤20
 case neg=>
  have z4:((20:Int)<(x.os.length:Int))=True:=eq_true (by omega)
  simp only[eE,eC,eN,Nat.reduceEqDiff,↓reduceIte,Nat.reduceAdd,Nat.reduceLeDiff,Option.getD_some,Int.toNat_natCast,Int.natCast_nonneg,List.length_map,List.getElem?_map,lt_T hlt,hg,hx1,fr1 hf1,AT,z0,z1,z2,z3,z4]
  simp [hb1,okRu,t4]
 have z4:((20:Int)<(x.os.length:Int))=False:=eq_false (by omega)
 have hok:okRu x=true:=by simp [okRu,t0,t1,t2,t3,t4]
 simp only[eE,eC,eN,Nat.reduceEqDiff,↓reduceIte,Nat.reduceAdd,Nat.reduceLeDiff,Int.reduceEq,Option.getD_some,Int.toNat_natCast,Int.natCast_nonneg,List.length_map,List.getElem?_map,lt_T hlt,hg,hx1,fr1 hf1,AT,e,z0,z1,z2,z3,z4]
 exact lpN.mk (⟨i+1,hset H1 (n1+5) (.box (BB x)),n1+7⟩,[]) rfl ⟨hlt,by simp only[];rw[AC _ _ _ _ (by omega)];exact hx1,hf1.hset (by simp only[];omega) (by simp only[];omega),by simp only[];omega,by rw[hb1,hok];simp⟩ (by simp only[];omega)
theorem fk4 (hx:hget H 0=some (.box (A0 d))) (hf:Ab H n) (hn:1≤n) (hl:d.clus.length≤20) (hl5:d.ruls.length≤20) (hb:b=(d.clus.all okCl&&d.ruls.all okRu)):kont Tryz.prog Tfw (QF b) [.c (sndN 4 c13)] .normal ⟨(1,true,.ptr 0 0)::X,H,n⟩:=by
 rw[AL]
 simp only[eE,eN,Nat.reduceEqDiff,↓reduceIte,c13,sndN,sndA]
 refine AW (fun v:VFw×List (Nat×Bool×AVal)=>⟨(1,true,.ptr 0 0)::(6,true,.int .i64 v.1.i)::[],v.1.H,v.1.n⟩) (fun v=>v.1.i≤d.clus.length∧hget v.1.H 0=some (.box (A0 d))∧Ab v.1.H v.1.n∧1≤v.1.n∧b=((d.clus.drop v.1.i).all okCl&&d.ruls.all okRu)) (fun v=>d.clus.length-v.1.i) (⟨0,H,n⟩,X) rfl ⟨Nat.zero_le _,hx,hf,hn,by simpa using hb⟩ ?_
 rintro⟨⟨i,H1,n1⟩,X1⟩ ⟨hi,hx1,hf1,hn1,hb1⟩
 simp only at hi hx1 hf1 hn1 hb1
 by_cases hlt:i<d.clus.length
 case neg=>
  have:i=d.clus.length:=by omega
  subst this
  rw[List.drop_length,List.all_nil]at hb1
  try rw[Bool.true_and]at hb1
  simp only[eE,Nat.reduceEqDiff,↓reduceIte,Nat.reduceAdd,Nat.reduceLeDiff,lt_F hlt,hx1,List.length_map]
  rw[AL]
  simp only[eE,eC,Nat.reduceEqDiff,↓reduceIte]
  exact fk5 hx1 hf1 hn1 hl5 hb1
 have hg:=List.getElem?_eq_getElem hlt
 have e:=AO (k:=i) (by omega)
 rw[E4 hlt]at hb1
 generalize d.clus[i]=x at hg hb1
 have y0:(n1+5=0)=False:=eq_false (by omega)
 by_cases t0:x.nm.length≤40
 case neg=>
  have z0:((40:Int)<(x.nm.length:Int))=True:=eq_true (by omega)
  simp only[eE,eC,eN,reduceCtorEq,Nat.reduceEqDiff,↓reduceIte,Nat.reduceAdd,Nat.reduceLeDiff,Bool.not_true,Bool.not_true,Option.getD_some,Int.toNat_natCast,Int.natCast_nonneg,List.length_map,List.getElem?_map,lt_T hlt,hg,hx1,z0]
  simp [hb1,okCl,t0]
 have z0:((40:Int)<(x.nm.length:Int))=False:=eq_false (by omega)
 by_cases t1:x.on.length≤40
 case neg=>
  have z1:((40:Int)<(x.on.length:Int))=True:=eq_true (by omega)
  simp only[eE,eC,eN,Nat.reduceEqDiff,↓reduceIte,Nat.reduceAdd,Nat.reduceLeDiff,Option.getD_some,Int.toNat_natCast,Int.natCast_nonneg,List.length_map,List.getElem?_map,lt_T hlt,hg,hx1,z0,z1]
  simp [hb1,okCl,t1]
 have z1:((40:Int)<(x.on.length:Int))=False:=eq_false (by omega)
 have hok:okCl x=true:=by simp [okCl,t0,t1]
 simp only[eE,eC,eN,Nat.reduceEqDiff,↓reduceIte,Nat.reduceAdd,Nat.reduceLeDiff,Int.reduceEq,Option.getD_some,Int.toNat_natCast,Int.natCast_nonneg,List.length_map,List.getElem?_map,lt_T hlt,hg,hx1,e,z0,z1]
 exact lpN.mk (⟨i+1,H1,n1⟩,[]) rfl ⟨hlt,hx1,hf1,hn1,by rw[hb1,hok];simp⟩ (by simp only[];omega)
theorem fk3 (hx:hget H 0=some (.box (A0 d))) (hf:Ab H n) (hn:1≤n) (hl:d.regs.length≤20) (hl4:d.clus.length≤20) (hl5:d.ruls.length≤20) (hb:b=(d.regs.all okRg&&(d.clus.all okCl&&d.ruls.all okRu))):kont Tryz.prog Tfw (QF b) [.c (sndN 3 c13)] .normal ⟨(1,true,.ptr 0 0)::X,H,n⟩:=by
 rw[AL]
 simp only[eE,eN,Nat.reduceEqDiff,↓reduceIte,c13,sndN,sndA]
 refine AW (fun v:VFw×List (Nat×Bool×AVal)=>⟨(1,true,.ptr 0 0)::(4,true,.int .i64 v.1.i)::[],v.1.H,v.1.n⟩) (fun v=>v.1.i≤d.regs.length∧hget v.1.H 0=some (.box (A0 d))∧Ab v.1.H v.1.n∧1≤v.1.n∧b=((d.regs.drop v.1.i).all okRg&&(d.clus.all okCl&&d.ruls.all okRu))) (fun v=>d.regs.length-v.1.i) (⟨0,H,n⟩,X) rfl ⟨Nat.zero_le _,hx,hf,hn,by simpa using hb⟩ ?_
 rintro⟨⟨i,H1,n1⟩,X1⟩ ⟨hi,hx1,hf1,hn1,hb1⟩
 simp only at hi hx1 hf1 hn1 hb1
 by_cases hlt:i<d.regs.length
 case neg=>
  have:i=d.regs.length:=by omega
  subst this
  rw[List.drop_length,List.all_nil]at hb1
  try rw[Bool.true_and]at hb1
  simp only[eE,Nat.reduceEqDiff,↓reduceIte,Nat.reduceAdd,Nat.reduceLeDiff,lt_F hlt,hx1,List.length_map]
  rw[AL]
  simp only[eE,eC,Nat.reduceEqDiff,↓reduceIte]
  exact fk4 hx1 hf1 hn1 hl4 hl5 hb1
 have hg:=List.getElem?_eq_getElem hlt
 have e:=AO (k:=i) (by omega)
 rw[E4 hlt]at hb1
 generalize d.regs[i]=x at hg hb1
 have y0:(n1+5=0)=False:=eq_false (by omega)
 by_cases t0:x.nm.length≤40
 case neg=>
  have z0:((40:Int)<(x.nm.length:Int))=True:=eq_true (by omega)
  simp only[eE,eC,eN,reduceCtorEq,Nat.reduceEqDiff,↓reduceIte,Nat.reduceAdd,Nat.reduceLeDiff,Bool.not_true,Bool.not_true,Option.getD_some,Int.toNat_natCast,Int.natCast_nonneg,List.length_map,List.getElem?_map,lt_T hlt,hg,hx1,z0]
  simp [hb1,okRg,t0]
 have z0:((40:Int)<(x.nm.length:Int))=False:=eq_false (by omega)
 by_cases t1:x.ls.length≤20
 case neg=>
  have z1:((20:Int)<(x.ls.length:Int))=True:=eq_true (by omega)
  simp only[eE,eC,eN,Nat.reduceEqDiff,↓reduceIte,Nat.reduceAdd,Nat.reduceLeDiff,Option.getD_some,Int.toNat_natCast,Int.natCast_nonneg,List.length_map,List.getElem?_map,lt_T hlt,hg,hx1,z0,z1]
  simp [hb1,okRg,t1]
 have z1:((20:Int)<(x.ls.length:Int))=False:=eq_false (by omega)
 simp only[eE,eC,eN,Nat.reduceEqDiff,↓reduceIte,Nat.reduceAdd,Nat.reduceLeDiff,Option.getD_some,Int.toNat_natCast,Int.natCast_nonneg,List.length_map,List.getElem?_map,lt_T hlt,hg,hx1,z0,z1]
 refine AW (fun j:Nat=>⟨(1,true,.ptr 0 0)::(4,true,.int .i64 i)::(5,true,.int .i64 j)::[],H1,n1⟩) (fun j=>j≤x.ls.length∧x.ls.all (fun l=>decide (l.length≤20))=(x.ls.drop j).all fun l=>decide (l.length≤20)) (fun j=>x.ls.length-j) 0 rfl ⟨Nat.zero_le _,by simp⟩ ?_
 rintro j ⟨hj,ha⟩
 by_cases hlj:j<x.ls.length
 case neg=>
  have:j=x.ls.length:=by omega
  subst this
  rw[List.drop_length,List.all_nil]at ha
  have hok:okRg x=true:=by unfold okRg;rw[ha];simp [t0,t1]
  simp only[eE,eC,eN,Nat.reduceEqDiff,↓reduceIte,Nat.reduceAdd,Nat.reduceLeDiff,Int.reduceEq,Option.getD_some,Int.toNat_natCast,Int.natCast_nonneg,List.length_map,List.getElem?_map,lt_F hlj,lt_T hlt,hg,hx1,e]
  exact lpN.mk (⟨i+1,H1,n1⟩,[]) rfl ⟨hlt,hx1,hf1,hn1,by rw[hb1,hok];simp⟩ (by simp only[];omega)
 have hgj:=List.getElem?_eq_getElem hlj
 have ej:=AO (k:=j) (by omega)
 rw[E4 hlj]at ha
 generalize x.ls[j]=y at hgj ha
 by_cases t2:y.length≤20
 case neg=>
  have z2:((y.length:Int)≤20)=False:=eq_false (by omega)
  have hok:okRg x=false:=by unfold okRg;rw[ha];simp [t2]
  simp only[eE,eC,eN,Nat.reduceEqDiff,↓reduceIte,Nat.reduceAdd,Nat.reduceLeDiff,Bool.not_false,IN,s2,B1,BS,By,A9,Bool.not_false,Option.getD_some,Int.toNat_natCast,Int.natCast_nonneg,List.length_map,List.getElem?_map,lt_T hlj,hgj,z2,lt_T hlt,hg,hx1]
  simp [hb1,hok]
 have z2:((y.length:Int)≤20)=True:=eq_true (by omega)
 simp only[eE,eC,eN,Nat.reduceEqDiff,↓reduceIte,Nat.reduceAdd,Nat.reduceLeDiff,Int.reduceEq,Bool.not_true,IN,s2,B1,BS,By,A9,Bool.not_true,Option.getD_some,Int.toNat_natCast,Int.natCast_nonneg,List.length_map,List.getElem?_map,lt_T hlj,hgj,ej,z2,lt_T hlt,hg,hx1]
 exact lpN.mk (j+1) rfl ⟨hlj,by rw[ha];simp [t2]⟩ (by omega)
theorem fk2 (hx:hget H 0=some (.box (A0 d))) (hf:Ab H n) (hn:1≤n) (hl:d.syms.length≤20) (hl3:d.regs.length≤20) (hl4:d.clus.length≤20) (hl5:d.ruls.length≤20) (hb:b=(d.syms.all okSy&&(d.regs.all okRg&&(d.clus.all okCl&&d.ruls.all okRu)))):kont Tryz.prog Tfw (QF b) [.c (sndN 2 c13)] .normal ⟨(1,true,.ptr 0 0)::X,H,n⟩:=by
 rw[AL]
 simp only[eE,eN,Nat.reduceEqDiff,↓reduceIte,c13,sndN,sndA]
 refine AW (fun v:VFw×List (Nat×Bool×AVal)=>⟨(1,true,.ptr 0 0)::(3,true,.int .i64 v.1.i)::[],v.1.H,v.1.n⟩) (fun v=>v.1.i≤d.syms.length∧hget v.1.H 0=some (.box (A0 d))∧Ab v.1.H v.1.n∧1≤v.1.n∧b=((d.syms.drop v.1.i).all okSy&&(d.regs.all okRg&&(d.clus.all okCl&&d.ruls.all okRu)))) (fun v=>d.syms.length-v.1.i) (⟨0,H,n⟩,X) rfl ⟨Nat.zero_le _,hx,hf,hn,by simpa using hb⟩ ?_
 rintro⟨⟨i,H1,n1⟩,X1⟩ ⟨hi,hx1,hf1,hn1,hb1⟩
 simp only at hi hx1 hf1 hn1 hb1
 by_cases hlt:i<d.syms.length
 case neg=>
  have:i=d.syms.length:=by omega
  subst this
  rw[List.drop_length,List.all_nil]at hb1
  try rw[Bool.true_and]at hb1
  simp only[eE,Nat.reduceEqDiff,↓reduceIte,Nat.reduceAdd,Nat.reduceLeDiff,lt_F hlt,hx1,List.length_map]
  rw[AL]
  simp only[eE,eC,Nat.reduceEqDiff,↓reduceIte]
  exact fk3 hx1 hf1 hn1 hl3 hl4 hl5 hb1
 have hg:=List.getElem?_eq_getElem hlt
 have e:=AO (k:=i) (by omega)
 rw[E4 hlt]at hb1
 generalize d.syms[i]=x at hg hb1
 have y0:(n1+5=0)=False:=eq_false (by omega)
 by_cases t0:x.nm.length≤40
 case neg=>
  have z0:((40:Int)<(x.nm.length:Int))=True:=eq_true (by omega)
  simp only[eE,eC,eN,Nat.reduceEqDiff,↓reduceIte,Nat.reduceAdd,Nat.reduceLeDiff,Option.getD_some,Int.toNat_natCast,Int.natCast_nonneg,List.length_map,List.getElem?_map,lt_T hlt,hg,hx1,z0]
  simp [hb1,okSy,t0]
 have z0:((40:Int)<(x.nm.length:Int))=False:=eq_false (by omega)
 have hok:okSy x=true:=by simp [okSy,t0]
 simp only[eE,eC,eN,Nat.reduceEqDiff,↓reduceIte,Nat.reduceAdd,Nat.reduceLeDiff,Int.reduceEq,Option.getD_some,Int.toNat_natCast,Int.natCast_nonneg,List.length_map,List.getElem?_map,lt_T hlt,hg,hx1,e,z0]
 exact lpN.mk (⟨i+1,H1,n1⟩,[]) rfl ⟨hlt,hx1,hf1,hn1,by rw[hb1,hok];simp⟩ (by simp only[];omega)
end
theorem p13 (d:Dcl):Pur Tryz.prog 13 [encD d] (.bool (fewT d)):=by
 refine .mk ⟨Ai 0 d,trivial⟩ trivial (a13 (AF Tfw_ok (AE ?_)))
 by_cases t0:d.nm.length≤40
 case neg=>
  have y0:((40:Int)<(d.nm.length:Int))=True:=eq_true (by omega)
  simp only[eE,eC,eN,reduceCtorEq,Nat.reduceEqDiff,↓reduceIte,Nat.reduceAdd,Nat.reduceLeDiff,Bool.not_true,IN,s2,B1,BS,By,A9,Bool.not_true,List.length_map,c13,y0]
  simp [fewT,t0]
 have y0:((40:Int)<(d.nm.length:Int))=False:=eq_false (by omega)
 by_cases t1:d.holes.length≤20
 case neg=>
  have y1:((d.holes.length:Int)≤20)=False:=eq_false (by omega)
  simp only[eE,eC,eN,reduceCtorEq,Nat.reduceEqDiff,↓reduceIte,Nat.reduceAdd,Nat.reduceLeDiff,Bool.not_true,Bool.not_false,IN,s2,B1,BS,By,A9,Bool.not_true,Bool.not_false,List.length_map,c13,y0,y1]
  simp [fewT,t1]
 have y1:((d.holes.length:Int)≤20)=True:=eq_true (by omega)
 by_cases t2:d.syms.length≤20
 case neg=>
  have y2:((20:Int)<(d.syms.length:Int))=True:=eq_true (by omega)
  simp only[eE,eC,eN,reduceCtorEq,Nat.reduceEqDiff,↓reduceIte,Nat.reduceAdd,Nat.reduceLeDiff,Bool.not_true,IN,s2,B1,BS,By,A9,Bool.not_true,List.length_map,c13,y0,y1,y2]
  simp [fewT,t2]
 have y2:((20:Int)<(d.syms.length:Int))=False:=eq_false (by omega)
 by_cases t3:d.regs.length≤6
 case neg=>
  have y3:((6:Int)<(d.regs.length:Int))=True:=eq_true (by omega)
  simp only[eE,eC,eN,reduceCtorEq,Nat.reduceEqDiff,↓reduceIte,Nat.reduceAdd,Nat.reduceLeDiff,Bool.not_true,IN,s2,B1,BS,By,A9,Bool.not_true,List.length_map,c13,y0,y1,y2,y3]
  simp [fewT,t3]
 have y3:((6:Int)<(d.regs.length:Int))=False:=eq_false (by omega)
 by_cases t4:d.clus.length≤8
 case neg=>
  have y4:((8:Int)<(d.clus.length:Int))=True:=eq_true (by omega)
  simp only[eE,eC,eN,reduceCtorEq,Nat.reduceEqDiff,↓reduceIte,Nat.reduceAdd,Nat.reduceLeDiff,Bool.not_true,IN,s2,B1,BS,By,A9,Bool.not_true,List.length_map,c13,y0,y1,y2,y3,y4]
  simp [fewT,t4]
 have y4:((8:Int)<(d.clus.length:Int))=False:=eq_false (by omega)
 by_cases t5:d.ruls.length≤20
 case neg=>
  have y5:((20:Int)<(d.ruls.length:Int))=True:=eq_true (by omega)
  simp only[eE,eC,eN,Nat.reduceEqDiff,↓reduceIte,Nat.reduceAdd,Nat.reduceLeDiff,Bool.not_true,IN,s2,B1,BS,By,A9,Bool.not_true,List.length_map,c13,y0,y1,y2,y3,y4,y5]
  simp [fewT,t5]
 have y5:((20:Int)<(d.ruls.length:Int))=False:=eq_false (by omega)
 have hT:fewT d=(d.syms.all okSy&&(d.regs.all okRg&&(d.clus.all okCl&&d.ruls.all okRu))):=by
  unfold fewT
  simp only[t0,t1,t2,t3,t4,t5,decide_true,Bool.true_and,Bool.and_assoc]
 simp only[eE,Nat.reduceEqDiff,↓reduceIte,Nat.reduceAdd,c13]
 rw[AL]
 simp only[eE,eC,Nat.reduceEqDiff,↓reduceIte,Nat.reduceAdd,Nat.reduceLeDiff,Bool.not_true,List.length_map,IN,s2,B1,BS,By,A9,Bool.not_true,y0,y1,y2,y3,y4,y5]
 rw[AL]
 simp only[eE,eC,Nat.reduceEqDiff,↓reduceIte]
 refine fk2 (X:=_) (n:=2) (AB ..) ?_ (by decide) t2 (by omega) (by omega) t5 hT
 intro id hid
 rw[AC _ _ _ _ (by omega)];rfl
end Go.AM
end
section
set_option maxRecDepth 20000
set_option linter.all false
namespace Go.AM
open Go.Proofs Go.Lib
def Kp {α:Type} (P:α→Prop) (p:List Tkn→Rs α):Prop:=∀l a r,few l→p l= .ok a r→P a
theorem Kp.any {α:Type} {p:List Tkn→Rs α}:Kp (fun _=>True) p:=fun _ _ _ _ _=>trivial
theorem Kp.ok {α:Type} {P:α→Prop} {a:α} (h:P a):Kp P (Rs.ok a):=fun l b r _ e=>by cases e;exact h
theorem Kp.bad {α:Type} {P:α→Prop}:Kp P (Rs.bad:List Tkn→Rs α):=fun l b r _ e=>by cases e
theorem Kp.bd {α β:Type} {Q:α→Prop} {P:β→Prop} {p:List Tkn→Rs α} {f:α→List Tkn→Rs β} (hL:Le p) (hp:Kp Q p) (hf:∀a,Q a→Kp P (f a)):Kp P fun l=>(p l).bd f:=fun l b r hl e=>by
 obtain⟨a,q,h1,h2⟩:=AJ (show(p l).bd f=_ from e)
 have:=hL _ _ _ h1
 exact hf a (hp _ _ _ hl h1) q b r (by have:l.length<1000000000:=hl;show q.length<_;omega) h2
theorem Kp.bd1 {α β:Type} {P:β→Prop} {p:List Tkn→Rs α} {f:α→List Tkn→Rs β} (hL:Le p) (hf:∀a,Kp P (f a)):Kp P fun l=>(p l).bd f:=Kp.bd hL Kp.any fun a _=>hf a
theorem Kp.word {α:Type} {P:α→Prop} (w:Bs) {p q:List Tkn→Rs α} (hp:Kp P p) (hq:Kp P q):Kp P fun l=>if hdW w l=true then p l.tail else q l:=fun l a r hl e=>by
 simp only[]at e
 split at e
 ·exact hp _ _ _ (Av hl) e
 ·exact hq _ _ _ hl e
theorem I8 {α:Type} {P:α→Prop} {t:List Tkn→Bool} {one:List Tkn→Rs α} (hL:Lt one) (h:Kp P one):∀(k:Nat) (l:List Tkn) (xs:List α) (r:List Tkn),l.length=k→few l→BA t one l= .ok xs r→xs.length≤l.length∧∀x∈xs,P x:=fun k=>by
 induction k using Nat.strongRecOn with
 |_ k ih=>
  intro l xs r hk hl e
  by_cases ht:t l=true
  ·rw[G5 hL ht]at e
   obtain⟨a,q,h1,h2⟩:=AJ e
   obtain⟨ys,q2,h3,h4⟩:=AJ h2
   cases h4
   have hlt:=hL _ _ _ h1
   have hq:few q:=by have:l.length<1000000000:=hl;show q.length<_;omega
   obtain⟨g1,g2⟩:=ih q.length (by omega) q ys _ rfl hq h3
   refine⟨by rw[List.length_cons];omega,fun x hx=>?_⟩
   rcases List.mem_cons.1 hx with rfl|hx
   ·exact h _ _ _ hl h1
   ·exact g2 x hx
  ·rw[Ly hL (by simpa using ht)]at e
   cases e
   exact⟨Nat.zero_le _,fun x hx=>by cases hx⟩
theorem Kp.while {α:Type} {P:α→Prop} {t:List Tkn→Bool} {one:List Tkn→Rs α} (hL:Lt one) (h:Kp P one):Kp (fun xs=>∀x∈xs,P x) (BA t one):=fun l a r hl e=>(I8 hL h _ l a r rfl hl e).2
theorem Kp.list {α:Type} {one:List Tkn→Rs α} (hL:Lt one):Kp few (CJ one):=fun l xs r hl e=>by
 obtain⟨a,q,h1,h2⟩:=AJ e
 obtain⟨ys,q2,h3,h4⟩:=AJ h2
 cases h4
 have hlt:=hL _ _ _ h1
 have hl':l.length<1000000000:=hl
 obtain⟨g1,-⟩:=I8 (P:=fun _=>True) (Jr hL.le) Kp.any _ q ys _ rfl (by show q.length<_;omega) h3
 show(a::ys).length<_
 rw[List.length_cons];omega
abbrev frR (x:DRul):Prop:=few x.ns∧few x.os
theorem HT:Kp few setR:=Kp.bd1 (AR _).le fun _=>Kp.bd (C7 As).le (Kp.list As) fun a ha=>Kp.bd1 (AR _).le fun _=>Kp.ok ha
theorem ND {x:DRul} (h:frR x) (k:Int):Kp frR fun l=>(bndR l).bd fun b r=>.ok {x with kind:=k,op:=b.1,n:=b.2.1,byN:=b.2.2} r:=Kp.bd1 Ll.le fun b=>Kp.ok h
theorem Rw {x:DRul} (h:frR x):Kp frR (ED x):=
 Kp.word (p:=Rs.ok _) _ (Kp.ok (a:={x with kind:=1}) h) (Kp.word _ (Kp.bd Co.le HT fun ss hs=>ND (x:={x with ns:=ss}) ⟨hs,h.2⟩ 2) (Kp.word _ (ND h 3) (Kp.word (p:=Rs.ok _) _ (Kp.ok (a:={x with kind:=4}) h)
  (Kp.bd1 (AR _).le fun _=>Kp.bd Co.le HT fun ss hs=>Kp.bd1 (AR _).le fun _=>Kp.bd1 As.le fun s=>Kp.ok (a:={x with kind:=5,ns:=ss,byN:=s}) ⟨hs,h.2⟩))))
theorem Rx {x:DRul} (h:frR x):Kp frR (Do x):=
 Kp.word _ (Kp.bd1 As.le fun s=>Rw (x:={x with on:=s}) h) (Kp.word (p:=Rs.ok _) _ (Kp.ok (a:={x with kind:=6}) h) (Kp.word _ (Kp.bd1 Bd.le fun n=>Kp.ok (a:={x with kind:=7,n:=n}) h)
 (Kp.word _ (Kp.bd Co.le HT fun ss hs=>Kp.bd1 (AR Cn).le fun _=>Kp.bd Co.le HT fun os ho=>Kp.ok (a:={x with kind:=8,ns:=ss,os:=os}) ⟨hs,ho⟩)
 (Kp.word _ (Kp.bd Co.le HT fun ss hs=>Kp.ok (a:={x with kind:=9,ns:=ss}) ⟨hs,h.2⟩) (Kp.word _ (Kp.bd Co.le HT fun ss hs=>Kp.ok (a:={x with kind:=10,ns:=ss}) ⟨hs,h.2⟩)
 (Kp.word _ (Kp.bd1 As.le fun s=>Kp.ok (a:={x with kind:=11,byN:=s}) h) (Kp.word _ (Kp.bd1 As.le fun s=>Kp.ok (a:={x with kind:=12,on:=s}) h) (Kp.word _ (ND h 13) Kp.bad))))))))
theorem few0 {α:Type}:few ([]:List α):=by show(0:Nat)<_;decide
theorem Ry:Kp frR (Gy CN Gx):=Kp.bd1 (AR _).le fun _=>Kp.bd1 As.le fun s=>Kp.bd1 (AR _).le fun _=>Kp.bd (Kh _).le (Rx ⟨few0,few0⟩) fun x hx=>Kp.bd1 (AR _).le fun _=>Kp.ok hx
theorem kp_end {P:Dcl→Prop} {d:Dcl} (h:P d):Kp P (endR d):=fun l a r hl e=>by
 cases l with
 |nil=>cases e;exact h
 |cons t q=>cases e
theorem NE:Le Oj:=(AR _).le.bd fun _=>As.le.bd fun nm=>(AR _).le.bd fun _=>Bd.le.bd fun v=>(AR _).le.bd fun _=>(AR _).le.bd fun _=>QJ.le.bd fun sh=>Bd.le.bd fun w=>(AR _).le.bd fun _=>Bd.le.bd fun h=>QK.bd fun ho=>(AR _).le.bd fun _=>Le.ok _
theorem PO (d:Dcl):Le (QI d):=(AR _).le.bd fun _=>(C7 Js).le.bd fun ss=>(AR _).le.bd fun _=>(Cy (BU _ G0.le).le).bd fun rs=>(Cy (BU _ Gz.le).le).bd fun cs=>(Cy (BU _ EG.le).le).bd fun us=>Le.ok _
theorem Rz:Kp (fun d:Dcl=>∀x∈d.ruls,frR x) C5:=by
 unfold C5 Mm
 refine Kp.bd (Le.bd NE fun d=>PO d) (Kp.bd1 NE fun d=>?_) fun d hd=>Kp.bd1 (AR _).le fun _=>kp_end hd
 exact Kp.bd1 (AR _).le fun _=>Kp.bd1 (C7 Js).le fun ss=>Kp.bd1 (AR _).le fun _=>Kp.bd1 (Cy (BU _ G0.le).le) fun rs=>Kp.bd1 (Cy (BU _ Gz.le).le) fun cs=>Kp.bd (Cy (BU _ EG.le).le) (Kp.while (BU _ EG.le) Ry) fun us hu=>Kp.ok (a:={d with syms:=ss,regs:=rs,clus:=cs,ruls:=us}) hu
theorem K0 {α β:Type} {f:α→List β} {l:List α} {x:α} (h:x∈l):(f x).length≤(l.flatMap f).length:=by
 induction l with
 |nil=>cases h
 |cons a r ih=>
  rw[List.flatMap_cons,List.length_append]
  rcases List.mem_cons.1 h with rfl|h
  ·omega
  ·have:=ih h;omega
theorem NF (d:Dcl) (ot:Int→Bs) (b0:Bool):(B4 d.holes).length+(comT symT d.syms).length+(d.regs.flatMap regT).length+(d.clus.flatMap cluT).length+(d.ruls.flatMap (A1 ot b0)).length≤(BP ot b0 d).length:=by
 unfold BP Jt
 simp only[List.length_append,List.length_cons,List.length_nil]
 omega
theorem PP {d:Dcl} (h:(BP opP false d).length≤1000000) (hr:∀r∈d.ruls,frR r):FewD d:=by
 have hl:=NF d opP false
 have h1:=Dg (one:=symT) (fun x=>by simp [symT]) d.syms
 have h2:=BW (f:=regT) (fun x=>by simp [regT]) d.regs
 have h3:=BW (f:=cluT) (fun x=>by simp [cluT]) d.clus
 have h4:=BW (f:=A1 opP false) (fun x=>by simp [A1]) d.ruls
 have h5:d.holes.length≤(B4 d.holes).length:=by
  unfold B4
  split
  ·rename_i q;rw[q];simp
  ·have:=Dg (one:=oneN) (fun x=>by simp) d.holes
   simp only[List.length_cons];omega
 refine⟨show d.holes.length<_ by omega,show d.syms.length<_ by omega,show d.regs.length<_ by omega,fun r hr'=>?_,show d.clus.length<_ by omega,show d.ruls.length<_ by omega,fun r hr'=>?_⟩
 ·have m1:=K0 (f:=regT) hr'
  have m2:=BW (f:=A7) (fun x=>by simp [A7]) r.ls
  have m3:(r.ls.flatMap A7).length≤(regT r).length:=by unfold regT;simp only[List.length_append,List.length_cons,List.length_nil];omega
  refine⟨show r.ls.length<_ by omega,fun x hx=>?_⟩
  have m4:=K0 (f:=A7) hx
  have m5:=Dg (one:=oneN) (fun x=>by simp) x
  have m6:(comT oneN x).length≤(A7 x).length:=by unfold A7;simp
  show x.length<_
  omega
 ·exact hr r hr'
end Go.AM
end
section
set_option maxRecDepth 20000
set_option linter.all false
namespace Go.AM
open Go.Proofs Go.Lib
def lenF (d:Dcl):Prop:=(BP opF true d).length≤900000000
def Tzq (L:List Tkn) (e:Int):Tab:=tadd 32 (s1 dD lenF fun d=>eTk (BP opF true d)) (tadd 33 (s1 dKs (fun l=>l.length≤1000000) Db) (tadd 25 (s1 (dZ L e) (fun _=>True) fun s=>.tup [encD (FU s).1,pvZ (FU s).2]) (tadd 17 (s1 dD fewB fun d=>encD (C6 d)) (tadd 12 (s2 dD dD (fun a _=>FewD a) fun a b=>.bool (decide (a=b))) tnil))))
theorem Tzq_ok {L:List Tkn} {e:Int} (hl:few L):AI Tryz.prog (Tzq L e):=((((AI.tnil.add (q2 fun a b h=>p12 a b h)).add (q1 fun d h=>p17 d h.1 h.2)).add (q1 fun s _=>p25 hl s)).add (q1 fun l h=>p33 l h)).add (q1 fun d h=>p32 d h)
section
variable {L:List Tkn} {e:Int} (a:List AVal) (H:AD)
theorem PQ:Tzq L e 32 a H=s1 dD lenF (fun d=>eTk (BP opF true d)) a H:=rfl
theorem PR:Tzq L e 33 a H=s1 dKs (fun l=>l.length≤1000000) Db a H:=rfl
theorem R0:Tzq L e 25 a H=s1 (dZ L e) (fun _=>True) (fun s=>.tup [encD (FU s).1,pvZ (FU s).2]) a H:=rfl
theorem R5:Tzq L e 17 a H=s1 dD fewB (fun d=>encD (C6 d)) a H:=rfl
theorem R6:Tzq L e 12 a H=s2 dD dD (fun a _=>FewD a) (fun a b=>.bool (decide (a=b))) a H:=rfl
end
theorem len_F (d:Dcl):(BP opF true d).length≤(BP opP false d).length+3*d.ruls.length:=by
 have hb:∀x:DRul,(A1 opF true x).length≤(A1 opP false x).length+3:=fun x=>by
  have hbnd:(bndT opF x.op x.n x.byN).length=(bndT opP x.op x.n x.byN).length:=rfl
  have hb2:(bndT opF x.op x.n x.byN).length=2:=by unfold bndT limT;split<;>rfl
  have hb3:(bndT opP x.op x.n x.byN).length=2:=hb2
  have:(Au opF true x).length≤(Au opP false x).length+3:=by
   by_cases hk:1≤x.kind∧x.kind≤12
   ·have:x.kind=1∨x.kind=2∨x.kind=3∨x.kind=4∨x.kind=5∨x.kind=6∨x.kind=7∨x.kind=8∨x.kind=9∨x.kind=10∨x.kind=11∨x.kind=12:=by omega
    unfold Au
    rcases this with h|h|h|h|h|h|h|h|h|h|h|h<;>simp [h,hb2,hb3]
   ·have k:∀j,1≤j→j≤12→¬x.kind=j:=fun j h1 h2 e=>hk (by omega)
    have hB:Au opF true x=kI Cl::bndT opF x.op x.n x.byN:=by
     unfold Au
     simp [k 1 (by decide) (by decide),k 2 (by decide) (by decide),k 3 (by decide) (by decide),k 4 (by decide) (by decide),k 5 (by decide) (by decide),k 6 (by decide) (by decide),k 7 (by decide) (by decide),k 8 (by decide) (by decide),k 9 (by decide) (by decide),k 10 (by decide) (by decide),k 11 (by decide) (by decide),k 12 (by decide) (by decide)]
    rw[hB,List.length_cons,hb2];omega
  unfold A1
  simp only[List.length_cons,List.length_append,List.length_nil]
  omega
 have hr:(d.ruls.flatMap (A1 opF true)).length≤(d.ruls.flatMap (A1 opP false)).length+3*d.ruls.length:=by
  induction d.ruls with
  |nil=>simp
  |cons x r ih=>have:=hb x;simp only[List.flatMap_cons,List.length_append,List.length_cons];omega
 unfold BP
 simp only[List.length_cons,List.length_append,List.length_nil]
 omega
structure PrOK (d:Dcl):Prop where
 few:FewD d
 len:(BP opP false d).length≤500000
 ru:d.ruls.length≤100000
theorem Q6 {d:Dcl} (h:FewS d):PrOK d:=by
 have h1:=wc_len (BP opP false d)
 have h2:=TO h
 have h3:=fewS_D h
 have h4:=h.ru
 refine⟨⟨h3.ho,h3.sy,h3.rg,h3.rgs,?_,?_,fun r hr=>?_⟩,by omega,by omega⟩
 ·show d.clus.length<_;have:=h.cl;omega
 ·show d.ruls.length<_;omega
 ·have:=h.rus r hr
  exact⟨show r.ns.length<_ by omega,show r.os.length<_ by omega⟩
theorem L6 {L:List Tkn} {x:Dcl} {r:List Tkn} (hv:Vd L) (hl:L.length≤1000000) (h:C5 L= .ok x r):FewD x:=by
 obtain⟨e1,-,-⟩:=On hv h
 have:=congrArg List.length e1
 rw[List.length_map]at this
 exact PP (by omega) (Rz L x r (show L.length<_ by omega) h)
theorem p15 (d:Dcl) (hd:PrOK d):Pur Tryz.prog 15 [encD d] (.tup [.str (Ef d).1,.int .i64 (Ef d).2]):=by
 have hw:(BP opF true d).length≤1000000:=by have:=len_F d;have:=hd.len;have:=hd.ru;omega
 have hp:Ef d=Cz (BP opF true d) d:=rfl
 rw[hp]
 generalize hW:BP opF true d=w at hw
 have hf:few w:=by show w.length<_;omega
 refine .mk ⟨Ai 0 d,trivial⟩ ⟨trivial,trivial,trivial⟩ (a15 (AF (Tzq_ok (L:=w) (e:=0) hf) (AE ?_)))
 have q1:lenF d=True:=eq_true (by show(BP opF true d).length≤_;rw[hW];omega)
 have q2:(w.length≤1000000)=True:=eq_true hw
 have q3:fewB d=True:=eq_true ⟨hd.few.cl,hd.few.ru⟩
 have hq1:(dZ w 0).ok (.agg [.sl (.none 4) (w.map encK),.int .i64 0,.int .i64 0,.bool false,.int .i64 0])=True:=Aj (zs0 w 0)
 have hq2:(dZ w 0).dec (.agg [.sl (.none 4) (w.map encK),.int .i64 0,.int .i64 0,.bool false,.int .i64 0])=zs0 w 0:=AY (zs0 w 0)
 unfold Cz
 cases hv:w.all Ad with
 |false=>
  have ht0:Db w= .tup [.str [],.int .i64 100]:=by unfold Db;rw[hv];rfl
  rw[if_neg (by decide)]
  simp only[eE,eC,eN,Nat.reduceEqDiff,↓reduceIte,Nat.reduceAdd,Nat.reduceLT,Int.reduceEq,Bool.not_false,PQ,PR,s1,HH,Ec,Ae,AX,Option.getD_some,List.getElem?_cons_zero,List.getElem?_cons_succ,c15,encD,A0,q1,hW,q2,ht0]
  exact Wk.refl _
 |true=>
  have hvd:=RP.1 hv
  have ht0:Db w= .tup [.str (Mp w),.int .i64 0]:=by unfold Db;rw[hv];rfl
  rw[if_pos rfl]
  have hz:=Rk (e:=0) hvd (zs0 w 0)
  change C5 w=_ at hz
  generalize hZ:FU (zs0 w (0:Int))=z at hz
  cases hb:z.2.b with
  |true=>
   rw[hb]at hz
   rw[hz]
   simp only[eE,eC,eN,reduceCtorEq,Nat.reduceEqDiff,↓reduceIte,Nat.reduceAdd,Nat.reduceLeDiff,Nat.reduceLT,Bool.not_true,PQ,PR,R0,R5,R6,s1,s2,HH,Ec,Ae,AX,Option.getD_some,List.getElem?_cons_zero,List.getElem?_cons_succ,c15,encD,A0,q1,hW,q2,ht0,hq1,hq2,hZ,hb]
   exact Wk.refl _
  |false=>
   rw[hb]at hz
   have hx:FewD z.1:=L6 hvd hw hz
   rw[hz]
   by_cases hx2:z.1=C6 d
   ·have q7:decide (z.1=C6 d)=true:=decide_eq_true hx2
    simp only[eE,eC,eN,reduceCtorEq,Nat.reduceEqDiff,↓reduceIte,Nat.reduceAdd,Nat.reduceLeDiff,Nat.reduceLT,Bool.not_true,PQ,PR,R0,R5,R6,s1,s2,HH,Ec,Ae,AX,Option.getD_some,List.getElem?_cons_zero,List.getElem?_cons_succ,c15,encD,A0,q1,hW,q2,ht0,hq1,hq2,hZ,hb,q3,eq_true hx,q7]
    simp only[zk,if_pos hx2]
    exact Wk.refl _
   ·have q7:decide (z.1=C6 d)=false:=decide_eq_false hx2
    simp only[eE,eC,eN,reduceCtorEq,Nat.reduceEqDiff,↓reduceIte,Nat.reduceAdd,Nat.reduceLeDiff,Nat.reduceLT,Bool.not_true,Bool.not_false,PQ,PR,R0,R5,R6,s1,s2,HH,Ec,Ae,AX,Option.getD_some,List.getElem?_cons_zero,List.getElem?_cons_succ,c15,encD,A0,q1,hW,q2,ht0,hq1,hq2,hZ,hb,q3,eq_true hx,q7]
    simp only[zk,if_neg hx2]
    exact Wk.refl _
end Go.AM
end
section
set_option maxRecDepth 20000
set_option linter.all false
namespace Go.AM
open Go.Proofs Go.Lib
def lxN:Nat→List UInt8→Nat→ScR
 |0,_,a=>.err a
 |f+1,[],a=>.ok a []
 |f+1,b::r,a=>match st1 (b::r)with
  |none=>.err a
  |some (k,o)=>OZ o a (lxN f ((b::r).drop k) (a+k))
theorem lx_N:∀(f:Nat) (l:List UInt8) (a:Nat),l.length<f→lx l a=lxN f l a
 |0,l,a,h=>by omega
 |f+1,[],a,h=>by rw[Oa];rfl
 |f+1,b::r,a,h=>by
  rw[lxN]
  cases hs:st1 (b::r)with
  |none=>rw[Kg (by simp) hs]
  |some x=>
   obtain⟨k,o⟩:=x
   have:=Fa hs
   rw[Iw hs,lx_N f _ _ (by simp only[List.length_drop];omega)]
def pSN (src:Bs):PD:=match lxN (src.length+1) src 0 with
 | .err a=>⟨dcl0,a,100⟩
 | .ok _ ts=>Ff src.length ts
theorem IP {src:Bs} (h:src.length≤65536):Bj src=pSN src:=by
 unfold Bj pSN
 rw[if_neg (by omega),lx_N (src.length+1) src 0 (by omega)]
 cases lxN (src.length+1) src 0<;>rfl
abbrev dK1:Dcl:=⟨[107],1,2,2,1,[],[⟨[97],0⟩],[],[],[]⟩
abbrev dK2:Dcl:=⟨[107],1,2,2,1,[],[⟨[97],0⟩],[],[],[⟨[114],[],6,0,[],[],0,0,0,0,[],0⟩]⟩
abbrev dK0:Dcl:=⟨[107],0,1,0,0,[],[],[],[],[]⟩
abbrev src1:Bs:=[107,105,110,100,32,107,32,118,101,114,115,105,111,110,32,49,32,123,32,103,114,105,100,32,104,101,120,32,50,32,98,121,32,49,32,59,32,115,121,109,98,111,108,115,32,97,32,61,32,48,32,59,32,125]
theorem v1:Bj src1=⟨dK1,0,0⟩:=by
 rw[IP (by decide),show pSN src1=⟨dK1,0,0⟩by kernel_rfl]
theorem v2:Bj [107,105,110,100,32,53]=⟨dcl0,5,150⟩:=by
 rw[IP (by decide),show pSN [107,105,110,100,32,53]=⟨dcl0,5,150⟩by kernel_rfl]
theorem v3:Bj [107,105,110,100,32,107,32,118,101,114,115,105,111,110,32,54,53,53,51,55]=⟨dcl0,15,150⟩:=by
 rw[IP (by decide),show pSN [107,105,110,100,32,107,32,118,101,114,115,105,111,110,32,54,53,53,51,55]=⟨dcl0,15,150⟩by kernel_rfl]
theorem v4:Bj []=⟨dcl0,0,150⟩:=by
 rw[IP (by decide),show pSN []=⟨dcl0,0,150⟩by kernel_rfl]
theorem i_1:itoa 1=[49]:=by
 rw[itoa,if_neg (by decide),decDigits,dif_pos (by decide)];rfl
theorem i_0:itoa 0=[48]:=by
 rw[itoa,if_neg (by decide),decDigits,dif_pos (by decide)];rfl
theorem i_2:itoa 2=[50]:=by
 rw[itoa,if_neg (by decide),decDigits,dif_pos (by decide)];rfl
theorem pw1:B5 dK0=([],150):=by kernel_rfl
abbrev tkK2:List Tkn:=[kI EA,kI [107],kI EW,kN 1,kS [123],kI Et,kI wHex,kN 2,kI wBy,kN 1,kS [59],kI EC,kI [97],kS [61],kN 0,kS [59],kI CN,kI [114],kS [58],kI Bq,kS [59],kS [125]]
abbrev txK2:Bs:=[107,105,110,100,32,107,32,118,101,114,115,105,111,110,32,49,32,123,32,103,114,105,100,32,104,101,120,32,50,32,98,121,32,49,32,59,32,115,121,109,98,111,108,115,32,97,32,61,32,48,32,59,32,114,117,108,101,32,114,32,58,32,117,110,108,105,107,101,32,59,32,125]
theorem pw2:B5 dK2=(txK2,0):=by
 have h1:BP opP false dK2=tkK2:=by kernel_rfl
 have h2:tkK2.all Ad=true:=by kernel_rfl
 have h3:C5 tkK2= .ok dK2 []:=by kernel_rfl
 have h4:C6 dK2=dK2:=by kernel_rfl
 unfold B5 Cz
 rw[h1,if_pos h2,h3]
 simp only[h4,if_true]
 have:Mp tkK2=txK2:=by
  unfold Mp
  simp only[List.map_cons,List.map_nil,B0,i_0,i_1,i_2];rfl
 rw[this]
theorem Wks.len:∀{ws us:List AVal},Wks ws us→ws.length=us.length
 |_,_,.nil=>rfl
 |_,_,.cons _ t=>by rw[List.length_cons,List.length_cons,t.len]
theorem Wks.stab {g:Ghost} {esz:Nat} {f:Nat→Option Value}:∀{l m:List AVal},Wks l m→∀o,Stab g esz f o l→Stab g esz f o m
 |_,_,.nil,_,h=>h
 |_,_,.cons hw t,o,h=>by
  simp only[Stab]at h⊢
  obtain⟨⟨v,h1,h2,h3⟩,h4⟩:=h
  exact⟨⟨v,hw _ _ h1,h2,h3⟩,t.stab _ h4⟩
theorem Wk.slx {t:Tok} {e:Nat} {l m:List AVal} (h:t.esz=e) (hw:Wks l m):Wk (.sl t l) (.sl (.none e) m):=by
 intro g v hv
 rcases hv with⟨rfl,rfl,h0⟩|⟨ht,b,o,cap,⟨sp,rfl,hsp⟩,hc,hs,hk⟩
 ·cases hw;exact .inl ⟨rfl,rfl,trivial⟩
 ·refine .inr ⟨trivial,b,o,cap,⟨sp,by rw[hw.len],hsp.imp id fun q=>⟨by have:=hw.len;rw[q.1]at this;exact List.eq_nil_of_length_eq_zero this.symm,.inr ⟨e,rfl⟩⟩⟩,?_,?_,trivial⟩
  ·rw[←hw.len];exact hc
  ·rw[h]at hs;exact hw.stab _ hs
def PrY (d:Dcl):Prop:=FewD d∧(BP opP false d).length≤1000000
def TLy:Tab:=tadd 10 (s1 dS (fun s=>s.length<1000000000) fun s=>pdV (Bj s)) (tadd 14 (s1 dD PrY fun d=>.tup [.str (B5 d).1,.int .i64 (B5 d).2]) (tadd 16 (s2 dD dD (fun _ b=>FewD b) fun a b=>.bool (decide (a=b))) (tadd 12 (s2 dD dD (fun a _=>FewD a) fun a b=>.bool (decide (a=b))) tnil)))
theorem Q7:AI Tryz.prog TLy:=(((AI.tnil.add (q2 fun a b h=>p12 a b h)).add (q2 fun a b h=>p16 a b h)).add (q1 fun d h=>p14 d h.1 h.2)).add (q1 fun s h=>p10 s h)
theorem TLy_p (a:List AVal) (H:AD):TLy 10 a H=s1 dS (fun s=>s.length<1000000000) (fun s=>pdV (Bj s)) a H:=rfl
theorem TLy_q (a:List AVal) (H:AD):TLy 14 a H=s1 dD PrY (fun d=>.tup [.str (B5 d).1,.int .i64 (B5 d).2]) a H:=rfl
theorem TLy_s (a:List AVal) (H:AD):TLy 16 a H=s2 dD dD (fun _ b=>FewD b) (fun a b=>.bool (decide (a=b))) a H:=rfl
theorem TLy_r (a:List AVal) (H:AD):TLy 12 a H=s2 dD dD (fun a _=>FewD a) (fun a b=>.bool (decide (a=b))) a H:=rfl
theorem few_K2:FewD dK2:=⟨by decide,by decide,by decide,by decide,by decide,by decide,fun r hr=>by rw[List.mem_singleton.1 hr];exact⟨by decide,by decide⟩⟩
theorem few_K1:FewD dK1:=⟨by decide,by decide,by decide,by decide,by decide,by decide,fun r hr=>by cases hr⟩
theorem few_K0:FewD dK0:=⟨by decide,by decide,by decide,by decide,by decide,by decide,fun r hr=>by cases hr⟩
theorem few_0:FewD dcl0:=⟨by decide,by decide,by decide,by decide,by decide,by decide,fun r hr=>by cases hr⟩
theorem dec_0:dD.dec (AVal.agg [.str [107],.int .i64 0,.int .i64 1,.int .i64 0,.int .i64 0,(.sl .nil []),(.sl .nil []),(.sl .nil []),(.sl .nil []),(.sl .nil [])])=dK0:=rfl
theorem ok_0:dD.ok (AVal.agg [.str [107],.int .i64 0,.int .i64 1,.int .i64 0,.int .i64 0,(.sl .nil []),(.sl .nil []),(.sl .nil []),(.sl .nil []),(.sl .nil [])])=True:=eq_true (by
 show Wk _ (encD dK0)
 exact wk_D (d:=dK0) (Wk.sl (.inr rfl)) (Wk.sl (.inr rfl)) (Wk.sl (.inr rfl)) (Wk.sl (.inr rfl)) (Wk.sl (.inr rfl)))
theorem dec_2:dD.dec (AVal.agg [.str [107],.int .i64 1,.int .i64 2,.int .i64 2,.int .i64 1,(.sl .nil []),(.sl (.exact 2) [.agg [.str [97],.int .i64 0]]),(.sl .nil []),(.sl .nil []),(.sl (.exact 12) [.agg [.str [114],.str [],.int .i64 6,.int .i64 0,.sl .nil [],.sl .nil [],.int .i64 0,.int .i64 0,.int .i64 0,.int .i64 0,.str [],.int .i64 0]])])=dK2:=rfl
theorem ok_2:dD.ok (AVal.agg [.str [107],.int .i64 1,.int .i64 2,.int .i64 2,.int .i64 1,(.sl .nil []),(.sl (.exact 2) [.agg [.str [97],.int .i64 0]]),(.sl .nil []),(.sl .nil []),(.sl (.exact 12) [.agg [.str [114],.str [],.int .i64 6,.int .i64 0,.sl .nil [],.sl .nil [],.int .i64 0,.int .i64 0,.int .i64 0,.int .i64 0,.str [],.int .i64 0]])])=True:=eq_true (by
 show Wk _ (encD dK2)
 exact wk_D (d:=dK2) (Wk.sl (.inr rfl)) (Wk.slx rfl (.cons (Wk.refl _) .nil)) (Wk.sl (.inr rfl)) (Wk.sl (.inr rfl)) (Wk.slx rfl (.cons (Wk.agg (.cons (Wk.refl _) (.cons (Wk.refl _) (.cons (Wk.refl _) (.cons (Wk.refl _) (.cons (Wk.sl (.inr rfl)) (.cons (Wk.sl (.inr rfl)) (.cons (Wk.refl _) (.cons (Wk.refl _) (.cons (Wk.refl _) (.cons (Wk.refl _) (.cons (Wk.refl _) (.cons (Wk.refl _) .nil))))))))))))) .nil)))
theorem dec_1:dD.dec (AVal.agg [.str [107],.int .i64 1,.int .i64 2,.int .i64 2,.int .i64 1,(.sl .nil []),(.sl (.exact 2) [.agg [.str [97],.int .i64 0]]),(.sl .nil []),(.sl .nil []),(.sl .nil [])])=dK1:=rfl
theorem ok_1:dD.ok (AVal.agg [.str [107],.int .i64 1,.int .i64 2,.int .i64 2,.int .i64 1,(.sl .nil []),(.sl (.exact 2) [.agg [.str [97],.int .i64 0]]),(.sl .nil []),(.sl .nil []),(.sl .nil [])])=True:=eq_true (by
 show Wk _ (encD dK1)
 exact wk_D (d:=dK1) (Wk.sl (.inr rfl)) (Wk.slx rfl (.cons (Wk.refl _) .nil)) (Wk.sl (.inr rfl)) (Wk.sl (.inr rfl)) (Wk.sl (.inr rfl)))
theorem dec_z:dD.dec (AVal.agg [.str [],.int .i64 0,.int .i64 0,.int .i64 0,.int .i64 0,(.sl .nil []),(.sl .nil []),(.sl .nil []),(.sl .nil []),(.sl .nil [])])=dcl0:=rfl
theorem ok_z:dD.ok (AVal.agg [.str [],.int .i64 0,.int .i64 0,.int .i64 0,.int .i64 0,(.sl .nil []),(.sl .nil []),(.sl .nil []),(.sl .nil []),(.sl .nil [])])=True:=eq_true (by
 show Wk _ (encD dcl0)
 exact wk_D (d:=dcl0) (Wk.sl (.inr rfl)) (Wk.sl (.inr rfl)) (Wk.sl (.inr rfl)) (Wk.sl (.inr rfl)) (Wk.sl (.inr rfl)))
theorem dec_e:dD.dec (AVal.agg [.str [107],.int .i64 1,.int .i64 2,.int .i64 2,.int .i64 1,eIs [],eSys [⟨[97],0⟩],eRgs [],eCls [],eRus []])=dK1:=Ec dK1
theorem ok_e:dD.ok (AVal.agg [.str [107],.int .i64 1,.int .i64 2,.int .i64 2,.int .i64 1,eIs [],eSys [⟨[97],0⟩],eRgs [],eCls [],eRus []])=True:=HH dK1
theorem prY0:PrY dK0=True:=eq_true ⟨few_K0,by decide⟩
theorem prY2:PrY dK2=True:=eq_true ⟨few_K2,by decide⟩
theorem sc2:scmp .eql txK2 txK2=true:=by rw[Ey];exact decide_eq_true rfl
theorem p9:Pur Tryz.prog 9 [] (.bool true):=by
 refine .mk trivial trivial (a9 (AF Q7 (AE ?_)))
 simp only[eE,eC,eN,reduceCtorEq,Nat.reduceEqDiff,↓reduceIte,Nat.reduceAdd,Nat.reduceLeDiff,Nat.reduceMul,Nat.reduceLT,TLy_p,TLy_q,TLy_s,TLy_r,s1,s2,AV,AH,Option.getD_some,List.getElem?_cons_zero,List.getElem?_cons_succ,c9,v1,v2,v3,v4,pdV,dec_0,dec_1,dec_2,dec_z,dec_e,ok_0,ok_1,ok_2,ok_z,ok_e,prY0,prY2,pw1,pw2,eq_true few_K1,eq_true few_0,sc2]
 intro h;cases h
end Go.AM
end
section
set_option maxRecDepth 20000
set_option linter.all false
namespace Go.AM
open Go.Proofs Go.Lib
def s0t:List AVal→AD→Prop×AVal:=fun a _=>match a with
 |[]=>(True,.bool true)
 |_=>(False,.tup [])
theorem q0t {fid:FuncId} (h:Pur Tryz.prog fid [] (.bool true)):∀args H n,(s0t args H).1→Bw Tryz.prog fid args H n (s0t args H).2:=by
 intro args H n hh
 unfold s0t at hh⊢
 split at hh
 ·exact h.quiet H n
 ·exact hh.elim
section
variable (a:List AVal) (H:AD)
end
def TLz:Tab:=tadd 9 s0t (tadd 15 (s1 dD PrOK fun d=>.tup [.str (Ef d).1,.int .i64 (Ef d).2]) (tadd 13 (s1 dD (fun _=>True) fun d=>.bool (fewT d)) TLy))
theorem TLz_ok:AI Tryz.prog TLz:=((Q7.add (q1 fun d _=>p13 d)).add (q1 fun d h=>p15 d h)).add (q0t p9)
section
variable (a:List AVal) (H:AD)
theorem TLz_p:TLz 10 a H=s1 dS (fun s=>s.length<1000000000) (fun s=>pdV (Bj s)) a H:=rfl
theorem TLz_q:TLz 14 a H=s1 dD PrY (fun d=>.tup [.str (B5 d).1,.int .i64 (B5 d).2]) a H:=rfl
theorem TLz_s:TLz 16 a H=s2 dD dD (fun _ b=>FewD b) (fun a b=>.bool (decide (a=b))) a H:=rfl
theorem TLz_r:TLz 12 a H=s2 dD dD (fun a _=>FewD a) (fun a b=>.bool (decide (a=b))) a H:=rfl
theorem R7:TLz 9 a H=s0t a H:=rfl
theorem TLz_zq:TLz 15 a H=s1 dD PrOK (fun d=>.tup [.str (Ef d).1,.int .i64 (Ef d).2]) a H:=rfl
theorem R8:TLz 13 a H=s1 dD (fun _=>True) (fun d=>.bool (fewT d)) a H:=rfl
end
theorem p4 (d x:Dcl):Pur Tryz.prog 4 [encD d,encD x] (.bool true):=by
 refine .mk ⟨Ai 0 d,Ai 0 x,trivial⟩ trivial (a4 (AF TLz_ok (AE ?_)))
 cases h1:fewT d with
 |false=>simp only[eE,eC,eN,reduceCtorEq,Nat.reduceEqDiff,↓reduceIte,Nat.reduceAdd,Bool.not_true,Bool.not_false,R7,R8,s0t,s1,HH,Ec,c4,h1]
 |true=>
  cases h2:fewT x with
  |false=>simp only[eE,eC,eN,reduceCtorEq,Nat.reduceEqDiff,↓reduceIte,Nat.reduceAdd,Bool.not_true,Bool.not_false,R7,R8,s0t,s1,HH,Ec,c4,h1,h2]
  |true=>
   have hP:=Q6 (Q5 h1)
   have hX:=Q6 (Q5 h2)
   have hY:PrY d=True:=eq_true ⟨hP.few,by have:=hP.len;omega⟩
   have hS:Ef d=B5 d:=(Mq d).symm
   simp only[eE,eC,eN,reduceCtorEq,Nat.reduceEqDiff,↓reduceIte,Nat.reduceAdd,Nat.reduceLT,Bool.not_true,R7,TLz_q,TLz_s,TLz_r,TLz_zq,R8,s0t,s1,s2,HH,Ec,Option.getD_some,List.getElem?_cons_zero,List.getElem?_cons_succ,c4,h1,h2,hY,eq_true hP,eq_true hP.few,eq_true hX.few,hS,Ey]
end Go.AM
end
section
set_option maxRecDepth 20000
set_option linter.all false
namespace Go.AM
open Go.Proofs Go.Lib
def TLb:Tab:=tadd 9 s0t (tadd 13 (s1 dD (fun _=>True) fun d=>.bool (fewT d)) (tadd 17 (s1 dD fewB fun d=>encD (C6 d)) TLy))
section
variable (a:List AVal) (H:AD)
theorem TLb_p:TLb 10 a H=s1 dS (fun s=>s.length<1000000000) (fun s=>pdV (Bj s)) a H:=rfl
theorem TLb_q:TLb 14 a H=s1 dD PrY (fun d=>.tup [.str (B5 d).1,.int .i64 (B5 d).2]) a H:=rfl
theorem TLb_s:TLb 16 a H=s2 dD dD (fun _ b=>FewD b) (fun a b=>.bool (decide (a=b))) a H:=rfl
theorem TLb_r:TLb 12 a H=s2 dD dD (fun a _=>FewD a) (fun a b=>.bool (decide (a=b))) a H:=rfl
theorem TLb_n:TLb 9 a H=s0t a H:=rfl
theorem TLb_f:TLb 13 a H=s1 dD (fun _=>True) (fun d=>.bool (fewT d)) a H:=rfl
theorem TLb_b:TLb 17 a H=s1 dD fewB (fun d=>encD (C6 d)) a H:=rfl
end
end Go.AM
end
section
set_option maxRecDepth 20000
set_option linter.all false
namespace Go.AM
open Go.Proofs Go.Lib
def tokL (src:Bs):List Tkn:=if 65536<src.length then[]else match lx src 0 with
 | .ok _ ts=>ts
 | .err _=>[]
def tokE (src:Bs):Bool:=decide (src.length≤2000)&&decide ((Bj src).e=0)&&decide ((tokL src).length≤1000)
end Go.AM
end
section
set_option maxRecDepth 20000
set_option linter.all false
namespace Go.AM
open Go.Proofs Go.Lib
def TLe:Tab:=tadd 9 s0t (tadd 20 (s1 dS (fun _=>True) fun s=>.tup [eTk (tokL s),.bool (tokE s)]) (tadd 19 s19 (tadd 10 (s1 dS (fun _=>True) fun s=>pdV (Bj s)) (tadd 12 (s2 dD dD (fun a _=>FewD a) fun a b=>.bool (decide (a=b))) (tadd 21 s21 tnil)))))
section
variable (a:List AVal) (H:AD)
theorem TLe_n:TLe 9 a H=s0t a H:=rfl
theorem TLe_t:TLe 20 a H=s1 dS (fun _=>True) (fun s=>.tup [eTk (tokL s),.bool (tokE s)]) a H:=rfl
theorem TLe_x:TLe 19 a H=s19 a H:=rfl
theorem TLe_p:TLe 10 a H=s1 dS (fun _=>True) (fun s=>pdV (Bj s)) a H:=rfl
theorem TLe_r:TLe 12 a H=s2 dD dD (fun a _=>FewD a) (fun a b=>.bool (decide (a=b))) a H:=rfl
theorem TLe_v:TLe 21 a H=s21 a H:=rfl
end
end Go.AM
end
section
set_option maxRecDepth 20000
set_option linter.all false
namespace Go.AM
open Go.Proofs Go.Lib
def TLg:Tab:=tadd 22 s22 TLe
section
variable (a:List AVal) (H:AD)
theorem TLg_h:TLg 22 a H=s22 a H:=rfl
theorem TLg_n:TLg 9 a H=s0t a H:=rfl
theorem TLg_t:TLg 20 a H=s1 dS (fun _=>True) (fun s=>.tup [eTk (tokL s),.bool (tokE s)]) a H:=rfl
theorem TLg_x:TLg 19 a H=s19 a H:=rfl
theorem TLg_p:TLg 10 a H=s1 dS (fun _=>True) (fun s=>pdV (Bj s)) a H:=rfl
theorem TLg_v:TLg 21 a H=s21 a H:=rfl
end
end Go.AM
end
section
set_option maxRecDepth 20000
set_option linter.all false
namespace Go.AM
open Go.Proofs Go.Lib
end Go.AM
end
section
set_option maxRecDepth 20000
set_option linter.all false
namespace Go.AM
open Go.Proofs Go.Lib
def TLh:Tab:=tadd 18 (s1 dS (fun _=>True) lexV) TLe
section
variable (a:List AVal) (H:AD)
theorem TLh_l:TLh 18 a H=s1 dS (fun _=>True) lexV a H:=rfl
theorem TLh_n:TLh 9 a H=s0t a H:=rfl
theorem TLh_x:TLh 19 a H=s19 a H:=rfl
theorem TLh_p:TLh 10 a H=s1 dS (fun _=>True) (fun s=>pdV (Bj s)) a H:=rfl
theorem TLh_r:TLh 12 a H=s2 dD dD (fun a _=>FewD a) (fun a b=>.bool (decide (a=b))) a H:=rfl
end
structure VSp where
 i:Nat
 H:AD
 n:Nat
end Go.AM
end
section
set_option maxRecDepth 20000
set_option linter.all false
namespace Go.AM
open Go.Proofs Go.Lib Go.ChangeShapes Go.WideShapes Go.ChangeAt Go.WideMaps Go.WideElems Go.RowKit
theorem own:ownKnob Tryz.prog.godebug=none:=by kernel_rfl
abbrev I9:List (String×DataW Unit):=Go.Proofs.YtbliialnfeoodaaGreatDoor.Rows.syntaxSpecRow.laid
theorem gPow:Tryz.prog.globalNamed ((I9[2]?.map (·.1)).getD "")=some 3:=by kernel_rfl
theorem gRng:Tryz.prog.globalNamed ((I9[3]?.map (·.1)).getD "")=some 1:=by kernel_rfl
theorem gSyn:Tryz.prog.globalNamed ((I9[4]?.map (·.1)).getD "")=some 0:=by kernel_rfl
theorem PS (os:Os) (args:Array Value):laidMetH Tryz.prog I9 ((World.doorLaid Tryz.prog 400 os).forCall (fun _ _=>0) ⟨#[],args,[]⟩).memory:=
 laidMetH_of_parts3 (fuel:=8) (laidMet_of_run' 8 (by kernel_rfl) (by kernel_rfl)) (by kernel_rfl) (by kernel_rfl)
theorem starE: "*" ++ "errors.errorString" = "*errors.errorString" :=by decide
theorem row159 (u:TypeId) (h:Tryz.prog.typeName? 3 u=some "*errors.errorString"):u=217:=
 typeName_ptr_named (nm:= "errors.errorString") (by rw[starE];kernel_rfl) (by kernel_rfl) (by decide) u (by rw[starE];exact h)
theorem R9 {W:World} {a:Addr} (h:Value.okWide Tryz.prog W .any 0 217 (.pointer (some a))):a.spot=none:=by
 unfold Value.okWide at h
 simp only[Tryz.underlying217]at h
 unfold Cell.okWide at h
 simp only[Tryz.underlying217,Cell.ok]at h
 exact h.2.1
def SA:List Int:=[1,10,100,1000,10000,100000,1000000,10000000,100000000,1000000000,10000000000,100000000000,1000000000000,10000000000000,100000000000000,1000000000000000,10000000000000000,100000000000000000,1000000000000000000,10000000000000000000]
theorem JA {W:World} {gi fuel:Nat} {cs:Array Value} {text:List UInt8} {p:List MemPlace} {nm:String} (hnm:nm= "*errors.errorString") (hcell:∀off,W.cell? ⟨gi,off,none⟩=cs[off]?)
  (h:DataW.trod (fun _=>()) Tryz.prog W 0 (fun _=>true) false fuel 139 cs.toList=some (.iface nm (.ptr (.agg [.lit (.string text)])),p))
  (hok:∀u v,cs.toList=[.iface u v]→Value.okWide Tryz.prog W .any 0 u v):PStab (gW W) ((gW W).σ gi) 0 [.ifc 217 (.ep [.str text])]∧cs.size=1:=by
 subst hnm
 obtain⟨a,s,e1,e2,e3,_,_⟩:=errorString_of_trod Tryz.underlying139 row159 Tryz.underlying217 Tryz.underlying219 rfl rfl Tryz.underlying9 (by kernel_rfl) (by kernel_rfl) h hok
 have hsp:=R9 (hok _ _ e1)
 obtain⟨b,o,sp⟩:=a
 have hsp':sp=none:=hsp
 subst hsp'
 have hc0:cs[0]?=some (.iface 217 (.pointer (some ⟨b,o,none⟩))):=by
  rw[←Array.getElem?_toList,e1];rfl
 refine⟨⟨⟨_,(hcell 0).trans hc0,⟨_,rfl,b,o,rfl,⟨_,e2,?_,rfl⟩,trivial⟩,rfl⟩,trivial⟩,by rw[←Array.length_toList,e1];rfl⟩
 show Value.string s=Value.string ⟨text.toArray⟩
 rw[←e3]
theorem GJ {W:World} {n:String} {g:Nat} {cs:Array Value} (hg:Tryz.prog.globalNamed n=some g) (h:W.var? Tryz.prog n=some cs):∃e fz,W.heap[g]?=some (.cells cs e fz):=by
 simp only[World.var?,hg,Option.bind_some]at h
 split at h
 ·rename_i c e fz hh
  cases h;exact⟨e,fz,hh⟩
 ·cases h
theorem K1 {W:World} (h:laidMetH Tryz.prog I9 W):C8 (gW W)∧FW W:=by
 rw[MakeChecks.laidMetH_plain _ _ _ (by kernel_rfl)]at h
 obtain⟨ps,⟨g0,t0,cs0,f0,p0,q0,hg0,ht0,hv0,hd0,⟨g1,t1,cs1,f1,p1,q1,hg1,ht1,hv1,hd1,⟨g2,t2,cs2,f2,p2,q2,hg2,ht2,hv2,hd2,⟨g3,t3,cs3,f3,p3,q3,hg3,ht3,hv3,hd3,⟨g4,t4,cs4,f4,p4,q4,hg4,ht4,hv4,hd4,z4,w4⟩,w3⟩,w2⟩,w1⟩,w0⟩,hnd,hrows⟩:=h
 obtain rfl:=Option.some.inj (gPow.symm.trans hg2)
 obtain rfl:=Option.some.inj (gRng.symm.trans hg3)
 obtain rfl:=Option.some.inj (gSyn.symm.trans hg4)
 obtain rfl:=Option.some.inj ((show(Tryz.prog.globals[3]?).map (·.type)=some 208 by kernel_rfl).symm.trans ht2)
 obtain rfl:=Option.some.inj ((show(Tryz.prog.globals[1]?).map (·.type)=some 139 by kernel_rfl).symm.trans ht3)
 obtain rfl:=Option.some.inj ((show(Tryz.prog.globals[0]?).map (·.type)=some 139 by kernel_rfl).symm.trans ht4)
 have c2:=fun off=>World.var?_cell hg2 hv2 off
 have c3:=fun off=>World.var?_cell hg3 hv3 off
 have c4:=fun off=>World.var?_cell hg4 hv4 off
 have ok3:∀u v,cs3.toList=[.iface u v]→Value.okWide Tryz.prog W .any 0 u v:=fun u v e=>by
  have hs:cs3.size=1:=by rw[←Array.length_toList,e];rfl
  refine(hrows 1 0 (by rw[w0,w1,w2,w3,hs];simp [MemPlace.row])).2 u v ?_
  rw[c3 0,←Array.getElem?_toList,e];rfl
 have ok4:∀u v,cs4.toList=[.iface u v]→Value.okWide Tryz.prog W .any 0 u v:=fun u v e=>by
  have hs:cs4.size=1:=by rw[←Array.length_toList,e];rfl
  refine(hrows 0 0 (by rw[w0,w1,w2,w3,w4,hs];simp [MemPlace.row])).2 u v ?_
  rw[c4 0,←Array.getElem?_toList,e];rfl
 obtain⟨s3,z3⟩:=JA rfl c3 hd3 ok3
 obtain⟨s4,z4'⟩:=JA rfl c4 hd4 ok4
 have s2:PStab (gW W) ((gW W).σ 3) 0 (SA.map (.int .u64)):=KX (ns:=SA) Tryz.underlying208 Tryz.underlying190 (by kernel_rfl) c2 hd2
 have z2:cs2.size=20:=by
  have:=Go.Lib.cells_of_tab (zs:=SA) (k:=.u64) Tryz.underlying208 Tryz.underlying190 (by kernel_rfl) (by kernel_rfl) hd2
  rw[←Array.length_toList,this];rfl
 constructor
 ·intro i cs hi
  match i,hi with
  |0,hi=>obtain rfl:=Option.some.inj hi;exact s4
  |1,hi=>obtain rfl:=Option.some.inj hi;exact s3
  |3,hi=>obtain rfl:=Option.some.inj hi;exact s2
 ·intro i cs hi
  match i,hi with
  |0,hi=>obtain rfl:=Option.some.inj hi;obtain⟨e,fz,k⟩:=GJ hg4 hv4;exact⟨_,_,_,k,z4'⟩
  |1,hi=>obtain rfl:=Option.some.inj hi;obtain⟨e,fz,k⟩:=GJ hg3 hv3;exact⟨_,_,_,k,z3⟩
  |3,hi=>obtain rfl:=Option.some.inj hi;obtain⟨e,fz,k⟩:=GJ hg2 hv2;exact⟨_,_,_,k,z2⟩
abbrev shSy:Sh:=.st [.str,.int .i64]
abbrev shRg:Sh:=.st [.str,.sl (.sl (.int .i64))]
abbrev shCl:Sh:=.st [.str,.str,.int .i64,.int .i64,.int .i64,.int .i64]
abbrev shRu:Sh:=.st [.str,.str,.int .i64,.int .i64,.sl .str,.sl .str,.int .i64,.int .i64,.int .i64,.int .i64,.str,.int .i64]
abbrev shD:Sh:=.st [.str,.int .i64,.int .i64,.int .i64,.int .i64,.sl (.int .i64),.sl shSy,.sl shRg,.sl shCl,.sl shRu]
theorem J0 {e:Sh} {α:Type} {enc:α→AVal} (he:∀vs,e.rd vs→∃a,e.wrap vs=enc a) {av:List AVal} (h:(Sh.sl e).rd av):∃l:List α,av=[.sl (.none e.size) (l.map enc)]:=by
 simp only[Sh.rd]at h
 obtain⟨l,rfl,hln,h⟩:=h
 suffices ∃m:List α,l.map e.wrap=m.map enc by
  obtain⟨m,hm⟩:=this
  exact⟨m,by rw[hm]⟩
 clear hln
 induction l with
 |nil=>exact⟨[],rfl⟩
 |cons x l ih=>
  obtain⟨m,hm⟩:=ih fun y hy=>h y (by simp [hy])
  obtain⟨a,ha⟩:=he x (h x (by simp))
  exact⟨a::m,by rw[List.map_cons,List.map_cons,hm,ha]⟩
theorem rdI {vs:List AVal} (h:(Sh.int .i64).rd vs):∃n:Int,(Sh.int .i64).wrap vs=eI n:=by
 obtain⟨n,rfl,_⟩:=h
 exact⟨n,rfl⟩
theorem rdS {vs:List AVal} (h:Sh.str.rd vs):∃s:Bs,Sh.str.wrap vs= .str s:=by
 obtain⟨s,rfl,_⟩:=h
 exact⟨s,rfl⟩
theorem rdIs {vs:List AVal} (h:(Sh.sl (.int .i64)).rd vs):∃l:List Int,vs=[eIs l]:=J0 (fun _=>rdI) h
theorem rdSs {vs:List AVal} (h:(Sh.sl .str).rd vs):∃l:List Bs,vs=[eSs l]:=J0 (fun _=>rdS) h
theorem rdIw {vs:List AVal} (h:(Sh.sl (.int .i64)).rd vs):∃l:List Int,(Sh.sl (.int .i64)).wrap vs=eIs l:=by
 obtain⟨l,rfl⟩:=rdIs h
 exact⟨l,rfl⟩
theorem rdLl {vs:List AVal} (h:(Sh.sl (.sl (.int .i64))).rd vs):∃l:List (List Int),vs=[eLl l]:=J0 (fun _=>rdIw) h
theorem rdSy (vs:List AVal) (h:shSy.rd vs):∃q:DSym,shSy.wrap vs=Fb q:=by
 simp only[Sh.rd.eq_5,Sh.rdL]at h
 obtain⟨_,_,rfl,⟨x0,rfl,_⟩,_,_,rfl,⟨x1,rfl,_⟩,rfl⟩:=h
 exact⟨⟨x0,x1⟩,rfl⟩
theorem rdRg (vs:List AVal) (h:shRg.rd vs):∃q:DReg,shRg.wrap vs=DF q:=by
 simp only[Sh.rd.eq_5,Sh.rdL]at h
 obtain⟨_,_,rfl,⟨x0,rfl,_⟩,_,_,rfl,h1,rfl⟩:=h
 obtain⟨x1,rfl⟩:=rdLl h1
 exact⟨⟨x0,x1⟩,rfl⟩
theorem rdCl (vs:List AVal) (h:shCl.rd vs):∃q:DClu,shCl.wrap vs=BI q:=by
 simp only[Sh.rd.eq_5,Sh.rdL]at h
 obtain⟨_,_,rfl,⟨x0,rfl,_⟩,_,_,rfl,⟨x1,rfl,_⟩,_,_,rfl,⟨x2,rfl,_⟩,_,_,rfl,⟨x3,rfl,_⟩,_,_,rfl,⟨x4,rfl,_⟩,_,_,rfl,⟨x5,rfl,_⟩,rfl⟩:=h
 exact⟨⟨x0,x1,x2,x3,x4,x5⟩,rfl⟩
theorem rdRu (vs:List AVal) (h:shRu.rd vs):∃q:DRul,shRu.wrap vs=Am q:=by
 simp only[Sh.rd.eq_5,Sh.rdL]at h
 obtain⟨_,_,rfl,⟨x0,rfl,_⟩,_,_,rfl,⟨x1,rfl,_⟩,_,_,rfl,⟨x2,rfl,_⟩,_,_,rfl,⟨x3,rfl,_⟩,_,_,rfl,h4,_,_,rfl,h5,_,_,rfl,⟨x6,rfl,_⟩,_,_,rfl,⟨x7,rfl,_⟩,_,_,rfl,⟨x8,rfl,_⟩,_,_,rfl,⟨x9,rfl,_⟩,_,_,rfl,⟨x10,rfl,_⟩,_,_,rfl,⟨x11,rfl,_⟩,rfl⟩:=h
 obtain⟨x4,rfl⟩:=rdSs h4
 obtain⟨x5,rfl⟩:=rdSs h5
 exact⟨⟨x0,x1,x2,x3,x4,x5,x6,x7,x8,x9,x10,x11⟩,rfl⟩
theorem rdD (vs:List AVal) (h:shD.rd vs):∃q:Dcl,shD.wrap vs=encD q:=by
 simp only[Sh.rd.eq_5,Sh.rdL]at h
 obtain⟨_,_,rfl,⟨x0,rfl,_⟩,_,_,rfl,⟨x1,rfl,_⟩,_,_,rfl,⟨x2,rfl,_⟩,_,_,rfl,⟨x3,rfl,_⟩,_,_,rfl,⟨x4,rfl,_⟩,_,_,rfl,h5,_,_,rfl,h6,_,_,rfl,h7,_,_,rfl,h8,_,_,rfl,h9,rfl⟩:=h
 obtain⟨x5,rfl⟩:=rdIs h5
 obtain⟨x6,rfl⟩:=J0 rdSy h6
 obtain⟨x7,rfl⟩:=J0 rdRg h7
 obtain⟨x8,rfl⟩:=J0 rdCl h8
 obtain⟨x9,rfl⟩:=J0 rdRu h9
 exact⟨⟨x0,x1,x2,x3,x4,x5,x6,x7,x8,x9⟩,rfl⟩
theorem argDD {av:List AVal} (h:Sh.rdA [shD,shD] av):∃a b:Dcl,av=[encD a,encD b]:=by
 simp only[Sh.rdA]at h
 obtain⟨y,_,rfl,hy,z,_,rfl,hz,rfl⟩:=h
 obtain⟨a,ha⟩:=rdD _ hy
 obtain⟨b,hb⟩:=rdD _ hz
 exact⟨a,b,by rw[ha,hb]⟩
end Go.AM
end
