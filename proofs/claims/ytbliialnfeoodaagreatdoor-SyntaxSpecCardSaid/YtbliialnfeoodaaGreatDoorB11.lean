/-
  The reference of syntax: equal lists, rules, declarations (written by mku1 · Declarations: the reference's Text · Declarations: the reference's Few · Declarations: what was read is not too long · Declarations: the reference's Print · Declarations: the examples; the first law · Declarations: the laws, first part · Declarations: the laws, second part · Declarations: sources of any length; tokens · Declarations: the laws on beginnings and further tokens · Declarations: the law on changed tokens · Declarations: the law on white space · Declarations: the law on white space, walked · Declarations as text: from the rows to the abstract machine.
  Conditions: none beyond those of its parts.
-/
import Derived.Test.YtbliialnfeoodaaGreatDoorB9
import Derived.Test.YtbliialnfeoodaaGreatDoorB5
import Derived.Test.YtbliialnfeoodaaGreatDoorB6
import Derived.Test.YtbliialnfeoodaaGreatDoorB8
import Derived.Test.YtbliialnfeoodaaGreatDoorB10
import Derived.Test.YtbliialnfeoodaaGreatDoorB7
import Derived.Test.YtbliialnfeoodaaGreatDoorRows
import Derived.LaidLaws

section
set_option maxRecDepth 20000
set_option linter.all false
namespace Go.AM
open Go.Proofs Go.Lib
theorem p26 (a b:List Int) (ha:few a):Pur Tryz.prog 26 [eIs a,eIs b] (.bool (decide (a=b))):=by
 refine .mk ⟨eIs_under 0 _,eIs_under 0 _,trivial⟩ trivial (a26 (ev_awp TabOK.tnil (ev_evK ?_)))
 have hal:a.length<1000000000:=ha
 by_cases hl:a.length=b.length
 case neg=>
  have hR:decide (a=b)=false:=decide_eq_false fun q=>hl (by rw[q])
  have hq:((a.length:Int)=(b.length:Int))=False:=eq_false (by omega)
  rw[hR]
  simp only[eE,eC,eN,reduceCtorEq,Nat.reduceEqDiff,↓reduceIte,Nat.reduceAdd,Bool.not_false,List.length_map,c26,hq]
 have hq:((a.length:Int)=(b.length:Int))=True:=eq_true (by omega)
 simp only[eE,eC,eN,reduceCtorEq,Nat.reduceEqDiff,↓reduceIte,Nat.reduceAdd,Bool.not_true,List.length_map,c26,hq]
 refine k_loop (fun i:Nat=>⟨[(0,true,eIs a),(1,true,eIs b),(5,true,.int .i64 i)],hnil,0⟩) (fun i=>i≤a.length∧a.take i=b.take i) (fun i=>a.length-i) 0 rfl ⟨Nat.zero_le _,rfl⟩ ?_
 rintro i ⟨hi,htk⟩
 by_cases hlt:i<a.length
 ·have hltb:i<b.length:=by omega
  have hg:=List.getElem?_eq_getElem hlt
  have hgb:=List.getElem?_eq_getElem hltb
  have e:=w64_succ (k:=i) (by omega)
  have ta:a.take (i+1)=a.take i++[a[i]]:=by rw[List.take_add_one,hg];rfl
  have tb:b.take (i+1)=b.take i++[b[i]]:=by rw[List.take_add_one,hgb];rfl
  generalize a[i]=x at hg ta
  generalize b[i]=y at hgb tb
  by_cases hxy:x=y
  ·simp only[eE,eC,eN,reduceCtorEq,Nat.reduceEqDiff,↓reduceIte,Int.reduceEq,Bool.not_true,Option.getD_some,Int.toNat_natCast,Int.natCast_nonneg,List.length_map,List.getElem?_map,lt_T hlt,lt_T hltb,hg,hgb,e,hxy]
   exact .mk (i+1) rfl ⟨hlt,by rw[ta,tb,htk,hxy]⟩ (by omega)
  ·have hR:decide (a=b)=false:=decide_eq_false fun q=>hxy (by rw[q]at hg;rw[hg]at hgb;exact Option.some.inj hgb)
   rw[hR]
   simp only[eE,eC,eN,reduceCtorEq,Nat.reduceEqDiff,↓reduceIte,Bool.not_false,Option.getD_some,Int.toNat_natCast,Int.natCast_nonneg,List.length_map,List.getElem?_map,lt_T hlt,lt_T hltb,hg,hgb,dec_F hxy]
 obtain rfl:i=a.length:=by omega
 have hR:decide (a=b)=true:=decide_eq_true (by rw[List.take_length,hl,List.take_length]at htk;exact htk)
 rw[hR]
 simp only[eE,eC,eN,reduceCtorEq,Nat.reduceEqDiff,↓reduceIte,List.length_map,lt_F hlt]
theorem p74 (a b:List Bs) (ha:few a):Pur Tryz.prog 74 [eSs a,eSs b] (.bool (decide (a=b))):=by
 refine .mk ⟨eSs_under 0 _,eSs_under 0 _,trivial⟩ trivial (a74 (ev_awp TabOK.tnil (ev_evK ?_)))
 have hal:a.length<1000000000:=ha
 by_cases hl:a.length=b.length
 case neg=>
  have hR:decide (a=b)=false:=decide_eq_false fun q=>hl (by rw[q])
  have hq:((a.length:Int)=(b.length:Int))=False:=eq_false (by omega)
  rw[hR]
  simp only[eE,eC,eN,reduceCtorEq,Nat.reduceEqDiff,↓reduceIte,Nat.reduceAdd,Bool.not_false,List.length_map,c74,hq]
 have hq:((a.length:Int)=(b.length:Int))=True:=eq_true (by omega)
 simp only[eE,eC,eN,reduceCtorEq,Nat.reduceEqDiff,↓reduceIte,Nat.reduceAdd,Bool.not_true,List.length_map,c74,hq]
 refine k_loop (fun i:Nat=>⟨[(0,true,eSs a),(1,true,eSs b),(5,true,.int .i64 i)],hnil,0⟩) (fun i=>i≤a.length∧a.take i=b.take i) (fun i=>a.length-i) 0 rfl ⟨Nat.zero_le _,rfl⟩ ?_
 rintro i ⟨hi,htk⟩
 by_cases hlt:i<a.length
 ·have hltb:i<b.length:=by omega
  have hg:=List.getElem?_eq_getElem hlt
  have hgb:=List.getElem?_eq_getElem hltb
  have e:=w64_succ (k:=i) (by omega)
  have ta:a.take (i+1)=a.take i++[a[i]]:=by rw[List.take_add_one,hg];rfl
  have tb:b.take (i+1)=b.take i++[b[i]]:=by rw[List.take_add_one,hgb];rfl
  generalize a[i]=x at hg ta
  generalize b[i]=y at hgb tb
  by_cases hxy:x=y
  ·simp only[eE,eC,eN,reduceCtorEq,Nat.reduceEqDiff,↓reduceIte,Int.reduceEq,Bool.not_true,Option.getD_some,Int.toNat_natCast,Int.natCast_nonneg,List.length_map,List.getElem?_map,lt_T hlt,lt_T hltb,hg,hgb,e,scmp_ne,dec_T hxy]
   exact .mk (i+1) rfl ⟨hlt,by rw[ta,tb,htk,hxy]⟩ (by omega)
  ·have hR:decide (a=b)=false:=decide_eq_false fun q=>hxy (by rw[q]at hg;rw[hg]at hgb;exact Option.some.inj hgb)
   rw[hR]
   simp only[eE,eC,eN,reduceCtorEq,Nat.reduceEqDiff,↓reduceIte,Bool.not_false,Option.getD_some,Int.toNat_natCast,Int.natCast_nonneg,List.length_map,List.getElem?_map,lt_T hlt,lt_T hltb,hg,hgb,scmp_ne,dec_F hxy]
 obtain rfl:i=a.length:=by omega
 have hR:decide (a=b)=true:=decide_eq_true (by rw[List.take_length,hl,List.take_length]at htk;exact htk)
 rw[hR]
 simp only[eE,eC,eN,reduceCtorEq,Nat.reduceEqDiff,↓reduceIte,List.length_map,lt_F hlt]
def Tsi:Tab:=tadd 26 (s2 dIs dIs (fun a _=>few a) fun a b=>.bool (decide (a=b))) tnil
theorem Tsi_ok:TabOK Tryz.prog Tsi:=TabOK.tnil.add (q2 p26)
theorem Tsi_e (a:List AVal) (H:AHeap):Tsi 26 a H=s2 dIs dIs (fun a _=>few a) (fun a b=>.bool (decide (a=b))) a H:=rfl
theorem p27 (a b:List (List Int)) (ha:few a) (hf:∀x∈a,few x):Pur Tryz.prog 27 [eLl a,eLl b] (.bool (decide (a=b))):=by
 refine .mk ⟨eLl_under 0 _,eLl_under 0 _,trivial⟩ trivial (a27 (ev_awp Tsi_ok (ev_evK ?_)))
 have hal:a.length<1000000000:=ha
 by_cases hl:a.length=b.length
 case neg=>
  have hR:decide (a=b)=false:=decide_eq_false fun q=>hl (by rw[q])
  have hq:((a.length:Int)=(b.length:Int))=False:=eq_false (by omega)
  rw[hR]
  simp only[eE,eC,eN,reduceCtorEq,Nat.reduceEqDiff,↓reduceIte,Nat.reduceAdd,Bool.not_false,List.length_map,c27,hq]
 have hq:((a.length:Int)=(b.length:Int))=True:=eq_true (by omega)
 simp only[eE,eC,eN,reduceCtorEq,Nat.reduceEqDiff,↓reduceIte,Nat.reduceAdd,Bool.not_true,List.length_map,c27,hq]
 refine k_loop (fun i:Nat=>⟨[(0,true,eLl a),(1,true,eLl b),(5,true,.int .i64 i)],hnil,0⟩) (fun i=>i≤a.length∧a.take i=b.take i) (fun i=>a.length-i) 0 rfl ⟨Nat.zero_le _,rfl⟩ ?_
 rintro i ⟨hi,htk⟩
 by_cases hlt:i<a.length
 ·have hltb:i<b.length:=by omega
  have hg:=List.getElem?_eq_getElem hlt
  have hgb:=List.getElem?_eq_getElem hltb
  have e:=w64_succ (k:=i) (by omega)
  have ta:a.take (i+1)=a.take i++[a[i]]:=by rw[List.take_add_one,hg];rfl
  have tb:b.take (i+1)=b.take i++[b[i]]:=by rw[List.take_add_one,hgb];rfl
  have hxf:=hf _ (List.getElem_mem hlt)
  generalize a[i]=x at hg ta hxf
  generalize b[i]=y at hgb tb
  by_cases hxy:x=y
  ·simp only[eE,eC,eN,reduceCtorEq,Nat.reduceEqDiff,↓reduceIte,Int.reduceEq,Bool.not_true,Option.getD_some,Int.toNat_natCast,Int.natCast_nonneg,List.length_map,List.getElem?_map,lt_T hlt,lt_T hltb,hg,hgb,e,Tsi_e,s2,dIs_ok,dIs_dec,eq_true hxf,dec_T hxy]
   exact .mk (i+1) rfl ⟨hlt,by rw[ta,tb,htk,hxy]⟩ (by omega)
  ·have hR:decide (a=b)=false:=decide_eq_false fun q=>hxy (by rw[q]at hg;rw[hg]at hgb;exact Option.some.inj hgb)
   rw[hR]
   simp only[eE,eC,eN,reduceCtorEq,Nat.reduceEqDiff,↓reduceIte,Bool.not_false,Option.getD_some,Int.toNat_natCast,Int.natCast_nonneg,List.length_map,List.getElem?_map,lt_T hlt,lt_T hltb,hg,hgb,Tsi_e,s2,dIs_ok,dIs_dec,eq_true hxf,dec_F hxy]
 obtain rfl:i=a.length:=by omega
 have hR:decide (a=b)=true:=decide_eq_true (by rw[List.take_length,hl,List.take_length]at htk;exact htk)
 rw[hR]
 simp only[eE,eC,eN,reduceCtorEq,Nat.reduceEqDiff,↓reduceIte,List.length_map,lt_F hlt]
def Tsn:Tab:=tadd 74 (s2 dSs dSs (fun a _=>few a) fun a b=>.bool (decide (a=b))) tnil
theorem Tsn_ok:TabOK Tryz.prog Tsn:=TabOK.tnil.add (q2 p74)
theorem Tsn_e (a:List AVal) (H:AHeap):Tsn 74 a H=s2 dSs dSs (fun a _=>few a) (fun a b=>.bool (decide (a=b))) a H:=rfl
theorem p28 (a b:DRul) (ha:fewRu a):Pur Tryz.prog 28 [encRu a,encRu b] (.bool (decide (a=b))):=by
 refine .mk ⟨encRu_under 0 _,encRu_under 0 _,trivial⟩ trivial (a28 (ev_awp Tsn_ok (ev_evK ?_)))
 obtain⟨h1,h2⟩:=ha
 simp only[eE,eC,eN,reduceCtorEq,Nat.reduceEqDiff,↓reduceIte,Nat.reduceAdd,Nat.reduceLeDiff,c28,Tsn_e,s2,dSs_ok,dSs_dec,eq_true h1,eq_true h2,scmp_eq]
 rw[Bool.eq_iff_iff,decide_eq_true_eq,rul_ext]
 simp only[Bool.and_eq_true,decide_eq_true_eq]
 constructor
 ·intro h;simp only[h,and_self]
 ·intro h;simp only[h,and_self]
def Tsd:Tab:=tadd 26 (s2 dIs dIs (fun a _=>few a) fun a b=>.bool (decide (a=b))) (tadd 27 (s2 dLl dLl (fun a _=>fewLl a) fun a b=>.bool (decide (a=b))) (tadd 28 (s2 dRu dRu (fun a _=>fewRu a) fun a b=>.bool (decide (a=b))) tnil))
theorem Tsd_ok:TabOK Tryz.prog Tsd:=((TabOK.tnil.add (q2 p28)).add (q2 fun a b h=>p27 a b h.1 h.2)).add (q2 p26)
theorem Tsd_i (a:List AVal) (H:AHeap):Tsd 26 a H=s2 dIs dIs (fun a _=>few a) (fun a b=>.bool (decide (a=b))) a H:=rfl
theorem Tsd_l (a:List AVal) (H:AHeap):Tsd 27 a H=s2 dLl dLl (fun a _=>fewLl a) (fun a b=>.bool (decide (a=b))) a H:=rfl
theorem Tsd_r (a:List AVal) (H:AHeap):Tsd 28 a H=s2 dRu dRu (fun a _=>fewRu a) (fun a b=>.bool (decide (a=b))) a H:=rfl
theorem reg_ne (x y:DReg):(scmp .neq x.nm y.nm|| !decide (x.ls=y.ls))= !decide (x=y):=by
 rw[scmp_ne]
 cases x;cases y
 rw[Bool.eq_iff_iff]
 simp [DReg.mk.injEq]
theorem p12 (a b:Dcl) (hd:FewD a):Pur Tryz.prog 12 [encD a,encD b] (.bool (decide (a=b))):=by
 refine .mk ⟨encD_under 0 _,encD_under 0 _,trivial⟩ trivial (a12 (ev_awp Tsd_ok (ev_evK ?_)))
 cases h1:decide (a.nm=b.nm∧a.ver=b.ver∧a.sh=b.sh∧a.w=b.w∧a.h=b.h∧a.holes=b.holes)with
 |false=>
  have h1:=of_decide_eq_false h1
  have hR:decide (a=b)=false:=decide_eq_false fun q=>h1 (by rw[q];exact⟨rfl,rfl,rfl,rfl,rfl,rfl⟩)
  have hb:(scmp .neq a.nm b.nm|| !decide (a.ver=b.ver)|| !decide (a.sh=b.sh)|| !decide (a.w=b.w)|| !decide (a.h=b.h)|| !decide (a.holes=b.holes))=true:=by
   rw[scmp_ne,←Bool.not_eq_false]
   intro q
   simp only[Bool.or_eq_false_iff,Bool.not_eq_false',decide_eq_true_eq,and_assoc]at q
   exact h1 q
  rw[hR]
  simp only[eE,eC,eN,reduceCtorEq,Nat.reduceEqDiff,↓reduceIte,Nat.reduceAdd,Nat.reduceLeDiff,c12,Tsd_i,s2,dIs_ok,dIs_dec,eq_true hd.ho,hb]
 |true=>
 obtain⟨a1,a2,a3,a4,a5,a6⟩:=of_decide_eq_true h1
 have hb:(scmp .neq a.nm b.nm|| !decide (a.ver=b.ver)|| !decide (a.sh=b.sh)|| !decide (a.w=b.w)|| !decide (a.h=b.h)|| !decide (a.holes=b.holes))=false:=by
  rw[scmp_ne];simp [a1,a2,a3,a4,a5,a6]
 clear h1
 cases h2:decide (a.syms.length=b.syms.length∧a.regs.length=b.regs.length∧a.clus.length=b.clus.length∧a.ruls.length=b.ruls.length)with
 |false=>
  have h2:=of_decide_eq_false h2
  have hR:decide (a=b)=false:=decide_eq_false fun q=>h2 (by rw[q];exact⟨rfl,rfl,rfl,rfl⟩)
  have hb2:(!decide ((a.syms.length:Int)=(b.syms.length:Int))|| !decide ((a.regs.length:Int)=(b.regs.length:Int))|| !decide ((a.clus.length:Int)=(b.clus.length:Int))|| !decide ((a.ruls.length:Int)=(b.ruls.length:Int)))=true:=by
   rw[←Bool.not_eq_false]
   intro q
   simp only[Bool.or_eq_false_iff,Bool.not_eq_false',decide_eq_true_eq,and_assoc]at q
   exact h2 (by omega)
  rw[hR]
  simp only[eE,eC,eN,reduceCtorEq,Nat.reduceEqDiff,↓reduceIte,Nat.reduceAdd,Nat.reduceLeDiff,List.length_map,c12,Tsd_i,s2,dIs_ok,dIs_dec,eq_true hd.ho,hb,hb2]
 |true=>
 obtain⟨l1,l2,l3,l4⟩:=of_decide_eq_true h2
 have hb2:(!decide ((a.syms.length:Int)=(b.syms.length:Int))|| !decide ((a.regs.length:Int)=(b.regs.length:Int))|| !decide ((a.clus.length:Int)=(b.clus.length:Int))|| !decide ((a.ruls.length:Int)=(b.ruls.length:Int)))=false:=by
  simp [l1,l2,l3,l4]
 clear h2
 simp only[eE,eC,eN,reduceCtorEq,Nat.reduceEqDiff,↓reduceIte,Nat.reduceAdd,Nat.reduceLeDiff,List.length_map,c12,Tsd_i,s2,dIs_ok,dIs_dec,eq_true hd.ho,hb,hb2]
 refine k_loop (fun i:Nat=>⟨[(2,true,.ptr 0 0),(3,true,.ptr 1 0),(5,true,.int .i64 i)],hset (hset hnil 0 (.box (cellsD a))) 1 (.box (cellsD b)),3⟩) (fun i=>i≤a.syms.length∧a.syms.take i=b.syms.take i) (fun i=>a.syms.length-i) 0 rfl ⟨Nat.zero_le _,rfl⟩ ?_
 rintro i ⟨hi,htk⟩
 have hfl:a.syms.length<1000000000:=hd.sy
 by_cases hlt:i<a.syms.length
 ·have hltb:i<b.syms.length:=by omega
  have hg:=List.getElem?_eq_getElem hlt
  have hgb:=List.getElem?_eq_getElem hltb
  have e:=w64_succ (k:=i) (by omega)
  have ta:a.syms.take (i+1)=a.syms.take i++[a.syms[i]]:=by rw[List.take_add_one,hg];rfl
  have tb:b.syms.take (i+1)=b.syms.take i++[b.syms[i]]:=by rw[List.take_add_one,hgb];rfl
  generalize a.syms[i]=x at hg ta
  generalize b.syms[i]=y at hgb tb
  by_cases hxy:x=y
  ·have hc:=ceq_sy x y
   rw[decide_eq_true hxy]at hc
   simp only[eE,eC,eN,reduceCtorEq,Nat.reduceEqDiff,↓reduceIte,Nat.reduceAdd,Nat.reduceLeDiff,Int.reduceEq,Bool.not_true,Option.getD_some,Int.toNat_natCast,Int.natCast_nonneg,List.length_map,List.getElem?_map,lt_T hlt,lt_T hltb,hg,hgb,e,hc,cfit]
   exact .mk (i+1) rfl ⟨hlt,by rw[ta,tb,htk,hxy]⟩ (by omega)
  ·have hR:decide (a=b)=false:=decide_eq_false fun q=>hxy (by rw[q]at hg;rw[hg]at hgb;exact Option.some.inj hgb)
   have hc:=ceq_sy x y
   rw[decide_eq_false hxy]at hc
   rw[hR]
   simp only[eE,eC,eN,reduceCtorEq,Nat.reduceEqDiff,↓reduceIte,Nat.reduceAdd,Nat.reduceLeDiff,Bool.not_false,Option.getD_some,Int.toNat_natCast,Int.natCast_nonneg,List.length_map,List.getElem?_map,lt_T hlt,lt_T hltb,hg,hgb,hc,cfit]
 obtain rfl:i=a.syms.length:=by omega
 have b_syms:a.syms=b.syms:=by rw[List.take_length,l1,List.take_length]at htk;exact htk
 simp only[eE,eC,eN,reduceCtorEq,Nat.reduceEqDiff,↓reduceIte,Nat.reduceAdd,Nat.reduceLeDiff,List.length_map,lt_F hlt]
 clear hi htk hfl hlt
 refine k_loop (fun i:Nat=>⟨[(2,true,.ptr 0 0),(3,true,.ptr 1 0),(6,true,.int .i64 i)],hset (hset hnil 0 (.box (cellsD a))) 1 (.box (cellsD b)),3⟩) (fun i=>i≤a.regs.length∧a.regs.take i=b.regs.take i) (fun i=>a.regs.length-i) 0 rfl ⟨Nat.zero_le _,rfl⟩ ?_
 rintro i ⟨hi,htk⟩
 have hfl:a.regs.length<1000000000:=hd.rg
 by_cases hlt:i<a.regs.length
 ·have hltb:i<b.regs.length:=by omega
  have hg:=List.getElem?_eq_getElem hlt
  have hgb:=List.getElem?_eq_getElem hltb
  have e:=w64_succ (k:=i) (by omega)
  have ta:a.regs.take (i+1)=a.regs.take i++[a.regs[i]]:=by rw[List.take_add_one,hg];rfl
  have tb:b.regs.take (i+1)=b.regs.take i++[b.regs[i]]:=by rw[List.take_add_one,hgb];rfl
  have hxf:fewLl a.regs[i].ls:=hd.rgs _ (List.getElem_mem hlt)
  generalize a.regs[i]=x at hg ta hxf
  generalize b.regs[i]=y at hgb tb
  by_cases hxy:x=y
  ·have hc:=reg_ne x y
   rw[decide_eq_true hxy]at hc
   simp only[eE,eC,eN,reduceCtorEq,Nat.reduceEqDiff,↓reduceIte,Nat.reduceAdd,Nat.reduceLeDiff,Int.reduceEq,Bool.not_true,Option.getD_some,Int.toNat_natCast,Int.natCast_nonneg,List.length_map,List.getElem?_map,lt_T hlt,lt_T hltb,hg,hgb,e,Tsd_l,s2,dLl_ok,dLl_dec,eq_true hxf,hc]
   exact .mk (i+1) rfl ⟨hlt,by rw[ta,tb,htk,hxy]⟩ (by omega)
  ·have hR:decide (a=b)=false:=decide_eq_false fun q=>hxy (by rw[q]at hg;rw[hg]at hgb;exact Option.some.inj hgb)
   have hc:=reg_ne x y
   rw[decide_eq_false hxy]at hc
   rw[hR]
   simp only[eE,eC,eN,reduceCtorEq,Nat.reduceEqDiff,↓reduceIte,Nat.reduceAdd,Nat.reduceLeDiff,Bool.not_false,Option.getD_some,Int.toNat_natCast,Int.natCast_nonneg,List.length_map,List.getElem?_map,lt_T hlt,lt_T hltb,hg,hgb,Tsd_l,s2,dLl_ok,dLl_dec,eq_true hxf,hc]
 obtain rfl:i=a.regs.length:=by omega
 have b_regs:a.regs=b.regs:=by rw[List.take_length,l2,List.take_length]at htk;exact htk
 simp only[eE,eC,eN,reduceCtorEq,Nat.reduceEqDiff,↓reduceIte,Nat.reduceAdd,Nat.reduceLeDiff,List.length_map,lt_F hlt]
 clear hi htk hfl hlt
 refine k_loop (fun i:Nat=>⟨[(2,true,.ptr 0 0),(3,true,.ptr 1 0),(7,true,.int .i64 i)],hset (hset hnil 0 (.box (cellsD a))) 1 (.box (cellsD b)),3⟩) (fun i=>i≤a.clus.length∧a.clus.take i=b.clus.take i) (fun i=>a.clus.length-i) 0 rfl ⟨Nat.zero_le _,rfl⟩ ?_
 rintro i ⟨hi,htk⟩
 have hfl:a.clus.length<1000000000:=hd.cl
 by_cases hlt:i<a.clus.length
 ·have hltb:i<b.clus.length:=by omega
  have hg:=List.getElem?_eq_getElem hlt
  have hgb:=List.getElem?_eq_getElem hltb
  have e:=w64_succ (k:=i) (by omega)
  have ta:a.clus.take (i+1)=a.clus.take i++[a.clus[i]]:=by rw[List.take_add_one,hg];rfl
  have tb:b.clus.take (i+1)=b.clus.take i++[b.clus[i]]:=by rw[List.take_add_one,hgb];rfl
  generalize a.clus[i]=x at hg ta
  generalize b.clus[i]=y at hgb tb
  by_cases hxy:x=y
  ·have hc:=ceq_cl x y
   rw[decide_eq_true hxy]at hc
   simp only[eE,eC,eN,reduceCtorEq,Nat.reduceEqDiff,↓reduceIte,Nat.reduceAdd,Nat.reduceLeDiff,Int.reduceEq,Bool.not_true,Option.getD_some,Int.toNat_natCast,Int.natCast_nonneg,List.length_map,List.getElem?_map,lt_T hlt,lt_T hltb,hg,hgb,e,hc,cfit]
   exact .mk (i+1) rfl ⟨hlt,by rw[ta,tb,htk,hxy]⟩ (by omega)
  ·have hR:decide (a=b)=false:=decide_eq_false fun q=>hxy (by rw[q]at hg;rw[hg]at hgb;exact Option.some.inj hgb)
   have hc:=ceq_cl x y
   rw[decide_eq_false hxy]at hc
   rw[hR]
   simp only[eE,eC,eN,reduceCtorEq,Nat.reduceEqDiff,↓reduceIte,Nat.reduceAdd,Nat.reduceLeDiff,Bool.not_false,Option.getD_some,Int.toNat_natCast,Int.natCast_nonneg,List.length_map,List.getElem?_map,lt_T hlt,lt_T hltb,hg,hgb,hc,cfit]
 obtain rfl:i=a.clus.length:=by omega
 have b_clus:a.clus=b.clus:=by rw[List.take_length,l3,List.take_length]at htk;exact htk
 simp only[eE,eC,eN,reduceCtorEq,Nat.reduceEqDiff,↓reduceIte,Nat.reduceAdd,Nat.reduceLeDiff,List.length_map,lt_F hlt]
 clear hi htk hfl hlt
 refine k_loop (fun i:Nat=>⟨[(2,true,.ptr 0 0),(3,true,.ptr 1 0),(8,true,.int .i64 i)],hset (hset hnil 0 (.box (cellsD a))) 1 (.box (cellsD b)),3⟩) (fun i=>i≤a.ruls.length∧a.ruls.take i=b.ruls.take i) (fun i=>a.ruls.length-i) 0 rfl ⟨Nat.zero_le _,rfl⟩ ?_
 rintro i ⟨hi,htk⟩
 have hfl:a.ruls.length<1000000000:=hd.ru
 by_cases hlt:i<a.ruls.length
 ·have hltb:i<b.ruls.length:=by omega
  have hg:=List.getElem?_eq_getElem hlt
  have hgb:=List.getElem?_eq_getElem hltb
  have e:=w64_succ (k:=i) (by omega)
  have ta:a.ruls.take (i+1)=a.ruls.take i++[a.ruls[i]]:=by rw[List.take_add_one,hg];rfl
  have tb:b.ruls.take (i+1)=b.ruls.take i++[b.ruls[i]]:=by rw[List.take_add_one,hgb];rfl
  have hxf:fewRu a.ruls[i]:=hd.rus _ (List.getElem_mem hlt)
  generalize a.ruls[i]=x at hg ta hxf
  generalize b.ruls[i]=y at hgb tb
  by_cases hxy:x=y
  ·simp only[eE,eC,eN,reduceCtorEq,Nat.reduceEqDiff,↓reduceIte,Nat.reduceAdd,Int.reduceEq,Bool.not_true,Option.getD_some,Int.toNat_natCast,Int.natCast_nonneg,List.length_map,List.getElem?_map,lt_T hlt,lt_T hltb,hg,hgb,e,Tsd_r,s2,dRu_ok,dRu_dec,eq_true hxf,dec_T hxy]
   exact .mk (i+1) rfl ⟨hlt,by rw[ta,tb,htk,hxy]⟩ (by omega)
  ·have hR:decide (a=b)=false:=decide_eq_false fun q=>hxy (by rw[q]at hg;rw[hg]at hgb;exact Option.some.inj hgb)
   rw[hR]
   simp only[eE,eC,eN,reduceCtorEq,Nat.reduceEqDiff,↓reduceIte,Nat.reduceAdd,Bool.not_false,Option.getD_some,Int.toNat_natCast,Int.natCast_nonneg,List.length_map,List.getElem?_map,lt_T hlt,lt_T hltb,hg,hgb,Tsd_r,s2,dRu_ok,dRu_dec,eq_true hxf,dec_F hxy]
 obtain rfl:i=a.ruls.length:=by omega
 have b_ruls:a.ruls=b.ruls:=by rw[List.take_length,l4,List.take_length]at htk;exact htk
 have hR:decide (a=b)=true:=decide_eq_true (by
  cases a;cases b
  simp only at a1 a2 a3 a4 a5 a6 b_syms b_regs b_clus b_ruls
  subst a1 a2 a3 a4 a5 a6 b_syms b_regs b_clus b_ruls
  rfl)
 rw[hR]
 simp only[eE,eC,eN,reduceCtorEq,Nat.reduceEqDiff,↓reduceIte,Nat.reduceAdd,List.length_map,lt_F hlt]
end Go.AM
end
section
set_option maxRecDepth 20000
set_option linter.all false
namespace Go.AM
open Go.Proofs Go.Lib
abbrev s21:=sK fun x=>.bool (validS x)
end Go.AM
end
section
set_option maxRecDepth 20000
set_option linter.all false
namespace Go.AM
open Go.Proofs Go.Lib
def okSy (s:DSym):Bool:=decide (s.nm.length≤40)
def okRg (r:DReg):Bool:=decide (r.nm.length≤40)&&decide (r.ls.length≤20)&&r.ls.all fun l=>decide (l.length≤20)
def okCl (c:DClu):Bool:=decide (c.nm.length≤40)&&decide (c.on.length≤40)
def okRu (r:DRul):Bool:=decide (r.nm.length≤40)&&decide (r.on.length≤40)&&decide (r.byN.length≤40)&&decide (r.ns.length≤20)&&decide (r.os.length≤20)
def fewT (d:Dcl):Bool:=decide (d.nm.length≤40)&&decide (d.holes.length≤20)&&decide (d.syms.length≤20)&&decide (d.regs.length≤6)&&decide (d.clus.length≤8)&&decide (d.ruls.length≤20)&&d.syms.all okSy&&d.regs.all okRg&&d.clus.all okCl&&d.ruls.all okRu
def Tfw:Tab:=tadd 29 (s2 dIs dI (fun _ _=>True) fun l m=>.bool (decide ((l.length:Int)≤m))) tnil
theorem Tfw_f (a:List AVal) (H:AHeap):Tfw 29 a H=s2 dIs dI (fun _ _=>True) (fun l m=>.bool (decide ((l.length:Int)≤m))) a H:=rfl
structure VFw where
 i:Nat
 H:AHeap
 n:Nat
section
variable {d:Dcl} {b:Bool} {H:AHeap} {n:Nat} {X:List (Nat×Bool×AVal)}
end
end Go.AM
end
section
set_option maxRecDepth 20000
set_option linter.all false
namespace Go.AM
open Go.Proofs Go.Lib
def Kp {α:Type} (P:α→Prop) (p:List Tkn→Rs α):Prop:=∀l a r,few l→p l= .ok a r→P a
theorem Kp.any {α:Type} {p:List Tkn→Rs α}:Kp (fun _=>True) p:=fun _ _ _ _ _=>trivial
theorem Kp.ok {α:Type} {P:α→Prop} {a:α} (h:P a):Kp P (Rs.ok a):=fun l b r _ e=>by cases e;exact h
theorem Kp.bad {α:Type} {P:α→Prop}:Kp P (Rs.bad:List Tkn→Rs α):=fun l b r _ e=>by cases e
theorem Kp.bd {α β:Type} {Q:α→Prop} {P:β→Prop} {p:List Tkn→Rs α} {f:α→List Tkn→Rs β} (hL:Le p) (hp:Kp Q p) (hf:∀a,Q a→Kp P (f a)):Kp P fun l=>(p l).bd f:=fun l b r hl e=>by
 obtain⟨a,q,h1,h2⟩:=bd_inv (show(p l).bd f=_ from e)
 have:=hL _ _ _ h1
 exact hf a (hp _ _ _ hl h1) q b r (by have:l.length<1000000000:=hl;show q.length<_;omega) h2
theorem Kp.bd1 {α β:Type} {P:β→Prop} {p:List Tkn→Rs α} {f:α→List Tkn→Rs β} (hL:Le p) (hf:∀a,Kp P (f a)):Kp P fun l=>(p l).bd f:=Kp.bd hL Kp.any fun a _=>hf a
theorem Kp.word {α:Type} {P:α→Prop} (w:Bs) {p q:List Tkn→Rs α} (hp:Kp P p) (hq:Kp P q):Kp P fun l=>if hdW w l=true then p l.tail else q l:=fun l a r hl e=>by
 simp only[]at e
 split at e
 ·exact hp _ _ _ (few_tail hl) e
 ·exact hq _ _ _ hl e
theorem while_all {α:Type} {P:α→Prop} {t:List Tkn→Bool} {one:List Tkn→Rs α} (hL:Lt one) (h:Kp P one):∀(k:Nat) (l:List Tkn) (xs:List α) (r:List Tkn),l.length=k→few l→whileR t one l= .ok xs r→xs.length≤l.length∧∀x∈xs,P x:=fun k=>by
 induction k using Nat.strongRecOn with
 |_ k ih=>
  intro l xs r hk hl e
  by_cases ht:t l=true
  ·rw[whl_yes hL ht]at e
   obtain⟨a,q,h1,h2⟩:=bd_inv e
   obtain⟨ys,q2,h3,h4⟩:=bd_inv h2
   cases h4
   have hlt:=hL _ _ _ h1
   have hq:few q:=by have:l.length<1000000000:=hl;show q.length<_;omega
   obtain⟨g1,g2⟩:=ih q.length (by omega) q ys _ rfl hq h3
   refine⟨by rw[List.length_cons];omega,fun x hx=>?_⟩
   rcases List.mem_cons.1 hx with rfl|hx
   ·exact h _ _ _ hl h1
   ·exact g2 x hx
  ·rw[whl_no hL (by simpa using ht)]at e
   cases e
   exact⟨Nat.zero_le _,fun x hx=>by cases hx⟩
theorem Kp.while {α:Type} {P:α→Prop} {t:List Tkn→Bool} {one:List Tkn→Rs α} (hL:Lt one) (h:Kp P one):Kp (fun xs=>∀x∈xs,P x) (whileR t one):=fun l a r hl e=>(while_all hL h _ l a r rfl hl e).2
theorem Kp.list {α:Type} {one:List Tkn→Rs α} (hL:Lt one):Kp few (listR one):=fun l xs r hl e=>by
 obtain⟨a,q,h1,h2⟩:=bd_inv e
 obtain⟨ys,q2,h3,h4⟩:=bd_inv h2
 cases h4
 have hlt:=hL _ _ _ h1
 have hl':l.length<1000000000:=hl
 obtain⟨g1,-⟩:=while_all (P:=fun _=>True) (com_Lt hL.le) Kp.any _ q ys _ rfl (by show q.length<_;omega) h3
 show(a::ys).length<_
 rw[List.length_cons];omega
abbrev frR (x:DRul):Prop:=few x.ns∧few x.os
theorem kp_set:Kp few setR:=Kp.bd1 (need_Lt _).le fun _=>Kp.bd (list_Lt name_Lt).le (Kp.list name_Lt) fun a ha=>Kp.bd1 (need_Lt _).le fun _=>Kp.ok ha
theorem kp_bnd {x:DRul} (h:frR x) (k:Int):Kp frR fun l=>(bndR l).bd fun b r=>.ok {x with kind:=k,op:=b.1,n:=b.2.1,byN:=b.2.2} r:=Kp.bd1 bnd_Lt.le fun b=>Kp.ok h
theorem kp_each {x:DRul} (h:frR x):Kp frR (eachR x):=
 Kp.word (p:=Rs.ok _) _ (Kp.ok (a:={x with kind:=1}) h) (Kp.word _ (Kp.bd set_Lt.le kp_set fun ss hs=>kp_bnd (x:={x with ns:=ss}) ⟨hs,h.2⟩ 2) (Kp.word _ (kp_bnd h 3) (Kp.word (p:=Rs.ok _) _ (Kp.ok (a:={x with kind:=4}) h)
  (Kp.bd1 (need_Lt _).le fun _=>Kp.bd set_Lt.le kp_set fun ss hs=>Kp.bd1 (need_Lt _).le fun _=>Kp.bd1 name_Lt.le fun s=>Kp.ok (a:={x with kind:=5,ns:=ss,byN:=s}) ⟨hs,h.2⟩))))
theorem kp_body {x:DRul} (h:frR x):Kp frR (bodyR x):=
 Kp.word _ (Kp.bd1 name_Lt.le fun s=>kp_each (x:={x with on:=s}) h) (Kp.word (p:=Rs.ok _) _ (Kp.ok (a:={x with kind:=6}) h) (Kp.word _ (Kp.bd1 num_Lt.le fun n=>Kp.ok (a:={x with kind:=7,n:=n}) h)
 (Kp.word _ (Kp.bd set_Lt.le kp_set fun ss hs=>Kp.bd1 (need_Lt wBeside).le fun _=>Kp.bd set_Lt.le kp_set fun os ho=>Kp.ok (a:={x with kind:=8,ns:=ss,os:=os}) ⟨hs,ho⟩)
 (Kp.word _ (Kp.bd set_Lt.le kp_set fun ss hs=>Kp.ok (a:={x with kind:=9,ns:=ss}) ⟨hs,h.2⟩) (Kp.word _ (Kp.bd set_Lt.le kp_set fun ss hs=>Kp.ok (a:={x with kind:=10,ns:=ss}) ⟨hs,h.2⟩)
 (Kp.word _ (Kp.bd1 name_Lt.le fun s=>Kp.ok (a:={x with kind:=11,byN:=s}) h) (Kp.word _ (Kp.bd1 name_Lt.le fun s=>Kp.ok (a:={x with kind:=12,on:=s}) h) (Kp.word _ (kp_bnd h 13) Kp.bad))))))))
theorem few0 {α:Type}:few ([]:List α):=by show(0:Nat)<_;decide
theorem kp_rule:Kp frR (behind wRule ruleR):=Kp.bd1 (need_Lt _).le fun _=>Kp.bd1 name_Lt.le fun s=>Kp.bd1 (need_Lt _).le fun _=>Kp.bd (body_Lt _).le (kp_body ⟨few0,few0⟩) fun x hx=>Kp.bd1 (need_Lt _).le fun _=>Kp.ok hx
theorem kp_end {P:Dcl→Prop} {d:Dcl} (h:P d):Kp P (endR d):=fun l a r hl e=>by
 cases l with
 |nil=>cases e;exact h
 |cons t q=>cases e
theorem head_Le:Le headR:=(need_Lt _).le.bd fun _=>name_Lt.le.bd fun nm=>(need_Lt _).le.bd fun _=>num_Lt.le.bd fun v=>(need_Lt _).le.bd fun _=>(need_Lt _).le.bd fun _=>shape_Lt.le.bd fun sh=>num_Lt.le.bd fun w=>(need_Lt _).le.bd fun _=>num_Lt.le.bd fun h=>holes_Le.bd fun ho=>(need_Lt _).le.bd fun _=>Le.ok _
theorem bodyD_Le (d:Dcl):Le (bodyD d):=(need_Lt _).le.bd fun _=>(list_Lt sym_Lt).le.bd fun ss=>(need_Lt _).le.bd fun _=>(while_Le (behind_Lt _ reg_Lt.le).le).bd fun rs=>(while_Le (behind_Lt _ clu_Lt.le).le).bd fun cs=>(while_Le (behind_Lt _ rule_Lt.le).le).bd fun us=>Le.ok _
theorem kp_decl:Kp (fun d:Dcl=>∀x∈d.ruls,frR x) declR:=by
 unfold declR declO
 refine Kp.bd (Le.bd head_Le fun d=>bodyD_Le d) (Kp.bd1 head_Le fun d=>?_) fun d hd=>Kp.bd1 (need_Lt _).le fun _=>kp_end hd
 exact Kp.bd1 (need_Lt _).le fun _=>Kp.bd1 (list_Lt sym_Lt).le fun ss=>Kp.bd1 (need_Lt _).le fun _=>Kp.bd1 (while_Le (behind_Lt _ reg_Lt.le).le) fun rs=>Kp.bd1 (while_Le (behind_Lt _ clu_Lt.le).le) fun cs=>Kp.bd (while_Le (behind_Lt _ rule_Lt.le).le) (Kp.while (behind_Lt _ rule_Lt.le) kp_rule) fun us hu=>Kp.ok (a:={d with syms:=ss,regs:=rs,clus:=cs,ruls:=us}) hu
theorem mem_flat {α β:Type} {f:α→List β} {l:List α} {x:α} (h:x∈l):(f x).length≤(l.flatMap f).length:=by
 induction l with
 |nil=>cases h
 |cons a r ih=>
  rw[List.flatMap_cons,List.length_append]
  rcases List.mem_cons.1 h with rfl|h
  ·omega
  ·have:=ih h;omega
theorem decl_lens (d:Dcl) (ot:Int→Bs) (b0:Bool):(holesT d.holes).length+(comT symT d.syms).length+(d.regs.flatMap regT).length+(d.clus.flatMap cluT).length+(d.ruls.flatMap (ruleT ot b0)).length≤(declT ot b0 d).length:=by
 unfold declT headT
 simp only[List.length_append,List.length_cons,List.length_nil]
 omega
theorem decl_few {d:Dcl} (h:(declT opP false d).length≤1000000) (hr:∀r∈d.ruls,frR r):FewD d:=by
 have hl:=decl_lens d opP false
 have h1:=com_len (one:=symT) (fun x=>by simp [symT]) d.syms
 have h2:=flat_lenW (f:=regT) (fun x=>by simp [regT]) d.regs
 have h3:=flat_lenW (f:=cluT) (fun x=>by simp [cluT]) d.clus
 have h4:=flat_lenW (f:=ruleT opP false) (fun x=>by simp [ruleT]) d.ruls
 have h5:d.holes.length≤(holesT d.holes).length:=by
  unfold holesT
  split
  ·rename_i q;rw[q];simp
  ·have:=com_len (one:=oneN) (fun x=>by simp) d.holes
   simp only[List.length_cons];omega
 refine⟨show d.holes.length<_ by omega,show d.syms.length<_ by omega,show d.regs.length<_ by omega,fun r hr'=>?_,show d.clus.length<_ by omega,show d.ruls.length<_ by omega,fun r hr'=>?_⟩
 ·have m1:=mem_flat (f:=regT) hr'
  have m2:=flat_lenW (f:=rlistT) (fun x=>by simp [rlistT]) r.ls
  have m3:(r.ls.flatMap rlistT).length≤(regT r).length:=by unfold regT;simp only[List.length_append,List.length_cons,List.length_nil];omega
  refine⟨show r.ls.length<_ by omega,fun x hx=>?_⟩
  have m4:=mem_flat (f:=rlistT) hx
  have m5:=com_len (one:=oneN) (fun x=>by simp) x
  have m6:(comT oneN x).length≤(rlistT x).length:=by unfold rlistT;simp
  show x.length<_
  omega
 ·exact hr r hr'
end Go.AM
end
section
set_option maxRecDepth 20000
set_option linter.all false
namespace Go.AM
open Go.Proofs Go.Lib
def lenF (d:Dcl):Prop:=(declT opF true d).length≤900000000
def Tzq (L:List Tkn) (e:Int):Tab:=tadd 32 (s1 dD lenF fun d=>eTk (declT opF true d)) (tadd 33 (s1 dKs (fun l=>l.length≤1000000) textV) (tadd 25 (s1 (dZ L e) (fun _=>True) fun s=>.tup [encD (zread s).1,pvZ (zread s).2]) (tadd 17 (s1 dD fewB fun d=>encD (bareD d)) (tadd 12 (s2 dD dD (fun a _=>FewD a) fun a b=>.bool (decide (a=b))) tnil))))
section
variable {L:List Tkn} {e:Int} (a:List AVal) (H:AHeap)
theorem Tzq_t:Tzq L e 32 a H=s1 dD lenF (fun d=>eTk (declT opF true d)) a H:=rfl
theorem Tzq_x:Tzq L e 33 a H=s1 dKs (fun l=>l.length≤1000000) textV a H:=rfl
theorem Tzq_r:Tzq L e 25 a H=s1 (dZ L e) (fun _=>True) (fun s=>.tup [encD (zread s).1,pvZ (zread s).2]) a H:=rfl
theorem Tzq_b:Tzq L e 17 a H=s1 dD fewB (fun d=>encD (bareD d)) a H:=rfl
theorem Tzq_s:Tzq L e 12 a H=s2 dD dD (fun a _=>FewD a) (fun a b=>.bool (decide (a=b))) a H:=rfl
end
structure PrOK (d:Dcl):Prop where
 few:FewD d
 len:(declT opP false d).length≤500000
 ru:d.ruls.length≤100000
theorem parsed_few {L:List Tkn} {x:Dcl} {r:List Tkn} (hv:Vd L) (hl:L.length≤1000000) (h:declR L= .ok x r):FewD x:=by
 obtain⟨e1,-,-⟩:=in_decl hv h
 have:=congrArg List.length e1
 rw[List.length_map]at this
 exact decl_few (by omega) (kp_decl L x r (show L.length<_ by omega) h)
end Go.AM
end
section
set_option maxRecDepth 20000
set_option linter.all false
namespace Go.AM
open Go.Proofs Go.Lib
def lxN:Nat→List UInt8→Nat→ScR
 |0,_,a=>.err a
 |f+1,[],a=>.ok a []
 |f+1,b::r,a=>match st1 (b::r)with
  |none=>.err a
  |some (k,o)=>consR o a (lxN f ((b::r).drop k) (a+k))
theorem lx_N:∀(f:Nat) (l:List UInt8) (a:Nat),l.length<f→lx l a=lxN f l a
 |0,l,a,h=>by omega
 |f+1,[],a,h=>by rw[lx_nil];rfl
 |f+1,b::r,a,h=>by
  rw[lxN]
  cases hs:st1 (b::r)with
  |none=>rw[lx_none (by simp) hs]
  |some x=>
   obtain⟨k,o⟩:=x
   have:=st1_pos hs
   rw[lx_some hs,lx_N f _ _ (by simp only[List.length_drop];omega)]
def pSN (src:Bs):PD:=match lxN (src.length+1) src 0 with
 | .err a=>⟨dcl0,a,100⟩
 | .ok _ ts=>readS src.length ts
theorem parse_N {src:Bs} (h:src.length≤65536):parseS src=pSN src:=by
 unfold parseS pSN
 rw[if_neg (by omega),lx_N (src.length+1) src 0 (by omega)]
 cases lxN (src.length+1) src 0<;>rfl
abbrev dK1:Dcl:=⟨[107],1,2,2,1,[],[⟨[97],0⟩],[],[],[]⟩
abbrev dK2:Dcl:=⟨[107],1,2,2,1,[],[⟨[97],0⟩],[],[],[⟨[114],[],6,0,[],[],0,0,0,0,[],0⟩]⟩
abbrev dK0:Dcl:=⟨[107],0,1,0,0,[],[],[],[],[]⟩
abbrev src1:Bs:=[107,105,110,100,32,107,32,118,101,114,115,105,111,110,32,49,32,123,32,103,114,105,100,32,104,101,120,32,50,32,98,121,32,49,32,59,32,115,121,109,98,111,108,115,32,97,32,61,32,48,32,59,32,125]
theorem v1:parseS src1=⟨dK1,0,0⟩:=by
 rw[parse_N (by decide),show pSN src1=⟨dK1,0,0⟩by kernel_rfl]
theorem v2:parseS [107,105,110,100,32,53]=⟨dcl0,5,150⟩:=by
 rw[parse_N (by decide),show pSN [107,105,110,100,32,53]=⟨dcl0,5,150⟩by kernel_rfl]
theorem v3:parseS [107,105,110,100,32,107,32,118,101,114,115,105,111,110,32,54,53,53,51,55]=⟨dcl0,15,150⟩:=by
 rw[parse_N (by decide),show pSN [107,105,110,100,32,107,32,118,101,114,115,105,111,110,32,54,53,53,51,55]=⟨dcl0,15,150⟩by kernel_rfl]
theorem v4:parseS []=⟨dcl0,0,150⟩:=by
 rw[parse_N (by decide),show pSN []=⟨dcl0,0,150⟩by kernel_rfl]
theorem i_1:itoa 1=[49]:=by
 rw[itoa,if_neg (by decide),decDigits,dif_pos (by decide)];rfl
theorem i_0:itoa 0=[48]:=by
 rw[itoa,if_neg (by decide),decDigits,dif_pos (by decide)];rfl
theorem i_2:itoa 2=[50]:=by
 rw[itoa,if_neg (by decide),decDigits,dif_pos (by decide)];rfl
theorem pw1:printS dK0=([],150):=by kernel_rfl
abbrev tkK2:List Tkn:=[kI wKind,kI [107],kI wVers,kN 1,kS [123],kI wGrid,kI wHex,kN 2,kI wBy,kN 1,kS [59],kI wSyms,kI [97],kS [61],kN 0,kS [59],kI wRule,kI [114],kS [58],kI wUnlike,kS [59],kS [125]]
abbrev txK2:Bs:=[107,105,110,100,32,107,32,118,101,114,115,105,111,110,32,49,32,123,32,103,114,105,100,32,104,101,120,32,50,32,98,121,32,49,32,59,32,115,121,109,98,111,108,115,32,97,32,61,32,48,32,59,32,114,117,108,101,32,114,32,58,32,117,110,108,105,107,101,32,59,32,125]
theorem pw2:printS dK2=(txK2,0):=by
 have h1:declT opP false dK2=tkK2:=by kernel_rfl
 have h2:tkK2.all validS=true:=by kernel_rfl
 have h3:declR tkK2= .ok dK2 []:=by kernel_rfl
 have h4:bareD dK2=dK2:=by kernel_rfl
 unfold printS printW
 rw[h1,if_pos h2,h3]
 simp only[h4,if_true]
 have:textS tkK2=txK2:=by
  unfold textS
  simp only[List.map_cons,List.map_nil,wordS,i_0,i_1,i_2];rfl
 rw[this]
theorem Wks.len:∀{ws us:List AVal},Wks ws us→ws.length=us.length
 |_,_,.nil=>rfl
 |_,_,.cons _ t=>by rw[List.length_cons,List.length_cons,t.len]
theorem Wks.stab {g:Ghost} {esz:Nat} {f:Nat→Option Value}:∀{l m:List AVal},Wks l m→∀o,Stab g esz f o l→Stab g esz f o m
 |_,_,.nil,_,h=>h
 |_,_,.cons hw t,o,h=>by
  simp only[Stab]at h⊢
  obtain⟨⟨v,h1,h2,h3⟩,h4⟩:=h
  exact⟨⟨v,hw _ _ h1,h2,h3⟩,t.stab _ h4⟩
theorem Wk.slx {t:Tok} {e:Nat} {l m:List AVal} (h:t.esz=e) (hw:Wks l m):Wk (.sl t l) (.sl (.none e) m):=by
 intro g v hv
 rcases hv with⟨rfl,rfl,h0⟩|⟨ht,b,o,cap,⟨sp,rfl,hsp⟩,hc,hs,hk⟩
 ·cases hw;exact .inl ⟨rfl,rfl,trivial⟩
 ·refine .inr ⟨trivial,b,o,cap,⟨sp,by rw[hw.len],hsp.imp id fun q=>⟨by have:=hw.len;rw[q.1]at this;exact List.eq_nil_of_length_eq_zero this.symm,.inr ⟨e,rfl⟩⟩⟩,?_,?_,trivial⟩
  ·rw[←hw.len];exact hc
  ·rw[h]at hs;exact hw.stab _ hs
def PrY (d:Dcl):Prop:=FewD d∧(declT opP false d).length≤1000000
def TLy:Tab:=tadd 10 (s1 dS (fun s=>s.length<1000000000) fun s=>pdV (parseS s)) (tadd 14 (s1 dD PrY fun d=>.tup [.str (printS d).1,.int .i64 (printS d).2]) (tadd 16 (s2 dD dD (fun _ b=>FewD b) fun a b=>.bool (decide (a=b))) (tadd 12 (s2 dD dD (fun a _=>FewD a) fun a b=>.bool (decide (a=b))) tnil)))
theorem TLy_ok:TabOK Tryz.prog TLy:=(((TabOK.tnil.add (q2 fun a b h=>p12 a b h)).add (q2 fun a b h=>p16 a b h)).add (q1 fun d h=>p14 d h.1 h.2)).add (q1 fun s h=>p10 s h)
theorem TLy_p (a:List AVal) (H:AHeap):TLy 10 a H=s1 dS (fun s=>s.length<1000000000) (fun s=>pdV (parseS s)) a H:=rfl
theorem TLy_q (a:List AVal) (H:AHeap):TLy 14 a H=s1 dD PrY (fun d=>.tup [.str (printS d).1,.int .i64 (printS d).2]) a H:=rfl
theorem TLy_s (a:List AVal) (H:AHeap):TLy 16 a H=s2 dD dD (fun _ b=>FewD b) (fun a b=>.bool (decide (a=b))) a H:=rfl
theorem TLy_r (a:List AVal) (H:AHeap):TLy 12 a H=s2 dD dD (fun a _=>FewD a) (fun a b=>.bool (decide (a=b))) a H:=rfl
theorem few_K2:FewD dK2:=⟨by decide,by decide,by decide,by decide,by decide,by decide,fun r hr=>by rw[List.mem_singleton.1 hr];exact⟨by decide,by decide⟩⟩
theorem few_K1:FewD dK1:=⟨by decide,by decide,by decide,by decide,by decide,by decide,fun r hr=>by cases hr⟩
theorem few_K0:FewD dK0:=⟨by decide,by decide,by decide,by decide,by decide,by decide,fun r hr=>by cases hr⟩
theorem few_0:FewD dcl0:=⟨by decide,by decide,by decide,by decide,by decide,by decide,fun r hr=>by cases hr⟩
theorem dec_0:dD.dec (AVal.agg [.str [107],.int .i64 0,.int .i64 1,.int .i64 0,.int .i64 0,(.sl .nil []),(.sl .nil []),(.sl .nil []),(.sl .nil []),(.sl .nil [])])=dK0:=rfl
theorem ok_0:dD.ok (AVal.agg [.str [107],.int .i64 0,.int .i64 1,.int .i64 0,.int .i64 0,(.sl .nil []),(.sl .nil []),(.sl .nil []),(.sl .nil []),(.sl .nil [])])=True:=eq_true (by
 show Wk _ (encD dK0)
 exact wk_D (d:=dK0) (Wk.sl (.inr rfl)) (Wk.sl (.inr rfl)) (Wk.sl (.inr rfl)) (Wk.sl (.inr rfl)) (Wk.sl (.inr rfl)))
theorem dec_2:dD.dec (AVal.agg [.str [107],.int .i64 1,.int .i64 2,.int .i64 2,.int .i64 1,(.sl .nil []),(.sl (.exact 2) [.agg [.str [97],.int .i64 0]]),(.sl .nil []),(.sl .nil []),(.sl (.exact 12) [.agg [.str [114],.str [],.int .i64 6,.int .i64 0,.sl .nil [],.sl .nil [],.int .i64 0,.int .i64 0,.int .i64 0,.int .i64 0,.str [],.int .i64 0]])])=dK2:=rfl
theorem ok_2:dD.ok (AVal.agg [.str [107],.int .i64 1,.int .i64 2,.int .i64 2,.int .i64 1,(.sl .nil []),(.sl (.exact 2) [.agg [.str [97],.int .i64 0]]),(.sl .nil []),(.sl .nil []),(.sl (.exact 12) [.agg [.str [114],.str [],.int .i64 6,.int .i64 0,.sl .nil [],.sl .nil [],.int .i64 0,.int .i64 0,.int .i64 0,.int .i64 0,.str [],.int .i64 0]])])=True:=eq_true (by
 show Wk _ (encD dK2)
 exact wk_D (d:=dK2) (Wk.sl (.inr rfl)) (Wk.slx rfl (.cons (Wk.refl _) .nil)) (Wk.sl (.inr rfl)) (Wk.sl (.inr rfl)) (Wk.slx rfl (.cons (Wk.agg (.cons (Wk.refl _) (.cons (Wk.refl _) (.cons (Wk.refl _) (.cons (Wk.refl _) (.cons (Wk.sl (.inr rfl)) (.cons (Wk.sl (.inr rfl)) (.cons (Wk.refl _) (.cons (Wk.refl _) (.cons (Wk.refl _) (.cons (Wk.refl _) (.cons (Wk.refl _) (.cons (Wk.refl _) .nil))))))))))))) .nil)))
theorem dec_1:dD.dec (AVal.agg [.str [107],.int .i64 1,.int .i64 2,.int .i64 2,.int .i64 1,(.sl .nil []),(.sl (.exact 2) [.agg [.str [97],.int .i64 0]]),(.sl .nil []),(.sl .nil []),(.sl .nil [])])=dK1:=rfl
theorem ok_1:dD.ok (AVal.agg [.str [107],.int .i64 1,.int .i64 2,.int .i64 2,.int .i64 1,(.sl .nil []),(.sl (.exact 2) [.agg [.str [97],.int .i64 0]]),(.sl .nil []),(.sl .nil []),(.sl .nil [])])=True:=eq_true (by
 show Wk _ (encD dK1)
 exact wk_D (d:=dK1) (Wk.sl (.inr rfl)) (Wk.slx rfl (.cons (Wk.refl _) .nil)) (Wk.sl (.inr rfl)) (Wk.sl (.inr rfl)) (Wk.sl (.inr rfl)))
theorem dec_z:dD.dec (AVal.agg [.str [],.int .i64 0,.int .i64 0,.int .i64 0,.int .i64 0,(.sl .nil []),(.sl .nil []),(.sl .nil []),(.sl .nil []),(.sl .nil [])])=dcl0:=rfl
theorem ok_z:dD.ok (AVal.agg [.str [],.int .i64 0,.int .i64 0,.int .i64 0,.int .i64 0,(.sl .nil []),(.sl .nil []),(.sl .nil []),(.sl .nil []),(.sl .nil [])])=True:=eq_true (by
 show Wk _ (encD dcl0)
 exact wk_D (d:=dcl0) (Wk.sl (.inr rfl)) (Wk.sl (.inr rfl)) (Wk.sl (.inr rfl)) (Wk.sl (.inr rfl)) (Wk.sl (.inr rfl)))
theorem dec_e:dD.dec (AVal.agg [.str [107],.int .i64 1,.int .i64 2,.int .i64 2,.int .i64 1,eIs [],eSys [⟨[97],0⟩],eRgs [],eCls [],eRus []])=dK1:=dD_dec dK1
theorem ok_e:dD.ok (AVal.agg [.str [107],.int .i64 1,.int .i64 2,.int .i64 2,.int .i64 1,eIs [],eSys [⟨[97],0⟩],eRgs [],eCls [],eRus []])=True:=dD_ok dK1
theorem prY0:PrY dK0=True:=eq_true ⟨few_K0,by decide⟩
theorem prY2:PrY dK2=True:=eq_true ⟨few_K2,by decide⟩
theorem sc2:scmp .eql txK2 txK2=true:=by rw[scmp_eqZ];exact decide_eq_true rfl
theorem p9:Pur Tryz.prog 9 [] (.bool true):=by
 refine .mk trivial trivial (a9 (ev_awp TLy_ok (ev_evK ?_)))
 simp only[eE,eC,eN,reduceCtorEq,Nat.reduceEqDiff,↓reduceIte,Nat.reduceAdd,Nat.reduceLeDiff,Nat.reduceMul,Nat.reduceLT,TLy_p,TLy_q,TLy_s,TLy_r,s1,s2,dS_ok,dS_dec,Option.getD_some,List.getElem?_cons_zero,List.getElem?_cons_succ,c9,v1,v2,v3,v4,pdV,dec_0,dec_1,dec_2,dec_z,dec_e,ok_0,ok_1,ok_2,ok_z,ok_e,prY0,prY2,pw1,pw2,eq_true few_K1,eq_true few_0,sc2]
 intro h;cases h
end Go.AM
end
section
set_option maxRecDepth 20000
set_option linter.all false
namespace Go.AM
open Go.Proofs Go.Lib
theorem parse_few {src:Bs} (h:src.length≤65536):FewD (parseS src).d:=by
 rcases lexV_allZ src with⟨h6,-,hp⟩|⟨h6,ts,hv,hlen,hp,-⟩|⟨h6,a,-,hp⟩
 ·rw[hp];exact few_0
 ·rw[hp]
  unfold readS
  cases hd:declR ts with
  |ok x r=>exact parsed_few hv (by omega) hd
  |bad r=>exact few_0
 ·rw[hp];exact few_0
def s0t:List AVal→AHeap→Prop×AVal:=fun a _=>match a with
 |[]=>(True,.bool true)
 |_=>(False,.tup [])
theorem q0t {fid:FuncId} (h:Pur Tryz.prog fid [] (.bool true)):∀args H n,(s0t args H).1→Quiet Tryz.prog fid args H n (s0t args H).2:=by
 intro args H n hh
 unfold s0t at hh⊢
 split at hh
 ·exact h.quiet H n
 ·exact hh.elim
def TLs:Tab:=tadd 9 s0t (tadd 11 (s1 dS (fun s=>s.length<1000000000) fun s=>pdV (parseS s)) TLy)
theorem TLs_ok:TabOK Tryz.prog TLs:=(TLy_ok.add (q1 fun s h=>p11 s h)).add (q0t p9)
section
variable (a:List AVal) (H:AHeap)
theorem TLs_p:TLs 10 a H=s1 dS (fun s=>s.length<1000000000) (fun s=>pdV (parseS s)) a H:=rfl
theorem TLs_r:TLs 12 a H=s2 dD dD (fun a _=>FewD a) (fun a b=>.bool (decide (a=b))) a H:=rfl
theorem TLs_n:TLs 9 a H=s0t a H:=rfl
theorem TLs_zp:TLs 11 a H=s1 dS (fun s=>s.length<1000000000) (fun s=>pdV (parseS s)) a H:=rfl
end
def TLz:Tab:=tadd 9 s0t (tadd 15 (s1 dD PrOK fun d=>.tup [.str (printF d).1,.int .i64 (printF d).2]) (tadd 13 (s1 dD (fun _=>True) fun d=>.bool (fewT d)) TLy))
section
variable (a:List AVal) (H:AHeap)
theorem TLz_p:TLz 10 a H=s1 dS (fun s=>s.length<1000000000) (fun s=>pdV (parseS s)) a H:=rfl
theorem TLz_q:TLz 14 a H=s1 dD PrY (fun d=>.tup [.str (printS d).1,.int .i64 (printS d).2]) a H:=rfl
theorem TLz_s:TLz 16 a H=s2 dD dD (fun _ b=>FewD b) (fun a b=>.bool (decide (a=b))) a H:=rfl
theorem TLz_r:TLz 12 a H=s2 dD dD (fun a _=>FewD a) (fun a b=>.bool (decide (a=b))) a H:=rfl
theorem TLz_n:TLz 9 a H=s0t a H:=rfl
theorem TLz_zq:TLz 15 a H=s1 dD PrOK (fun d=>.tup [.str (printF d).1,.int .i64 (printF d).2]) a H:=rfl
theorem TLz_f:TLz 13 a H=s1 dD (fun _=>True) (fun d=>.bool (fewT d)) a H:=rfl
end
theorem p3 (src:Bs):Pur Tryz.prog 3 [.str src] (.bool true):=by
 refine .mk ⟨trivial,trivial⟩ trivial (a3 (ev_awp TLs_ok (ev_evK ?_)))
 by_cases h:2000<src.length
 ·have h1:((2000:Int)<(src.length:Int))=True:=eq_true (by omega)
  simp only[eE,eC,eN,reduceCtorEq,↓reduceIte,Bool.not_true,s0t,TLs_n,c3,h1]
 ·have h1:((2000:Int)<(src.length:Int))=False:=eq_false (by omega)
  have h2:(src.length<1000000000)=True:=eq_true (by omega)
  have hf:=parse_few (src:=src) (by omega)
  generalize hP:parseS src=P at hf
  have hd1:decide (P.d=P.d)=true:=decide_eq_true rfl
  simp only[eE,eC,eN,reduceCtorEq,Nat.reduceEqDiff,↓reduceIte,Nat.reduceAdd,Nat.reduceLT,Bool.not_true,s0t,s1,s2,dS_ok,dS_dec,dD_ok,dD_dec,Option.getD_some,List.getElem?_cons_zero,List.getElem?_cons_succ,TLs_n,TLs_p,TLs_r,TLs_zp,c3,h1,h2,hP,pdV,eq_true hf]
end Go.AM
end
section
set_option maxRecDepth 20000
set_option linter.all false
namespace Go.AM
open Go.Proofs Go.Lib
def TLb:Tab:=tadd 9 s0t (tadd 13 (s1 dD (fun _=>True) fun d=>.bool (fewT d)) (tadd 17 (s1 dD fewB fun d=>encD (bareD d)) TLy))
section
variable (a:List AVal) (H:AHeap)
theorem TLb_p:TLb 10 a H=s1 dS (fun s=>s.length<1000000000) (fun s=>pdV (parseS s)) a H:=rfl
theorem TLb_q:TLb 14 a H=s1 dD PrY (fun d=>.tup [.str (printS d).1,.int .i64 (printS d).2]) a H:=rfl
theorem TLb_s:TLb 16 a H=s2 dD dD (fun _ b=>FewD b) (fun a b=>.bool (decide (a=b))) a H:=rfl
theorem TLb_r:TLb 12 a H=s2 dD dD (fun a _=>FewD a) (fun a b=>.bool (decide (a=b))) a H:=rfl
theorem TLb_n:TLb 9 a H=s0t a H:=rfl
theorem TLb_f:TLb 13 a H=s1 dD (fun _=>True) (fun d=>.bool (fewT d)) a H:=rfl
theorem TLb_b:TLb 17 a H=s1 dD fewB (fun d=>encD (bareD d)) a H:=rfl
end
end Go.AM
end
section
set_option maxRecDepth 20000
set_option linter.all false
namespace Go.AM
open Go.Proofs Go.Lib
def tokL (src:Bs):List Tkn:=if 65536<src.length then[]else match lx src 0 with
 | .ok _ ts=>ts
 | .err _=>[]
def tokE (src:Bs):Bool:=decide (src.length≤2000)&&decide ((parseS src).e=0)&&decide ((tokL src).length≤1000)
end Go.AM
end
section
set_option maxRecDepth 20000
set_option linter.all false
namespace Go.AM
open Go.Proofs Go.Lib
def TLe:Tab:=tadd 9 s0t (tadd 20 (s1 dS (fun _=>True) fun s=>.tup [eTk (tokL s),.bool (tokE s)]) (tadd 19 s19 (tadd 10 (s1 dS (fun _=>True) fun s=>pdV (parseS s)) (tadd 12 (s2 dD dD (fun a _=>FewD a) fun a b=>.bool (decide (a=b))) (tadd 21 s21 tnil)))))
section
variable (a:List AVal) (H:AHeap)
theorem TLe_n:TLe 9 a H=s0t a H:=rfl
theorem TLe_t:TLe 20 a H=s1 dS (fun _=>True) (fun s=>.tup [eTk (tokL s),.bool (tokE s)]) a H:=rfl
theorem TLe_x:TLe 19 a H=s19 a H:=rfl
theorem TLe_p:TLe 10 a H=s1 dS (fun _=>True) (fun s=>pdV (parseS s)) a H:=rfl
theorem TLe_r:TLe 12 a H=s2 dD dD (fun a _=>FewD a) (fun a b=>.bool (decide (a=b))) a H:=rfl
theorem TLe_v:TLe 21 a H=s21 a H:=rfl
end
end Go.AM
end
section
set_option maxRecDepth 20000
set_option linter.all false
namespace Go.AM
open Go.Proofs Go.Lib
def TLg:Tab:=tadd 22 s22 TLe
section
variable (a:List AVal) (H:AHeap)
theorem TLg_h:TLg 22 a H=s22 a H:=rfl
theorem TLg_n:TLg 9 a H=s0t a H:=rfl
theorem TLg_t:TLg 20 a H=s1 dS (fun _=>True) (fun s=>.tup [eTk (tokL s),.bool (tokE s)]) a H:=rfl
theorem TLg_x:TLg 19 a H=s19 a H:=rfl
theorem TLg_p:TLg 10 a H=s1 dS (fun _=>True) (fun s=>pdV (parseS s)) a H:=rfl
theorem TLg_v:TLg 21 a H=s21 a H:=rfl
end
end Go.AM
end
section
set_option maxRecDepth 20000
set_option linter.all false
namespace Go.AM
open Go.Proofs Go.Lib
end Go.AM
end
section
set_option maxRecDepth 20000
set_option linter.all false
namespace Go.AM
open Go.Proofs Go.Lib
def TLh:Tab:=tadd 18 (s1 dS (fun _=>True) lexV) TLe
section
variable (a:List AVal) (H:AHeap)
theorem TLh_l:TLh 18 a H=s1 dS (fun _=>True) lexV a H:=rfl
theorem TLh_n:TLh 9 a H=s0t a H:=rfl
theorem TLh_x:TLh 19 a H=s19 a H:=rfl
theorem TLh_p:TLh 10 a H=s1 dS (fun _=>True) (fun s=>pdV (parseS s)) a H:=rfl
theorem TLh_r:TLh 12 a H=s2 dD dD (fun a _=>FewD a) (fun a b=>.bool (decide (a=b))) a H:=rfl
end
structure VSp where
 i:Nat
 H:AHeap
 n:Nat
end Go.AM
end
section
set_option maxRecDepth 20000
set_option linter.all false
namespace Go.AM
open Go.Proofs Go.Lib Go.ChangeShapes Go.WideShapes Go.ChangeAt Go.WideMaps Go.WideElems Go.RowKit
theorem own:ownKnob Tryz.prog.godebug=none:=by kernel_rfl
abbrev laid3:List (String×DataW Unit):=Go.Proofs.YtbliialnfeoodaaGreatDoor.Rows.syntaxSpecRow.laid
theorem gPow:Tryz.prog.globalNamed ((laid3[2]?.map (·.1)).getD "")=some 3:=by kernel_rfl
theorem gRng:Tryz.prog.globalNamed ((laid3[3]?.map (·.1)).getD "")=some 1:=by kernel_rfl
theorem gSyn:Tryz.prog.globalNamed ((laid3[4]?.map (·.1)).getD "")=some 0:=by kernel_rfl
theorem door_met (os:Os) (args:Array Value):laidMetH Tryz.prog laid3 ((World.doorLaid Tryz.prog 400 os).forCall (fun _ _=>0) ⟨#[],args,[]⟩).memory:=
 laidMetH_of_parts3 (fuel:=8) (laidMet_of_run' 8 (by kernel_rfl) (by kernel_rfl)) (by kernel_rfl) (by kernel_rfl)
theorem starE: "*" ++ "errors.errorString" = "*errors.errorString" :=by decide
theorem row159 (u:TypeId) (h:Tryz.prog.typeName? 3 u=some "*errors.errorString"):u=217:=
 typeName_ptr_named (nm:= "errors.errorString") (by rw[starE];kernel_rfl) (by kernel_rfl) (by decide) u (by rw[starE];exact h)
theorem spot_of {W:World} {a:Addr} (h:Value.okWide Tryz.prog W .any 0 217 (.pointer (some a))):a.spot=none:=by
 unfold Value.okWide at h
 simp only[Tryz.underlying217]at h
 unfold Cell.okWide at h
 simp only[Tryz.underlying217,Cell.ok]at h
 exact h.2.1
def pow10:List Int:=[1,10,100,1000,10000,100000,1000000,10000000,100000000,1000000000,10000000000,100000000000,1000000000000,10000000000000,100000000000000,1000000000000000,10000000000000000,100000000000000000,1000000000000000000,10000000000000000000]
theorem pstab_err {W:World} {gi fuel:Nat} {cs:Array Value} {text:List UInt8} {p:List MemPlace} {nm:String} (hnm:nm= "*errors.errorString") (hcell:∀off,W.cell? ⟨gi,off,none⟩=cs[off]?)
  (h:DataW.trod (fun _=>()) Tryz.prog W 0 (fun _=>true) false fuel 139 cs.toList=some (.iface nm (.ptr (.agg [.lit (.string text)])),p))
  (hok:∀u v,cs.toList=[.iface u v]→Value.okWide Tryz.prog W .any 0 u v):PStab (gW W) ((gW W).σ gi) 0 [.ifc 217 (.ep [.str text])]∧cs.size=1:=by
 subst hnm
 obtain⟨a,s,e1,e2,e3,_,_⟩:=errorString_of_trod Tryz.underlying139 row159 Tryz.underlying217 Tryz.underlying219 rfl rfl Tryz.underlying9 (by kernel_rfl) (by kernel_rfl) h hok
 have hsp:=spot_of (hok _ _ e1)
 obtain⟨b,o,sp⟩:=a
 have hsp':sp=none:=hsp
 subst hsp'
 have hc0:cs[0]?=some (.iface 217 (.pointer (some ⟨b,o,none⟩))):=by
  rw[←Array.getElem?_toList,e1];rfl
 refine⟨⟨⟨_,(hcell 0).trans hc0,⟨_,rfl,b,o,rfl,⟨_,e2,?_,rfl⟩,trivial⟩,rfl⟩,trivial⟩,by rw[←Array.length_toList,e1];rfl⟩
 show Value.string s=Value.string ⟨text.toArray⟩
 rw[←e3]
theorem var_cells {W:World} {n:String} {g:Nat} {cs:Array Value} (hg:Tryz.prog.globalNamed n=some g) (h:W.var? Tryz.prog n=some cs):∃e fz,W.heap[g]?=some (.cells cs e fz):=by
 simp only[World.var?,hg,Option.bind_some]at h
 split at h
 ·rename_i c e fz hh
  cases h;exact⟨e,fz,hh⟩
 ·cases h
theorem glob_all {W:World} (h:laidMetH Tryz.prog laid3 W):GlobOK (gW W)∧GlobZ W:=by
 rw[MakeChecks.laidMetH_plain _ _ _ (by kernel_rfl)]at h
 obtain⟨ps,⟨g0,t0,cs0,f0,p0,q0,hg0,ht0,hv0,hd0,⟨g1,t1,cs1,f1,p1,q1,hg1,ht1,hv1,hd1,⟨g2,t2,cs2,f2,p2,q2,hg2,ht2,hv2,hd2,⟨g3,t3,cs3,f3,p3,q3,hg3,ht3,hv3,hd3,⟨g4,t4,cs4,f4,p4,q4,hg4,ht4,hv4,hd4,z4,w4⟩,w3⟩,w2⟩,w1⟩,w0⟩,hnd,hrows⟩:=h
 obtain rfl:=Option.some.inj (gPow.symm.trans hg2)
 obtain rfl:=Option.some.inj (gRng.symm.trans hg3)
 obtain rfl:=Option.some.inj (gSyn.symm.trans hg4)
 obtain rfl:=Option.some.inj ((show(Tryz.prog.globals[3]?).map (·.type)=some 208 by kernel_rfl).symm.trans ht2)
 obtain rfl:=Option.some.inj ((show(Tryz.prog.globals[1]?).map (·.type)=some 139 by kernel_rfl).symm.trans ht3)
 obtain rfl:=Option.some.inj ((show(Tryz.prog.globals[0]?).map (·.type)=some 139 by kernel_rfl).symm.trans ht4)
 have c2:=fun off=>World.var?_cell hg2 hv2 off
 have c3:=fun off=>World.var?_cell hg3 hv3 off
 have c4:=fun off=>World.var?_cell hg4 hv4 off
 have ok3:∀u v,cs3.toList=[.iface u v]→Value.okWide Tryz.prog W .any 0 u v:=fun u v e=>by
  have hs:cs3.size=1:=by rw[←Array.length_toList,e];rfl
  refine(hrows 1 0 (by rw[w0,w1,w2,w3,hs];simp [MemPlace.row])).2 u v ?_
  rw[c3 0,←Array.getElem?_toList,e];rfl
 have ok4:∀u v,cs4.toList=[.iface u v]→Value.okWide Tryz.prog W .any 0 u v:=fun u v e=>by
  have hs:cs4.size=1:=by rw[←Array.length_toList,e];rfl
  refine(hrows 0 0 (by rw[w0,w1,w2,w3,w4,hs];simp [MemPlace.row])).2 u v ?_
  rw[c4 0,←Array.getElem?_toList,e];rfl
 obtain⟨s3,z3⟩:=pstab_err rfl c3 hd3 ok3
 obtain⟨s4,z4'⟩:=pstab_err rfl c4 hd4 ok4
 have s2:PStab (gW W) ((gW W).σ 3) 0 (pow10.map (.int .u64)):=pstab_array (ns:=pow10) Tryz.underlying208 Tryz.underlying190 (by kernel_rfl) c2 hd2
 have z2:cs2.size=20:=by
  have:=Go.Lib.cells_of_tab (zs:=pow10) (k:=.u64) Tryz.underlying208 Tryz.underlying190 (by kernel_rfl) (by kernel_rfl) hd2
  rw[←Array.length_toList,this];rfl
 constructor
 ·intro i cs hi
  match i,hi with
  |0,hi=>obtain rfl:=Option.some.inj hi;exact s4
  |1,hi=>obtain rfl:=Option.some.inj hi;exact s3
  |3,hi=>obtain rfl:=Option.some.inj hi;exact s2
 ·intro i cs hi
  match i,hi with
  |0,hi=>obtain rfl:=Option.some.inj hi;obtain⟨e,fz,k⟩:=var_cells hg4 hv4;exact⟨_,_,_,k,z4'⟩
  |1,hi=>obtain rfl:=Option.some.inj hi;obtain⟨e,fz,k⟩:=var_cells hg3 hv3;exact⟨_,_,_,k,z3⟩
  |3,hi=>obtain rfl:=Option.some.inj hi;obtain⟨e,fz,k⟩:=var_cells hg2 hv2;exact⟨_,_,_,k,z2⟩
theorem argS {av:List AVal} (h:Sh.rdA [.str] av):∃s:Bs,av=[.str s]:=by
 simp only[Sh.rdA]at h
 obtain⟨x,_,rfl,⟨s,rfl,_⟩,rfl⟩:=h
 exact⟨s,rfl⟩
end Go.AM
end
