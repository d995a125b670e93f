/-
  The laws of types: declarations with a rule more, a rule less; an example · The laws of types: the functions that they use, as a table; the examples hold · The reference of syntax: equal lists, rules, declarations (written by mku1 · The reference of grids: In, Make · The reference of grids: Check, Regions · The reference of types: regions · The reference of types: clues and rules.
  Conditions: none beyond those of its parts.
-/
import Derived.Test.YtpdnjncfblclfaaGreatB10
import Derived.Test.YtpdnjncfblclfaaGreatB5

section
set_option maxRecDepth 20000
set_option linter.all false
namespace Go.AM
open Go.Proofs Go.Lib
def smp : Dcl := ⟨[108, 97, 116, 105, 110], 1, 1, 2, 2, [], [⟨[97], 1⟩, ⟨[98], 2⟩], [], [⟨[103], [99, 101, 108, 108, 115], 0, 1, 0, 0⟩],
  [⟨[114], [114, 111, 119, 115], 1, 1, [], [], 0, 0, 0, 0, [], -1⟩, ⟨[99], [99, 111, 108, 117, 109, 110, 115], 1, 2, [], [], 0, 0, 0, 0, [], -1⟩, ⟨[120], [], 11, 0, [], [], 0, 0, 0, 0, [103], 0⟩]⟩
theorem wk_D {nm : Bs} {ver sh w h : Int} {ho : List Int} {sy : List DSym} {rg : List DReg} {cl : List DClu} {ru : List DRul} {a b c e f : AVal} (ha : Wk a (eIs ho)) (hb : Wk b (eSys sy)) (hc : Wk c (eRgs rg)) (he : Wk e (eCls cl)) (hf : Wk f (eRus ru)) :
    Wk (.agg [.str nm, .int .i64 ver, .int .i64 sh, .int .i64 w, .int .i64 h, a, b, c, e, f]) (encD ⟨nm, ver, sh, w, h, ho, sy, rg, cl, ru⟩) :=
  Wk.agg (.cons (Wk.refl _) (.cons (Wk.refl _) (.cons (Wk.refl _) (.cons (Wk.refl _) (.cons (Wk.refl _) (.cons ha (.cons hb (.cons hc (.cons he (.cons hf .nil))))))))))
theorem wk_R {nm on : Bs} {k f : Int} {set oth op n : Int} {by' : Bs} {cl : Int} {ns os : List Bs} {a b : AVal} (ha : Wk a (eSs ns)) (hb : Wk b (eSs os)) :
    Wk (.agg [.str nm, .str on, .int .i64 k, .int .i64 f, a, b, .int .i64 set, .int .i64 oth, .int .i64 op, .int .i64 n, .str by', .int .i64 cl]) (encRu ⟨nm, on, k, f, ns, os, set, oth, op, n, by', cl⟩) :=
  Wk.agg (.cons (Wk.refl _) (.cons (Wk.refl _) (.cons (Wk.refl _) (.cons (Wk.refl _) (.cons ha (.cons hb (.cons (Wk.refl _) (.cons (Wk.refl _) (.cons (Wk.refl _) (.cons (Wk.refl _) (.cons (Wk.refl _) (.cons (Wk.refl _) .nil))))))))))))
theorem wk_s0 : Wk (.sl .nil []) (eSs []) := Wk.sl (.inr rfl)
theorem p8 : Pur Tryz.prog 8 [] (encD smp) := by
  refine .mk trivial (encD_under 0 _) (a8 (ev_awp TabOK.tnil (ev_evK ?_)))
  simp only [eE, eN, reduceCtorEq, Nat.reduceEqDiff, ↓reduceIte, Nat.reduceAdd, Nat.reduceLeDiff, Nat.reduceMul, Nat.reduceLT, rcell, c8]
  exact wk_D (Wk.sl (.inr rfl)) (Wk.sl (.inl rfl)) (Wk.sl (.inr rfl)) (Wk.sl (.inl rfl)) (Wk.slx (.inl rfl) (.cons (wk_R wk_s0 wk_s0) (.cons (wk_R wk_s0 wk_s0) (.cons (wk_R wk_s0 wk_s0) .nil))))
theorem p9 (d : Dcl) (r : DRul) (hr : few d.ruls) : Pur Tryz.prog 9 [encD d, encRu r] (encD (withR d r)) := by
  refine .mk ⟨encD_under 0 d, encRu_under 0 r, trivial⟩ (encD_under 0 _) (a9 (ev_awp TabOK.tnil (ev_evK ?_)))
  have hrl : d.ruls.length < 1000000000 := hr
  simp only [eE, eN, reduceCtorEq, Nat.reduceEqDiff, ↓reduceIte, Nat.reduceAdd, Nat.reduceLeDiff, Nat.reduceMul, Nat.reduceLT, rcell, List.length_map, c9]
  refine ⟨⟨small_of (by omega) (by decide), by omega⟩, ⟨small_of (by omega) (by decide), by omega⟩, wk_D (Wk.refl _) (Wk.refl _) (Wk.refl _) (Wk.refl _) ?_⟩
  rw [show eRus (d.ruls ++ [r]) = .sl (.none 12) (d.ruls.map encRu ++ [encRu r]) by simp [eRus]]
  exact Wk.sl (.inl rfl)
theorem p11 (d : Dcl) (k : Nat) (hr : few d.ruls) (hk : k < d.ruls.length) : Pur Tryz.prog 11 [encD d, .int .i64 k] (encD { d with ruls := cutR d.ruls k }) := by
  refine .mk ⟨encD_under 0 d, trivial, trivial⟩ (encD_under 0 _) (a11 (ev_awp TabOK.tnil (ev_evK ?_)))
  have hrl : d.ruls.length < 1000000000 := hr
  have e := w64_succ (k := k) (by omega)
  simp only [eE, eN, reduceCtorEq, Nat.reduceEqDiff, ↓reduceIte, Nat.reduceAdd, Nat.reduceLeDiff, Nat.reduceMul, Nat.reduceLT, Int.reduceEq, rcell, Int.toNat_zero, Int.le_refl, Int.toNat_natCast, Int.natCast_nonneg, List.length_map, c11, e]
  have l1 : (List.take k (d.ruls.map encRu)).length = k := by rw [List.length_take, List.length_map]; omega
  have l2 : (List.drop (k + 1) (List.take d.ruls.length (d.ruls.map encRu))).length = d.ruls.length - (k + 1) := by rw [List.length_drop, List.length_take, List.length_map]; omega
  refine ⟨by omega, ⟨small_of (by omega) (by decide), by omega⟩, by omega, ⟨small_of (by omega) (by decide), by omega⟩, wk_D (Wk.refl _) (Wk.refl _) (Wk.refl _) (Wk.refl _) ?_⟩
  rw [show eRus (cutR d.ruls k) = .sl (.none 12) (List.take k (d.ruls.map encRu) ++ List.drop (k + 1) (List.take d.ruls.length (d.ruls.map encRu))) by
    rw [show List.take d.ruls.length (d.ruls.map encRu) = d.ruls.map encRu from List.take_of_length_le (by simp)]
    simp [eRus, cutR, List.map_take, List.map_drop]]
  exact Wk.sl (.inl rfl)
end Go.AM
end
section
set_option maxRecDepth 20000
set_option linter.all false
namespace Go.AM
open Go.Proofs Go.Lib
abbrev cutD (d : Dcl) (k : Int) : Dcl := { d with ruls := cutR d.ruls k.toNat }
def encDo (d : Dcl) : AVal := encD d
def sSmp : List AVal → AHeap → Prop × AVal := fun a _ => match a with
  | [] => (True, encD smp)
  | _ => (False, .tup [])
theorem qSmp : ∀ args H n, (sSmp args H).1 → Quiet Tryz.prog 8 args H n (sSmp args H).2 := by
  intro args H n hh
  unfold sSmp at hh ⊢
  split at hh
  · exact p8.quiet H n
  · exact hh.elim
def TLa : Tab := tadd 8 sSmp (tadd 9 (s2 dD dRu (fun d _ => few d.ruls) fun d r => encDo (withR d r)) (tadd 11 (s2 dD dI (fun d k => few d.ruls ∧ 0 ≤ k ∧ k < (d.ruls.length : Int)) fun d k => encDo (cutD d k))
  (tadd 10 (s3 dD dI dI (fun d _ _ => FewD d) fun d s n => encSum (sumS d.syms (bitZ s) n)) (tadd 6 (s1 dD FewD fun d => .int .i64 (chkD d)) (tadd 13 (s1 dD (fun d => few d.ruls) fun d => eIs (unread d.ruls))
  (tadd 14 (s1 dRu any1 fun r => .bool (readR r)) (tadd 12 (s2 dIs dIs (fun a _ => few a) fun a b => .bool (decide (a = b))) tnil)))))))
theorem TLa_ok : TabOK Tryz.prog TLa := (((((((TabOK.tnil.add (q2 fun a b h => p12 a b h)).add (q1 fun r _ => p14 r)).add (q1 fun d h => p13 d h)).add (q1 fun d h => p6 d h)).add (q3 fun d s n h => p10 d s n h)).add
  (q2 fun d k h => by
    obtain ⟨h1, h2, h3⟩ := h
    have := p11 d k.toNat h1 (by omega)
    rw [show ((k.toNat : Nat) : Int) = k by omega] at this
    exact this)).add (q2 fun d r h => p9 d r h)).add qSmp
theorem TLa_smp (a : List AVal) (H : AHeap) : TLa 8 a H = sSmp a H := rfl
theorem TLa_with (a : List AVal) (H : AHeap) : TLa 9 a H = s2 dD dRu (fun d _ => few d.ruls) (fun d r => encDo (withR d r)) a H := rfl
theorem TLa_cut (a : List AVal) (H : AHeap) : TLa 11 a H = s2 dD dI (fun d k => few d.ruls ∧ 0 ≤ k ∧ k < (d.ruls.length : Int)) (fun d k => encDo (cutD d k)) a H := rfl
theorem TLa_sum (a : List AVal) (H : AHeap) : TLa 10 a H = s3 dD dI dI (fun d _ _ => FewD d) (fun d s n => encSum (sumS d.syms (bitZ s) n)) a H := rfl
theorem TLa_chk (a : List AVal) (H : AHeap) : TLa 6 a H = s1 dD FewD (fun d => .int .i64 (chkD d)) a H := rfl
theorem TLa_un (a : List AVal) (H : AHeap) : TLa 13 a H = s1 dD (fun d => few d.ruls) (fun d => eIs (unread d.ruls)) a H := rfl
theorem TLa_rd (a : List AVal) (H : AHeap) : TLa 14 a H = s1 dRu any1 (fun r => .bool (readR r)) a H := rfl
theorem TLa_same (a : List AVal) (H : AHeap) : TLa 12 a H = s2 dIs dIs (fun a _ => few a) (fun a b => .bool (decide (a = b))) a H := rfl
theorem fewSmp : FewD smp := ⟨by show 0 < _; decide, by show 2 < _; decide, by show 0 < _; decide, fun r hr => by simp [smp] at hr, by show 1 < _; decide, by show 3 < _; decide, fun r hr => by
  have : r.ns = [] ∧ r.os = [] := by
    simp only [smp, List.mem_cons, List.not_mem_nil, or_false] at hr
    rcases hr with rfl | rfl | rfl <;> exact ⟨rfl, rfl⟩
  rw [show fewRu r = (few r.ns ∧ few r.os) from rfl, this.1, this.2]
  exact ⟨by show 0 < _; decide, by show 0 < _; decide⟩⟩
theorem few_with {d : Dcl} {r : DRul} (hd : FewD d) (hr : fewRu r) (hl : d.ruls.length < 999999999) : FewD (withR d r) :=
  ⟨hd.ho, hd.sy, hd.rg, hd.rgs, hd.cl, by show (d.ruls ++ [r]).length < _; simp; omega, fun x hx => by
    rcases List.mem_append.1 hx with hx | hx
    · exact hd.rus x hx
    · rw [List.mem_singleton.1 hx]; exact hr⟩
theorem few_cut {d : Dcl} (hd : FewD d) (k : Nat) : FewD { d with ruls := cutR d.ruls k } :=
  ⟨hd.ho, hd.sy, hd.rg, hd.rgs, hd.cl, by
    have := (cut_subR d.ruls k).length_le
    have h2 : d.ruls.length < 1000000000 := hd.ru
    show (cutR d.ruls k).length < _
    omega, fun x hx => hd.rus x ((cut_subR d.ruls k).mem hx)⟩
theorem few0 : FewD dcl0 := ⟨by show 0 < _; decide, by show 0 < _; decide, by show 0 < _; decide, fun r hr => (by cases hr), by show 0 < _; decide, by show 0 < _; decide, fun r hr => (by cases hr)⟩
theorem rr_ok {nm on : Bs} {k f set oth op n : Int} {b : Bs} {c : Int} : dRu.ok (.agg [.str nm, .str on, .int .i64 k, .int .i64 f, .sl .nil [], .sl .nil [], .int .i64 set, .int .i64 oth, .int .i64 op, .int .i64 n, .str b, .int .i64 c]) = True := eq_true (wk_R wk_s0 wk_s0)
theorem rr_dec {nm on : Bs} {k f set oth op n : Int} {b : Bs} {c : Int} : dRu.dec (.agg [.str nm, .str on, .int .i64 k, .int .i64 f, .sl .nil [], .sl .nil [], .int .i64 set, .int .i64 oth, .int .i64 op, .int .i64 n, .str b, .int .i64 c]) = ⟨nm, on, k, f, [], [], set, oth, op, n, b, c⟩ := rfl
theorem d0_ok : dD.ok (.agg [.str [], .int .i64 0, .int .i64 0, .int .i64 0, .int .i64 0, .sl .nil [], .sl .nil [], .sl .nil [], .sl .nil [], .sl .nil []]) = True :=
  eq_true (wk_D (Wk.sl (.inr rfl)) (Wk.sl (.inr rfl)) (Wk.sl (.inr rfl)) (Wk.sl (.inr rfl)) (Wk.sl (.inr rfl)))
theorem d0_dec : dD.dec (.agg [.str [], .int .i64 0, .int .i64 0, .int .i64 0, .int .i64 0, .sl .nil [], .sl .nil [], .sl .nil [], .sl .nil [], .sl .nil []]) = dcl0 := rfl
theorem i1_ok {x : Int} : dIs.ok (.sl (.exact 1) [.int .i64 x]) = True := eq_true ⟨.inl rfl, rfl⟩
theorem i1_dec {x : Int} : dIs.dec (.sl (.exact 1) [.int .i64 x]) = [x] := rfl
def smpF : Dcl := withR smp ⟨[102], [114, 111, 119, 115], 12, 1, [], [], 0, 0, 0, 0, [], -1⟩
def smpR : DRul := ⟨[120], [], 11, 0, [], [], 0, 0, 0, 0, [103], 0⟩
theorem rd1 : readR smpR = true := rfl
theorem rd2 : readR ⟨[], [], 13, 0, [], [], 0, 0, 0, 0, [], 0⟩ = false := rfl
theorem rd3 : readR ⟨[], [], 0, 0, [], [], 0, 0, 0, 0, [], 0⟩ = false := rfl
def smpC : Dcl := cutD smp 2
theorem fewF : FewD smpF := few_with fewSmp ⟨by show 0 < _; decide, by show 0 < _; decide⟩ (by show 3 < _; decide)
theorem fewC : FewD smpC := few_cut fewSmp _
theorem eF : encDo (withR smp ⟨[102], [114, 111, 119, 115], 12, 1, [], [], 0, 0, 0, 0, [], -1⟩) = encD smpF := rfl
theorem eCt : encDo (cutD smp 2) = encD smpC := rfl
theorem k1 : chkD smp = 0 := by decide +kernel
theorem k2 : chkD smpC = 170 := by decide +kernel
theorem k3 : chkD smpF = 171 := by decide +kernel
theorem k4 : unread smpF.ruls = [3] := by decide +kernel
theorem k5 : chkD dcl0 = 2 := by decide +kernel
theorem b3 : (bitZ 3 0 = true ∧ bitZ 3 1 = true) ∧ (bitZ 4 0 = false ∧ bitZ 4 1 = false) ∧ bitZ 2 0 = false ∧ bitZ 2 1 = true := by decide +kernel
theorem k6 : sumS smp.syms (bitZ 3) 4 = (4, 8, true) := by decide +kernel
theorem k7 : sumS smp.syms (bitZ 4) 4 = (0, 0, false) := by decide +kernel
theorem k8 : sumS smp.syms (bitZ 2) 256 = (512, 512, true) := by decide +kernel
theorem k9 : sumS smp.syms (bitZ 2) 257 = (0, 0, false) := by decide +kernel
theorem k10 : (2 : Int) < (smp.ruls.length : Int) := by decide
theorem p4 : Pur Tryz.prog 4 [] (.bool true) := by
  refine .mk trivial trivial (a4 (ev_awp TLa_ok (ev_evK ?_)))
  have f3 : few smpF.ruls := fewF.ru
  have f4 : few smp.ruls := fewSmp.ru
  have f5 : few ([3] : List Int) := by show 1 < _; decide
  have r2 : smp.ruls[2]? = some smpR := rfl
  simp only [eE, eC, eN, reduceCtorEq, Nat.reduceEqDiff, ↓reduceIte, Nat.reduceAdd, Nat.reduceLeDiff, Nat.reduceMul, Nat.reduceLT, Int.reduceLE, Int.reduceToNat, Bool.not_false, Option.getD_some, List.length_map, List.getElem?_map, List.getElem?_cons_zero, List.getElem?_cons_succ, c4, TLa_smp, TLa_with, TLa_cut, TLa_sum, TLa_chk, TLa_un, TLa_rd, TLa_same, sSmp, s1, s2, s3, dD_ok, dD_dec, dI_ok, dI_dec, dIs_ok, dIs_dec, rr_ok, rr_dec, d0_ok, d0_dec, i1_ok, i1_dec, eF, eCt, k1, k2, k3, k4, k5, k6, k7, k8, k9, k10, eq_true fewSmp, eq_true fewF, eq_true fewC, eq_true few0, eq_true f3, eq_true f4, eq_true f5, r2, dRu_ok, dRu_dec, rd1, rd2, rd3]
def sSan : List AVal → AHeap → Prop × AVal := fun a _ => match a with
  | [] => (True, .bool true)
  | _ => (False, .tup [])
theorem qSan : ∀ args H n, (sSan args H).1 → Quiet Tryz.prog 4 args H n (sSan args H).2 := by
  intro args H n hh
  unfold sSan at hh ⊢
  split at hh
  · exact p4.quiet H n
  · exact hh.elim
def TLb : Tab := tadd 4 sSan (tadd 5 (s1 dD BigD fun d => .bool (few17 d)) TLa)
theorem TLb_ok : TabOK Tryz.prog TLb := (TLa_ok.add (q1 fun d h => p5 d h)).add qSan
end Go.AM
end
section
set_option maxRecDepth 20000
set_option linter.all false
namespace Go.AM
open Go.Proofs Go.Lib
theorem p73 (a b : List Int) (ha : few a) : Pur Tryz.prog 73 [eIs a, eIs b] (.bool (decide (a = b))) := by
  refine .mk ⟨eIs_under 0 _, eIs_under 0 _, trivial⟩ trivial (a73 (ev_awp TabOK.tnil (ev_evK ?_)))
  have hal : a.length < 1000000000 := ha
  by_cases hl : a.length = b.length
  case neg =>
    have hR : decide (a = b) = false := decide_eq_false fun q => hl (by rw [q])
    have hq : ((a.length : Int) = (b.length : Int)) = False := eq_false (by omega)
    rw [hR]
    simp only [eE, eC, eN, reduceCtorEq, Nat.reduceEqDiff, ↓reduceIte, Nat.reduceAdd, Bool.not_false, List.length_map, c73, hq]
  have hq : ((a.length : Int) = (b.length : Int)) = True := eq_true (by omega)
  simp only [eE, eC, eN, reduceCtorEq, Nat.reduceEqDiff, ↓reduceIte, Nat.reduceAdd, Bool.not_true, List.length_map, c73, hq]
  refine k_loop (fun i : Nat => ⟨[(0, true, eIs a), (1, true, eIs b), (5, true, .int .i64 i)], hnil, 0⟩) (fun i => i ≤ a.length ∧ a.take i = b.take i) (fun i => a.length - i) 0 rfl ⟨Nat.zero_le _, rfl⟩ ?_
  rintro i ⟨hi, htk⟩
  by_cases hlt : i < a.length
  · have hltb : i < b.length := by omega
    have hg := List.getElem?_eq_getElem hlt
    have hgb := List.getElem?_eq_getElem hltb
    have e := w64_succ (k := i) (by omega)
    have ta : a.take (i + 1) = a.take i ++ [a[i]] := by rw [List.take_add_one, hg]; rfl
    have tb : b.take (i + 1) = b.take i ++ [b[i]] := by rw [List.take_add_one, hgb]; rfl
    generalize a[i] = x at hg ta
    generalize b[i] = y at hgb tb
    by_cases hxy : x = y
    · simp only [eE, eC, eN, reduceCtorEq, Nat.reduceEqDiff, ↓reduceIte, Int.reduceEq, Bool.not_true, Option.getD_some, Int.toNat_natCast, Int.natCast_nonneg, List.length_map, List.getElem?_map, lt_T hlt, lt_T hltb, hg, hgb, e, hxy]
      exact .mk (i + 1) rfl ⟨hlt, by rw [ta, tb, htk, hxy]⟩ (by omega)
    · have hR : decide (a = b) = false := decide_eq_false fun q => hxy (by rw [q] at hg; rw [hg] at hgb; exact Option.some.inj hgb)
      rw [hR]
      simp only [eE, eC, eN, reduceCtorEq, Nat.reduceEqDiff, ↓reduceIte, Bool.not_false, Option.getD_some, Int.toNat_natCast, Int.natCast_nonneg, List.length_map, List.getElem?_map, lt_T hlt, lt_T hltb, hg, hgb, dec_F hxy]
  obtain rfl : i = a.length := by omega
  have hR : decide (a = b) = true := decide_eq_true (by rw [List.take_length, hl, List.take_length] at htk; exact htk)
  rw [hR]
  simp only [eE, eC, eN, reduceCtorEq, Nat.reduceEqDiff, ↓reduceIte, List.length_map, lt_F hlt]
theorem p91 (a b : List Bs) (ha : few a) : Pur Tryz.prog 91 [eSs a, eSs b] (.bool (decide (a = b))) := by
  refine .mk ⟨eSs_under 0 _, eSs_under 0 _, trivial⟩ trivial (a91 (ev_awp TabOK.tnil (ev_evK ?_)))
  have hal : a.length < 1000000000 := ha
  by_cases hl : a.length = b.length
  case neg =>
    have hR : decide (a = b) = false := decide_eq_false fun q => hl (by rw [q])
    have hq : ((a.length : Int) = (b.length : Int)) = False := eq_false (by omega)
    rw [hR]
    simp only [eE, eC, eN, reduceCtorEq, Nat.reduceEqDiff, ↓reduceIte, Nat.reduceAdd, Bool.not_false, List.length_map, c91, hq]
  have hq : ((a.length : Int) = (b.length : Int)) = True := eq_true (by omega)
  simp only [eE, eC, eN, reduceCtorEq, Nat.reduceEqDiff, ↓reduceIte, Nat.reduceAdd, Bool.not_true, List.length_map, c91, hq]
  refine k_loop (fun i : Nat => ⟨[(0, true, eSs a), (1, true, eSs b), (5, true, .int .i64 i)], hnil, 0⟩) (fun i => i ≤ a.length ∧ a.take i = b.take i) (fun i => a.length - i) 0 rfl ⟨Nat.zero_le _, rfl⟩ ?_
  rintro i ⟨hi, htk⟩
  by_cases hlt : i < a.length
  · have hltb : i < b.length := by omega
    have hg := List.getElem?_eq_getElem hlt
    have hgb := List.getElem?_eq_getElem hltb
    have e := w64_succ (k := i) (by omega)
    have ta : a.take (i + 1) = a.take i ++ [a[i]] := by rw [List.take_add_one, hg]; rfl
    have tb : b.take (i + 1) = b.take i ++ [b[i]] := by rw [List.take_add_one, hgb]; rfl
    generalize a[i] = x at hg ta
    generalize b[i] = y at hgb tb
    by_cases hxy : x = y
    · simp only [eE, eC, eN, reduceCtorEq, Nat.reduceEqDiff, ↓reduceIte, Int.reduceEq, Bool.not_true, Option.getD_some, Int.toNat_natCast, Int.natCast_nonneg, List.length_map, List.getElem?_map, lt_T hlt, lt_T hltb, hg, hgb, e, scmp_ne, dec_T hxy]
      exact .mk (i + 1) rfl ⟨hlt, by rw [ta, tb, htk, hxy]⟩ (by omega)
    · have hR : decide (a = b) = false := decide_eq_false fun q => hxy (by rw [q] at hg; rw [hg] at hgb; exact Option.some.inj hgb)
      rw [hR]
      simp only [eE, eC, eN, reduceCtorEq, Nat.reduceEqDiff, ↓reduceIte, Bool.not_false, Option.getD_some, Int.toNat_natCast, Int.natCast_nonneg, List.length_map, List.getElem?_map, lt_T hlt, lt_T hltb, hg, hgb, scmp_ne, dec_F hxy]
  obtain rfl : i = a.length := by omega
  have hR : decide (a = b) = true := decide_eq_true (by rw [List.take_length, hl, List.take_length] at htk; exact htk)
  rw [hR]
  simp only [eE, eC, eN, reduceCtorEq, Nat.reduceEqDiff, ↓reduceIte, List.length_map, lt_F hlt]
def Tsi : Tab := tadd 73 (s2 dIs dIs (fun a _ => few a) fun a b => .bool (decide (a = b))) tnil
theorem Tsi_ok : TabOK Tryz.prog Tsi := TabOK.tnil.add (q2 p73)
theorem Tsi_e (a : List AVal) (H : AHeap) : Tsi 73 a H = s2 dIs dIs (fun a _ => few a) (fun a b => .bool (decide (a = b))) a H := rfl
theorem p74 (a b : List (List Int)) (ha : few a) (hf : ∀ x ∈ a, few x) : Pur Tryz.prog 74 [eLl a, eLl b] (.bool (decide (a = b))) := by
  refine .mk ⟨eLl_under 0 _, eLl_under 0 _, trivial⟩ trivial (a74 (ev_awp Tsi_ok (ev_evK ?_)))
  have hal : a.length < 1000000000 := ha
  by_cases hl : a.length = b.length
  case neg =>
    have hR : decide (a = b) = false := decide_eq_false fun q => hl (by rw [q])
    have hq : ((a.length : Int) = (b.length : Int)) = False := eq_false (by omega)
    rw [hR]
    simp only [eE, eC, eN, reduceCtorEq, Nat.reduceEqDiff, ↓reduceIte, Nat.reduceAdd, Bool.not_false, List.length_map, c74, hq]
  have hq : ((a.length : Int) = (b.length : Int)) = True := eq_true (by omega)
  simp only [eE, eC, eN, reduceCtorEq, Nat.reduceEqDiff, ↓reduceIte, Nat.reduceAdd, Bool.not_true, List.length_map, c74, hq]
  refine k_loop (fun i : Nat => ⟨[(0, true, eLl a), (1, true, eLl b), (5, true, .int .i64 i)], hnil, 0⟩) (fun i => i ≤ a.length ∧ a.take i = b.take i) (fun i => a.length - i) 0 rfl ⟨Nat.zero_le _, rfl⟩ ?_
  rintro i ⟨hi, htk⟩
  by_cases hlt : i < a.length
  · have hltb : i < b.length := by omega
    have hg := List.getElem?_eq_getElem hlt
    have hgb := List.getElem?_eq_getElem hltb
    have e := w64_succ (k := i) (by omega)
    have ta : a.take (i + 1) = a.take i ++ [a[i]] := by rw [List.take_add_one, hg]; rfl
    have tb : b.take (i + 1) = b.take i ++ [b[i]] := by rw [List.take_add_one, hgb]; rfl
    have hxf := hf _ (List.getElem_mem hlt)
    generalize a[i] = x at hg ta hxf
    generalize b[i] = y at hgb tb
    by_cases hxy : x = y
    · simp only [eE, eC, eN, reduceCtorEq, Nat.reduceEqDiff, ↓reduceIte, Int.reduceEq, Bool.not_true, Option.getD_some, Int.toNat_natCast, Int.natCast_nonneg, List.length_map, List.getElem?_map, lt_T hlt, lt_T hltb, hg, hgb, e, Tsi_e, s2, dIs_ok, dIs_dec, eq_true hxf, dec_T hxy]
      exact .mk (i + 1) rfl ⟨hlt, by rw [ta, tb, htk, hxy]⟩ (by omega)
    · have hR : decide (a = b) = false := decide_eq_false fun q => hxy (by rw [q] at hg; rw [hg] at hgb; exact Option.some.inj hgb)
      rw [hR]
      simp only [eE, eC, eN, reduceCtorEq, Nat.reduceEqDiff, ↓reduceIte, Bool.not_false, Option.getD_some, Int.toNat_natCast, Int.natCast_nonneg, List.length_map, List.getElem?_map, lt_T hlt, lt_T hltb, hg, hgb, Tsi_e, s2, dIs_ok, dIs_dec, eq_true hxf, dec_F hxy]
  obtain rfl : i = a.length := by omega
  have hR : decide (a = b) = true := decide_eq_true (by rw [List.take_length, hl, List.take_length] at htk; exact htk)
  rw [hR]
  simp only [eE, eC, eN, reduceCtorEq, Nat.reduceEqDiff, ↓reduceIte, List.length_map, lt_F hlt]
def Tsn : Tab := tadd 91 (s2 dSs dSs (fun a _ => few a) fun a b => .bool (decide (a = b))) tnil
theorem Tsn_ok : TabOK Tryz.prog Tsn := TabOK.tnil.add (q2 p91)
theorem Tsn_e (a : List AVal) (H : AHeap) : Tsn 91 a H = s2 dSs dSs (fun a _ => few a) (fun a b => .bool (decide (a = b))) a H := rfl
theorem p75 (a b : DRul) (ha : fewRu a) : Pur Tryz.prog 75 [encRu a, encRu b] (.bool (decide (a = b))) := by
  refine .mk ⟨encRu_under 0 _, encRu_under 0 _, trivial⟩ trivial (a75 (ev_awp Tsn_ok (ev_evK ?_)))
  obtain ⟨h1, h2⟩ := ha
  simp only [eE, eC, eN, reduceCtorEq, Nat.reduceEqDiff, ↓reduceIte, Nat.reduceAdd, Nat.reduceLeDiff, c75, Tsn_e, s2, dSs_ok, dSs_dec, eq_true h1, eq_true h2, scmp_eq]
  rw [Bool.eq_iff_iff, decide_eq_true_eq, rul_ext]
  simp only [Bool.and_eq_true, decide_eq_true_eq]
  constructor
  · intro h; simp only [h, and_self]
  · intro h; simp only [h, and_self]
def Tsd : Tab := tadd 73 (s2 dIs dIs (fun a _ => few a) fun a b => .bool (decide (a = b))) (tadd 74 (s2 dLl dLl (fun a _ => fewLl a) fun a b => .bool (decide (a = b))) (tadd 75 (s2 dRu dRu (fun a _ => fewRu a) fun a b => .bool (decide (a = b))) tnil))
theorem Tsd_ok : TabOK Tryz.prog Tsd := ((TabOK.tnil.add (q2 p75)).add (q2 fun a b h => p74 a b h.1 h.2)).add (q2 p73)
theorem Tsd_i (a : List AVal) (H : AHeap) : Tsd 73 a H = s2 dIs dIs (fun a _ => few a) (fun a b => .bool (decide (a = b))) a H := rfl
theorem Tsd_l (a : List AVal) (H : AHeap) : Tsd 74 a H = s2 dLl dLl (fun a _ => fewLl a) (fun a b => .bool (decide (a = b))) a H := rfl
theorem Tsd_r (a : List AVal) (H : AHeap) : Tsd 75 a H = s2 dRu dRu (fun a _ => fewRu a) (fun a b => .bool (decide (a = b))) a H := rfl
theorem reg_ne (x y : DReg) : (scmp .neq x.nm y.nm || !decide (x.ls = y.ls)) = !decide (x = y) := by
  rw [scmp_ne]
  cases x; cases y
  rw [Bool.eq_iff_iff]
  simp [DReg.mk.injEq]
theorem p29 (a b : Dcl) (hd : FewD a) : Pur Tryz.prog 29 [encD a, encD b] (.bool (decide (a = b))) := by
  refine .mk ⟨encD_under 0 _, encD_under 0 _, trivial⟩ trivial (a29 (ev_awp Tsd_ok (ev_evK ?_)))
  cases h1 : decide (a.nm = b.nm ∧ a.ver = b.ver ∧ a.sh = b.sh ∧ a.w = b.w ∧ a.h = b.h ∧ a.holes = b.holes) with
  | false =>
    have h1 := of_decide_eq_false h1
    have hR : decide (a = b) = false := decide_eq_false fun q => h1 (by rw [q]; exact ⟨rfl, rfl, rfl, rfl, rfl, rfl⟩)
    have hb : (scmp .neq a.nm b.nm || !decide (a.ver = b.ver) || !decide (a.sh = b.sh) || !decide (a.w = b.w) || !decide (a.h = b.h) || !decide (a.holes = b.holes)) = true := by
      rw [scmp_ne, ← Bool.not_eq_false]
      intro q
      simp only [Bool.or_eq_false_iff, Bool.not_eq_false', decide_eq_true_eq, and_assoc] at q
      exact h1 q
    rw [hR]
    simp only [eE, eC, eN, reduceCtorEq, Nat.reduceEqDiff, ↓reduceIte, Nat.reduceAdd, Nat.reduceLeDiff, c29, Tsd_i, s2, dIs_ok, dIs_dec, eq_true hd.ho, hb]
  | true =>
  obtain ⟨a1, a2, a3, a4, a5, a6⟩ := of_decide_eq_true h1
  have hb : (scmp .neq a.nm b.nm || !decide (a.ver = b.ver) || !decide (a.sh = b.sh) || !decide (a.w = b.w) || !decide (a.h = b.h) || !decide (a.holes = b.holes)) = false := by
    rw [scmp_ne]; simp [a1, a2, a3, a4, a5, a6]
  clear h1
  cases h2 : decide (a.syms.length = b.syms.length ∧ a.regs.length = b.regs.length ∧ a.clus.length = b.clus.length ∧ a.ruls.length = b.ruls.length) with
  | false =>
    have h2 := of_decide_eq_false h2
    have hR : decide (a = b) = false := decide_eq_false fun q => h2 (by rw [q]; exact ⟨rfl, rfl, rfl, rfl⟩)
    have hb2 : (!decide ((a.syms.length : Int) = (b.syms.length : Int)) || !decide ((a.regs.length : Int) = (b.regs.length : Int)) || !decide ((a.clus.length : Int) = (b.clus.length : Int)) || !decide ((a.ruls.length : Int) = (b.ruls.length : Int))) = true := by
      rw [← Bool.not_eq_false]
      intro q
      simp only [Bool.or_eq_false_iff, Bool.not_eq_false', decide_eq_true_eq, and_assoc] at q
      exact h2 (by omega)
    rw [hR]
    simp only [eE, eC, eN, reduceCtorEq, Nat.reduceEqDiff, ↓reduceIte, Nat.reduceAdd, Nat.reduceLeDiff, List.length_map, c29, Tsd_i, s2, dIs_ok, dIs_dec, eq_true hd.ho, hb, hb2]
  | true =>
  obtain ⟨l1, l2, l3, l4⟩ := of_decide_eq_true h2
  have hb2 : (!decide ((a.syms.length : Int) = (b.syms.length : Int)) || !decide ((a.regs.length : Int) = (b.regs.length : Int)) || !decide ((a.clus.length : Int) = (b.clus.length : Int)) || !decide ((a.ruls.length : Int) = (b.ruls.length : Int))) = false := by
    simp [l1, l2, l3, l4]
  clear h2
  simp only [eE, eC, eN, reduceCtorEq, Nat.reduceEqDiff, ↓reduceIte, Nat.reduceAdd, Nat.reduceLeDiff, List.length_map, c29, Tsd_i, s2, dIs_ok, dIs_dec, eq_true hd.ho, hb, hb2]
  refine k_loop (fun i : Nat => ⟨[(2, true, .ptr 0 0), (3, true, .ptr 1 0), (5, true, .int .i64 i)], hset (hset hnil 0 (.box (cellsD a))) 1 (.box (cellsD b)), 3⟩) (fun i => i ≤ a.syms.length ∧ a.syms.take i = b.syms.take i) (fun i => a.syms.length - i) 0 rfl ⟨Nat.zero_le _, rfl⟩ ?_
  rintro i ⟨hi, htk⟩
  have hfl : a.syms.length < 1000000000 := hd.sy
  by_cases hlt : i < a.syms.length
  · have hltb : i < b.syms.length := by omega
    have hg := List.getElem?_eq_getElem hlt
    have hgb := List.getElem?_eq_getElem hltb
    have e := w64_succ (k := i) (by omega)
    have ta : a.syms.take (i + 1) = a.syms.take i ++ [a.syms[i]] := by rw [List.take_add_one, hg]; rfl
    have tb : b.syms.take (i + 1) = b.syms.take i ++ [b.syms[i]] := by rw [List.take_add_one, hgb]; rfl
    generalize a.syms[i] = x at hg ta
    generalize b.syms[i] = y at hgb tb
    by_cases hxy : x = y
    · have hc := ceq_sy x y
      rw [decide_eq_true hxy] at hc
      simp only [eE, eC, eN, reduceCtorEq, Nat.reduceEqDiff, ↓reduceIte, Nat.reduceAdd, Nat.reduceLeDiff, Int.reduceEq, Bool.not_true, Option.getD_some, Int.toNat_natCast, Int.natCast_nonneg, List.length_map, List.getElem?_map, lt_T hlt, lt_T hltb, hg, hgb, e, hc, cfit]
      exact .mk (i + 1) rfl ⟨hlt, by rw [ta, tb, htk, hxy]⟩ (by omega)
    · have hR : decide (a = b) = false := decide_eq_false fun q => hxy (by rw [q] at hg; rw [hg] at hgb; exact Option.some.inj hgb)
      have hc := ceq_sy x y
      rw [decide_eq_false hxy] at hc
      rw [hR]
      simp only [eE, eC, eN, reduceCtorEq, Nat.reduceEqDiff, ↓reduceIte, Nat.reduceAdd, Nat.reduceLeDiff, Bool.not_false, Option.getD_some, Int.toNat_natCast, Int.natCast_nonneg, List.length_map, List.getElem?_map, lt_T hlt, lt_T hltb, hg, hgb, hc, cfit]
  obtain rfl : i = a.syms.length := by omega
  have b_syms : a.syms = b.syms := by rw [List.take_length, l1, List.take_length] at htk; exact htk
  simp only [eE, eC, eN, reduceCtorEq, Nat.reduceEqDiff, ↓reduceIte, Nat.reduceAdd, Nat.reduceLeDiff, List.length_map, lt_F hlt]
  clear hi htk hfl hlt
  refine k_loop (fun i : Nat => ⟨[(2, true, .ptr 0 0), (3, true, .ptr 1 0), (6, true, .int .i64 i)], hset (hset hnil 0 (.box (cellsD a))) 1 (.box (cellsD b)), 3⟩) (fun i => i ≤ a.regs.length ∧ a.regs.take i = b.regs.take i) (fun i => a.regs.length - i) 0 rfl ⟨Nat.zero_le _, rfl⟩ ?_
  rintro i ⟨hi, htk⟩
  have hfl : a.regs.length < 1000000000 := hd.rg
  by_cases hlt : i < a.regs.length
  · have hltb : i < b.regs.length := by omega
    have hg := List.getElem?_eq_getElem hlt
    have hgb := List.getElem?_eq_getElem hltb
    have e := w64_succ (k := i) (by omega)
    have ta : a.regs.take (i + 1) = a.regs.take i ++ [a.regs[i]] := by rw [List.take_add_one, hg]; rfl
    have tb : b.regs.take (i + 1) = b.regs.take i ++ [b.regs[i]] := by rw [List.take_add_one, hgb]; rfl
    have hxf : fewLl a.regs[i].ls := hd.rgs _ (List.getElem_mem hlt)
    generalize a.regs[i] = x at hg ta hxf
    generalize b.regs[i] = y at hgb tb
    by_cases hxy : x = y
    · have hc := reg_ne x y
      rw [decide_eq_true hxy] at hc
      simp only [eE, eC, eN, reduceCtorEq, Nat.reduceEqDiff, ↓reduceIte, Nat.reduceAdd, Nat.reduceLeDiff, Int.reduceEq, Bool.not_true, Option.getD_some, Int.toNat_natCast, Int.natCast_nonneg, List.length_map, List.getElem?_map, lt_T hlt, lt_T hltb, hg, hgb, e, Tsd_l, s2, dLl_ok, dLl_dec, eq_true hxf, hc]
      exact .mk (i + 1) rfl ⟨hlt, by rw [ta, tb, htk, hxy]⟩ (by omega)
    · have hR : decide (a = b) = false := decide_eq_false fun q => hxy (by rw [q] at hg; rw [hg] at hgb; exact Option.some.inj hgb)
      have hc := reg_ne x y
      rw [decide_eq_false hxy] at hc
      rw [hR]
      simp only [eE, eC, eN, reduceCtorEq, Nat.reduceEqDiff, ↓reduceIte, Nat.reduceAdd, Nat.reduceLeDiff, Bool.not_false, Option.getD_some, Int.toNat_natCast, Int.natCast_nonneg, List.length_map, List.getElem?_map, lt_T hlt, lt_T hltb, hg, hgb, Tsd_l, s2, dLl_ok, dLl_dec, eq_true hxf, hc]
  obtain rfl : i = a.regs.length := by omega
  have b_regs : a.regs = b.regs := by rw [List.take_length, l2, List.take_length] at htk; exact htk
  simp only [eE, eC, eN, reduceCtorEq, Nat.reduceEqDiff, ↓reduceIte, Nat.reduceAdd, Nat.reduceLeDiff, List.length_map, lt_F hlt]
  clear hi htk hfl hlt
  refine k_loop (fun i : Nat => ⟨[(2, true, .ptr 0 0), (3, true, .ptr 1 0), (7, true, .int .i64 i)], hset (hset hnil 0 (.box (cellsD a))) 1 (.box (cellsD b)), 3⟩) (fun i => i ≤ a.clus.length ∧ a.clus.take i = b.clus.take i) (fun i => a.clus.length - i) 0 rfl ⟨Nat.zero_le _, rfl⟩ ?_
  rintro i ⟨hi, htk⟩
  have hfl : a.clus.length < 1000000000 := hd.cl
  by_cases hlt : i < a.clus.length
  · have hltb : i < b.clus.length := by omega
    have hg := List.getElem?_eq_getElem hlt
    have hgb := List.getElem?_eq_getElem hltb
    have e := w64_succ (k := i) (by omega)
    have ta : a.clus.take (i + 1) = a.clus.take i ++ [a.clus[i]] := by rw [List.take_add_one, hg]; rfl
    have tb : b.clus.take (i + 1) = b.clus.take i ++ [b.clus[i]] := by rw [List.take_add_one, hgb]; rfl
    generalize a.clus[i] = x at hg ta
    generalize b.clus[i] = y at hgb tb
    by_cases hxy : x = y
    · have hc := ceq_cl x y
      rw [decide_eq_true hxy] at hc
      simp only [eE, eC, eN, reduceCtorEq, Nat.reduceEqDiff, ↓reduceIte, Nat.reduceAdd, Nat.reduceLeDiff, Int.reduceEq, Bool.not_true, Option.getD_some, Int.toNat_natCast, Int.natCast_nonneg, List.length_map, List.getElem?_map, lt_T hlt, lt_T hltb, hg, hgb, e, hc, cfit]
      exact .mk (i + 1) rfl ⟨hlt, by rw [ta, tb, htk, hxy]⟩ (by omega)
    · have hR : decide (a = b) = false := decide_eq_false fun q => hxy (by rw [q] at hg; rw [hg] at hgb; exact Option.some.inj hgb)
      have hc := ceq_cl x y
      rw [decide_eq_false hxy] at hc
      rw [hR]
      simp only [eE, eC, eN, reduceCtorEq, Nat.reduceEqDiff, ↓reduceIte, Nat.reduceAdd, Nat.reduceLeDiff, Bool.not_false, Option.getD_some, Int.toNat_natCast, Int.natCast_nonneg, List.length_map, List.getElem?_map, lt_T hlt, lt_T hltb, hg, hgb, hc, cfit]
  obtain rfl : i = a.clus.length := by omega
  have b_clus : a.clus = b.clus := by rw [List.take_length, l3, List.take_length] at htk; exact htk
  simp only [eE, eC, eN, reduceCtorEq, Nat.reduceEqDiff, ↓reduceIte, Nat.reduceAdd, Nat.reduceLeDiff, List.length_map, lt_F hlt]
  clear hi htk hfl hlt
  refine k_loop (fun i : Nat => ⟨[(2, true, .ptr 0 0), (3, true, .ptr 1 0), (8, true, .int .i64 i)], hset (hset hnil 0 (.box (cellsD a))) 1 (.box (cellsD b)), 3⟩) (fun i => i ≤ a.ruls.length ∧ a.ruls.take i = b.ruls.take i) (fun i => a.ruls.length - i) 0 rfl ⟨Nat.zero_le _, rfl⟩ ?_
  rintro i ⟨hi, htk⟩
  have hfl : a.ruls.length < 1000000000 := hd.ru
  by_cases hlt : i < a.ruls.length
  · have hltb : i < b.ruls.length := by omega
    have hg := List.getElem?_eq_getElem hlt
    have hgb := List.getElem?_eq_getElem hltb
    have e := w64_succ (k := i) (by omega)
    have ta : a.ruls.take (i + 1) = a.ruls.take i ++ [a.ruls[i]] := by rw [List.take_add_one, hg]; rfl
    have tb : b.ruls.take (i + 1) = b.ruls.take i ++ [b.ruls[i]] := by rw [List.take_add_one, hgb]; rfl
    have hxf : fewRu a.ruls[i] := hd.rus _ (List.getElem_mem hlt)
    generalize a.ruls[i] = x at hg ta hxf
    generalize b.ruls[i] = y at hgb tb
    by_cases hxy : x = y
    · simp only [eE, eC, eN, reduceCtorEq, Nat.reduceEqDiff, ↓reduceIte, Nat.reduceAdd, Int.reduceEq, Bool.not_true, Option.getD_some, Int.toNat_natCast, Int.natCast_nonneg, List.length_map, List.getElem?_map, lt_T hlt, lt_T hltb, hg, hgb, e, Tsd_r, s2, dRu_ok, dRu_dec, eq_true hxf, dec_T hxy]
      exact .mk (i + 1) rfl ⟨hlt, by rw [ta, tb, htk, hxy]⟩ (by omega)
    · have hR : decide (a = b) = false := decide_eq_false fun q => hxy (by rw [q] at hg; rw [hg] at hgb; exact Option.some.inj hgb)
      rw [hR]
      simp only [eE, eC, eN, reduceCtorEq, Nat.reduceEqDiff, ↓reduceIte, Nat.reduceAdd, Bool.not_false, Option.getD_some, Int.toNat_natCast, Int.natCast_nonneg, List.length_map, List.getElem?_map, lt_T hlt, lt_T hltb, hg, hgb, Tsd_r, s2, dRu_ok, dRu_dec, eq_true hxf, dec_F hxy]
  obtain rfl : i = a.ruls.length := by omega
  have b_ruls : a.ruls = b.ruls := by rw [List.take_length, l4, List.take_length] at htk; exact htk
  have hR : decide (a = b) = true := decide_eq_true (by
    cases a; cases b
    simp only at a1 a2 a3 a4 a5 a6 b_syms b_regs b_clus b_ruls
    subst a1 a2 a3 a4 a5 a6 b_syms b_regs b_clus b_ruls
    rfl)
  rw [hR]
  simp only [eE, eC, eN, reduceCtorEq, Nat.reduceEqDiff, ↓reduceIte, Nat.reduceAdd, List.length_map, lt_F hlt]
end Go.AM
end
section
set_option maxRecDepth 20000
set_option linter.all false
namespace Go.AM
open Go.Proofs Go.Lib
theorem p76 (l : List Int) (x : Int) (hl : few l) : Pur Tryz.prog 76 [eIs l, .int .i64 x] (.bool (l.contains x)) := by
  refine .mk ⟨eIs_under 0 _, trivial, trivial⟩ trivial (a76 (ev_awp TabOK.tnil (ev_evK ?_)))
  have hll : l.length < 1000000000 := hl
  simp only [eE, eN, reduceCtorEq, Nat.reduceEqDiff, ↓reduceIte, Nat.reduceAdd, c76]
  refine k_loop (fun i : Nat => ⟨[(0, true, eIs l), (1, true, .int .i64 x), (5, true, .int .i64 i)], hnil, 0⟩) (fun i => i ≤ l.length ∧ l.contains x = (l.drop i).contains x) (fun i => l.length - i) 0 rfl ⟨Nat.zero_le _, rfl⟩ ?_
  rintro i ⟨hi, hc⟩
  by_cases hlt : i < l.length
  · have hg := List.getElem?_eq_getElem hlt
    have e := w64_succ (k := i) (by omega)
    rw [List.drop_eq_getElem_cons hlt, List.contains_cons] at hc
    generalize l[i] = y at hg hc
    by_cases hy : y = x
    · have hR : l.contains x = true := by rw [hc, hy]; simp
      rw [hR]
      simp only [eE, eC, eN, reduceCtorEq, Nat.reduceEqDiff, ↓reduceIte, Option.getD_some, Int.toNat_natCast, Int.natCast_nonneg, List.length_map, List.getElem?_map, lt_T hlt, hg, dec_T hy]
    · have hy' : (x == y) = false := beq_eq_false_iff_ne.2 fun q => hy q.symm
      rw [hy', Bool.false_or] at hc
      simp only [eE, eC, eN, reduceCtorEq, Nat.reduceEqDiff, ↓reduceIte, Int.reduceEq, Option.getD_some, Int.toNat_natCast, Int.natCast_nonneg, List.length_map, List.getElem?_map, lt_T hlt, hg, e, dec_F hy]
      exact .mk (i + 1) rfl ⟨hlt, hc⟩ (by omega)
  obtain rfl : i = l.length := by omega
  rw [List.drop_length] at hc
  rw [hc]
  simp only [eE, eC, eN, reduceCtorEq, Nat.reduceEqDiff, ↓reduceIte, List.length_map, lt_F hlt]
  rfl
def Tin : Tab := tadd 76 (s2 dIs dI (fun l _ => few l) fun l x => .bool (l.contains x)) tnil
theorem Tin_ok : TabOK Tryz.prog Tin := TabOK.tnil.add (q2 p76)
theorem Tin_e (a : List AVal) (H : AHeap) : Tin 76 a H = s2 dIs dI (fun l _ => few l) (fun l x => .bool (l.contains x)) a H := rfl
def hosL (holes : List Int) (k : Nat) : List Int := ((List.range k).map fun (i : Nat) => (i : Int)).filter fun p => holes.contains p
theorem hosL_succ (holes : List Int) (k : Nat) : hosL holes (k + 1) = if holes.contains (k : Int) then hosL holes k ++ [(k : Int)] else hosL holes k := by
  unfold hosL
  rw [List.range_succ, List.map_append, List.filter_append]
  cases h : holes.contains (k : Int) <;> simp only [List.map_cons, List.map_nil, List.filter_cons, List.filter_nil, h, if_true, if_false, Bool.false_eq_true, List.append_nil]
theorem hosL_le (holes : List Int) (k : Nat) : (hosL holes k).length ≤ k := by
  have := List.length_filter_le (fun p => holes.contains p) ((List.range k).map fun (i : Nat) => (i : Int))
  simpa [hosL] using this
structure VMh where
  i : Nat
  last : Int
structure VMm where
  k : Nat
  t1 : Tok
  t2 : Tok
  H : AHeap
  n : Nat
structure IMr (sh w h : Int) (holes : List Int) (m : Nat) (v : VMm) : Prop where
  hk : v.k ≤ m
  hn : 8 ≤ v.n
  fr : Fresh v.H v.n
  h0 : hget v.H 0 = some (.box [z0, z0, z0, zs, zs])
  h6 : hget v.H 6 = some (.box [.int .i64 sh, .int .i64 w, .int .i64 h, .sl v.t1 ((hosL holes v.k).map eI), .sl v.t2 ((posL holes v.k).map eI)])
  tok1 : tkG 1 7 v.H v.t1
  tok2 : tkG 1 7 v.H v.t2
  dj : ∀ i, v.t1 = .own i 1 → v.t2 ≠ .own i 1
  es1 : v.t1.esz = 1 ∨ hosL holes v.k = []
  es2 : v.t2.esz = 1 ∨ posL holes v.k = []
theorem p30 (sh w h : Int) (holes : List Int) (hl : few holes) : Pur Tryz.prog 30 [.int .i64 sh, .int .i64 w, .int .i64 h, eIs holes] (makeV sh w h holes) := by
  refine .mk ⟨trivial, trivial, trivial, eIs_under 0 _, trivial⟩ (makeV_under sh w h holes) (a30 (ev_awp Tin_ok (ev_evK ?_)))
  have hll : holes.length < 1000000000 := hl
  by_cases hc : (sh = 1 ∨ sh = 2) ∧ 1 ≤ w ∧ w ≤ 16 ∧ 1 ≤ h ∧ h ≤ 16
  case neg =>
    have hn : makeV sh w h holes = .tup [encG 0 0 0 [] [], .int .i64 130] := by
      unfold makeV cellsG
      rw [if_neg fun q => hc ⟨q.1, q.2.1, q.2.2.1, q.2.2.2.1, q.2.2.2.2.1⟩]
    have hb : (!decide (sh = 1) && !decide (sh = 2) || decide (w < 1) || decide (16 < w) || decide (h < 1) || decide (16 < h)) = true := by
      rw [← Bool.not_eq_false]
      intro q
      simp only [Bool.or_eq_false_iff, Bool.and_eq_false_iff, Bool.not_eq_false', decide_eq_true_eq, decide_eq_false_iff_not] at q
      exact hc (by omega)
    rw [hn]
    simp only [eE, eC, eN, reduceCtorEq, Nat.reduceEqDiff, ↓reduceIte, Nat.reduceAdd, rcell, c30, hb]
    exact wk_G (Wk.sl (.inr rfl)) (Wk.sl (.inr rfl))
  have hb : (!decide (sh = 1) && !decide (sh = 2) || decide (w < 1) || decide (16 < w) || decide (h < 1) || decide (16 < h)) = false := by
    simp only [Bool.or_eq_false_iff, Bool.and_eq_false_iff, Bool.not_eq_false', decide_eq_true_eq, decide_eq_false_iff_not]
    omega
  obtain ⟨hsh, hw1, hw2, hh1, hh2⟩ := hc
  obtain ⟨p1, p2⟩ := wh_le hw1 hw2 hh1 hh2
  have hwh : IntKind.wrap .i64 (w * h) = w * h := w64_in (by omega) (by omega)
  have hbad : (risingI (-1) holes && holes.all fun p => decide (p < w * h)) = false → makeV sh w h holes = .tup [encG 0 0 0 [] [], .int .i64 130] := fun q => by
    unfold makeV cellsG
    rw [if_neg]
    intro z
    rw [z.2.2.2.2.2.2.1, z.2.2.2.2.2.2.2] at q
    cases q
  simp only [eE, eC, eN, reduceCtorEq, Nat.reduceEqDiff, ↓reduceIte, Nat.reduceAdd, c30, hb]
  refine k_loop (fun v : VMh => ⟨[(0, true, .int .i64 sh), (1, true, .int .i64 w), (2, true, .int .i64 h), (3, true, eIs holes), (8, true, .ptr 0 0), (10, true, .int .i64 v.i)], hset hnil 0 (.box [z0, z0, z0, zs, zs]), 2⟩)
    (fun v => v.i ≤ holes.length ∧ (risingI (-1) holes && holes.all fun p => decide (p < w * h)) = (risingI v.last (holes.drop v.i) && (holes.drop v.i).all fun p => decide (p < w * h)) ∧ (v.i = 0 → v.last = -1) ∧ ∀ j, v.i = j + 1 → holes[j]? = some v.last ∧ 0 ≤ v.last) (fun v => holes.length - v.i)
    ⟨0, -1⟩ rfl ⟨Nat.zero_le _, rfl, fun _ => rfl, fun j q => by cases q⟩ ?_
  rintro ⟨i, last⟩ ⟨hi, he, hz, hs⟩
  simp only at hi he hz hs
  by_cases hlt : i < holes.length
  · have hg := List.getElem?_eq_getElem hlt
    have e := w64_succ (k := i) (by omega)
    rw [List.drop_eq_getElem_cons hlt, risingI, List.all_cons] at he
    generalize holes[i] = x at hg he
    have hnext : last < x ∧ x < w * h → (risingI (-1) holes && holes.all fun p => decide (p < w * h)) = (risingI x (holes.drop (i + 1)) && (holes.drop (i + 1)).all fun p => decide (p < w * h)) := fun q => by
      rw [he, decide_eq_true q.1, decide_eq_true q.2]; simp
    have hstop : ¬ (last < x ∧ x < w * h) → (risingI (-1) holes && holes.all fun p => decide (p < w * h)) = false := fun q => by
      rw [he, ← Bool.not_eq_true]
      intro z
      simp only [Bool.and_eq_true, decide_eq_true_eq] at z
      exact q ⟨z.1.1, z.2.1⟩
    cases i with
    | zero =>
      have hl1 := hz rfl
      have h0l : ((0 : Int) < (holes.length : Int)) = True := eq_true (by omega)
      have e1 : IntKind.wrap .i64 ((0 : Int) + 1) = 1 := by decide
      by_cases hok : last < x ∧ x < w * h
      · have hd : (decide (x < 0) || decide (w * h ≤ x)) = false := by simp; omega
        simp only [eE, eC, eN, reduceCtorEq, Nat.reduceEqDiff, ↓reduceIte, Int.reduceEq, Option.getD_some, c0, i00, Int.toNat_zero, Int.le_refl, List.length_map, List.getElem?_map, h0l, hg, e1, hwh, hd]
        refine .mk ⟨1, x⟩ rfl ⟨hlt, hnext hok, (fun q => by cases q), fun j q => ?_⟩ (by simp only []; omega)
        have q' : 1 = j + 1 := q
        have : j = 0 := by omega
        subst this
        exact ⟨hg, by simp only []; omega⟩
      · have hd : (decide (x < 0) || decide (w * h ≤ x)) = true := by simp; omega
        rw [hbad (hstop hok)]
        simp only [eE, eC, eN, reduceCtorEq, Nat.reduceEqDiff, ↓reduceIte, Nat.reduceAdd, Int.reduceEq, Bool.not_true, Option.getD_some, rcell, c0, i00, Int.toNat_zero, Int.le_refl, List.length_map, List.getElem?_map, h0l, hg, hwh, hd]
        exact wk_G (Wk.sl (.inr rfl)) (Wk.sl (.inr rfl))
    | succ j =>
      obtain ⟨hgl, hl0⟩ := hs j rfl
      have hjl : j < holes.length := by omega
      have ej : IntKind.wrap .i64 (((j + 1 : Nat) : Int) - 1) = (j : Int) := by rw [w64_in (by omega) (by omega)]; omega
      by_cases hok : last < x ∧ x < w * h
      · have hd : (decide (x < 0) || decide (w * h ≤ x)) = false := by simp; omega
        have hd2 : (x ≤ last) = False := eq_false (by omega)
        simp only [eE, eC, eN, reduceCtorEq, Nat.reduceEqDiff, ↓reduceIte, Nat.reduceAdd, Int.reduceEq, Option.getD_some, Int.toNat_natCast, Int.natCast_nonneg, List.length_map, List.getElem?_map, lt_T hlt, hg, e, hwh, hd, cS1, ej, lt_T hjl, hgl, hd2]
        refine .mk ⟨j + 2, x⟩ rfl ⟨hlt, hnext hok, (fun q => by cases q), fun j' q => ?_⟩ (by simp only []; omega)
        have q' : j + 2 = j' + 1 := q
        have : j' = j + 1 := by omega
        subst this
        exact ⟨hg, by simp only []; omega⟩
      · by_cases hd : (decide (x < 0) || decide (w * h ≤ x)) = true
        · rw [hbad (hstop hok)]
          simp only [eE, eC, eN, reduceCtorEq, Nat.reduceEqDiff, ↓reduceIte, Nat.reduceAdd, Int.reduceEq, Bool.not_true, Option.getD_some, rcell, Int.toNat_natCast, Int.natCast_nonneg, List.length_map, List.getElem?_map, lt_T hlt, hg, hwh, hd]
          exact wk_G (Wk.sl (.inr rfl)) (Wk.sl (.inr rfl))
        · have hd : (decide (x < 0) || decide (w * h ≤ x)) = false := by simpa using hd
          have hd' := hd
          simp only [Bool.or_eq_false_iff, decide_eq_false_iff_not] at hd'
          have hd2 : (x ≤ last) = True := eq_true (by omega)
          rw [hbad (hstop hok)]
          simp only [eE, eC, eN, reduceCtorEq, Nat.reduceEqDiff, ↓reduceIte, Nat.reduceAdd, Int.reduceEq, Option.getD_some, rcell, Int.toNat_natCast, Int.natCast_nonneg, List.length_map, List.getElem?_map, lt_T hlt, hg, hwh, hd, cS1, ej, lt_T hjl, hgl, hd2]
          exact wk_G (Wk.sl (.inr rfl)) (Wk.sl (.inr rfl))
  obtain rfl : i = holes.length := by omega
  rw [List.drop_length] at he
  have he' : (risingI (-1) holes && holes.all fun p => decide (p < w * h)) = true := he
  obtain ⟨hr1, hr2⟩ := (Bool.and_eq_true _ _).mp he'
  obtain ⟨r1, r2⟩ := rising_iff.1 hr1
  have hin : ∀ x ∈ holes, 0 ≤ x ∧ x < w * h := fun x hx => ⟨by have := r1 x hx; omega, of_decide_eq_true (List.all_eq_true.1 hr2 x hx)⟩
  obtain ⟨m, hm⟩ : ∃ m : Nat, w * h = (m : Int) := ⟨(w * h).toNat, by omega⟩
  have hmt : (w * h).toNat = m := by omega
  have hwm : IntKind.wrap .i64 (m : Int) = m := by rw [← hm]; exact hwh
  have hHos : hosL holes m = holes := by
    have := holes_all hin r2
    unfold allPos at this
    rw [hmt] at this
    exact this
  have hC : cellsG sh w h holes = if posL holes m ≠ [] then some (posL holes m) else none := by
    rw [← cells_ref]
    unfold cellsR
    have ep : ((allPos (w * h)).filter fun p => !holes.contains p) = posL holes m := by unfold allPos posL; rw [hmt]
    rw [ep]
    by_cases q : posL holes m = []
    · rw [if_neg fun z => z.2.2.2.2.2.2.2 q, if_neg (fun z => z q)]
    · rw [if_pos ⟨hsh, hw1, hw2, hh1, hh2, hin, r2, q⟩, if_pos q]
  simp only [eE, eC, eN, reduceCtorEq, Nat.reduceEqDiff, ↓reduceIte, Nat.reduceAdd, Nat.reduceLeDiff, List.length_map, lt_F hlt, hm, hset_hset]
  refine k_loop (fun v : VMm => ⟨[(1, true, .int .i64 w), (2, true, .int .i64 h), (3, true, eIs holes), (8, true, .ptr 0 0), (11, true, .ptr 6 0), (12, true, .int .i64 v.k)], v.H, v.n⟩) (IMr sh w h holes m) (fun v => m - v.k)
    ⟨0, .nil, .nil, hset (hset hnil 0 (.box [z0, z0, z0, zs, zs])) 6 (.box [.int .i64 sh, .int .i64 w, .int .i64 h, zs, zs]), 8⟩ rfl ⟨Nat.zero_le _, Nat.le_refl _, (Fresh.nil.hset (m := 8) (Nat.zero_le 8) (show 0 < 8 by decide)).hset (Nat.le_refl 8) (show 6 < 8 by decide), rfl, rfl, .inl rfl, .inl rfl, fun i q => (by cases q), .inr rfl, .inr rfl⟩ ?_
  rintro ⟨k, t1, t2, H, n⟩ ⟨hk, hn, hfr, h0, h6, ht1, ht2, hdj, hes1, hes2⟩
  simp only at hk hn hfr h0 h6 ht1 ht2 hdj hes1 hes2
  by_cases hlt2 : k < m
  · have e := w64_succ (k := k) (by omega)
    have hps := posL_succ holes k
    have hhs := hosL_succ holes k
    have hpl := posL_le holes k
    have hhl := hosL_le holes k
    have y0 : ∀ j, (n + j = 6) = False := fun j => eq_false (by omega)
    have y1 : ∀ j, (n + j = 0) = False := fun j => eq_false (by omega)
    cases hin2 : holes.contains (k : Int) with
    | true =>
      rw [hin2, if_pos rfl] at hps hhs
      have q1 : appOK H 1 t1 = True := eq_true ht1.app
      have q2 : ((hosL holes k).length ≤ 35184372088831) = True := eq_true (by omega)
      have q3 : small ((hosL holes k).length + 1) 8 = True := eq_true (small_of (by omega) (by decide))
      have kx : hget (killTok H t1) 6 = some (.box [.int .i64 sh, .int .i64 w, .int .i64 h, .sl t1 ((hosL holes k).map eI), .sl t2 ((posL holes k).map eI)]) := by rw [kill_get ht1 (.inl (by omega))]; exact h6
      simp only [eE, eC, eN, reduceCtorEq, Nat.reduceEqDiff, ↓reduceIte, Nat.reduceAdd, Nat.reduceLeDiff, Nat.reduceMul, Nat.reduceLT, Int.reduceEq, List.length_map, hwm, hm, lt_T hlt2, Tin_e, s2, dIs_ok, dIs_dec, dI_ok, dI_dec, eq_true hl, hin2, e, h6, q1, q2, q3, fr1 hfr, kx, y0]
      have hdn : ∀ i, ((.own (n + 4) 1 : Tok) = .own i 1) → (t2 : Tok) ≠ .own i 1 := fun i q z => by
        cases q
        rcases ht2 with h | h | ⟨id, h, -, h'⟩ <;> rw [h] at z <;> cases z
        rw [fr1 hfr 4] at h'; cases h'
      refine .mk ⟨k + 1, .own (n + 4) 1, t2, hset (hset (killTok H t1) (n + 4) .tok) 6 (.box [.int .i64 sh, .int .i64 w, .int .i64 h, .sl (.own (n + 4) 1) ((hosL holes (k + 1)).map eI), .sl t2 ((posL holes (k + 1)).map eI)]), n + 7⟩ ?_ ⟨hlt2, by simp only []; omega, ((kill_fresh ht1 hfr).hset (m := n + 7) (by omega) (by omega)).hset (Nat.le_refl (n + 7)) (show 6 < n + 7 by omega), ?_, hget_hset_eq .., .inr (.inr ⟨n + 4, rfl, by omega, by rw [hget_hset_ne _ _ _ _ (by omega)]; exact hget_hset_eq ..⟩), (((ht2.kill ht1 (fun i q z => hdj i z q)).set (.inr (.inr (kill_none ht1 (fr1 hfr 4))))).set (.inl (by omega))), hdn, .inl rfl, by simp only [hps]; exact hes2⟩ (by simp only []; omega)
      · simp only [hps, hhs, List.map_append]; rfl
      · simp only []
        rw [hget_hset_ne _ _ _ _ (by omega), hget_hset_ne _ _ _ _ (by omega), kill_get ht1 (.inl (by omega))]; exact h0
    | false =>
      rw [hin2, if_neg (by decide)] at hps hhs
      have q1 : appOK H 1 t2 = True := eq_true ht2.app
      have q2 : ((posL holes k).length ≤ 35184372088831) = True := eq_true (by omega)
      have q3 : small ((posL holes k).length + 1) 8 = True := eq_true (small_of (by omega) (by decide))
      have kx : hget (killTok H t2) 6 = some (.box [.int .i64 sh, .int .i64 w, .int .i64 h, .sl t1 ((hosL holes k).map eI), .sl t2 ((posL holes k).map eI)]) := by rw [kill_get ht2 (.inl (by omega))]; exact h6
      simp only [eE, eC, eN, reduceCtorEq, Nat.reduceEqDiff, ↓reduceIte, Nat.reduceAdd, Nat.reduceLeDiff, Nat.reduceMul, Nat.reduceLT, Int.reduceEq, List.length_map, hwm, hm, lt_T hlt2, Tin_e, s2, dIs_ok, dIs_dec, dI_ok, dI_dec, eq_true hl, hin2, e, h6, q1, q2, q3, fr1 hfr, kx, y0]
      have hdn : ∀ i, ((t1 : Tok) = .own i 1) → (.own (n + 4) 1 : Tok) ≠ .own i 1 := fun i q z => by
        cases z
        rcases ht1 with h | h | ⟨id, h, -, h'⟩ <;> rw [h] at q <;> cases q
        rw [fr1 hfr 4] at h'; cases h'
      refine .mk ⟨k + 1, t1, .own (n + 4) 1, hset (hset (killTok H t2) (n + 4) .tok) 6 (.box [.int .i64 sh, .int .i64 w, .int .i64 h, .sl t1 ((hosL holes (k + 1)).map eI), .sl (.own (n + 4) 1) ((posL holes (k + 1)).map eI)]), n + 7⟩ ?_ ⟨hlt2, by simp only []; omega, ((kill_fresh ht2 hfr).hset (m := n + 7) (by omega) (by omega)).hset (Nat.le_refl (n + 7)) (show 6 < n + 7 by omega), ?_, hget_hset_eq .., (((ht1.kill ht2 (fun i q => hdj i q)).set (.inr (.inr (kill_none ht2 (fr1 hfr 4))))).set (.inl (by omega))), .inr (.inr ⟨n + 4, rfl, by omega, by rw [hget_hset_ne _ _ _ _ (by omega)]; exact hget_hset_eq ..⟩), hdn, by simp only [hhs]; exact hes1, .inl rfl⟩ (by simp only []; omega)
      · simp only [hps, hhs, List.map_append]; rfl
      · simp only []
        rw [hget_hset_ne _ _ _ _ (by omega), hget_hset_ne _ _ _ _ (by omega), kill_get ht2 (.inl (by omega))]; exact h0
  obtain rfl : k = m := by omega
  by_cases hp0 : posL holes k = []
  · have hM : makeV sh w h holes = .tup [encG 0 0 0 [] [], .int .i64 130] := by unfold makeV; rw [hC, if_neg (fun z => z hp0)]
    have hl0 : (((posL holes k).length : Int) = 0) = True := eq_true (by rw [hp0]; rfl)
    rw [hM]
    simp only [eE, eC, eN, Nat.reduceEqDiff, ↓reduceIte, Nat.reduceAdd, rcell, List.length_map, hwm, hm, lt_F hlt2, h6, h0, hl0]
    exact wk_G (Wk.sl (.inr rfl)) (Wk.sl (.inr rfl))
  · have hM : makeV sh w h holes = .tup [encG sh w h holes (posL holes k), .int .i64 0] := by unfold makeV; rw [hC, if_pos hp0]
    have hl0 : (((posL holes k).length : Int) = 0) = False := eq_false (fun q => hp0 (List.length_eq_zero_iff.1 (by omega)))
    rw [hM]
    simp only [eE, eC, eN, Nat.reduceEqDiff, ↓reduceIte, Nat.reduceAdd, rcell, List.length_map, hwm, hm, lt_F hlt2, h6, h0, hl0]
    rw [hHos] at hes1 ⊢
    exact wk_G (Wk.sl (hes1.imp id fun q => by rw [q]; rfl)) (Wk.sl (hes2.imp id fun q => by rw [q]; rfl))
end Go.AM
end
section
set_option maxRecDepth 20000
set_option linter.all false
namespace Go.AM
open Go.Proofs Go.Lib
def sMk : List AVal → AHeap → Prop × AVal := fun a H => match a with
  | [.int .i64 sh, .int .i64 w, .int .i64 h, x] => (dIs.ok x ∧ few (dIs.dec x), makeV sh w h (dIs.dec x))
  | _ => (False, .tup [])
theorem qMk : ∀ args H n, (sMk args H).1 → Quiet Tryz.prog 30 args H n (sMk args H).2 := by
  intro args H n hh
  unfold sMk at hh ⊢
  split at hh
  · obtain ⟨h1, h2⟩ := hh
    refine ACalls.args ((p30 _ _ _ _ h2).quiet H n) ?_
    rintro g vs ⟨v, r, rfl, k1, w, r', rfl, k2, u, r2, rfl, k3, z, r3, rfl, k4, k5⟩
    exact ⟨v, _, rfl, k1, w, _, rfl, k2, u, _, rfl, k3, z, _, rfl, dIs.wk _ h1 _ _ k4, k5⟩
  · exact hh.elim
def Tck : Tab := tadd 30 sMk (tadd 12 (s2 dIs dIs (fun a _ => few a) fun a b => .bool (decide (a = b))) tnil)
theorem Tck_ok : TabOK Tryz.prog Tck := (TabOK.tnil.add (q2 p12)).add qMk
theorem Tck_m (sh w h : Int) (x : AVal) (H : AHeap) : Tck 30 [.int .i64 sh, .int .i64 w, .int .i64 h, x] H = (dIs.ok x ∧ few (dIs.dec x), makeV sh w h (dIs.dec x)) := rfl
theorem Tck_s (a : List AVal) (H : AHeap) : Tck 12 a H = s2 dIs dIs (fun a _ => few a) (fun a b => .bool (decide (a = b))) a H := rfl
theorem p92 (g : Grd) (hh : few g.holes) : Pur Tryz.prog 92 [encGd g] (chkV g) := by
  refine .mk ⟨encG_under 0 .., trivial⟩ trivial (a92 (ev_awp Tck_ok (ev_evK ?_)))
  unfold chkV grOK
  cases hc : cellsG g.sh g.w g.h g.holes with
  | none =>
    have hv : makeV g.sh g.w g.h g.holes = .tup [encG 0 0 0 [] [], .int .i64 130] := by unfold makeV; rw [hc]
    simp only [eE, eC, eN, reduceCtorEq, Nat.reduceEqDiff, ↓reduceIte, Nat.reduceAdd, Nat.reduceLeDiff, Nat.reduceLT, Int.reduceEq, Bool.not_true, Bool.not_false, Option.getD_some, List.getElem?_cons_zero, List.getElem?_cons_succ, c92, Tck_m, dIs_ok, dIs_dec, eq_true hh, hv]
  | some c =>
    have hv : makeV g.sh g.w g.h g.holes = .tup [encG g.sh g.w g.h g.holes c, .int .i64 0] := by unfold makeV; rw [hc]
    have hfc : few c := show c.length < _ by have := (cells_rise hc).2.1; omega
    by_cases hcc : c = g.cells
    · have hR : decide (some c = some g.cells) = true := decide_eq_true (by rw [hcc])
      rw [hR]
      simp only [eE, eC, eN, reduceCtorEq, Nat.reduceEqDiff, ↓reduceIte, Nat.reduceAdd, Nat.reduceLeDiff, Nat.reduceLT, Bool.not_true, Option.getD_some, List.getElem?_cons_zero, List.getElem?_cons_succ, c92, Tck_m, Tck_s, s2, dIs_ok, dIs_dec, eq_true hh, hv, eq_true hfc, dec_T hcc]
    · have hR : decide (some c = some g.cells) = false := decide_eq_false (fun q => hcc (Option.some.inj q))
      rw [hR]
      simp only [eE, eC, eN, reduceCtorEq, Nat.reduceEqDiff, ↓reduceIte, Nat.reduceAdd, Nat.reduceLeDiff, Nat.reduceLT, Bool.not_true, Bool.not_false, Option.getD_some, List.getElem?_cons_zero, List.getElem?_cons_succ, c92, Tck_m, Tck_s, s2, dIs_ok, dIs_dec, eq_true hh, hv, eq_true hfc, dec_F hcc]
def atV (cells : List Int) (p : Int) : AVal := if cells.contains p = true then .tup [.int .i64 (lowB cells p), .bool true] else .tup [.int .i64 0, .bool false]
theorem p93 (g : Grd) (p : Int) (hf : few g.cells) (hs : List.Pairwise (fun x y => x < y) g.cells) : Pur Tryz.prog 93 [encGd g, .int .i64 p] (atV g.cells p) := by
  refine .mk ⟨encG_under 0 .., trivial, trivial⟩ (by unfold atV; split <;> exact ⟨trivial, trivial, trivial⟩) (a93 (ev_awp TabOK.tnil (ev_evK ?_)))
  have hll : g.cells.length < 1000000000 := hf
  simp only [eE, eN, reduceCtorEq, Nat.reduceEqDiff, ↓reduceIte, Nat.reduceAdd, c93]
  refine k_loop (fun i : Nat => ⟨[(1, true, .int .i64 p), (2, true, .ptr 0 0), (6, true, .int .i64 i)], hset hnil 0 (.box (cellsGr g.sh g.w g.h g.holes g.cells)), 3⟩) (fun i => i ≤ g.cells.length ∧ g.cells.contains p = (g.cells.drop i).contains p) (fun i => g.cells.length - i) 0 rfl ⟨Nat.zero_le _, rfl⟩ ?_
  rintro i ⟨hi, hc⟩
  by_cases hlt : i < g.cells.length
  · have hg := List.getElem?_eq_getElem hlt
    have e := w64_succ (k := i) (by omega)
    have hlow := low_at hs hlt
    rw [List.drop_eq_getElem_cons hlt, List.contains_cons] at hc
    generalize g.cells[i] = y at hg hc hlow
    by_cases hy : y = p
    · have hR : atV g.cells p = .tup [.int .i64 i, .bool true] := by unfold atV; rw [if_pos (by rw [hc, hy]; simp), ← hy, hlow]
      rw [hR]
      simp only [eE, eC, eN, Nat.reduceEqDiff, ↓reduceIte, Nat.reduceAdd, Option.getD_some, Int.toNat_natCast, Int.natCast_nonneg, List.length_map, List.getElem?_map, lt_T hlt, hg, dec_T hy]
      exact Wk.refl _
    · have hy' : (p == y) = false := beq_eq_false_iff_ne.2 fun q => hy q.symm
      rw [hy', Bool.false_or] at hc
      simp only [eE, eC, eN, Nat.reduceEqDiff, ↓reduceIte, Nat.reduceAdd, Int.reduceEq, Option.getD_some, Int.toNat_natCast, Int.natCast_nonneg, List.length_map, List.getElem?_map, lt_T hlt, hg, e, dec_F hy]
      exact .mk (i + 1) rfl ⟨hlt, hc⟩ (by omega)
  obtain rfl : i = g.cells.length := by omega
  rw [List.drop_length] at hc
  have hR : atV g.cells p = .tup [.int .i64 0, .bool false] := by unfold atV; rw [if_neg (by rw [hc]; simp)]
  rw [hR]
  simp only [eE, eC, eN, Nat.reduceEqDiff, ↓reduceIte, Nat.reduceAdd, List.length_map, lt_F hlt]
  exact Wk.refl _
def Trr : Tab := tadd 92 (s1 dGd (fun g => few g.holes) chkV) (tadd 93 (s2 dGd dI (fun g _ => few g.cells ∧ List.Pairwise (fun x y => x < y) g.cells) fun g p => atV g.cells p) Tin)
theorem Trr_ok : TabOK Tryz.prog Trr := (Tin_ok.add (q2 fun g p h => p93 g p h.1 h.2)).add (q1 p92)
theorem Trr_c (a : List AVal) (H : AHeap) : Trr 92 a H = s1 dGd (fun g => few g.holes) chkV a H := rfl
theorem Trr_a (a : List AVal) (H : AHeap) : Trr 93 a H = s2 dGd dI (fun g _ => few g.cells ∧ List.Pairwise (fun x y => x < y) g.cells) (fun g p => atV g.cells p) a H := rfl
theorem Trr_i (a : List AVal) (H : AHeap) : Trr 76 a H = s2 dIs dI (fun l _ => few l) (fun l x => .bool (l.contains x)) a H := rfl
structure IRj (g : Grd) (x : List Int) (H0 : AHeap) (n0 : Nat) (v : VRi) : Prop where
  hj : v.j ≤ x.length
  hn : n0 ≤ v.n
  fr : Fresh v.H v.n
  hk : ∀ id, id < n0 → hget v.H id = hget H0 id
  tok : tkG 1 n0 v.H v.tc
  es : v.tc.esz = 1 ∨ v.j = 0
  sub : ∀ q ∈ x.take v.j, q ∈ g.cells
  eq : metOK g.cells [] x = metOK g.cells (x.take v.j) (x.drop v.j)
theorem p77 (g : Grd) (lists : List (List Int)) (hG : cellsG g.sh g.w g.h g.holes = some g.cells) (hh : few g.holes) (hl : fewLl lists) : Pur Tryz.prog 77 [encGd g, eLl lists] (rgsV g.cells lists) := by
  refine .mk ⟨encG_under 0 .., eLl_under 0 _, trivial⟩ (by unfold rgsV; split <;> exact ⟨eLl_under 0 _, trivial, trivial⟩) (a77 (ev_awp Trr_ok (ev_evK ?_)))
  obtain ⟨hr1, hr2, hr3⟩ := cells_rise hG
  have hfc : few g.cells := show g.cells.length < _ by omega
  have hgo : grOK g.sh g.w g.h g.holes g.cells = true := by unfold grOK; rw [hG]; simp
  have hll : lists.length < 1000000000 := hl.1
  by_cases h64 : 64 < lists.length
  · have hv : rgsV g.cells lists = .tup [eLl [], .int .i64 130] := by unfold rgsV; rw [if_neg]; simp; omega
    have l64 : ((64 : Int) < (lists.length : Int)) = True := eq_true (by omega)
    rw [hv]
    simp only [eE, eC, eN, reduceCtorEq, Nat.reduceEqDiff, ↓reduceIte, Nat.reduceAdd, Bool.not_true, List.length_map, c77, Trr_c, s1, dG_ok, dG_dec, eq_true hh, hgo, l64]
    exact Wk.tup (.cons (Wk.sl (.inr rfl)) (.cons (Wk.refl _) .nil))
  have l64 : ((64 : Int) < (lists.length : Int)) = False := eq_false (by omega)
  simp only [eE, eC, eN, reduceCtorEq, Nat.reduceEqDiff, ↓reduceIte, Nat.reduceAdd, Bool.not_true, List.length_map, c77, Trr_c, s1, dG_ok, dG_dec, eq_true hh, hgo, l64]
  have hbad : lists.all (listOK g.cells) = false → rgsV g.cells lists = .tup [eLl [], .int .i64 130] := fun q => by unfold rgsV; rw [q, Bool.and_false, if_neg (by decide)]
  refine k_loop (fun v : VRg => ⟨[(1, true, eLl lists), (2, true, .ptr 0 0), (6, true, .sl v.tl v.E), (7, true, .int .i64 v.i)], v.H, v.n⟩) (IRg g lists) (fun v => lists.length - v.i)
    ⟨0, [], .nil, hset hnil 0 (.box (cellsGr g.sh g.w g.h g.holes g.cells)), 3⟩ rfl ⟨Nat.zero_le _, Nat.le_refl _, Fresh.nil.hset (m := 3) (Nat.zero_le 3) (show 0 < 3 by decide), rfl, .inl rfl, .inr rfl, .nil, rfl⟩ ?_
  rintro ⟨i, E, tl, H, n⟩ hI
  have hi := hI.hi
  have hn := hI.hn
  have hfr := hI.fr
  have h0 := hI.h0
  have htk := hI.tok
  have hes := hI.es
  have hE := hI.hE
  have heq := hI.eq
  simp only at hi hn hfr h0 htk hes hE heq
  by_cases hlt : i < lists.length
  case neg =>
    have hi' : i = lists.length := by omega
    subst hi'
    rw [List.drop_length] at heq
    rw [List.take_length] at hE
    have hv : rgsV g.cells lists = .tup [eLl (lists.map (cellL g.cells)), .int .i64 0] := by
      unfold rgsV; rw [heq, if_pos]; simp; omega
    rw [hv]
    simp only [eE, eC, eN, Nat.reduceEqDiff, ↓reduceIte, List.length_map, lt_F hlt]
    exact Wk.tup (.cons (Wk.slx hes hE) (.cons (Wk.refl _) .nil))
  have hg := List.getElem?_eq_getElem hlt
  have e := w64_succ (k := i) (by omega)
  have hxf := hl.2 _ (List.getElem_mem hlt)
  have hxe := map_take (f := cellL g.cells) hlt
  rw [List.drop_eq_getElem_cons hlt, List.all_cons] at heq
  generalize hx : lists[i] = x at hg hxf heq hxe
  have hxl : x.length < 1000000000 := hxf
  simp only [eE, eC, eN, Nat.reduceEqDiff, ↓reduceIte, List.length_map, lt_T hlt]
  refine k_loop (fun v : VRi => ⟨[(1, true, eLl lists), (2, true, .ptr 0 0), (6, true, .sl tl E), (7, true, .int .i64 i), (8, true, .sl v.tc ((cellL g.cells (x.take v.j)).map eI)), (9, true, .int .i64 v.j)], v.H, v.n⟩)
    (IRj g x H n) (fun v => x.length - v.j) ⟨0, .nil, H, n⟩ rfl ⟨Nat.zero_le _, Nat.le_refl _, hfr, fun id hid => rfl, .inl rfl, .inr rfl, fun q hq => by (simp at hq), rfl⟩ ?_
  rintro ⟨j, tc, H1, n1⟩ ⟨hj, hn1, hf1, hk, htc, hec, hsub, hme⟩
  simp only at hj hn1 hf1 hk htc hec hsub hme
  have h01 : hget H1 0 = some (.box (cellsGr g.sh g.w g.h g.holes g.cells)) := by rw [hk 0 (by omega)]; exact h0
  by_cases hlj : j < x.length
  · have hgj := List.getElem?_eq_getElem hlj
    have ej := w64_succ (k := j) (by omega)
    have htx := map_take (f := fun p => (lowB g.cells p : Int)) hlj
    have htk2 : x.take (j + 1) = x.take j ++ [x[j]] := by rw [List.take_add_one, hgj]; rfl
    rw [List.drop_eq_getElem_cons hlj, metOK] at hme
    have hlen : (cellL g.cells (x.take j)).length = j := by rw [cellL_len, List.length_take]; omega
    have hcf : few (cellL g.cells (x.take j)) := show (cellL g.cells (x.take j)).length < _ by omega
    generalize hp : x[j] = p at hgj htx htk2 hme
    have hno : (g.cells.contains p && !(x.take j).contains p) = false → rgsV g.cells lists = .tup [eLl [], .int .i64 130] := fun q => hbad (by
      rw [heq, list_met, hme, q]; simp)
    cases hin : g.cells.contains p with
    | false =>
      have hat : atV g.cells p = .tup [.int .i64 0, .bool false] := by unfold atV; rw [hin, if_neg (by decide)]
      rw [hno (by rw [hin]; rfl)]
      simp only [eE, eC, eN, reduceCtorEq, Nat.reduceEqDiff, ↓reduceIte, Nat.reduceAdd, Nat.reduceLT, Bool.not_true, Bool.not_false, Option.getD_some, Int.toNat_natCast, Int.natCast_nonneg, List.length_map, List.getElem?_map, List.getElem?_cons_zero, List.getElem?_cons_succ, lt_T hlt, hg, lt_T hlj, hgj, h01, Trr_a, s2, dG_ok, dG_dec, dI_ok, dI_dec, eq_true hfc, eq_true hr1, hat]
      exact Wk.tup (.cons (Wk.sl (.inr rfl)) (.cons (Wk.refl _) .nil))
    | true =>
      have hat : atV g.cells p = .tup [.int .i64 (lowB g.cells p), .bool true] := by unfold atV; rw [hin, if_pos rfl]
      have hpm : p ∈ g.cells := List.contains_iff_mem.1 hin
      have hcm := cell_has hr1 hsub hpm
      have htcok : dIs.ok (.sl tc ((cellL g.cells (x.take j)).map eI)) = True := eq_true ⟨hec.imp id fun q => by rw [q]; rfl, by rw [eI_map]⟩
      have htcdec : dIs.dec (.sl tc ((cellL g.cells (x.take j)).map eI)) = cellL g.cells (x.take j) := eI_map _
      cases hmt : (x.take j).contains p with
      | true =>
        rw [hno (by rw [hin, hmt]; rfl)]
        rw [hmt] at hcm
        simp only [eE, eC, eN, Nat.reduceEqDiff, ↓reduceIte, Nat.reduceAdd, Nat.reduceLT, Bool.not_true, Option.getD_some, Int.toNat_natCast, Int.natCast_nonneg, List.length_map, List.getElem?_map, List.getElem?_cons_zero, List.getElem?_cons_succ, lt_T hlt, hg, lt_T hlj, hgj, h01, Trr_a, Trr_i, s2, dG_ok, dG_dec, dI_ok, dI_dec, htcok, htcdec, eq_true hfc, eq_true hr1, eq_true hcf, hat, hcm]
        exact Wk.tup (.cons (Wk.sl (.inr rfl)) (.cons (Wk.refl _) .nil))
      | false =>
        rw [hmt] at hcm
        have q1 : appOK H1 1 tc = True := eq_true htc.app
        have q2 : (j ≤ 35184372088831) = True := eq_true (by omega)
        have q3 : small (j + 1) 8 = True := eq_true (small_of (by omega) (by decide))
        simp only [eE, eC, eN, reduceCtorEq, Nat.reduceEqDiff, ↓reduceIte, Nat.reduceAdd, Nat.reduceLeDiff, Nat.reduceMul, Nat.reduceLT, Int.reduceEq, Bool.not_true, Option.getD_some, Int.toNat_natCast, Int.natCast_nonneg, List.length_map, List.getElem?_map, List.getElem?_cons_zero, List.getElem?_cons_succ, lt_T hlt, hg, lt_T hlj, hgj, h01, Trr_a, Trr_i, s2, dG_ok, dG_dec, dI_ok, dI_dec, htcok, htcdec, eq_true hfc, eq_true hr1, eq_true hcf, hat, hcm, ej, q1, q2, q3, hlen, fr1 hf1]
        have hct : cellL g.cells (x.take (j + 1)) = cellL g.cells (x.take j) ++ [(lowB g.cells p : Int)] := htx
        refine .mk ⟨j + 1, .own (n1 + 3) 1, hset (killTok H1 tc) (n1 + 3) .tok, n1 + 5⟩ ?_ ⟨hlj, by simp only []; omega, (kill_fresh htc hf1).hset (m := n1 + 5) (by omega) (by omega), fun id hid => ?_, .inr (.inr ⟨n1 + 3, rfl, by omega, hget_hset_eq ..⟩), .inl rfl, fun q hq => ?_, ?_⟩ (by simp only []; omega)
        · rw [hct, List.map_append]; rfl
        · simp only []
          rw [hget_hset_ne _ _ _ _ (by omega), kill_get htc (.inl hid)]; exact hk id hid
        · simp only [htk2] at hq
          rcases List.mem_append.1 hq with q1 | q1
          · exact hsub q q1
          · rw [List.mem_singleton.1 q1]; exact hpm
        · simp only []
          rw [htk2, hme, hin, hmt]; rfl
  have hj' : j = x.length := by omega
  subst hj'
  rw [List.drop_length, List.take_length] at hme
  have hlx : (cellL g.cells (x.take x.length)).length = x.length := by rw [cellL_len, List.take_length]
  by_cases hx0 : x.length = 0
  · have hno : rgsV g.cells lists = .tup [eLl [], .int .i64 130] := hbad (by rw [heq, list_met, hx0]; simp)
    rw [hno]
    simp only [eE, eC, eN, Nat.reduceEqDiff, ↓reduceIte, Option.getD_some, Int.toNat_natCast, Int.natCast_nonneg, List.length_map, List.getElem?_map, lt_T hlt, hg, lt_F hlj, hlx, dec_T (show ((x.length : Nat) : Int) = 0 by omega)]
    exact Wk.tup (.cons (Wk.sl (.inr rfl)) (.cons (Wk.refl _) .nil))
  have hEl : E.length ≤ 64 := by
    have := hE.len
    simp only [List.length_map, List.length_take] at this
    omega
  have ht1 : tkG 1 1 H1 tl := by
    rcases htk with rfl | rfl | ⟨id, rfl, h1, h2⟩
    · exact .inl rfl
    · exact .inr (.inl rfl)
    · exact .inr (.inr ⟨id, rfl, h1, by rw [hk id (hfr.lt h2)]; exact h2⟩)
  have q1 : appOK H1 1 tl = True := eq_true ht1.app
  have q2 : (E.length ≤ 35184372088831) = True := eq_true (by omega)
  have q3 : small (E.length + 1) 24 = True := eq_true (small_of (by omega) (by decide))
  simp only [eE, eC, eN, reduceCtorEq, Nat.reduceEqDiff, ↓reduceIte, Nat.reduceLeDiff, Nat.reduceMul, Nat.reduceLT, Int.reduceEq, Option.getD_some, Int.toNat_natCast, Int.natCast_nonneg, List.length_map, List.getElem?_map, lt_T hlt, hg, lt_F hlj, hlx, dec_F (show ¬ ((x.length : Nat) : Int) = 0 by omega), e, q1, q2, q3, fr1 hf1]
  refine .mk ⟨i + 1, E ++ [.sl tc ((cellL g.cells x).map eI)], .own (n1 + 3) 1, hset (killTok H1 tl) (n1 + 3) .tok, n1 + 5⟩ ?_ ⟨hlt, by simp only []; omega, (kill_fresh ht1 hf1).hset (m := n1 + 5) (by omega) (by omega), ?_, .inr (.inr ⟨n1 + 3, rfl, by omega, hget_hset_eq ..⟩), .inl rfl, ?_, ?_⟩ (by simp only []; omega)
  · rw [List.take_length]
  · simp only []
    rw [hget_hset_ne _ _ _ _ (by omega), kill_get ht1 (.inl (by omega))]; exact h01
  · simp only []
    rw [hxe, List.map_append]
    exact hE.app (.cons (Wk.sl (hec.imp id fun q => by rw [List.length_eq_zero_iff.1 q]; rfl)) .nil)
  · simp only []
    have hok : listOK g.cells x = true := by rw [list_met, hme]; simp [metOK]; omega
    rw [heq, hok, Bool.true_and]
end Go.AM
end
section
set_option maxRecDepth 20000
set_option linter.all false
namespace Go.AM
open Go.Proofs Go.Lib
theorem all_drop {α : Type} {p : α → Bool} {l : List α} {i : Nat} (h : i < l.length) : (l.drop i).all p = (p l[i] && (l.drop (i + 1)).all p) := by
  rw [List.drop_eq_getElem_cons h, List.all_cons]
theorem p78 (a b : List Int) (ha : few a) (hb : few b) : Pur Tryz.prog 78 [eIs a, eIs b] (.bool (alikeL a b)) := by
  refine .mk ⟨eIs_under 0 _, eIs_under 0 _, trivial⟩ trivial (a78 (ev_awp Tin_ok (ev_evK ?_)))
  have hal : a.length < 1000000000 := ha
  have hbl : b.length < 1000000000 := hb
  simp only [eE, eN, reduceCtorEq, Nat.reduceEqDiff, ↓reduceIte, Nat.reduceAdd, c78]
  refine k_loop (fun i : Nat => ⟨[(0, true, eIs a), (1, true, eIs b), (5, true, .int .i64 i)], hnil, 0⟩) (fun i => i ≤ a.length ∧ (a.all fun x => b.contains x) = ((a.drop i).all fun x => b.contains x)) (fun i => a.length - i) 0 rfl ⟨Nat.zero_le _, rfl⟩ ?_
  rintro i ⟨hi, hc⟩
  by_cases hlt : i < a.length
  · have hg := List.getElem?_eq_getElem hlt
    have e := w64_succ (k := i) (by omega)
    rw [all_drop hlt] at hc
    generalize a[i] = x at hg hc
    cases hx : b.contains x with
    | false =>
      have hR : alikeL a b = false := by unfold alikeL; rw [hc, hx]; simp
      rw [hR]
      simp only [eE, eC, eN, reduceCtorEq, Nat.reduceEqDiff, ↓reduceIte, Bool.not_false, Option.getD_some, Int.toNat_natCast, Int.natCast_nonneg, List.length_map, List.getElem?_map, lt_T hlt, hg, Tin_e, s2, dIs_ok, dIs_dec, dI_ok, dI_dec, eq_true hb, hx]
    | true =>
      rw [hx, Bool.true_and] at hc
      simp only [eE, eC, eN, reduceCtorEq, Nat.reduceEqDiff, ↓reduceIte, Int.reduceEq, Bool.not_true, Option.getD_some, Int.toNat_natCast, Int.natCast_nonneg, List.length_map, List.getElem?_map, lt_T hlt, hg, e, Tin_e, s2, dIs_ok, dIs_dec, dI_ok, dI_dec, eq_true hb, hx]
      exact .mk (i + 1) rfl ⟨hlt, hc⟩ (by omega)
  obtain rfl : i = a.length := by omega
  rw [List.drop_length] at hc
  have hc : (a.all fun x => b.contains x) = true := hc
  simp only [eE, eC, eN, reduceCtorEq, Nat.reduceEqDiff, ↓reduceIte, List.length_map, lt_F hlt]
  refine k_loop (fun i : Nat => ⟨[(0, true, eIs a), (1, true, eIs b), (6, true, .int .i64 i)], hnil, 0⟩) (fun i => i ≤ b.length ∧ (b.all fun x => a.contains x) = ((b.drop i).all fun x => a.contains x)) (fun i => b.length - i) 0 rfl ⟨Nat.zero_le _, rfl⟩ ?_
  rintro i ⟨hi2, hc2⟩
  by_cases hlt2 : i < b.length
  · have hg := List.getElem?_eq_getElem hlt2
    have e := w64_succ (k := i) (by omega)
    rw [all_drop hlt2] at hc2
    generalize b[i] = x at hg hc2
    cases hx : a.contains x with
    | false =>
      have hR : alikeL a b = false := by unfold alikeL; rw [hc2, hx]; simp
      rw [hR]
      simp only [eE, eC, eN, reduceCtorEq, Nat.reduceEqDiff, ↓reduceIte, Bool.not_false, Option.getD_some, Int.toNat_natCast, Int.natCast_nonneg, List.length_map, List.getElem?_map, lt_T hlt2, hg, Tin_e, s2, dIs_ok, dIs_dec, dI_ok, dI_dec, eq_true ha, hx]
    | true =>
      rw [hx, Bool.true_and] at hc2
      simp only [eE, eC, eN, reduceCtorEq, Nat.reduceEqDiff, ↓reduceIte, Int.reduceEq, Bool.not_true, Option.getD_some, Int.toNat_natCast, Int.natCast_nonneg, List.length_map, List.getElem?_map, lt_T hlt2, hg, e, Tin_e, s2, dIs_ok, dIs_dec, dI_ok, dI_dec, eq_true ha, hx]
      exact .mk (i + 1) rfl ⟨hlt2, hc2⟩ (by omega)
  obtain rfl : i = b.length := by omega
  rw [List.drop_length] at hc2
  have hc2 : (b.all fun x => a.contains x) = true := hc2
  have hR : alikeL a b = true := by unfold alikeL; rw [hc, hc2]; rfl
  rw [hR]
  simp only [eE, eC, eN, reduceCtorEq, Nat.reduceEqDiff, ↓reduceIte, List.length_map, lt_F hlt2]
def Tzr : Tab := tadd 77 (s2 dGd dLl (fun g l => cellsG g.sh g.w g.h g.holes = some g.cells ∧ few g.holes ∧ fewLl l) fun g l => rgsV g.cells l) (tadd 78 (s2 dIs dIs (fun a b => few a ∧ few b) fun a b => .bool (alikeL a b)) tnil)
theorem Tzr_ok : TabOK Tryz.prog Tzr := (TabOK.tnil.add (q2 fun a b h => p78 a b h.1 h.2)).add (q2 fun g l h => p77 g l h.1 h.2.1 h.2.2)
theorem Tzr_g (a : List AVal) (H : AHeap) : Tzr 77 a H = s2 dGd dLl (fun g l => cellsG g.sh g.w g.h g.holes = some g.cells ∧ few g.holes ∧ fewLl l) (fun g l => rgsV g.cells l) a H := rfl
theorem Tzr_a (a : List AVal) (H : AHeap) : Tzr 78 a H = s2 dIs dIs (fun a b => few a ∧ few b) (fun a b => .bool (alikeL a b)) a H := rfl
theorem p31 (d : Dcl) (g : Grd) (hd : FewD d) (hG : cellsG g.sh g.w g.h g.holes = some g.cells) (hh : few g.holes) : Pur Tryz.prog 31 [encD d, encGd g] (.int .i64 (regsE g.cells d.regs)) := by
  refine .mk ⟨encD_under 0 d, encG_under 0 .., trivial⟩ trivial (a31 (ev_awp Tzr_ok (ev_evK ?_)))
  have hrl : d.regs.length < 1000000000 := hd.rg
  simp only [eE, eN, reduceCtorEq, Nat.reduceEqDiff, ↓reduceIte, Nat.reduceAdd, c31]
  refine k_loop (fun i : Nat => ⟨[(2, true, .ptr 0 0), (3, true, .ptr 1 0), (5, true, .int .i64 i)], hset (hset hnil 0 (.box (cellsD d))) 1 (.box (cellsGr g.sh g.w g.h g.holes g.cells)), 3⟩) (fun i => i ≤ d.regs.length ∧ regsE g.cells d.regs = regsE g.cells (d.regs.drop i)) (fun i => d.regs.length - i)
    0 rfl ⟨Nat.zero_le _, rfl⟩ ?_
  rintro i ⟨hi, heq⟩
  by_cases hlt : i < d.regs.length
  case neg =>
    obtain rfl : i = d.regs.length := by omega
    rw [List.drop_length] at heq
    rw [heq]
    simp only [eE, eC, eN, reduceCtorEq, Nat.reduceEqDiff, ↓reduceIte, Nat.reduceAdd, Nat.reduceLeDiff, List.length_map, lt_F hlt]
    rfl
  have hg := List.getElem?_eq_getElem hlt
  have e := w64_succ (k := i) (by omega)
  have hrf : fewRg d.regs[i] := hd.rgs _ (List.getElem_mem hlt)
  rw [regs_drop _ _ _ hlt] at heq
  generalize d.regs[i] = r at hg hrf heq
  have hc := eq_true (⟨hG, hh, hrf⟩ : cellsG g.sh g.w g.h g.holes = some g.cells ∧ few g.holes ∧ fewLl r.ls)
  by_cases hb : (decide (r.ls.length ≤ 64) && r.ls.all (listOK g.cells)) = true
  case neg =>
    have hv : rgsV g.cells r.ls = .tup [eLl [], .int .i64 130] := if_neg hb
    have hE : regE g.cells r = 130 := if_pos (by simpa using hb)
    rw [hE, if_neg (by decide)] at heq
    rw [heq]
    simp only [eE, eC, eN, reduceCtorEq, Nat.reduceEqDiff, ↓reduceIte, Nat.reduceAdd, Nat.reduceLeDiff, Nat.reduceLT, Int.reduceEq, Bool.not_false, Option.getD_some, Int.toNat_natCast, Int.natCast_nonneg, List.length_map, List.getElem?_map, List.getElem?_cons_zero, List.getElem?_cons_succ, lt_T hlt, hg, Tzr_g, s2, dG_ok, dG_dec, dLl_ok, dLl_dec, hc, hv]
  have hv : rgsV g.cells r.ls = .tup [eLl (r.ls.map (cellL g.cells)), .int .i64 0] := if_pos hb
  have hregE : regE g.cells r = if pairTwice r.ls = true then 161 else 0 := by unfold regE; rw [hb, if_neg (by decide)]
  have hll : r.ls.length < 1000000000 := hrf.1
  simp only [eE, eC, eN, reduceCtorEq, Nat.reduceEqDiff, ↓reduceIte, Nat.reduceAdd, Nat.reduceLeDiff, Nat.reduceLT, Bool.not_true, Option.getD_some, Int.toNat_natCast, Int.natCast_nonneg, List.length_map, List.getElem?_map, List.getElem?_cons_zero, List.getElem?_cons_succ, lt_T hlt, hg, Tzr_g, s2, dG_ok, dG_dec, dLl_ok, dLl_dec, hc, hv]
  refine k_loop (fun a : Nat => ⟨[(2, true, .ptr 0 0), (3, true, .ptr 1 0), (5, true, .int .i64 i), (6, true, eLl r.ls), (9, true, .int .i64 a)], hset (hset hnil 0 (.box (cellsD d))) 1 (.box (cellsGr g.sh g.w g.h g.holes g.cells)), 3⟩) (fun a => a ≤ r.ls.length ∧ ∀ x y (hx : x < r.ls.length) (hy : y < r.ls.length), x < a → y < x → alikeL r.ls[x] r.ls[y] = false) (fun a => r.ls.length - a)
    0 rfl ⟨Nat.zero_le _, fun x y _ _ q => absurd q (Nat.not_lt_zero _)⟩ ?_
  rintro a ⟨ha, hno⟩
  by_cases hla : a < r.ls.length
  · have hga := List.getElem?_eq_getElem hla
    have ea := w64_succ (k := a) (by omega)
    have hfa := hrf.2 _ (List.getElem_mem hla)
    simp only [eE, eC, eN, Nat.reduceEqDiff, ↓reduceIte, List.length_map, lt_T hla]
    refine k_loop (fun b : Nat => ⟨[(2, true, .ptr 0 0), (3, true, .ptr 1 0), (5, true, .int .i64 i), (6, true, eLl r.ls), (9, true, .int .i64 a), (10, true, .int .i64 b)], hset (hset hnil 0 (.box (cellsD d))) 1 (.box (cellsGr g.sh g.w g.h g.holes g.cells)), 3⟩) (fun b => b ≤ a ∧ ∀ y (hy : y < r.ls.length), y < b → alikeL r.ls[a] r.ls[y] = false) (fun b => a - b)
      0 rfl ⟨Nat.zero_le _, fun y _ q => absurd q (Nat.not_lt_zero _)⟩ ?_
    rintro b ⟨hb2, hnb⟩
    by_cases hlb : b < a
    · have hbl : b < r.ls.length := by omega
      have hgb := List.getElem?_eq_getElem hbl
      have eb := w64_succ (k := b) (by omega)
      have hfb := hrf.2 _ (List.getElem_mem hbl)
      cases hal : alikeL r.ls[a] r.ls[b] with
      | true =>
        rw [hregE, if_pos (pair_iff.2 ⟨a, b, hla, hbl, hlb, hal⟩), if_neg (by decide)] at heq
        rw [heq]
        generalize r.ls[a] = la at hga hfa hal
        generalize r.ls[b] = lb at hgb hfb hal
        simp only [eE, eC, eN, Nat.reduceEqDiff, ↓reduceIte, Option.getD_some, Int.toNat_natCast, Int.natCast_nonneg, List.length_map, List.getElem?_map, lt_T hlb, lt_T hla, lt_T hbl, hga, hgb, Tzr_a, s2, dIs_ok, dIs_dec, eq_true hfa, eq_true hfb, hal]
      | false =>
        have hnx : ∀ y (hy : y < r.ls.length), y < b + 1 → alikeL r.ls[a] r.ls[y] = false := fun y hy q => by
          by_cases z : y = b
          · subst z; exact hal
          · exact hnb y hy (by omega)
        generalize hA : r.ls[a] = la at hga hfa hal
        generalize hB : r.ls[b] = lb at hgb hfb hal
        simp only [eE, eC, eN, Nat.reduceEqDiff, ↓reduceIte, Int.reduceEq, Option.getD_some, Int.toNat_natCast, Int.natCast_nonneg, List.length_map, List.getElem?_map, lt_T hlb, lt_T hla, lt_T hbl, hga, hgb, Tzr_a, s2, dIs_ok, dIs_dec, eq_true hfa, eq_true hfb, hal, eb]
        exact .mk (b + 1) rfl ⟨hlb, fun y hy q => by rw [← hA]; exact hnx y hy q⟩ (by omega)
    obtain rfl : b = a := by omega
    simp only [eE, eC, eN, Nat.reduceEqDiff, ↓reduceIte, Int.reduceEq, lt_F hlb, ea]
    refine .mk (b + 1) rfl ⟨hla, fun x y hx hy q1 q2 => ?_⟩ (by omega)
    by_cases z : x = b
    · subst z; exact hnb y hy q2
    · exact hno x y hx hy (by omega) q2
  obtain rfl : a = r.ls.length := by omega
  have hpt : pairTwice r.ls = false := by
    cases q : pairTwice r.ls with
    | false => rfl
    | true =>
      obtain ⟨x, y, hx, hy, hxy, h2⟩ := pair_iff.1 q
      rw [hno x y hx hy hx hxy] at h2; cases h2
  have hE0 : regE g.cells r = 0 := by rw [hregE, hpt]; rfl
  rw [hE0, if_pos rfl] at heq
  simp only [eE, eC, eN, Nat.reduceEqDiff, ↓reduceIte, Int.reduceEq, List.length_map, lt_F hla, e]
  exact .mk (i + 1) rfl ⟨hlt, heq⟩ (by omega)
end Go.AM
end
section
set_option maxRecDepth 20000
set_option linter.all false
namespace Go.AM
open Go.Proofs Go.Lib
theorem p80 (c : DClu) : Pur Tryz.prog 80 [encCl c] (.bool (cluOK c)) := by
  refine .mk ⟨encCl_under 0 c, trivial⟩ trivial (a80 (ev_awp TabOK.tnil (ev_evK ?_)))
  unfold cluOK
  by_cases h1 : c.ty = 1
  · simp only [eE, eC, eN, Nat.reduceEqDiff, ↓reduceIte, Nat.reduceAdd, Nat.reduceLeDiff, c80, h1]
  by_cases h2 : c.ty = 2
  · simp only [eE, eC, eN, Nat.reduceEqDiff, ↓reduceIte, Nat.reduceAdd, Nat.reduceLeDiff, Int.reduceEq, c80, h2]
  by_cases h3 : c.ty = 3
  · simp only [eE, eC, eN, Nat.reduceEqDiff, ↓reduceIte, Nat.reduceAdd, Nat.reduceLeDiff, Int.reduceEq, c80, h3]
    rw [show (decide (1 ≤ c.fam) && decide (c.fam ≤ 3) || decide (8 ≤ c.fam)) = (decide (c.fam = 1) || decide (c.fam = 2) || decide (c.fam = 3) || decide (8 ≤ c.fam)) by
      rw [Bool.eq_iff_iff]; simp; omega]
  simp only [eE, eC, eN, Nat.reduceEqDiff, ↓reduceIte, Nat.reduceAdd, Nat.reduceLeDiff, c80, h1, h2, h3]
theorem p95 (d : Dcl) (r : DRul) (w : Int) (on : Bool) : Pur Tryz.prog 95 [encD d, encRu r, .int .i64 w, .bool on] (.bool (clueR d.clus r w on)) := by
  refine .mk ⟨encD_under 0 d, encRu_under 0 r, trivial, trivial, trivial⟩ trivial (a95 (ev_awp TabOK.tnil (ev_evK ?_)))
  by_cases hc : r.clue < 0 ∨ (d.clus.length : Int) ≤ r.clue
  · have hcb : (decide (r.clue < 0) || decide ((d.clus.length : Int) ≤ r.clue)) = true := by simpa using hc
    have hP : clueR d.clus r w on = false := by unfold clueR; rw [if_pos hc]
    rw [hP]
    simp only [eE, eC, eN, reduceCtorEq, Nat.reduceEqDiff, ↓reduceIte, Nat.reduceAdd, Nat.reduceLeDiff, List.length_map, c95, hcb]
  · have hcb : (decide (r.clue < 0) || decide ((d.clus.length : Int) ≤ r.clue)) = false := by simp; omega
    obtain ⟨j, hj⟩ : ∃ j : Nat, r.clue = (j : Int) := ⟨r.clue.toNat, by omega⟩
    have hjl : j < d.clus.length := by omega
    have hg := List.getElem?_eq_getElem hjl
    generalize d.clus[j] = c at hg
    have hP : clueR d.clus r w on = (decide (c.ty = w) && (!on || decide (c.fam = r.fam))) := by
      unfold clueR; (rw [if_neg hc, hj, Int.toNat_natCast, hg]) <;> rfl
    rw [hP]
    rw [hj] at hcb
    cases on
    · simp only [eE, eC, eN, reduceCtorEq, Nat.reduceEqDiff, ↓reduceIte, Nat.reduceAdd, Nat.reduceLeDiff, Bool.not_true, Bool.not_false, Option.getD_some, Int.toNat_natCast, Int.natCast_nonneg, List.length_map, List.getElem?_map, c95, hj, hcb, lt_T hjl, hg]
    · simp only [eE, eC, eN, reduceCtorEq, Nat.reduceEqDiff, ↓reduceIte, Nat.reduceAdd, Nat.reduceLeDiff, Bool.not_true, Option.getD_some, Int.toNat_natCast, Int.natCast_nonneg, List.length_map, List.getElem?_map, c95, hj, hcb, lt_T hjl, hg]
def sCl : List AVal → AHeap → Prop × AVal := fun a H => match a with
  | [x, y, .int .i64 w, .bool on] => (dD.ok x ∧ dRu.ok y, .bool (clueR (dD.dec x).clus (dRu.dec y) w on))
  | _ => (False, .tup [])
theorem qCl : ∀ args H n, (sCl args H).1 → Quiet Tryz.prog 95 args H n (sCl args H).2 := by
  intro args H n hh
  unfold sCl at hh ⊢
  split at hh
  · obtain ⟨h1, h2⟩ := hh
    refine ACalls.args ((p95 _ _ _ _).quiet H n) ?_
    rintro g vs ⟨v, r, rfl, k1, w, r', rfl, k2, k3⟩
    exact ⟨v, _, rfl, dD.wk _ h1 _ _ k1, w, _, rfl, dRu.wk _ h2 _ _ k2, k3⟩
  · exact hh.elim
def Tzc : Tab := tadd 95 sCl tnil
theorem Tzc_ok : TabOK Tryz.prog Tzc := TabOK.tnil.add qCl
theorem Tzc_e (x y : AVal) (w : Int) (on : Bool) (H : AHeap) : Tzc 95 [x, y, .int .i64 w, .bool on] H = (dD.ok x ∧ dRu.ok y, .bool (clueR (dD.dec x).clus (dRu.dec y) w on)) := rfl
theorem p94 (d : Dcl) (r : DRul) : Pur Tryz.prog 94 [encD d, encRu r] (.bool (boundR d.clus r)) := by
  refine .mk ⟨encD_under 0 d, encRu_under 0 r, trivial⟩ trivial (a94 (ev_awp Tzc_ok (ev_evK ?_)))
  unfold boundR
  by_cases ho : r.op < 1 ∨ 3 < r.op
  · have hb : (decide (r.op < 1) || decide (3 < r.op)) = true := by simpa using ho
    rw [if_pos ho]
    simp only [eE, eC, eN, reduceCtorEq, Nat.reduceEqDiff, ↓reduceIte, Nat.reduceAdd, Nat.reduceLeDiff, c94, hb]
  have hb : (decide (r.op < 1) || decide (3 < r.op)) = false := by simp; omega
  rw [if_neg ho]
  by_cases hn : r.byN = []
  · rw [if_pos hn]
    simp only [eE, eC, eN, reduceCtorEq, Nat.reduceEqDiff, ↓reduceIte, Nat.reduceAdd, Nat.reduceLeDiff, c94, hb, scmp_eq, dec_T hn]
  · rw [if_neg hn]
    simp only [eE, eC, eN, reduceCtorEq, Nat.reduceEqDiff, ↓reduceIte, Nat.reduceAdd, Nat.reduceLeDiff, c94, hb, scmp_eq, dec_F hn, Tzc_e, dD_ok, dD_dec, dRu_ok, dRu_dec]
def sndA : ACode → ACode
  | .seq _ b => b
  | c => c
def sndN : Nat → ACode → ACode
  | 0, c => c
  | k + 1, c => sndN k (sndA c)
def putN : Nat → ACode → ACode → ACode
  | 0, _, R => R
  | k + 1, .seq a b, R => .seq a (putN k b R)
  | _ + 1, c, _ => c
def Tru : Tab := tadd 94 (s2 dD dRu any2 fun d r => .bool (boundR d.clus r)) Tzc
theorem Tru_ok : TabOK Tryz.prog Tru := Tzc_ok.add (q2 fun d r _ => p94 d r)
theorem Tru_b (a : List AVal) (H : AHeap) : Tru 94 a H = s2 dD dRu any2 (fun d r => .bool (boundR d.clus r)) a H := rfl
theorem Tru_c (x y : AVal) (w : Int) (on : Bool) (H : AHeap) : Tru 95 [x, y, .int .i64 w, .bool on] H = (dD.ok x ∧ dRu.ok y, .bool (clueR (dD.dec x).clus (dRu.dec y) w on)) := rfl
def rstR (cl : List DClu) (r : DRul) (on set oth num by' lim : Bool) : Bool :=
  if (!on && (decide (r.on ≠ []) || decide (r.fam ≠ 0))) || (!set && (decide (0 < r.ns.length) || decide (r.set ≠ 0))) || (!oth && (decide (0 < r.os.length) || decide (r.oth ≠ 0))) then false
  else if (on && decide (r.on = [])) || (set && decide (r.set = 0)) || (oth && decide (r.oth = 0)) then false
  else if !lim && (decide (r.op ≠ 0) || (!num && decide (r.n ≠ 0)) || (!by' && (decide (r.byN ≠ []) || decide (r.clue ≠ -1)))) then false
  else if (lim && !boundR cl r) || (num && (decide (r.n < 0) || decide (65536 < r.n))) then false
  else if r.kind = 5 then clueR cl r 3 true
  else if r.kind = 11 then clueR cl r 1 false else true
theorem rule_put : c79 = putN 8 c79 (sndN 8 c79) := rfl
theorem rr1 (d : Dcl) (r : DRul) (on set oth num by' lim : Bool) (X : List (Nat × Bool × AVal)) (hA1 : (!on && (!decide (r.on = []) || !decide (r.fam = 0)) || !set && (decide (0 < r.ns.length) || !decide (r.set = 0)) || !oth && (decide (0 < r.os.length) || !decide (r.oth = 0))) = true) : evK Tryz.prog Tru (sndN 8 c79) [] (postC [.t 4] (Ret (.bool (false))))
    ⟨(2, true, .ptr 0 0) :: (3, true, .ptr 1 0) :: (5, true, .bool on) :: (6, true, .bool set) :: (7, true, .bool oth) :: (8, true, .bool num) :: (9, true, .bool by') :: (10, true, .bool lim) :: X, hset (hset hnil 0 (.box (cellsD d))) 1 (.box (cellsRu r)), 3⟩ := by
  have e1 : ∀ (l : List Bs), decide ((0 : Int) < (l.length : Int)) = decide (0 < l.length) := fun l => by
    rw [Bool.eq_iff_iff, decide_eq_true_eq, decide_eq_true_eq]; omega
  simp only [eE, eC, eN, Nat.reduceEqDiff, ↓reduceIte, Nat.reduceAdd, Nat.reduceLeDiff, List.length_map, c79, sndN, sndA, scmp_ne, e1, hA1]
theorem rr2 (d : Dcl) (r : DRul) (on set oth num by' lim : Bool) (X : List (Nat × Bool × AVal)) (hA1 : (!on && (!decide (r.on = []) || !decide (r.fam = 0)) || !set && (decide (0 < r.ns.length) || !decide (r.set = 0)) || !oth && (decide (0 < r.os.length) || !decide (r.oth = 0))) = false) (hA2 : (on && decide (r.on = []) || set && decide (r.set = 0) || oth && decide (r.oth = 0)) = true) : evK Tryz.prog Tru (sndN 8 c79) [] (postC [.t 4] (Ret (.bool (false))))
    ⟨(2, true, .ptr 0 0) :: (3, true, .ptr 1 0) :: (5, true, .bool on) :: (6, true, .bool set) :: (7, true, .bool oth) :: (8, true, .bool num) :: (9, true, .bool by') :: (10, true, .bool lim) :: X, hset (hset hnil 0 (.box (cellsD d))) 1 (.box (cellsRu r)), 3⟩ := by
  have e1 : ∀ (l : List Bs), decide ((0 : Int) < (l.length : Int)) = decide (0 < l.length) := fun l => by
    rw [Bool.eq_iff_iff, decide_eq_true_eq, decide_eq_true_eq]; omega
  simp only [eE, eC, eN, Nat.reduceEqDiff, ↓reduceIte, Nat.reduceAdd, Nat.reduceLeDiff, List.length_map, c79, sndN, sndA, scmp_ne, scmp_eq, e1, hA1, hA2]
theorem rr3 (d : Dcl) (r : DRul) (on set oth num by' : Bool) (X : List (Nat × Bool × AVal)) (hA1 : (!on && (!decide (r.on = []) || !decide (r.fam = 0)) || !set && (decide (0 < r.ns.length) || !decide (r.set = 0)) || !oth && (decide (0 < r.os.length) || !decide (r.oth = 0))) = false) (hA2 : (on && decide (r.on = []) || set && decide (r.set = 0) || oth && decide (r.oth = 0)) = false) (hA3 : (!decide (r.op = 0) || !num && !decide (r.n = 0) || !by' && (!decide (r.byN = []) || !decide (r.clue = -1))) = true) : evK Tryz.prog Tru (sndN 8 c79) [] (postC [.t 4] (Ret (.bool (false))))
    ⟨(2, true, .ptr 0 0) :: (3, true, .ptr 1 0) :: (5, true, .bool on) :: (6, true, .bool set) :: (7, true, .bool oth) :: (8, true, .bool num) :: (9, true, .bool by') :: (10, true, .bool false) :: X, hset (hset hnil 0 (.box (cellsD d))) 1 (.box (cellsRu r)), 3⟩ := by
  have e1 : ∀ (l : List Bs), decide ((0 : Int) < (l.length : Int)) = decide (0 < l.length) := fun l => by
    rw [Bool.eq_iff_iff, decide_eq_true_eq, decide_eq_true_eq]; omega
  simp only [eE, eC, eN, reduceCtorEq, Nat.reduceEqDiff, ↓reduceIte, Nat.reduceAdd, Nat.reduceLeDiff, Bool.not_false, List.length_map, c79, sndN, sndA, scmp_ne, scmp_eq, e1, hA1, hA2, hA3]
theorem rr4a (d : Dcl) (r : DRul) (on set oth num by' : Bool) (X : List (Nat × Bool × AVal)) (hA1 : (!on && (!decide (r.on = []) || !decide (r.fam = 0)) || !set && (decide (0 < r.ns.length) || !decide (r.set = 0)) || !oth && (decide (0 < r.os.length) || !decide (r.oth = 0))) = false) (hA2 : (on && decide (r.on = []) || set && decide (r.set = 0) || oth && decide (r.oth = 0)) = false) (hb : (!boundR d.clus r || num && (decide (r.n < 0) || decide (65536 < r.n))) = true) : evK Tryz.prog Tru (sndN 8 c79) [] (postC [.t 4] (Ret (.bool (false))))
    ⟨(2, true, .ptr 0 0) :: (3, true, .ptr 1 0) :: (5, true, .bool on) :: (6, true, .bool set) :: (7, true, .bool oth) :: (8, true, .bool num) :: (9, true, .bool by') :: (10, true, .bool true) :: X, hset (hset hnil 0 (.box (cellsD d))) 1 (.box (cellsRu r)), 3⟩ := by
  have e1 : ∀ (l : List Bs), decide ((0 : Int) < (l.length : Int)) = decide (0 < l.length) := fun l => by
    rw [Bool.eq_iff_iff, decide_eq_true_eq, decide_eq_true_eq]; omega
  simp only [eE, eC, eN, reduceCtorEq, Nat.reduceEqDiff, ↓reduceIte, Nat.reduceAdd, Nat.reduceLeDiff, Bool.not_true, List.length_map, c79, sndN, sndA, scmp_ne, scmp_eq, e1, hA1, hA2, Tru_b, s2, dD_ok, dD_dec, dRu_ok, dRu_dec, hb]
theorem rr4b (d : Dcl) (r : DRul) (on set oth num by' : Bool) (X : List (Nat × Bool × AVal)) (hA1 : (!on && (!decide (r.on = []) || !decide (r.fam = 0)) || !set && (decide (0 < r.ns.length) || !decide (r.set = 0)) || !oth && (decide (0 < r.os.length) || !decide (r.oth = 0))) = false) (hA2 : (on && decide (r.on = []) || set && decide (r.set = 0) || oth && decide (r.oth = 0)) = false) (hb : (!boundR d.clus r || num && (decide (r.n < 0) || decide (65536 < r.n))) = false) (h5 : r.kind = 5) : evK Tryz.prog Tru (sndN 8 c79) [] (postC [.t 4] (Ret (.bool (clueR d.clus r 3 true))))
    ⟨(2, true, .ptr 0 0) :: (3, true, .ptr 1 0) :: (5, true, .bool on) :: (6, true, .bool set) :: (7, true, .bool oth) :: (8, true, .bool num) :: (9, true, .bool by') :: (10, true, .bool true) :: X, hset (hset hnil 0 (.box (cellsD d))) 1 (.box (cellsRu r)), 3⟩ := by
  have e1 : ∀ (l : List Bs), decide ((0 : Int) < (l.length : Int)) = decide (0 < l.length) := fun l => by
    rw [Bool.eq_iff_iff, decide_eq_true_eq, decide_eq_true_eq]; omega
  simp only [eE, eC, eN, reduceCtorEq, Nat.reduceEqDiff, ↓reduceIte, Nat.reduceAdd, Nat.reduceLeDiff, Bool.not_true, List.length_map, c79, sndN, sndA, scmp_ne, scmp_eq, e1, hA1, hA2, Tru_b, Tru_c, s2, dD_ok, dD_dec, dRu_ok, dRu_dec, hb, dec_T h5]
theorem rr4c (d : Dcl) (r : DRul) (on set oth num by' : Bool) (X : List (Nat × Bool × AVal)) (hA1 : (!on && (!decide (r.on = []) || !decide (r.fam = 0)) || !set && (decide (0 < r.ns.length) || !decide (r.set = 0)) || !oth && (decide (0 < r.os.length) || !decide (r.oth = 0))) = false) (hA2 : (on && decide (r.on = []) || set && decide (r.set = 0) || oth && decide (r.oth = 0)) = false) (hb : (!boundR d.clus r || num && (decide (r.n < 0) || decide (65536 < r.n))) = false) (h5 : ¬ r.kind = 5) (h11 : r.kind = 11) : evK Tryz.prog Tru (sndN 8 c79) [] (postC [.t 4] (Ret (.bool (clueR d.clus r 1 false))))
    ⟨(2, true, .ptr 0 0) :: (3, true, .ptr 1 0) :: (5, true, .bool on) :: (6, true, .bool set) :: (7, true, .bool oth) :: (8, true, .bool num) :: (9, true, .bool by') :: (10, true, .bool true) :: X, hset (hset hnil 0 (.box (cellsD d))) 1 (.box (cellsRu r)), 3⟩ := by
  have e1 : ∀ (l : List Bs), decide ((0 : Int) < (l.length : Int)) = decide (0 < l.length) := fun l => by
    rw [Bool.eq_iff_iff, decide_eq_true_eq, decide_eq_true_eq]; omega
  simp only [eE, eC, eN, reduceCtorEq, Nat.reduceEqDiff, ↓reduceIte, Nat.reduceAdd, Nat.reduceLeDiff, Bool.not_true, List.length_map, c79, sndN, sndA, scmp_ne, scmp_eq, e1, hA1, hA2, Tru_b, Tru_c, s2, dD_ok, dD_dec, dRu_ok, dRu_dec, hb, dec_F h5, eq_true h11]
theorem rr4d (d : Dcl) (r : DRul) (on set oth num by' : Bool) (X : List (Nat × Bool × AVal)) (hA1 : (!on && (!decide (r.on = []) || !decide (r.fam = 0)) || !set && (decide (0 < r.ns.length) || !decide (r.set = 0)) || !oth && (decide (0 < r.os.length) || !decide (r.oth = 0))) = false) (hA2 : (on && decide (r.on = []) || set && decide (r.set = 0) || oth && decide (r.oth = 0)) = false) (hb : (!boundR d.clus r || num && (decide (r.n < 0) || decide (65536 < r.n))) = false) (h5 : ¬ r.kind = 5) (h11 : ¬ r.kind = 11) : evK Tryz.prog Tru (sndN 8 c79) [] (postC [.t 4] (Ret (.bool (true))))
    ⟨(2, true, .ptr 0 0) :: (3, true, .ptr 1 0) :: (5, true, .bool on) :: (6, true, .bool set) :: (7, true, .bool oth) :: (8, true, .bool num) :: (9, true, .bool by') :: (10, true, .bool true) :: X, hset (hset hnil 0 (.box (cellsD d))) 1 (.box (cellsRu r)), 3⟩ := by
  have e1 : ∀ (l : List Bs), decide ((0 : Int) < (l.length : Int)) = decide (0 < l.length) := fun l => by
    rw [Bool.eq_iff_iff, decide_eq_true_eq, decide_eq_true_eq]; omega
  simp only [eE, eC, eN, reduceCtorEq, Nat.reduceEqDiff, ↓reduceIte, Nat.reduceAdd, Nat.reduceLeDiff, Bool.not_true, Bool.not_false, List.length_map, c79, sndN, sndA, scmp_ne, scmp_eq, e1, hA1, hA2, Tru_b, Tru_c, s2, dD_ok, dD_dec, dRu_ok, dRu_dec, hb, dec_F h5, eq_false h11]
theorem rr5a (d : Dcl) (r : DRul) (on set oth num by' : Bool) (X : List (Nat × Bool × AVal)) (hA1 : (!on && (!decide (r.on = []) || !decide (r.fam = 0)) || !set && (decide (0 < r.ns.length) || !decide (r.set = 0)) || !oth && (decide (0 < r.os.length) || !decide (r.oth = 0))) = false) (hA2 : (on && decide (r.on = []) || set && decide (r.set = 0) || oth && decide (r.oth = 0)) = false) (hA3 : (!decide (r.op = 0) || !num && !decide (r.n = 0) || !by' && (!decide (r.byN = []) || !decide (r.clue = -1))) = false) (hb : (num && (decide (r.n < 0) || decide (65536 < r.n))) = true) : evK Tryz.prog Tru (sndN 8 c79) [] (postC [.t 4] (Ret (.bool (false))))
    ⟨(2, true, .ptr 0 0) :: (3, true, .ptr 1 0) :: (5, true, .bool on) :: (6, true, .bool set) :: (7, true, .bool oth) :: (8, true, .bool num) :: (9, true, .bool by') :: (10, true, .bool false) :: X, hset (hset hnil 0 (.box (cellsD d))) 1 (.box (cellsRu r)), 3⟩ := by
  have e1 : ∀ (l : List Bs), decide ((0 : Int) < (l.length : Int)) = decide (0 < l.length) := fun l => by
    rw [Bool.eq_iff_iff, decide_eq_true_eq, decide_eq_true_eq]; omega
  simp only [eE, eC, eN, reduceCtorEq, Nat.reduceEqDiff, ↓reduceIte, Nat.reduceAdd, Nat.reduceLeDiff, Bool.not_false, List.length_map, c79, sndN, sndA, scmp_ne, scmp_eq, e1, hA1, hA2, hA3, Tru_b, s2, dD_ok, dD_dec, dRu_ok, dRu_dec, hb]
theorem rr5b (d : Dcl) (r : DRul) (on set oth num by' : Bool) (X : List (Nat × Bool × AVal)) (hA1 : (!on && (!decide (r.on = []) || !decide (r.fam = 0)) || !set && (decide (0 < r.ns.length) || !decide (r.set = 0)) || !oth && (decide (0 < r.os.length) || !decide (r.oth = 0))) = false) (hA2 : (on && decide (r.on = []) || set && decide (r.set = 0) || oth && decide (r.oth = 0)) = false) (hA3 : (!decide (r.op = 0) || !num && !decide (r.n = 0) || !by' && (!decide (r.byN = []) || !decide (r.clue = -1))) = false) (hb : (num && (decide (r.n < 0) || decide (65536 < r.n))) = false) (h5 : r.kind = 5) : evK Tryz.prog Tru (sndN 8 c79) [] (postC [.t 4] (Ret (.bool (clueR d.clus r 3 true))))
    ⟨(2, true, .ptr 0 0) :: (3, true, .ptr 1 0) :: (5, true, .bool on) :: (6, true, .bool set) :: (7, true, .bool oth) :: (8, true, .bool num) :: (9, true, .bool by') :: (10, true, .bool false) :: X, hset (hset hnil 0 (.box (cellsD d))) 1 (.box (cellsRu r)), 3⟩ := by
  have e1 : ∀ (l : List Bs), decide ((0 : Int) < (l.length : Int)) = decide (0 < l.length) := fun l => by
    rw [Bool.eq_iff_iff, decide_eq_true_eq, decide_eq_true_eq]; omega
  simp only [eE, eC, eN, reduceCtorEq, Nat.reduceEqDiff, ↓reduceIte, Nat.reduceAdd, Nat.reduceLeDiff, Bool.not_false, List.length_map, c79, sndN, sndA, scmp_ne, scmp_eq, e1, hA1, hA2, hA3, Tru_b, Tru_c, s2, dD_ok, dD_dec, dRu_ok, dRu_dec, hb, dec_T h5]
theorem rr5c (d : Dcl) (r : DRul) (on set oth num by' : Bool) (X : List (Nat × Bool × AVal)) (hA1 : (!on && (!decide (r.on = []) || !decide (r.fam = 0)) || !set && (decide (0 < r.ns.length) || !decide (r.set = 0)) || !oth && (decide (0 < r.os.length) || !decide (r.oth = 0))) = false) (hA2 : (on && decide (r.on = []) || set && decide (r.set = 0) || oth && decide (r.oth = 0)) = false) (hA3 : (!decide (r.op = 0) || !num && !decide (r.n = 0) || !by' && (!decide (r.byN = []) || !decide (r.clue = -1))) = false) (hb : (num && (decide (r.n < 0) || decide (65536 < r.n))) = false) (h5 : ¬ r.kind = 5) (h11 : r.kind = 11) : evK Tryz.prog Tru (sndN 8 c79) [] (postC [.t 4] (Ret (.bool (clueR d.clus r 1 false))))
    ⟨(2, true, .ptr 0 0) :: (3, true, .ptr 1 0) :: (5, true, .bool on) :: (6, true, .bool set) :: (7, true, .bool oth) :: (8, true, .bool num) :: (9, true, .bool by') :: (10, true, .bool false) :: X, hset (hset hnil 0 (.box (cellsD d))) 1 (.box (cellsRu r)), 3⟩ := by
  have e1 : ∀ (l : List Bs), decide ((0 : Int) < (l.length : Int)) = decide (0 < l.length) := fun l => by
    rw [Bool.eq_iff_iff, decide_eq_true_eq, decide_eq_true_eq]; omega
  simp only [eE, eC, eN, reduceCtorEq, Nat.reduceEqDiff, ↓reduceIte, Nat.reduceAdd, Nat.reduceLeDiff, Bool.not_true, Bool.not_false, List.length_map, c79, sndN, sndA, scmp_ne, scmp_eq, e1, hA1, hA2, hA3, Tru_b, Tru_c, s2, dD_ok, dD_dec, dRu_ok, dRu_dec, hb, dec_F h5, eq_true h11]
theorem rr5d (d : Dcl) (r : DRul) (on set oth num by' : Bool) (X : List (Nat × Bool × AVal)) (hA1 : (!on && (!decide (r.on = []) || !decide (r.fam = 0)) || !set && (decide (0 < r.ns.length) || !decide (r.set = 0)) || !oth && (decide (0 < r.os.length) || !decide (r.oth = 0))) = false) (hA2 : (on && decide (r.on = []) || set && decide (r.set = 0) || oth && decide (r.oth = 0)) = false) (hA3 : (!decide (r.op = 0) || !num && !decide (r.n = 0) || !by' && (!decide (r.byN = []) || !decide (r.clue = -1))) = false) (hb : (num && (decide (r.n < 0) || decide (65536 < r.n))) = false) (h5 : ¬ r.kind = 5) (h11 : ¬ r.kind = 11) : evK Tryz.prog Tru (sndN 8 c79) [] (postC [.t 4] (Ret (.bool (true))))
    ⟨(2, true, .ptr 0 0) :: (3, true, .ptr 1 0) :: (5, true, .bool on) :: (6, true, .bool set) :: (7, true, .bool oth) :: (8, true, .bool num) :: (9, true, .bool by') :: (10, true, .bool false) :: X, hset (hset hnil 0 (.box (cellsD d))) 1 (.box (cellsRu r)), 3⟩ := by
  have e1 : ∀ (l : List Bs), decide ((0 : Int) < (l.length : Int)) = decide (0 < l.length) := fun l => by
    rw [Bool.eq_iff_iff, decide_eq_true_eq, decide_eq_true_eq]; omega
  simp only [eE, eC, eN, reduceCtorEq, Nat.reduceEqDiff, ↓reduceIte, Nat.reduceAdd, Nat.reduceLeDiff, Bool.not_true, Bool.not_false, List.length_map, c79, sndN, sndA, scmp_ne, scmp_eq, e1, hA1, hA2, hA3, Tru_b, Tru_c, s2, dD_ok, dD_dec, dRu_ok, dRu_dec, hb, dec_F h5, eq_false h11]
theorem rule_rest (d : Dcl) (r : DRul) (on set oth num by' lim : Bool) (X : List (Nat × Bool × AVal)) : evK Tryz.prog Tru (sndN 8 c79) [] (postC [.t 4] (Ret (.bool (rstR d.clus r on set oth num by' lim))))
    ⟨(2, true, .ptr 0 0) :: (3, true, .ptr 1 0) :: (5, true, .bool on) :: (6, true, .bool set) :: (7, true, .bool oth) :: (8, true, .bool num) :: (9, true, .bool by') :: (10, true, .bool lim) :: X, hset (hset hnil 0 (.box (cellsD d))) 1 (.box (cellsRu r)), 3⟩ := by
  unfold rstR
  simp only [ne_eq, decide_not]
  cases hA1 : (!on && (!decide (r.on = []) || !decide (r.fam = 0)) || !set && (decide (0 < r.ns.length) || !decide (r.set = 0)) || !oth && (decide (0 < r.os.length) || !decide (r.oth = 0))) with
  | true => rw [if_pos rfl]; exact rr1 d r on set oth num by' lim X hA1
  | false =>
  rw [if_neg (by decide)]
  cases hA2 : (on && decide (r.on = []) || set && decide (r.set = 0) || oth && decide (r.oth = 0)) with
  | true => rw [if_pos rfl]; exact rr2 d r on set oth num by' lim X hA1 hA2
  | false =>
  rw [if_neg (by decide)]
  cases lim with
  | true =>
    rw [Bool.not_true, Bool.false_and, if_neg (by decide), Bool.true_and]
    cases hb : (!boundR d.clus r || num && (decide (r.n < 0) || decide (65536 < r.n))) with
    | true => rw [if_pos rfl]; exact rr4a d r on set oth num by' X hA1 hA2 hb
    | false =>
    rw [if_neg (by decide)]
    by_cases h5 : r.kind = 5
    · rw [if_pos h5]; exact rr4b d r on set oth num by' X hA1 hA2 hb h5
    rw [if_neg h5]
    by_cases h11 : r.kind = 11
    · rw [if_pos h11]; exact rr4c d r on set oth num by' X hA1 hA2 hb h5 h11
    rw [if_neg h11]; exact rr4d d r on set oth num by' X hA1 hA2 hb h5 h11
  | false =>
    rw [Bool.not_false, Bool.true_and, Bool.false_and, Bool.false_or]
    cases hA3 : (!decide (r.op = 0) || !num && !decide (r.n = 0) || !by' && (!decide (r.byN = []) || !decide (r.clue = -1))) with
    | true => rw [if_pos rfl]; exact rr3 d r on set oth num by' X hA1 hA2 hA3
    | false =>
    rw [if_neg (by decide)]
    cases hb : (num && (decide (r.n < 0) || decide (65536 < r.n))) with
    | true => rw [if_pos rfl]; exact rr5a d r on set oth num by' X hA1 hA2 hA3 hb
    | false =>
    rw [if_neg (by decide)]
    by_cases h5 : r.kind = 5
    · rw [if_pos h5]; exact rr5b d r on set oth num by' X hA1 hA2 hA3 hb h5
    rw [if_neg h5]
    by_cases h11 : r.kind = 11
    · rw [if_pos h11]; exact rr5c d r on set oth num by' X hA1 hA2 hA3 hb h5 h11
    rw [if_neg h11]; exact rr5d d r on set oth num by' X hA1 hA2 hA3 hb h5 h11
theorem p79 (d : Dcl) (r : DRul) : Pur Tryz.prog 79 [encD d, encRu r] (.bool (rulOK d.clus r)) := by
  refine .mk ⟨encD_under 0 d, encRu_under 0 r, trivial⟩ trivial (a79 (ev_awp Tru_ok (ev_evK ?_)))
  have hrest := rule_rest d r
  rw [rule_put]
  rw [rul_ref]
  have hrr : ∀ on set oth num by' lim rdb clue, formK r.kind = ⟨on, set, oth, lim, num, rdb, true, clue⟩ → by' = decide (clue ≠ 0) → rulRef d.clus r = rstR d.clus r on set oth num by' lim := fun on set oth num by' lim rdb clue h q => by
    subst q
    unfold rulRef rstR
    rw [h]
    rfl
  by_cases hk : r.kind < 1 ∨ 13 < r.kind
  · have hR : rulRef d.clus r = false := by
      have hkn : (formK r.kind).knw = false := by unfold formK; repeat rw [if_neg (by omega)]
      unfold rulRef
      simp only []
      rw [if_pos hkn]
    have n1 : (r.kind = 1) = False := eq_false (by omega)
    have n2 : (r.kind = 2) = False := eq_false (by omega)
    have n3 : (r.kind = 3) = False := eq_false (by omega)
    have n4 : (r.kind = 4) = False := eq_false (by omega)
    have n5 : (r.kind = 5) = False := eq_false (by omega)
    have n6 : (r.kind = 6) = False := eq_false (by omega)
    have n7 : (r.kind = 7) = False := eq_false (by omega)
    have n8 : (r.kind = 8) = False := eq_false (by omega)
    have n9 : (r.kind = 9) = False := eq_false (by omega)
    have n10 : (r.kind = 10) = False := eq_false (by omega)
    have n11 : (r.kind = 11) = False := eq_false (by omega)
    have n12 : (r.kind = 12) = False := eq_false (by omega)
    have n13 : (r.kind = 13) = False := eq_false (by omega)
    rw [hR]
    generalize sndN 8 c79 = R
    simp only [eE, eC, eN, reduceCtorEq, Nat.reduceEqDiff, ↓reduceIte, Nat.reduceAdd, Nat.reduceLeDiff, c79, putN, n1, n2, n3, n4, n5, n6, n7, n8, n9, n10, n11, n12, n13]
  generalize sndN 8 c79 = R at hrest ⊢
  have hk2 : r.kind = 1 ∨ r.kind = 2 ∨ r.kind = 3 ∨ r.kind = 4 ∨ r.kind = 5 ∨ r.kind = 6 ∨ r.kind = 7 ∨ r.kind = 8 ∨ r.kind = 9 ∨ r.kind = 10 ∨ r.kind = 11 ∨ r.kind = 12 ∨ r.kind = 13 := by omega
  rcases hk2 with hk2 | hk2 | hk2 | hk2 | hk2 | hk2 | hk2 | hk2 | hk2 | hk2 | hk2 | hk2 | hk2
  all_goals
    rw [hrr _ _ _ _ _ _ _ _ (by rw [hk2]; rfl) rfl]
    simp only [eE, eC, eN, reduceCtorEq, Nat.reduceEqDiff, ↓reduceIte, Nat.reduceAdd, Nat.reduceLeDiff, Int.reduceEq, c79, putN, hk2]
    exact hrest _ _ _ _ _ _ _
end Go.AM
end
