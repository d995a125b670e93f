/-
  The laws of types: declarations with a rule more, a rule less; an example; a fresh name · The laws of types: the functions that they use, as a table; the examples hold · The laws of types: Rules, Clues, Less, Named · The laws of types: the main law, Clues · The laws of types: Clues · The laws of types: Sums · The laws of types: from the rows to the abstract machine.
  Conditions: none beyond those of its parts.
-/
import Derived.Test.YtpdnjncfblclfaaB10
import Derived.Test.YtpdnjncfblclfaaB5
import Derived.Test.YtpdnjncfblclfaaRows
import Derived.SizedLaws
import Derived.LaidLaws

section
set_option maxRecDepth 20000
set_option linter.all false
namespace Go.AM
open Go.Proofs Go.Lib
def smp : Dcl := ⟨[108, 97, 116, 105, 110], 1, 1, 2, 2, [], [⟨[97], 1⟩, ⟨[98], 2⟩], [], [⟨[103], [99, 101, 108, 108, 115], 0, 1, 0, 0⟩],
  [⟨[114], [114, 111, 119, 115], 1, 1, [], [], 0, 0, 0, 0, [], -1⟩, ⟨[99], [99, 111, 108, 117, 109, 110, 115], 1, 2, [], [], 0, 0, 0, 0, [], -1⟩, ⟨[120], [], 11, 0, [], [], 0, 0, 0, 0, [103], 0⟩]⟩
theorem wk_D {nm : Bs} {ver sh w h : Int} {ho : List Int} {sy : List DSym} {rg : List DReg} {cl : List DClu} {ru : List DRul} {a b c e f : AVal} (ha : Wk a (eIs ho)) (hb : Wk b (eSys sy)) (hc : Wk c (eRgs rg)) (he : Wk e (eCls cl)) (hf : Wk f (eRus ru)) :
    Wk (.agg [.str nm, .int .i64 ver, .int .i64 sh, .int .i64 w, .int .i64 h, a, b, c, e, f]) (encD ⟨nm, ver, sh, w, h, ho, sy, rg, cl, ru⟩) :=
  Wk.agg (.cons (Wk.refl _) (.cons (Wk.refl _) (.cons (Wk.refl _) (.cons (Wk.refl _) (.cons (Wk.refl _) (.cons ha (.cons hb (.cons hc (.cons he (.cons hf .nil))))))))))
theorem wk_R {nm on : Bs} {k f : Int} {set oth op n : Int} {by' : Bs} {cl : Int} {ns os : List Bs} {a b : AVal} (ha : Wk a (eSs ns)) (hb : Wk b (eSs os)) :
    Wk (.agg [.str nm, .str on, .int .i64 k, .int .i64 f, a, b, .int .i64 set, .int .i64 oth, .int .i64 op, .int .i64 n, .str by', .int .i64 cl]) (encRu ⟨nm, on, k, f, ns, os, set, oth, op, n, by', cl⟩) :=
  Wk.agg (.cons (Wk.refl _) (.cons (Wk.refl _) (.cons (Wk.refl _) (.cons (Wk.refl _) (.cons ha (.cons hb (.cons (Wk.refl _) (.cons (Wk.refl _) (.cons (Wk.refl _) (.cons (Wk.refl _) (.cons (Wk.refl _) (.cons (Wk.refl _) .nil))))))))))))
theorem wk_s0 : Wk (.sl .nil []) (eSs []) := Wk.sl (.inr rfl)
theorem p22 : Pur Try.prog 22 [] (encD smp) := by
  refine .mk trivial (encD_under 0 _) (a22 (ev_awp TabOK.tnil (ev_evK ?_)))
  simp only [eE, eN, reduceCtorEq, Nat.reduceEqDiff, ↓reduceIte, Nat.reduceAdd, Nat.reduceLeDiff, Nat.reduceMul, Nat.reduceLT, rcell, c22]
  exact wk_D (Wk.sl (.inr rfl)) (Wk.sl (.inl rfl)) (Wk.sl (.inr rfl)) (Wk.sl (.inl rfl)) (Wk.slx (.inl rfl) (.cons (wk_R wk_s0 wk_s0) (.cons (wk_R wk_s0 wk_s0) (.cons (wk_R wk_s0 wk_s0) .nil))))
theorem p20 (d : Dcl) (r : DRul) (hr : few d.ruls) : Pur Try.prog 20 [encD d, encRu r] (encD (withR d r)) := by
  refine .mk ⟨encD_under 0 d, encRu_under 0 r, trivial⟩ (encD_under 0 _) (a20 (ev_awp TabOK.tnil (ev_evK ?_)))
  have hrl : d.ruls.length < 1000000000 := hr
  simp only [eE, eN, reduceCtorEq, Nat.reduceEqDiff, ↓reduceIte, Nat.reduceAdd, Nat.reduceLeDiff, Nat.reduceMul, Nat.reduceLT, rcell, List.length_map, c20]
  refine ⟨⟨small_of (by omega) (by decide), by omega⟩, ⟨small_of (by omega) (by decide), by omega⟩, wk_D (Wk.refl _) (Wk.refl _) (Wk.refl _) (Wk.refl _) ?_⟩
  rw [show eRus (d.ruls ++ [r]) = .sl (.none 12) (d.ruls.map encRu ++ [encRu r]) by simp [eRus]]
  exact Wk.sl (.inl rfl)
theorem p21 (d : Dcl) (k : Nat) (hr : few d.ruls) (hk : k < d.ruls.length) : Pur Try.prog 21 [encD d, .int .i64 k] (encD { d with ruls := cutR d.ruls k }) := by
  refine .mk ⟨encD_under 0 d, trivial, trivial⟩ (encD_under 0 _) (a21 (ev_awp TabOK.tnil (ev_evK ?_)))
  have hrl : d.ruls.length < 1000000000 := hr
  have e := w64_succ (k := k) (by omega)
  simp only [eE, eN, reduceCtorEq, Nat.reduceEqDiff, ↓reduceIte, Nat.reduceAdd, Nat.reduceLeDiff, Nat.reduceMul, Nat.reduceLT, Int.reduceEq, rcell, Int.toNat_zero, Int.le_refl, Int.toNat_natCast, Int.natCast_nonneg, List.length_map, c21, e]
  have l1 : (List.take k (d.ruls.map encRu)).length = k := by rw [List.length_take, List.length_map]; omega
  have l2 : (List.drop (k + 1) (List.take d.ruls.length (d.ruls.map encRu))).length = d.ruls.length - (k + 1) := by rw [List.length_drop, List.length_take, List.length_map]; omega
  refine ⟨by omega, ⟨small_of (by omega) (by decide), by omega⟩, by omega, ⟨small_of (by omega) (by decide), by omega⟩, wk_D (Wk.refl _) (Wk.refl _) (Wk.refl _) (Wk.refl _) ?_⟩
  rw [show eRus (cutR d.ruls k) = .sl (.none 12) (List.take k (d.ruls.map encRu) ++ List.drop (k + 1) (List.take d.ruls.length (d.ruls.map encRu))) by
    rw [show List.take d.ruls.length (d.ruls.map encRu) = d.ruls.map encRu from List.take_of_length_le (by simp)]
    simp [eRus, cutR, List.map_take, List.map_drop]]
  exact Wk.sl (.inl rfl)
theorem sadd_n (k : Nat) : nnn k ++ [110] = nnn (k + 1) := by
  rw [show nnn (k + 1) = List.replicate (k + 1) 110 from rfl, List.replicate_succ']
structure VFs where
  i : Nat
  k : Nat
  H : AHeap
  n : Nat
theorem pass_take {l : List Bs} {i k : Nat} (h : i < l.length) : passF (l.drop i) k = passF (l.drop (i + 1)) (if l[i] = nnn k then k + 1 else k) := by
  rw [List.drop_eq_getElem_cons h]; rfl
theorem p19 (d : Dcl) (hr : d.ruls.length ≤ 2000) : Pur Try.prog 19 [encD d] (.str (nnn (iterF (d.ruls.map (·.nm)) d.ruls.length))) := by
  refine .mk ⟨encD_under 0 d, trivial⟩ trivial (a19 (ev_awp TabOK.tnil (ev_evK ?_)))
  simp only [eE, eN, Nat.reduceEqDiff, ↓reduceIte, Nat.reduceAdd, c19]
  refine k_loop (fun v : VFs => ⟨[(1, true, .ptr 0 0), (3, true, .str (nnn v.k)), (4, true, .int .i64 v.i)], v.H, v.n⟩) (fun v => v.i ≤ d.ruls.length ∧ v.k = iterF (d.ruls.map (·.nm)) v.i ∧ v.k ≤ 1 + 2000 * v.i ∧ Fresh v.H v.n ∧ 2 ≤ v.n ∧ hget v.H 0 = some (.box (cellsD d))) (fun v => d.ruls.length - v.i)
    ⟨0, 1, hset hnil 0 (.box (cellsD d)), 2⟩ rfl ⟨Nat.zero_le _, rfl, by simp only []; omega, Fresh.nil.hset (m := 2) (Nat.zero_le 2) (show 0 < 2 by decide), Nat.le_refl _, rfl⟩ ?_
  rintro ⟨i, k, H, n⟩ ⟨hi, hk, hkb, hfr, hn, h0⟩
  simp only at hi hk hkb hfr hn h0
  by_cases hlt : i < d.ruls.length
  case neg =>
    obtain rfl : i = d.ruls.length := by omega
    simp only [eE, eC, eN, Nat.reduceEqDiff, ↓reduceIte, Nat.reduceAdd, List.length_map, lt_F hlt, h0, hk]
  have e := w64_succ (k := i) (by omega)
  simp only [eE, eC, eN, Nat.reduceEqDiff, ↓reduceIte, Nat.reduceAdd, List.length_map, lt_T hlt, h0]
  refine k_loop (fun v : VFs => ⟨[(1, true, .ptr 0 0), (3, true, .str (nnn v.k)), (4, true, .int .i64 i), (15, true, eRus d.ruls), (16, true, .int .i64 d.ruls.length), (17, true, .int .i64 v.i)], v.H, v.n⟩) (fun v => v.i ≤ d.ruls.length ∧ passF ((d.ruls.map (·.nm)).drop v.i) v.k = iterF (d.ruls.map (·.nm)) (i + 1) ∧ v.k ≤ 1 + 2000 * i + v.i ∧ Fresh v.H v.n ∧ 2 ≤ v.n ∧ hget v.H 0 = some (.box (cellsD d))) (fun v => d.ruls.length - v.i)
    ⟨0, k, H, n⟩ rfl ⟨Nat.zero_le _, by simp only [List.drop_zero, hk]; rfl, by simp only []; omega, hfr, hn, h0⟩ ?_
  rintro ⟨j, k, H, n⟩ ⟨hj, hk, hkb, hfr, hn, h0⟩
  simp only at hj hk hkb hfr hn h0
  by_cases hlj : j < d.ruls.length
  · have hg := List.getElem?_eq_getElem hlj
    have ej := w64_succ (k := j) (by omega)
    have y1 : ∀ q, (n + q = 0) = False := fun q => eq_false (by omega)
    rw [pass_take (by simpa using hlj), List.getElem_map] at hk
    generalize d.ruls[j] = r at hg hk
    by_cases hr : r.nm = nnn k
    · rw [if_pos hr] at hk
      have hsm : small ((nnn k).length + 1) 1 = True := eq_true (small_of (by rw [List.length_replicate]; omega) (by decide))
      simp only [eE, eC, eN, Nat.reduceEqDiff, ↓reduceIte, Nat.reduceAdd, Nat.reduceLeDiff, Int.reduceEq, Option.getD_some, Int.toNat_natCast, Int.natCast_nonneg, List.length_map, List.getElem?_map, lt_T hlj, hg, ej, fr1 hfr, hset_hset, scmp_eq, dec_T hr, hsm]
      exact .mk ⟨j + 1, k + 1, hset H (n + 2) (.box (cellsRu r)), n + 4⟩ (by simp only [← sadd_n]) ⟨hlj, hk, by simp only []; omega, hfr.hset (m := n + 4) (by omega) (by omega), by simp only []; omega, by simp only []; rw [hget_hset_ne _ _ _ _ (by omega)]; exact h0⟩ (by simp only []; omega)
    · rw [if_neg hr] at hk
      simp only [eE, eC, eN, Nat.reduceEqDiff, ↓reduceIte, Nat.reduceAdd, Nat.reduceLeDiff, Int.reduceEq, Option.getD_some, Int.toNat_natCast, Int.natCast_nonneg, List.length_map, List.getElem?_map, lt_T hlj, hg, ej, fr1 hfr, hset_hset, scmp_eq, dec_F hr]
      exact .mk ⟨j + 1, k, hset H (n + 2) (.box (cellsRu r)), n + 4⟩ rfl ⟨hlj, hk, by simp only []; omega, hfr.hset (m := n + 4) (by omega) (by omega), by simp only []; omega, by simp only []; rw [hget_hset_ne _ _ _ _ (by omega)]; exact h0⟩ (by simp only []; omega)
  obtain rfl : j = d.ruls.length := by omega
  rw [List.drop_eq_nil_of_le (by simp)] at hk
  simp only [eE, eC, eN, Nat.reduceEqDiff, ↓reduceIte, Int.reduceEq, lt_F hlj, e]
  exact .mk ⟨i + 1, k, H, n⟩ rfl ⟨hlt, hk, by simp only []; omega, hfr, hn, h0⟩ (by simp only []; omega)
end Go.AM
end
section
set_option maxRecDepth 20000
set_option linter.all false
namespace Go.AM
open Go.Proofs Go.Lib
abbrev cutD (d : Dcl) (k : Int) : Dcl := { d with ruls := cutR d.ruls k.toNat }
def encDo (d : Dcl) : AVal := encD d
def sSmp : List AVal → AHeap → Prop × AVal := fun a _ => match a with
  | [] => (True, encD smp)
  | _ => (False, .tup [])
theorem qSmp : ∀ args H n, (sSmp args H).1 → Quiet Try.prog 22 args H n (sSmp args H).2 := by
  intro args H n hh
  unfold sSmp at hh ⊢
  split at hh
  · exact p22.quiet H n
  · exact hh.elim
def TLa : Tab := tadd 22 sSmp (tadd 20 (s2 dD dRu (fun d _ => few d.ruls) fun d r => encDo (withR d r)) (tadd 21 (s2 dD dI (fun d k => few d.ruls ∧ 0 ≤ k ∧ k < (d.ruls.length : Int)) fun d k => encDo (cutD d k))
  (tadd 11 (s3 dD dI dI (fun d _ _ => FewD d) fun d s n => encSum (sumS d.syms (bitZ s) n)) (tadd 18 (s1 dD FewD fun d => .int .i64 (chkD d)) (tadd 16 (s1 dD (fun d => few d.ruls) fun d => eIs (unread d.ruls))
  (tadd 13 (s1 dRu any1 fun r => .bool (readR r)) (tadd 15 (s2 dIs dIs (fun a _ => few a) fun a b => .bool (decide (a = b))) tnil)))))))
theorem TLa_ok : TabOK Try.prog TLa := (((((((TabOK.tnil.add (q2 fun a b h => p15 a b h)).add (q1 fun r _ => p13 r)).add (q1 fun d h => p16 d h)).add (q1 fun d h => p18 d h)).add (q3 fun d s n h => p11 d s n h)).add
  (q2 fun d k h => by
    obtain ⟨h1, h2, h3⟩ := h
    have := p21 d k.toNat h1 (by omega)
    rw [show ((k.toNat : Nat) : Int) = k by omega] at this
    exact this)).add (q2 fun d r h => p20 d r h)).add qSmp
theorem TLa_smp (a : List AVal) (H : AHeap) : TLa 22 a H = sSmp a H := rfl
theorem TLa_with (a : List AVal) (H : AHeap) : TLa 20 a H = s2 dD dRu (fun d _ => few d.ruls) (fun d r => encDo (withR d r)) a H := rfl
theorem TLa_cut (a : List AVal) (H : AHeap) : TLa 21 a H = s2 dD dI (fun d k => few d.ruls ∧ 0 ≤ k ∧ k < (d.ruls.length : Int)) (fun d k => encDo (cutD d k)) a H := rfl
theorem TLa_sum (a : List AVal) (H : AHeap) : TLa 11 a H = s3 dD dI dI (fun d _ _ => FewD d) (fun d s n => encSum (sumS d.syms (bitZ s) n)) a H := rfl
theorem TLa_chk (a : List AVal) (H : AHeap) : TLa 18 a H = s1 dD FewD (fun d => .int .i64 (chkD d)) a H := rfl
theorem TLa_un (a : List AVal) (H : AHeap) : TLa 16 a H = s1 dD (fun d => few d.ruls) (fun d => eIs (unread d.ruls)) a H := rfl
theorem TLa_rd (a : List AVal) (H : AHeap) : TLa 13 a H = s1 dRu any1 (fun r => .bool (readR r)) a H := rfl
theorem TLa_same (a : List AVal) (H : AHeap) : TLa 15 a H = s2 dIs dIs (fun a _ => few a) (fun a b => .bool (decide (a = b))) a H := rfl
theorem fewSmp : FewD smp := ⟨by show 0 < _; decide, by show 2 < _; decide, by show 0 < _; decide, fun r hr => by simp [smp] at hr, by show 1 < _; decide, by show 3 < _; decide, fun r hr => by
  have : r.ns = [] ∧ r.os = [] := by
    simp only [smp, List.mem_cons, List.not_mem_nil, or_false] at hr
    rcases hr with rfl | rfl | rfl <;> exact ⟨rfl, rfl⟩
  rw [show fewRu r = (few r.ns ∧ few r.os) from rfl, this.1, this.2]
  exact ⟨by show 0 < _; decide, by show 0 < _; decide⟩⟩
theorem few_with {d : Dcl} {r : DRul} (hd : FewD d) (hr : fewRu r) (hl : d.ruls.length < 999999999) : FewD (withR d r) :=
  ⟨hd.ho, hd.sy, hd.rg, hd.rgs, hd.cl, by show (d.ruls ++ [r]).length < _; simp; omega, fun x hx => by
    rcases List.mem_append.1 hx with hx | hx
    · exact hd.rus x hx
    · rw [List.mem_singleton.1 hx]; exact hr⟩
theorem few_cut {d : Dcl} (hd : FewD d) (k : Nat) : FewD { d with ruls := cutR d.ruls k } :=
  ⟨hd.ho, hd.sy, hd.rg, hd.rgs, hd.cl, by
    have := (cut_subR d.ruls k).length_le
    have h2 : d.ruls.length < 1000000000 := hd.ru
    show (cutR d.ruls k).length < _
    omega, fun x hx => hd.rus x ((cut_subR d.ruls k).mem hx)⟩
theorem few0 : FewD dcl0 := ⟨by show 0 < _; decide, by show 0 < _; decide, by show 0 < _; decide, fun r hr => (by cases hr), by show 0 < _; decide, by show 0 < _; decide, fun r hr => (by cases hr)⟩
theorem rr_ok {nm on : Bs} {k f set oth op n : Int} {b : Bs} {c : Int} : dRu.ok (.agg [.str nm, .str on, .int .i64 k, .int .i64 f, .sl .nil [], .sl .nil [], .int .i64 set, .int .i64 oth, .int .i64 op, .int .i64 n, .str b, .int .i64 c]) = True := eq_true (wk_R wk_s0 wk_s0)
theorem rr_dec {nm on : Bs} {k f set oth op n : Int} {b : Bs} {c : Int} : dRu.dec (.agg [.str nm, .str on, .int .i64 k, .int .i64 f, .sl .nil [], .sl .nil [], .int .i64 set, .int .i64 oth, .int .i64 op, .int .i64 n, .str b, .int .i64 c]) = ⟨nm, on, k, f, [], [], set, oth, op, n, b, c⟩ := rfl
theorem d0_ok : dD.ok (.agg [.str [], .int .i64 0, .int .i64 0, .int .i64 0, .int .i64 0, .sl .nil [], .sl .nil [], .sl .nil [], .sl .nil [], .sl .nil []]) = True :=
  eq_true (wk_D (Wk.sl (.inr rfl)) (Wk.sl (.inr rfl)) (Wk.sl (.inr rfl)) (Wk.sl (.inr rfl)) (Wk.sl (.inr rfl)))
theorem d0_dec : dD.dec (.agg [.str [], .int .i64 0, .int .i64 0, .int .i64 0, .int .i64 0, .sl .nil [], .sl .nil [], .sl .nil [], .sl .nil [], .sl .nil []]) = dcl0 := rfl
theorem i1_ok {x : Int} : dIs.ok (.sl (.exact 1) [.int .i64 x]) = True := eq_true ⟨.inl rfl, rfl⟩
theorem i1_dec {x : Int} : dIs.dec (.sl (.exact 1) [.int .i64 x]) = [x] := rfl
def smpF : Dcl := withR smp ⟨[102], [114, 111, 119, 115], 12, 1, [], [], 0, 0, 0, 0, [], -1⟩
def smpR : DRul := ⟨[120], [], 11, 0, [], [], 0, 0, 0, 0, [103], 0⟩
theorem rd1 : readR smpR = true := rfl
theorem rd2 : readR ⟨[], [], 13, 0, [], [], 0, 0, 0, 0, [], 0⟩ = false := rfl
theorem rd3 : readR ⟨[], [], 0, 0, [], [], 0, 0, 0, 0, [], 0⟩ = false := rfl
def smpC : Dcl := cutD smp 2
theorem fewF : FewD smpF := few_with fewSmp ⟨by show 0 < _; decide, by show 0 < _; decide⟩ (by show 3 < _; decide)
theorem fewC : FewD smpC := few_cut fewSmp _
theorem eF : encDo (withR smp ⟨[102], [114, 111, 119, 115], 12, 1, [], [], 0, 0, 0, 0, [], -1⟩) = encD smpF := rfl
theorem eCt : encDo (cutD smp 2) = encD smpC := rfl
theorem k1 : chkD smp = 0 := by decide +kernel
theorem k2 : chkD smpC = 170 := by decide +kernel
theorem k3 : chkD smpF = 171 := by decide +kernel
theorem k4 : unread smpF.ruls = [3] := by decide +kernel
theorem k5 : chkD dcl0 = 2 := by decide +kernel
theorem b3 : (bitZ 3 0 = true ∧ bitZ 3 1 = true) ∧ (bitZ 4 0 = false ∧ bitZ 4 1 = false) ∧ bitZ 2 0 = false ∧ bitZ 2 1 = true := by decide +kernel
theorem k6 : sumS smp.syms (bitZ 3) 4 = (4, 8, true) := by decide +kernel
theorem k7 : sumS smp.syms (bitZ 4) 4 = (0, 0, false) := by decide +kernel
theorem k8 : sumS smp.syms (bitZ 2) 256 = (512, 512, true) := by decide +kernel
theorem k9 : sumS smp.syms (bitZ 2) 257 = (0, 0, false) := by decide +kernel
theorem k10 : (2 : Int) < (smp.ruls.length : Int) := by decide
theorem p9 : Pur Try.prog 9 [] (.bool true) := by
  refine .mk trivial trivial (a9 (ev_awp TLa_ok (ev_evK ?_)))
  have f3 : few smpF.ruls := fewF.ru
  have f4 : few smp.ruls := fewSmp.ru
  have f5 : few ([3] : List Int) := by show 1 < _; decide
  have r2 : smp.ruls[2]? = some smpR := rfl
  simp only [eE, eC, eN, reduceCtorEq, Nat.reduceEqDiff, ↓reduceIte, Nat.reduceAdd, Nat.reduceLeDiff, Nat.reduceMul, Nat.reduceLT, Int.reduceLE, Int.reduceToNat, Bool.not_false, Option.getD_some, List.length_map, List.getElem?_map, List.getElem?_cons_zero, List.getElem?_cons_succ, c9, TLa_smp, TLa_with, TLa_cut, TLa_sum, TLa_chk, TLa_un, TLa_rd, TLa_same, sSmp, s1, s2, s3, dD_ok, dD_dec, dI_ok, dI_dec, dIs_ok, dIs_dec, rr_ok, rr_dec, d0_ok, d0_dec, i1_ok, i1_dec, eF, eCt, k1, k2, k3, k4, k5, k6, k7, k8, k9, k10, eq_true fewSmp, eq_true fewF, eq_true fewC, eq_true few0, eq_true f3, eq_true f4, eq_true f5, r2, dRu_ok, dRu_dec, rd1, rd2, rd3]
end Go.AM
end
section
set_option maxRecDepth 20000
set_option linter.all false
namespace Go.AM
open Go.Proofs Go.Lib
def sSan : List AVal → AHeap → Prop × AVal := fun a _ => match a with
  | [] => (True, .bool true)
  | _ => (False, .tup [])
theorem qSan : ∀ args H n, (sSan args H).1 → Quiet Try.prog 9 args H n (sSan args H).2 := by
  intro args H n hh
  unfold sSan at hh ⊢
  split at hh
  · exact p9.quiet H n
  · exact hh.elim
def TLb : Tab := tadd 9 sSan (tadd 10 (s1 dD BigD fun d => .bool (few17 d)) TLa)
theorem TLb_ok : TabOK Try.prog TLb := (TLa_ok.add (q1 fun d h => p10 d h)).add qSan
theorem TLb_sane (a : List AVal) (H : AHeap) : TLb 9 a H = sSan a H := rfl
theorem TLb_few (a : List AVal) (H : AHeap) : TLb 10 a H = s1 dD BigD (fun d => .bool (few17 d)) a H := rfl
theorem TLb_cut (a : List AVal) (H : AHeap) : TLb 21 a H = s2 dD dI (fun d k => few d.ruls ∧ 0 ≤ k ∧ k < (d.ruls.length : Int)) (fun d k => encDo (cutD d k)) a H := rfl
theorem TLb_sum (a : List AVal) (H : AHeap) : TLb 11 a H = s3 dD dI dI (fun d _ _ => FewD d) (fun d s n => encSum (sumS d.syms (bitZ s) n)) a H := rfl
theorem TLb_chk (a : List AVal) (H : AHeap) : TLb 18 a H = s1 dD FewD (fun d => .int .i64 (chkD d)) a H := rfl
def TLr : Tab := tadd 14 (s1 dRu any1 fun r => .bool (readR r)) (tadd 17 (s1 dD (fun d => few d.ruls) fun d => eIs (unread d.ruls)) (tadd 12 (s3 dD dI dI (fun d _ _ => FewD d) fun d s n => encSum (sumS d.syms (bitZ s) n)) TLb))
theorem TLr_ok : TabOK Try.prog TLr := ((TLb_ok.add (q3 fun d s n h => p12 d s n h)).add (q1 fun d h => p17 d h)).add (q1 fun r _ => p14 r)
theorem TLr_sane (a : List AVal) (H : AHeap) : TLr 9 a H = sSan a H := rfl
theorem TLr_few (a : List AVal) (H : AHeap) : TLr 10 a H = s1 dD BigD (fun d => .bool (few17 d)) a H := rfl
theorem TLr_sum (a : List AVal) (H : AHeap) : TLr 11 a H = s3 dD dI dI (fun d _ _ => FewD d) (fun d s n => encSum (sumS d.syms (bitZ s) n)) a H := rfl
theorem TLr_un (a : List AVal) (H : AHeap) : TLr 16 a H = s1 dD (fun d => few d.ruls) (fun d => eIs (unread d.ruls)) a H := rfl
theorem TLr_rd (a : List AVal) (H : AHeap) : TLr 13 a H = s1 dRu any1 (fun r => .bool (readR r)) a H := rfl
theorem TLr_same (a : List AVal) (H : AHeap) : TLr 15 a H = s2 dIs dIs (fun a _ => few a) (fun a b => .bool (decide (a = b))) a H := rfl
theorem TLr_rd7 (a : List AVal) (H : AHeap) : TLr 14 a H = s1 dRu any1 (fun r => .bool (readR r)) a H := rfl
theorem TLr_un7 (a : List AVal) (H : AHeap) : TLr 17 a H = s1 dD (fun d => few d.ruls) (fun d => eIs (unread d.ruls)) a H := rfl
theorem TLr_sum7 (a : List AVal) (H : AHeap) : TLr 12 a H = s3 dD dI dI (fun d _ _ => FewD d) (fun d s n => encSum (sumS d.syms (bitZ s) n)) a H := rfl
theorem few_unread {rs : List DRul} (h : few rs) : few (unread rs) := show (unread rs).length < _ from Nat.lt_of_le_of_lt (unread_len rs) h
theorem p3 (d : Dcl) (r : DRul) (set n : Int) (hb : BigD d) : Pur Try.prog 3 [encD d, encRu r, .int .i64 set, .int .i64 n] (.bool true) := by
  refine .mk ⟨encD_under 0 d, encRu_under 0 r, trivial, trivial, trivial⟩ trivial (a3 (ev_awp TLr_ok (ev_evK ?_)))
  cases hf : few17 d with
  | false =>
    simp only [eE, eC, eN, reduceCtorEq, Nat.reduceEqDiff, ↓reduceIte, Nat.reduceAdd, Bool.not_true, Bool.not_false, c3, TLr_sane, TLr_few, sSan, s1, dD_ok, dD_dec, eq_true hb, hf]
  | true =>
    have hd := small_few (few_small hf)
    have hr := few_unread hd.ru
    simp only [eE, eC, eN, reduceCtorEq, Nat.reduceEqDiff, ↓reduceIte, Nat.reduceAdd, Nat.reduceLT, Bool.not_true, Option.getD_some, List.getElem?_cons_zero, List.getElem?_cons_succ, c3, TLr_sane, TLr_few, TLr_sum, TLr_un, TLr_rd, TLr_same, TLr_rd7, TLr_un7, TLr_sum7, sSan, s1, s2, s3, dD_ok, dD_dec, dRu_ok, dRu_dec, dI_ok, dI_dec, dIs_ok, dIs_dec, eq_true hb, hf, eq_true hd, eq_true hd.ru, eq_true hr]
theorem dDr_ok {nm : Bs} {v sh w h : Int} {ho : List Int} {sy : List DSym} {rg : List DReg} {cl : List DClu} {ru : List DRul} : dD.ok (.agg [.str nm, .int .i64 v, .int .i64 sh, .int .i64 w, .int .i64 h, eIs ho, eSys sy, eRgs rg, eCls cl, eRus ru]) = True := dD_ok ⟨nm, v, sh, w, h, ho, sy, rg, cl, ru⟩
theorem dDr_dec {nm : Bs} {v sh w h : Int} {ho : List Int} {sy : List DSym} {rg : List DReg} {cl : List DClu} {ru : List DRul} : dD.dec (.agg [.str nm, .int .i64 v, .int .i64 sh, .int .i64 w, .int .i64 h, eIs ho, eSys sy, eRgs rg, eCls cl, eRus ru]) = ⟨nm, v, sh, w, h, ho, sy, rg, cl, ru⟩ := dD_dec ⟨nm, v, sh, w, h, ho, sy, rg, cl, ru⟩
theorem few_nmv {d : Dcl} (h : FewD d) (nm : Bs) (v : Int) : FewD ⟨nm, v, d.sh, d.w, d.h, d.holes, d.syms, d.regs, d.clus, d.ruls⟩ := ⟨h.ho, h.sy, h.rg, h.rgs, h.cl, h.ru, h.rus⟩
theorem p8 (d : Dcl) (nm : Bs) (v : Int) (hb : BigD d) : Pur Try.prog 8 [encD d, .str nm, .int .i64 v] (.bool true) := by
  refine .mk ⟨encD_under 0 d, trivial, trivial, trivial⟩ trivial (a8 (ev_awp TLb_ok (ev_evK ?_)))
  cases hf : few17 d with
  | false =>
    simp only [eE, eC, eN, reduceCtorEq, Nat.reduceEqDiff, ↓reduceIte, Nat.reduceAdd, Bool.not_true, Bool.not_false, c8, TLb_sane, TLb_few, sSan, s1, dD_ok, dD_dec, eq_true hb, hf]
  | true =>
    have hd := small_few (few_small hf)
    by_cases hl : 100 < nm.length
    · have hl1 : ((100 : Int) < (nm.length : Int)) = True := eq_true (by omega)
      simp only [eE, eC, eN, reduceCtorEq, Nat.reduceEqDiff, ↓reduceIte, Nat.reduceAdd, Bool.not_true, c8, TLb_sane, TLb_few, sSan, s1, dD_ok, dD_dec, eq_true hb, hf, hl1]
    have hl1 : ((100 : Int) < (nm.length : Int)) = False := eq_false (by omega)
    have c1' : chkD ⟨nm, d.ver, d.sh, d.w, d.h, d.holes, d.syms, d.regs, d.clus, d.ruls⟩ = chkD d := chk_nm d nm
    have c2' : chkD d = 0 → chkD ⟨nm, v, d.sh, d.w, d.h, d.holes, d.syms, d.regs, d.clus, d.ruls⟩ = if v < 1 ∨ 255 < v then 170 else 0 := fun z => chk_ver (d := { d with nm := nm }) ((chk_nm d nm).trans z) v
    by_cases hz : chkD d = 0
    · have c2' := c2' hz
      rw [hz] at c1'
      by_cases hv : v < 1 ∨ 255 < v
      · rw [if_pos hv] at c2'
        have hvb : (decide (v < 1) || decide (255 < v)) = true := by simpa using hv
        simp only [eE, eC, eN, reduceCtorEq, Nat.reduceEqDiff, ↓reduceIte, Nat.reduceAdd, Nat.reduceLeDiff, Bool.not_true, c8, TLb_sane, TLb_few, TLb_chk, sSan, s1, dDr_ok, dDr_dec, eq_true hb, hf, hl1, eq_true hd, eq_true (few_nmv hd nm d.ver), eq_true (few_nmv hd nm v), c1', hz, c2', hvb]
      · rw [if_neg hv] at c2'
        have hvb : (decide (v < 1) || decide (255 < v)) = false := by simp; omega
        simp only [eE, eC, eN, reduceCtorEq, Nat.reduceEqDiff, ↓reduceIte, Nat.reduceAdd, Nat.reduceLeDiff, Bool.not_true, c8, TLb_sane, TLb_few, TLb_chk, sSan, s1, dDr_ok, dDr_dec, eq_true hb, hf, hl1, eq_true hd, eq_true (few_nmv hd nm d.ver), eq_true (few_nmv hd nm v), c1', hz, c2', hvb]
    · simp only [eE, eC, eN, reduceCtorEq, Nat.reduceEqDiff, ↓reduceIte, Nat.reduceAdd, Nat.reduceLeDiff, Bool.not_true, Bool.not_false, c8, TLb_sane, TLb_few, TLb_chk, sSan, s1, dDr_ok, dDr_dec, eq_true hb, hf, hl1, eq_true hd, eq_true (few_nmv hd nm d.ver), c1', eq_false hz]
theorem p6 (d : Dcl) (k : Nat) (hb : BigD d) (hk : k < 256) : Pur Try.prog 6 [encD d, .int .u8 (k : Int)] (.bool true) := by
  refine .mk ⟨encD_under 0 d, trivial, trivial⟩ trivial (a6 (ev_awp TLb_ok (ev_evK ?_)))
  cases hf : few17 d with
  | false =>
    simp only [eE, eC, eN, reduceCtorEq, Nat.reduceEqDiff, ↓reduceIte, Nat.reduceAdd, Bool.not_true, Bool.not_false, List.length_map, c6, TLb_sane, TLb_few, sSan, s1, dD_ok, dD_dec, eq_true hb, hf]
  | true =>
    have hd := small_few (few_small hf)
    by_cases hz : chkD d = 0
    case neg =>
      simp only [eE, eC, eN, reduceCtorEq, Nat.reduceEqDiff, ↓reduceIte, Nat.reduceAdd, Bool.not_true, Bool.not_false, List.length_map, c6, TLb_sane, TLb_few, TLb_chk, sSan, s1, dD_ok, dD_dec, eq_true hb, hf, eq_true hd, eq_false hz]
    by_cases hn : d.ruls = []
    · have hn1 : ((d.ruls.length : Int) = 0) = True := eq_true (by rw [hn]; rfl)
      simp only [eE, eC, eN, reduceCtorEq, Nat.reduceEqDiff, ↓reduceIte, Nat.reduceAdd, Bool.not_true, List.length_map, c6, TLb_sane, TLb_few, TLb_chk, sSan, s1, dD_ok, dD_dec, eq_true hb, hf, eq_true hd, hz, hn1]
    have hpos : 0 < d.ruls.length := List.length_pos_iff.2 hn
    have hn1 : ((d.ruls.length : Int) = 0) = False := eq_false (by omega)
    have hrl : d.ruls.length < 1000000000 := hd.ru
    have em : (IntKind.wrap .i64 (k : Int)).tmod (d.ruls.length : Int) = ((k % d.ruls.length : Nat) : Int) := by
      rw [w64_in (by omega) (by omega)]; rfl
    have hj : k % d.ruls.length < d.ruls.length := Nat.mod_lt _ hpos
    generalize k % d.ruls.length = j at em hj
    have hg := List.getElem?_eq_getElem hj
    have hc := chk_cut hz hj
    obtain ⟨x, hx⟩ : ∃ x : Dcl, x = { d with ruls := cutR d.ruls j } := ⟨_, rfl⟩
    have he : encDo (cutD d (j : Int)) = encD x := by rw [hx]; rfl
    have hfx : FewD x := by rw [hx]; exact few_cut hd j
    rw [← hx] at hc
    clear hx
    generalize d.ruls[j] = r at hg hc
    by_cases hr : r.byN = []
    · rw [if_neg (by simp [hr])] at hc
      simp only [eE, eC, eN, reduceCtorEq, Nat.reduceEqDiff, ↓reduceIte, Nat.reduceAdd, Nat.reduceLeDiff, Bool.not_true, Option.getD_some, Int.toNat_natCast, Int.natCast_nonneg, List.length_map, List.getElem?_map, c6, TLb_sane, TLb_few, TLb_chk, TLb_cut, sSan, s1, s2, dI_ok, dI_dec, dD_ok, dD_dec, eq_true hb, hf, eq_true hd, eq_true hd.ru, hz, hn1, em, lt_T hj, hg, he, eq_true hfx, hc, scmp_ne, dec_T hr]
    · rw [if_pos hr] at hc
      simp only [eE, eC, eN, reduceCtorEq, Nat.reduceEqDiff, ↓reduceIte, Nat.reduceAdd, Nat.reduceLeDiff, Bool.not_true, Bool.not_false, Option.getD_some, Int.toNat_natCast, Int.natCast_nonneg, List.length_map, List.getElem?_map, c6, TLb_sane, TLb_few, TLb_chk, TLb_cut, sSan, s1, s2, dI_ok, dI_dec, dD_ok, dD_dec, eq_true hb, hf, eq_true hd, eq_true hd.ru, hz, hn1, em, lt_T hj, hg, he, eq_true hfx, hc, scmp_ne, dec_F hr]
end Go.AM
end
section
set_option maxRecDepth 20000
set_option linter.all false
namespace Go.AM
open Go.Proofs Go.Lib
theorem and1 (n : Int) : ibits .and .i64 n 1 = n % 2 := by
  have h1 : (BitVec.ofInt 64 1).toNat = 2 ^ 1 - 1 := by decide
  have key : (BitVec.ofInt 64 n &&& BitVec.ofInt 64 1).toNat = (n % ((2 ^ 64 : Nat) : Int)).toNat % 2 ^ 1 := by
    rw [BitVec.toNat_and, BitVec.toNat_ofInt, h1, Nat.and_two_pow_sub_one_eq_mod]
  show IntKind.i64.wrap ((BitVec.ofInt 64 n &&& BitVec.ofInt 64 1).toNat : Nat) = n % 2
  rw [key, IntKind.wrap_i64]
  omega
theorem and65535 (n : Int) : ibits .and .i64 n 65535 = n % 65536 := by
  have h1 : (BitVec.ofInt 64 65535).toNat = 2 ^ 16 - 1 := by decide
  have key : (BitVec.ofInt 64 n &&& BitVec.ofInt 64 65535).toNat = (n % ((2 ^ 64 : Nat) : Int)).toNat % 2 ^ 16 := by
    rw [BitVec.toNat_and, BitVec.toNat_ofInt, h1, Nat.and_two_pow_sub_one_eq_mod]
  show IntKind.i64.wrap ((BitVec.ofInt 64 n &&& BitVec.ofInt 64 65535).toNat : Nat) = n % 65536
  rw [key, IntKind.wrap_i64]
  omega
abbrev frN (d : Dcl) : Bs := nnn (iterF (d.ruls.map (·.nm)) d.ruls.length)
def frNo (d : Dcl) : AVal := .str (frN d)
def TLc : Tab := tadd 19 (s1 dD (fun d => d.ruls.length ≤ 2000) frNo) TLb
theorem TLc_ok : TabOK Try.prog TLc := TLb_ok.add (q1 fun d h => p19 d h)
theorem TLc_fr (a : List AVal) (H : AHeap) : TLc 19 a H = s1 dD (fun d => d.ruls.length ≤ 2000) frNo a H := rfl
theorem TLc_sane (a : List AVal) (H : AHeap) : TLc 9 a H = sSan a H := rfl
theorem TLc_few (a : List AVal) (H : AHeap) : TLc 10 a H = s1 dD BigD (fun d => .bool (few17 d)) a H := rfl
theorem TLc_with (a : List AVal) (H : AHeap) : TLc 20 a H = s2 dD dRu (fun d _ => few d.ruls) (fun d r => encDo (withR d r)) a H := rfl
theorem TLc_chk (a : List AVal) (H : AHeap) : TLc 18 a H = s1 dD FewD (fun d => .int .i64 (chkD d)) a H := rfl
theorem TLc_un (a : List AVal) (H : AHeap) : TLc 16 a H = s1 dD (fun d => few d.ruls) (fun d => eIs (unread d.ruls)) a H := rfl
theorem TLc_rd (a : List AVal) (H : AHeap) : TLc 13 a H = s1 dRu any1 (fun r => .bool (readR r)) a H := rfl
theorem TLc_same (a : List AVal) (H : AHeap) : TLc 15 a H = s2 dIs dIs (fun a _ => few a) (fun a b => .bool (decide (a = b))) a H := rfl
theorem p4 (d : Dcl) (st : Bool) (op n : Int) (hb : BigD d) : Pur Try.prog 4 [encD d, .bool st, .int .i64 op, .int .i64 n] (.bool true) := by
  refine .mk ⟨encD_under 0 d, trivial, trivial, trivial, trivial⟩ trivial (a4 (ev_awp TLc_ok (ev_evK ?_)))
  cases hf : few17 d with
  | false =>
    simp only [eE, eC, eN, reduceCtorEq, Nat.reduceEqDiff, ↓reduceIte, Nat.reduceAdd, Bool.not_true, Bool.not_false, c4, TLc_sane, TLc_few, sSan, s1, dD_ok, dD_dec, eq_true hb, hf]
  | true =>
  have hd := small_few (few_small hf)
  by_cases hz : chkD d = 0
  case neg =>
    simp only [eE, eC, eN, reduceCtorEq, Nat.reduceEqDiff, ↓reduceIte, Nat.reduceAdd, Bool.not_true, Bool.not_false, c4, TLc_sane, TLc_few, TLc_chk, sSan, s1, dD_ok, dD_dec, eq_true hb, hf, eq_true hd, eq_false hz]
  obtain ⟨hdo, hun⟩ := chk_zero.1 hz
  have hrd := unread_nil.1 hun
  simp only [eE, eC, eN, reduceCtorEq, Nat.reduceEqDiff, ↓reduceIte, Nat.reduceAdd, Bool.not_true, List.length_map, c4, TLc_sane, TLc_few, TLc_chk, sSan, s1, dD_ok, dD_dec, eq_true hb, hf, eq_true hd, hz]
  refine k_loop (fun v : VF => ⟨[(1, true, .bool st), (2, true, .int .i64 op), (3, true, .int .i64 n), (4, true, .ptr 0 0), (24, true, eRus d.ruls), (25, true, .int .i64 d.ruls.length), (26, true, .int .i64 v.i)], v.H, v.n⟩) (fun v => v.i ≤ d.ruls.length ∧ Fresh v.H v.n ∧ 2 ≤ v.n ∧ hget v.H 0 = some (.box (cellsD d))) (fun v => d.ruls.length - v.i)
    ⟨0, hset hnil 0 (.box (cellsD d)), 2⟩ rfl ⟨Nat.zero_le _, Fresh.nil.hset (m := 2) (Nat.zero_le 2) (show 0 < 2 by decide), Nat.le_refl _, rfl⟩ ?_
  rintro ⟨i, H, m⟩ ⟨hi, hfr, hm, h0⟩
  simp only at hi hfr hm h0
  have hrl : d.ruls.length < 1000000000 := hd.ru
  by_cases hlt : i < d.ruls.length
  · have hg := List.getElem?_eq_getElem hlt
    have e := w64_succ (k := i) (by omega)
    have hr := hrd _ (List.getElem_mem hlt)
    generalize d.ruls[i] = r at hg hr
    have hk := hr
    unfold readR at hk
    rw [Bool.and_eq_true, decide_eq_true_eq, decide_eq_true_eq] at hk
    have k12 : (r.kind = 12) = False := eq_false (by omega)
    have k13 : (r.kind = 13) = False := eq_false (by omega)
    simp only [eE, eC, eN, Nat.reduceEqDiff, ↓reduceIte, Nat.reduceAdd, Nat.reduceLeDiff, Int.reduceEq, Bool.not_true, Option.getD_some, Int.toNat_natCast, Int.natCast_nonneg, List.length_map, List.getElem?_map, lt_T hlt, hg, e, fr1 hfr, TLc_rd, s1, dRu_ok, dRu_dec, hr, hset_hset, k12, k13]
    exact .mk ⟨i + 1, hset H (m + 2) (.box (cellsRu r)), m + 4⟩ rfl ⟨hlt, hfr.hset (m := m + 4) (by omega) (by omega), by simp only []; omega, by simp only []; rw [hget_hset_ne _ _ _ _ (by omega)]; exact h0⟩ (by simp only []; omega)
  obtain rfl : i = d.ruls.length := by omega
  by_cases h16 : 16 ≤ d.ruls.length
  · have h161 : ((16 : Int) ≤ d.ruls.length) = True := eq_true (by omega)
    simp only [eE, eC, eN, Nat.reduceEqDiff, ↓reduceIte, Nat.reduceAdd, c0, i00, List.length_map, lt_F hlt, h0, TLc_un, s1, dD_ok, dD_dec, eq_true hd.ru, hun, h161]
  have h161 : ((16 : Int) ≤ d.ruls.length) = False := eq_false (by omega)
  have hno := fresh_no (d.ruls.map (·.nm))
  rw [List.length_map] at hno
  have h20 : (d.ruls.length ≤ 2000) = True := eq_true (by omega)
  have hfN : frNo d = .str (frN d) := rfl
  have y0 : ∀ k, (m + k = 0) = False := fun k => eq_false (by omega)
  have y1 : ∀ k, (0 = m + k) = False := fun k => eq_false (by omega)
  generalize hN : frN d = N at hfN
  have hN' : N ∉ d.ruls.map (·.nm) := by rw [← hN]; exact hno
  have hlen : d.ruls.length < 16 := by omega
  have few1 : few ([(d.ruls.length : Int)] : List Int) := by show 1 < _; decide
  cases st with
  | false =>
    obtain ⟨c1', c2'⟩ := law_fill hz hlen hN'
    obtain ⟨x, hx⟩ : ∃ x : Dcl, x = withR d ⟨N, [114, 111, 119, 115], 12, 1, [], [], 0, 0, 0, 0, [], -1⟩ := ⟨_, rfl⟩
    have he : encDo (withR d ⟨N, [114, 111, 119, 115], 12, 1, [], [], 0, 0, 0, 0, [], -1⟩) = encD x := by rw [hx]; rfl
    have hfx : FewD x := by rw [hx]; exact few_with hd ⟨by show 0 < _; decide, by show 0 < _; decide⟩ (by omega)
    have c1'' : chkD x = 171 := by rw [hx]; exact c1'
    have c2'' : unread x.ruls = [(d.ruls.length : Int)] := by rw [hx]; exact c2'
    clear hx
    simp only [eE, eC, eN, reduceCtorEq, Nat.reduceEqDiff, ↓reduceIte, Nat.reduceAdd, Nat.reduceLeDiff, Nat.reduceMul, Nat.reduceLT, c0, i00, List.length_map, lt_F hlt, h0, TLc_un, TLc_fr, TLc_with, TLc_chk, TLc_same, s1, s2, dD_ok, dD_dec, dIs_ok, dIs_dec, rr_ok, rr_dec, i1_ok, i1_dec, eq_true hd.ru, hun, h161, h20, hfN, fr1 hfr, y0, hset_hset, he, eq_true hfx, eq_true hfx.ru, c1'', c2'', eq_true few1]
  | true =>
    have o1 : IntKind.wrap .i64 (1 + op % 2) = 1 + op % 2 := w64_in (by omega) (by omega)
    obtain ⟨c1', c2'⟩ := law_step hz hlen hN' (op := 1 + op % 2) (n := n % 65536) (by omega) (by omega) (by omega) (by omega)
    obtain ⟨x, hx⟩ : ∃ x : Dcl, x = withR d ⟨N, [], 13, 0, [], [], 0, 0, 1 + op % 2, n % 65536, [], -1⟩ := ⟨_, rfl⟩
    have he : encDo (withR d ⟨N, [], 13, 0, [], [], 0, 0, 1 + op % 2, n % 65536, [], -1⟩) = encD x := by rw [hx]; rfl
    have hfx : FewD x := by rw [hx]; exact few_with hd ⟨by show 0 < _; decide, by show 0 < _; decide⟩ (by omega)
    have c1'' : chkD x = 171 := by rw [hx]; exact c1'
    have c2'' : unread x.ruls = [(d.ruls.length : Int)] := by rw [hx]; exact c2'
    clear hx
    simp only [eE, eC, eN, reduceCtorEq, Nat.reduceEqDiff, ↓reduceIte, Nat.reduceAdd, Nat.reduceLeDiff, Nat.reduceMul, Nat.reduceLT, Int.reduceEq, c0, i00, List.length_map, lt_F hlt, h0, TLc_un, TLc_fr, TLc_with, TLc_chk, TLc_same, s1, s2, dD_ok, dD_dec, dIs_ok, dIs_dec, rr_ok, rr_dec, i1_ok, i1_dec, eq_true hd.ru, hun, h161, h20, hfN, fr1 hfr, y0, hset_hset, and1, and65535, o1, he, eq_true hfx, eq_true hfx.ru, c1'', c2'', eq_true few1]
end Go.AM
end
section
set_option maxRecDepth 20000
set_option linter.all false
namespace Go.AM
open Go.Proofs Go.Lib
theorem p7 (d : Dcl) (hb : BigD d) : Pur Try.prog 7 [encD d] (.bool true) := by
  refine .mk ⟨encD_under 0 d, trivial⟩ trivial (a7 (ev_awp TLb_ok (ev_evK ?_)))
  cases hf : few17 d with
  | false =>
    simp only [eE, eC, eN, reduceCtorEq, Nat.reduceEqDiff, ↓reduceIte, Nat.reduceAdd, Bool.not_true, Bool.not_false, c7, TLb_sane, TLb_few, sSan, s1, dD_ok, dD_dec, eq_true hb, hf]
  | true =>
  have hd := small_few (few_small hf)
  by_cases hz : chkD d = 0
  case neg =>
    simp only [eE, eC, eN, Nat.reduceEqDiff, ↓reduceIte, Nat.reduceAdd, Bool.not_true, Bool.not_false, c7, TLb_sane, TLb_few, TLb_chk, sSan, s1, dD_ok, dD_dec, eq_true hb, hf, eq_true hd, eq_false hz]
  have hrl : d.ruls.length < 1000000000 := hd.ru
  have hcl : d.clus.length < 1000000000 := hd.cl
  simp only [eE, eC, eN, Nat.reduceEqDiff, ↓reduceIte, Nat.reduceAdd, Nat.reduceLeDiff, Bool.not_true, List.length_map, c7, TLb_sane, TLb_few, TLb_chk, sSan, s1, dD_ok, dD_dec, eq_true hb, hf, eq_true hd, hz]
  refine k_loop (fun v : VF => ⟨[(1, true, .ptr 0 0), (19, true, eCls d.clus), (20, true, .int .i64 d.clus.length), (21, true, .int .i64 v.i)], v.H, v.n⟩) (fun v => v.i ≤ d.clus.length ∧ Fresh v.H v.n ∧ 2 ≤ v.n ∧ hget v.H 0 = some (.box (cellsD d))) (fun v => d.clus.length - v.i)
    ⟨0, hset hnil 0 (.box (cellsD d)), 2⟩ rfl ⟨Nat.zero_le _, Fresh.nil.hset (m := 2) (Nat.zero_le 2) (show 0 < 2 by decide), Nat.le_refl _, rfl⟩ ?_
  rintro ⟨i, H, n⟩ ⟨hi, hfr, hn, h0⟩
  simp only at hi hfr hn h0
  by_cases hlt : i < d.clus.length
  case neg =>
    simp only [eE, eC, eN, Nat.reduceEqDiff, ↓reduceIte, lt_F hlt]
  have hg := List.getElem?_eq_getElem hlt
  have e := w64_succ (k := i) (by omega)
  obtain ⟨hmany, hlaw⟩ := law_clues hz hg
  generalize d.clus[i] = c at hg hlaw
  have y0 : ∀ k, (n + k = 0) = False := fun k => eq_false (by omega)
  simp only [eE, eC, eN, Nat.reduceEqDiff, ↓reduceIte, Nat.reduceAdd, Option.getD_some, Int.toNat_natCast, Int.natCast_nonneg, List.length_map, List.getElem?_map, lt_T hlt, hg, fr1 hfr, h0, y0, hset_hset]
  refine k_loop (fun v : VF => ⟨[(1, true, .ptr 0 0), (3, true, .int .i64 i), (4, true, .ptr (n + 3) 0), (5, true, .int .i64 (cntZ (d.ruls.take v.i) i)), (19, true, eCls d.clus), (20, true, .int .i64 d.clus.length), (21, true, .int .i64 i), (27, true, eRus d.ruls), (28, true, .int .i64 d.ruls.length), (29, true, .int .i64 v.i)], v.H, v.n⟩)
    (fun v => v.i ≤ d.ruls.length ∧ Fresh v.H v.n ∧ n + 6 ≤ v.n ∧ hget v.H 0 = some (.box (cellsD d)) ∧ hget v.H (n + 3) = some (.box (encCl c).cells)) (fun v => d.ruls.length - v.i)
    ⟨0, hset H (n + 3) (.box (encCl c).cells), n + 6⟩ rfl ⟨Nat.zero_le _, hfr.hset (m := n + 6) (by omega) (by omega), Nat.le_refl _, by simp only []; rw [hget_hset_ne _ _ _ _ (by omega)]; exact h0, hget_hset_eq ..⟩ ?_
  rintro ⟨j, H1, n1⟩ ⟨hj, hf1, hn1, h01, hc1⟩
  simp only at hj hf1 hn1 h01 hc1
  by_cases hlj : j < d.ruls.length
  · have hgj := List.getElem?_eq_getElem hlj
    have ej := w64_succ (k := j) (by omega)
    have htk : d.ruls.take (j + 1) = d.ruls.take j ++ [d.ruls[j]] := by rw [List.take_add_one, List.getElem?_eq_getElem hlj]; rfl
    have hl := hlaw _ (List.getElem_mem hlj)
    generalize d.ruls[j] = r at hgj htk hl
    have hcn := cnt_app (d.ruls.take j) r (i : Int)
    rw [← htk] at hcn
    have hcle := cnt_le (d.ruls.take j) (i : Int)
    rw [List.length_take] at hcle
    have ew := w64_succ (k := cntZ (d.ruls.take j) (i : Int)) (by omega)
    have y1 : ∀ q, (n1 + q = n + 3) = False := fun q => eq_false (by omega)
    have y2 : ∀ q, (n1 + q = 0) = False := fun q => eq_false (by omega)
    have hnext : ∀ kk, lpN (fun v : VF => ⟨[(1, true, .ptr 0 0), (3, true, .int .i64 i), (4, true, .ptr (n + 3) 0), (5, true, .int .i64 (cntZ (d.ruls.take v.i) i)), (19, true, eCls d.clus), (20, true, .int .i64 d.clus.length), (21, true, .int .i64 i), (27, true, eRus d.ruls), (28, true, .int .i64 d.ruls.length), (29, true, .int .i64 v.i)], v.H, v.n⟩)
        (fun v => v.i ≤ d.ruls.length ∧ Fresh v.H v.n ∧ n + 6 ≤ v.n ∧ hget v.H 0 = some (.box (cellsD d)) ∧ hget v.H (n + 3) = some (.box (encCl c).cells)) (fun v => d.ruls.length - v.i) ⟨j, H1, n1⟩
        ⟨[(1, true, .ptr 0 0), (3, true, .int .i64 i), (4, true, .ptr (n + 3) 0), (5, true, .int .i64 (cntZ (d.ruls.take (j + 1)) i)), (19, true, eCls d.clus), (20, true, .int .i64 d.clus.length), (21, true, .int .i64 i), (27, true, eRus d.ruls), (28, true, .int .i64 d.ruls.length), (29, true, .int .i64 ((j + 1 : Nat) : Int))], hset H1 (n1 + 2) (.box (cellsRu r)), n1 + 4 + kk⟩ := fun kk =>
      .mk ⟨j + 1, hset H1 (n1 + 2) (.box (cellsRu r)), n1 + 4 + kk⟩ rfl ⟨hlj, hf1.hset (m := n1 + 4 + kk) (by omega) (by omega), by simp only []; omega, by simp only []; rw [hget_hset_ne _ _ _ _ (by omega)]; exact h01, by simp only []; rw [hget_hset_ne _ _ _ _ (by omega)]; exact hc1⟩ (by simp only []; omega)
    by_cases hrc : r.clue = i
    · rw [if_pos hrc] at hcn
      rcases hl hrc with ⟨q1, q2, q3, q4, q5, q6⟩ | ⟨q1, q2, q3⟩ | ⟨q1, q2, q3⟩
      · have f1 : (c.lo < 0) = False := eq_false (by omega)
        have f2 : (c.hi < c.lo) = False := eq_false (by omega)
        rw [hcn] at hnext
        rcases q1 with q1 | q1
        · simp only [eE, eC, eN, Nat.reduceEqDiff, ↓reduceIte, Nat.reduceAdd, Nat.reduceLeDiff, Int.reduceEq, Bool.not_true, Option.getD_some, Int.toNat_natCast, Int.natCast_nonneg, List.length_map, List.getElem?_map, lt_T hlj, hgj, ej, fr1 hf1, y1, hset_hset, hc1, eq_true hrc, ew, eq_true q1, eq_true q2, eq_true q3, eq_true q6, f1, f2]
          exact hnext 0
        · have p2 : (r.kind = 2) = False := eq_false (by omega)
          simp only [eE, eC, eN, Nat.reduceEqDiff, ↓reduceIte, Nat.reduceAdd, Nat.reduceLeDiff, Int.reduceEq, Bool.not_true, Option.getD_some, Int.toNat_natCast, Int.natCast_nonneg, List.length_map, List.getElem?_map, lt_T hlj, hgj, ej, fr1 hf1, y1, hset_hset, hc1, eq_true hrc, ew, p2, eq_true q1, eq_true q2, eq_true q3, eq_true q6, f1, f2]
          exact hnext 0
      · rw [hcn] at hnext
        have p2 : (r.kind = 2) = False := eq_false (by omega)
        have p3 : (r.kind = 3) = False := eq_false (by omega)
        simp only [eE, eC, eN, Nat.reduceEqDiff, ↓reduceIte, Nat.reduceAdd, Nat.reduceLeDiff, Int.reduceEq, Bool.not_true, Option.getD_some, Int.toNat_natCast, Int.natCast_nonneg, List.length_map, List.getElem?_map, lt_T hlj, hgj, ej, fr1 hf1, y1, hset_hset, hc1, eq_true hrc, ew, p2, p3, eq_true q1, eq_true q2, eq_true q3]
        exact hnext 0
      · rw [hcn] at hnext
        have p2 : (r.kind = 2) = False := eq_false (by omega)
        have p3 : (r.kind = 3) = False := eq_false (by omega)
        have p5 : (r.kind = 5) = False := eq_false (by omega)
        simp only [eE, eC, eN, Nat.reduceEqDiff, ↓reduceIte, Nat.reduceAdd, Nat.reduceLeDiff, Int.reduceEq, Bool.not_true, Option.getD_some, Int.toNat_natCast, Int.natCast_nonneg, List.length_map, List.getElem?_map, lt_T hlj, hgj, ej, fr1 hf1, y1, hset_hset, hc1, eq_true hrc, ew, p2, p3, p5, eq_true q1, eq_true q2, eq_true q3]
        exact hnext 0
    · rw [if_neg hrc, Nat.add_zero] at hcn
      rw [hcn] at hnext
      simp only [eE, eC, eN, Nat.reduceEqDiff, ↓reduceIte, Nat.reduceAdd, Int.reduceEq, Bool.not_false, Option.getD_some, Int.toNat_natCast, Int.natCast_nonneg, List.length_map, List.getElem?_map, lt_T hlj, hgj, ej, fr1 hf1, hset_hset, eq_false hrc]
      exact hnext 0
  obtain rfl : j = d.ruls.length := by omega
  have hm1 : cntZ d.ruls (i : Int) = 1 := (cnt_many d.ruls i).trans hmany
  simp only [eE, eC, eN, Nat.reduceEqDiff, ↓reduceIte, Int.reduceEq, Bool.not_true, c1, lt_F hlj, List.take_length, hm1, e]
  exact .mk ⟨i + 1, H1, n1⟩ rfl ⟨hlt, hf1, by simp only []; omega, h01⟩ (by simp only []; omega)
end Go.AM
end
section
set_option maxRecDepth 20000
set_option linter.all false
namespace Go.AM
open Go.Proofs Go.Lib
abbrev eU (k : Nat) : AVal := .int .u8 (k : Int)
abbrev eUs (l : List Nat) : AVal := .sl (.none 1) (l.map eU)
theorem eUs_under (n : Nat) (l : List Nat) : (eUs l).under n := ⟨trivial, by
  induction l with
  | nil => trivial
  | cons x r ih => exact ⟨trivial, ih⟩⟩
theorem bit1 (set i : Int) : decide (ibits .and .i64 (ishift .shr .i64 set i) 1 = 1) = bitZ set i := by
  unfold bitZ
  rw [and1]
  generalize ishift .shr .i64 set i = x
  have : x % 2 = 0 ∨ x % 2 = 1 := by omega
  rcases this with h | h <;> simp [h]
structure VVs where
  i : Nat
  tk : Tok
  H : AHeap
  n : Nat
structure IVs (d : Dcl) (V : List Int) (v : VVs) : Prop where
  hi : v.i ≤ (d.syms.take 16).length
  fr : Fresh v.H v.n
  hn : 2 ≤ v.n
  h0 : hget v.H 0 = some (.box (cellsD d))
  tok : tkG 1 1 v.H v.tk
  es : v.tk.esz = 1 ∨ V = []
def pkV (d : Dcl) (set : Int) (i : Nat) : List Int := pkS (bitZ set) ((d.syms.take 16).take i) 0
theorem pkV_len (d : Dcl) (set : Int) (i : Nat) : (pkV d set i).length ≤ 16 := by
  unfold pkV pkS
  rw [List.length_map]
  refine Nat.le_trans (List.length_filter_le ..) ?_
  rw [List.length_zipIdx, List.length_take, List.length_take]; omega
theorem p5 (d : Dcl) (set : Int) (ps : List Nat) (hb : BigD d) (hp : ∀ p ∈ ps, p < 256) : Pur Try.prog 5 [encD d, .int .i64 set, eUs ps] (.bool true) := by
  refine .mk ⟨encD_under 0 d, trivial, eUs_under 0 _, trivial⟩ trivial (a5 (ev_awp TLb_ok (ev_evK ?_)))
  cases hf : few17 d with
  | false =>
    simp only [eE, eC, eN, reduceCtorEq, Nat.reduceEqDiff, ↓reduceIte, Nat.reduceAdd, Bool.not_true, Bool.not_false, List.length_map, c5, TLb_sane, TLb_few, sSan, s1, dD_ok, dD_dec, eq_true hb, hf]
  | true =>
  have hd := small_few (few_small hf)
  by_cases hl : 256 < ps.length
  · have hl1 : ((256 : Int) < (ps.length : Int)) = True := eq_true (by omega)
    simp only [eE, eC, eN, reduceCtorEq, Nat.reduceEqDiff, ↓reduceIte, Nat.reduceAdd, Bool.not_true, List.length_map, c5, TLb_sane, TLb_few, sSan, s1, dD_ok, dD_dec, eq_true hb, hf, hl1]
  have hl1 : ((256 : Int) < (ps.length : Int)) = False := eq_false (by omega)
  have hsl : d.syms.length < 1000000000 := hd.sy
  obtain ⟨S1, S2, S3, hS⟩ : ∃ a b c, sumS d.syms (bitZ set) (ps.length : Int) = (a, b, c) := ⟨_, _, _, rfl⟩
  simp only [eE, eC, eN, reduceCtorEq, Nat.reduceEqDiff, ↓reduceIte, Nat.reduceAdd, Nat.reduceLT, Bool.not_true, Option.getD_some, List.length_map, List.getElem?_cons_zero, List.getElem?_cons_succ, c5, TLb_sane, TLb_few, TLb_sum, sSan, s1, s3, dI_ok, dI_dec, dD_ok, dD_dec, eq_true hb, hf, hl1, eq_true hd, hS]
  refine k_loop (fun v : VVs => ⟨[(1, true, .int .i64 set), (2, true, eUs ps), (3, true, .ptr 0 0), (7, true, .int .i64 S1), (8, true, .int .i64 S2), (9, true, .bool S3), (10, true, .sl v.tk ((pkV d set v.i).map eI)), (11, true, .int .i64 v.i)], v.H, v.n⟩) (fun v => IVs d (pkV d set v.i) v) (fun v => 16 - v.i)
    ⟨0, .nil, hset hnil 0 (.box (cellsD d)), 2⟩ rfl ⟨Nat.zero_le _, Fresh.nil.hset (m := 2) (Nat.zero_le 2) (show 0 < 2 by decide), Nat.le_refl _, rfl, .inl rfl, .inr rfl⟩ ?_
  have ht16 : (d.syms.take 16).length = min 16 d.syms.length := List.length_take
  rintro ⟨i, tk, H, n⟩ ⟨hi, hfr, hn, h0, htk, hes⟩
  simp only at hi hfr hn h0 htk hes
  by_cases hlt : i < d.syms.length ∧ i < 16
  · obtain ⟨hlt, hlt16⟩ := hlt
    have hltL : i < (d.syms.take 16).length := by omega
    have hg := List.getElem?_eq_getElem hlt
    have e := w64_succ (k := i) (by omega)
    have hs := pk_take (B := bitZ set) hltL
    rw [List.getElem_take] at hs
    change pkV d set (i + 1) = pkV d set i ++ _ at hs
    generalize d.syms[i] = s at hg hs
    have l16 : ((i : Int) < 16) = True := eq_true (by omega)
    have eu : IntKind.wrap .u64 (i : Int) = i := by rw [IntKind.wrap_u64]; omega
    have hpl := pkV_len d set i
    cases hz : bitZ set i with
    | false =>
      rw [hz, if_neg (by decide), List.append_nil] at hs
      simp only [eE, eC, eN, reduceCtorEq, Nat.reduceEqDiff, ↓reduceIte, Nat.reduceAdd, Nat.reduceLeDiff, Int.reduceEq, Int.natCast_nonneg, List.length_map, lt_T hlt, l16, e, eu, bit1, hz, h0]
      exact .mk ⟨i + 1, tk, H, n⟩ (by simp only [hs]) ⟨hltL, hfr, hn, h0, htk, by simp only [hs]; exact hes⟩ (by simp only []; omega)
    | true =>
      rw [hz, if_pos rfl] at hs
      have q1 : appOK H 1 tk = True := eq_true htk.app
      have q2 : ((pkV d set i).length ≤ 35184372088831) = True := eq_true (by omega)
      have q3 : small ((pkV d set i).length + 1) 8 = True := eq_true (small_of (by omega) (by decide))
      simp only [eE, eC, eN, reduceCtorEq, Nat.reduceEqDiff, ↓reduceIte, Nat.reduceAdd, Nat.reduceLeDiff, Nat.reduceMul, Nat.reduceLT, Int.reduceEq, Option.getD_some, Int.toNat_natCast, Int.natCast_nonneg, List.length_map, List.getElem?_map, lt_T hlt, l16, hg, e, eu, bit1, hz, h0, fr1 hfr, q1, q2, q3]
      refine .mk ⟨i + 1, .own (n + 8) 1, hset (killTok H tk) (n + 8) .tok, n + 10⟩ ?_ ⟨hltL, (kill_fresh htk hfr).hset (m := n + 10) (by omega) (by omega), by simp only []; omega, ?_, .inr (.inr ⟨n + 8, rfl, by omega, hget_hset_eq ..⟩), .inl rfl⟩ (by simp only []; omega)
      · simp only [hs, List.map_append]; rfl
      · simp only []
        rw [hget_hset_ne _ _ _ _ (by omega), kill_get htk (.inr ⟨_, h0⟩)]; exact h0
  have hbx : (decide ((i : Int) < (d.syms.length : Int)) && decide ((i : Int) < 16)) = false := by simp; omega
  obtain rfl : i = (d.syms.take 16).length := by omega
  have hV : pkV d set (d.syms.take 16).length = pickS d.syms (bitZ set) := by unfold pkV; rw [List.take_length]; rfl
  have hVl := pkV_len d set (d.syms.take 16).length
  rw [hV] at hes hVl
  have hPC := pick_cases d.syms (bitZ set) (ps.length : Int)
  have hOK : S3 = true → (pickS d.syms (bitZ set)).all okv = true := fun z => by
    cases w : (pickS d.syms (bitZ set)).all okv with
    | true => rfl
    | false => rw [sum_bad w] at hS; cases hS; cases z
  rw [hS] at hPC
  simp only [eE, eC, eN, Nat.reduceEqDiff, ↓reduceIte, Nat.reduceAdd, Nat.reduceLeDiff, List.length_map, hbx, h0, hV]
  generalize pickS d.syms (bitZ set) = V at hes hVl hPC hOK
  rcases hPC with ⟨q, hbad⟩ | ⟨v, r, hVe, q⟩
  · obtain ⟨rfl, rfl, rfl⟩ : S1 = 0 ∧ S2 = 0 ∧ S3 = false := by cases q; exact ⟨rfl, rfl, rfl⟩
    simp only [eE, eC, eN, Nat.reduceEqDiff, ↓reduceIte, Bool.not_false, List.length_map]
    refine k_loop (fun j : Nat => ⟨[(10, true, .sl tk (V.map eI)), (68, true, .sl tk (V.map eI)), (69, true, .int .i64 V.length), (70, true, .int .i64 j)], H, n⟩) (fun j => j ≤ V.length ∧ ∀ m (hm : m < V.length), m < j → 0 ≤ V[m] ∧ V[m] ≤ 99) (fun j => V.length - j)
      0 rfl ⟨Nat.zero_le _, fun m _ h => absurd h (Nat.not_lt_zero _)⟩ ?_
    rintro j ⟨hj, hall⟩
    by_cases hlj : j < V.length
    · have hg := List.getElem?_eq_getElem hlj
      have e := w64_succ (k := j) (by omega)
      have hnx : 0 ≤ V[j] ∧ V[j] ≤ 99 → ∀ m (hm : m < V.length), m < j + 1 → 0 ≤ V[m] ∧ V[m] ≤ 99 := fun z m hm h => by
        by_cases w : m = j
        · subst w; exact z
        · exact hall m hm (by omega)
      generalize V[j] = x at hg hnx
      have hte : tk.esz = 1 := hes.resolve_right fun z => by rw [z] at hlj; exact absurd hlj (Nat.not_lt_zero _)
      by_cases hx : 0 ≤ x ∧ x ≤ 99
      · have hb2 : (decide (x < 0) || decide (99 < x)) = false := by simp; omega
        simp only [eE, eC, eN, Nat.reduceEqDiff, ↓reduceIte, Int.reduceEq, Option.getD_some, Int.toNat_natCast, Int.natCast_nonneg, List.length_map, List.getElem?_map, lt_T hlj, hg, e, hb2, hte]
        exact .mk (j + 1) rfl ⟨hlj, hnx hx⟩ (by omega)
      · have hb2 : (decide (x < 0) || decide (99 < x)) = true := by simp; omega
        simp only [eE, eC, eN, Nat.reduceEqDiff, ↓reduceIte, Option.getD_some, Int.toNat_natCast, Int.natCast_nonneg, List.length_map, List.getElem?_map, lt_T hlj, hg, hb2, hte]
    obtain rfl : j = V.length := by omega
    have hV0 : V = [] := by
      rcases hbad with h | h | h | ⟨x, hx, h⟩
      · omega
      · omega
      · exact h
      · obtain ⟨m, hm, rfl⟩ := List.mem_iff_getElem.1 hx
        have := hall m hm hm
        omega
    subst hV0
    simp only [eE, eC, eN, Nat.reduceEqDiff, ↓reduceIte, c0, i00]
  · obtain ⟨rfl, rfl, rfl⟩ : S1 = (ps.length : Int) * r.foldl min v ∧ S2 = (ps.length : Int) * r.foldl max v ∧ S3 = true := by cases q; exact ⟨rfl, rfl, rfl⟩
    have hne : ((V.length : Int) = 0) = False := eq_false (by rw [hVe, List.length_cons]; omega)
    have hOK := hOK rfl
    have hall : ∀ x ∈ V, 0 ≤ x ∧ x ≤ 99 := fun x hx => by
      have := List.all_eq_true.1 hOK x hx
      simpa [okv] using this
    have hVpos : 0 < V.length := by rw [hVe, List.length_cons]; omega
    have hte : tk.esz = 1 := hes.resolve_right fun z => by rw [z] at hVpos; exact absurd hVpos (Nat.not_lt_zero _)
    obtain ⟨f, hfd⟩ : ∃ f : Nat → Int, f = fun p => V[p % V.length]?.getD 0 := ⟨_, rfl⟩
    have hfV : ∀ p, f p ∈ V ∧ V[p % V.length]? = some (f p) := fun p => by
      have hj : p % V.length < V.length := Nat.mod_lt _ hVpos
      rw [hfd]
      simp only [List.getElem?_eq_getElem hj, Option.getD_some]
      exact ⟨List.getElem_mem _, trivial⟩
    have hf99 : ∀ p, 0 ≤ f p ∧ f p ≤ 99 := fun p => hall _ (hfV p).1
    clear hfd
    simp only [eE, eC, eN, Nat.reduceEqDiff, ↓reduceIte, Bool.not_true, List.length_map, hne]
    refine k_loop (fun j : Nat => ⟨[(2, true, eUs ps), (7, true, .int .i64 ((ps.length : Int) * r.foldl min v)), (8, true, .int .i64 ((ps.length : Int) * r.foldl max v)), (10, true, .sl tk (V.map eI)), (14, true, .int .i64 ((ps.take j).map f).sum), (15, true, .bool false), (16, true, .bool false), (87, true, eUs ps), (88, true, .int .i64 ps.length), (89, true, .int .i64 j)], H, n⟩) (fun j => j ≤ ps.length ∧ 0 ≤ ((ps.take j).map f).sum ∧ ((ps.take j).map f).sum ≤ 99 * (j : Int)) (fun j => ps.length - j)
      0 rfl ⟨Nat.zero_le _, by simp, by simp⟩ ?_
    rintro j ⟨hj, hs0, hs1⟩
    by_cases hlj : j < ps.length
    · have hg := List.getElem?_eq_getElem hlj
      have e := w64_succ (k := j) (by omega)
      have hp2 := hp _ (List.getElem_mem hlj)
      have hmt := map_take (f := f) hlj
      generalize ps[j] = p at hg hp2 hmt
      have em : (IntKind.wrap .i64 (p : Int)).tmod (V.length : Int) = ((p % V.length : Nat) : Int) := by
        rw [w64_in (by omega) (by omega)]; rfl
      have hjm : p % V.length < V.length := Nat.mod_lt _ hVpos
      have hgm := (hfV p).2
      have h99 := hf99 p
      have hsum : ((ps.take (j + 1)).map f).sum = ((ps.take j).map f).sum + f p := by rw [hmt]; simp
      generalize p % V.length = m at em hjm hgm
      have ew : IntKind.wrap .i64 (((ps.take j).map f).sum + f p) = ((ps.take (j + 1)).map f).sum := by rw [hsum]; exact w64_in (by omega) (by omega)
      simp only [eE, eC, eN, Nat.reduceEqDiff, ↓reduceIte, Int.reduceEq, Option.getD_some, Int.toNat_natCast, Int.natCast_nonneg, List.length_map, List.getElem?_map, lt_T hlj, hg, e, hne, em, lt_T hjm, hgm, hte, ew]
      exact .mk (j + 1) rfl ⟨hlj, by rw [hsum]; omega, by rw [hsum]; omega⟩ (by omega)
    obtain rfl : j = ps.length := by omega
    rw [List.take_length] at hs0 hs1
    obtain ⟨l1, l2, l3, l4⟩ := law_sums (v := v) (r := r) (l := ps.map f) (fun x hx => by
      obtain ⟨p, -, rfl⟩ := List.mem_map.1 hx
      rw [← hVe]; exact (hfV p).1)
    rw [List.length_map] at l1 l2
    rw [← hVe] at l3 l4
    simp only [eE, eC, eN, Nat.reduceEqDiff, ↓reduceIte, List.length_map, lt_F hlj, List.take_length]
    generalize (ps.map f).sum = sm at l1 l2 hs0 hs1
    generalize hlo : (ps.length : Int) * r.foldl min v = lo at l1
    generalize hup : (ps.length : Int) * r.foldl max v = up at l2
    refine k_loop (fun j : Nat => ⟨[(2, true, eUs ps), (7, true, .int .i64 lo), (8, true, .int .i64 up), (14, true, .int .i64 sm), (15, true, .bool ((V.take j).any fun x => decide ((ps.length : Int) * x = lo))), (16, true, .bool ((V.take j).any fun x => decide ((ps.length : Int) * x = up))), (104, true, .sl tk (V.map eI)), (105, true, .int .i64 V.length), (106, true, .int .i64 j)], H, n⟩) (fun j => j ≤ V.length) (fun j => V.length - j)
      0 rfl (Nat.zero_le _) ?_
    intro j hj
    by_cases hlj : j < V.length
    · have hg := List.getElem?_eq_getElem hlj
      have e := w64_succ (k := j) (by omega)
      have htk : V.take (j + 1) = V.take j ++ [V[j]] := by rw [List.take_add_one, List.getElem?_eq_getElem hlj]; rfl
      have hx := hall _ (List.getElem_mem hlj)
      generalize V[j] = x at hg htk hx
      have ew : IntKind.wrap .i64 ((ps.length : Int) * x) = (ps.length : Int) * x := w64_in (by have := Int.mul_nonneg (show (0 : Int) ≤ ps.length by omega) hx.1; omega) (by have := Int.mul_le_mul (show (ps.length : Int) ≤ 256 by omega) hx.2 hx.1 (by decide); omega)
      simp only [eE, eC, eN, Nat.reduceEqDiff, ↓reduceIte, Int.reduceEq, Option.getD_some, Int.toNat_natCast, Int.natCast_nonneg, List.length_map, List.getElem?_map, lt_T hlj, hg, e, hte, ew]
      refine .mk (j + 1) ?_ hlj (by omega)
      simp only [htk, List.any_append, List.any_cons, List.any_nil, Bool.or_false]
    obtain rfl : j = V.length := by omega
    have a1 : (V.any fun x => decide ((ps.length : Int) * x = lo)) = true := List.any_eq_true.2 ⟨_, l3, decide_eq_true hlo⟩
    have a2 : (V.any fun x => decide ((ps.length : Int) * x = up)) = true := List.any_eq_true.2 ⟨_, l4, decide_eq_true hup⟩
    simp only [eE, eC, eN, reduceCtorEq, Nat.reduceEqDiff, ↓reduceIte, lt_F hlj, List.take_length, a1, a2, eq_true l1, eq_true l2]
end Go.AM
end
section
set_option maxRecDepth 20000
set_option linter.all false
namespace Go.AM
open Go.Proofs Go.Lib Go.ChangeShapes Go.WideShapes Go.ChangeAt Go.WideMaps Go.WideElems Go.RowKit
theorem own : ownKnob Try.prog.godebug = none := by kernel_rfl
theorem glob_no (i : Nat) : glob i = none := by rfl
theorem glob_all (W : World) : GlobOK (gW W) ∧ GlobZ W :=
  ⟨(fun i cs h => by rw [glob_no] at h; cases h), (fun i cs h => by rw [glob_no] at h; cases h)⟩
abbrev shSy : Sh := .st [.str, .int .i64]
abbrev shRg : Sh := .st [.str, .sl (.sl (.int .i64))]
abbrev shCl : Sh := .st [.str, .str, .int .i64, .int .i64, .int .i64, .int .i64]
abbrev shRu : Sh := .st [.str, .str, .int .i64, .int .i64, .sl .str, .sl .str, .int .i64, .int .i64, .int .i64, .int .i64, .str, .int .i64]
abbrev shD : Sh := .st [.str, .int .i64, .int .i64, .int .i64, .int .i64, .sl (.int .i64), .sl shSy, .sl shRg, .sl shCl, .sl shRu]
theorem rb {n : Nat} (h : n ≤ reachBytes) : big n := Nat.le_trans h (by decide)
theorem rdMapP {e : Sh} {α : Type} {enc : α → AVal} {Q : α → Prop} (he : ∀ vs, e.rd vs → ∃ a, Q a ∧ e.wrap vs = enc a) {av : List AVal} (h : (Sh.sl e).rd av) : ∃ l : List α, big l.length ∧ (∀ x ∈ l, Q x) ∧ av = [.sl (.none e.size) (l.map enc)] := by
  simp only [Sh.rd] at h
  obtain ⟨l, rfl, hln, h⟩ := h
  suffices ∃ m : List α, m.length = l.length ∧ (∀ x ∈ m, Q x) ∧ l.map e.wrap = m.map enc by
    obtain ⟨m, hm, hq, hm2⟩ := this
    exact ⟨m, by rw [hm]; exact rb hln, hq, by rw [hm2]⟩
  clear hln
  induction l with
  | nil => exact ⟨[], rfl, (fun x hx => by cases hx), rfl⟩
  | cons x l ih =>
    obtain ⟨m, h1, h2, h3⟩ := ih fun y hy => h y (by simp [hy])
    obtain ⟨a, hq, ha⟩ := he x (h x (by simp))
    exact ⟨a :: m, by simp [h1], fun y hy => by
      rcases List.mem_cons.1 hy with rfl | hy
      · exact hq
      · exact h2 y hy, by rw [List.map_cons, List.map_cons, h3, ha]⟩
theorem rdI' (vs : List AVal) (h : (Sh.int .i64).rd vs) : ∃ n : Int, True ∧ (Sh.int .i64).wrap vs = eI n := by
  obtain ⟨n, rfl, _⟩ := h
  exact ⟨n, trivial, rfl⟩
theorem rdS' (vs : List AVal) (h : Sh.str.rd vs) : ∃ s : Bs, big s.length ∧ Sh.str.wrap vs = .str s := by
  obtain ⟨s, rfl, hs⟩ := h
  exact ⟨s, rb hs, rfl⟩
theorem rdIs' (vs : List AVal) (h : (Sh.sl (.int .i64)).rd vs) : ∃ l : List Int, big l.length ∧ (Sh.sl (.int .i64)).wrap vs = eIs l := by
  obtain ⟨l, h1, -, rfl⟩ := rdMapP rdI' h
  exact ⟨l, h1, rfl⟩
theorem rdSy (vs : List AVal) (h : shSy.rd vs) : ∃ s : DSym, big s.nm.length ∧ shSy.wrap vs = encSy s := by
  simp only [Sh.rd.eq_5, Sh.rdL] at h
  obtain ⟨_, _, rfl, ⟨nm, rfl, h1⟩, _, _, rfl, ⟨v, rfl, _⟩, rfl⟩ := h
  exact ⟨⟨nm, v⟩, rb h1, rfl⟩
theorem rdRg (vs : List AVal) (h : shRg.rd vs) : ∃ r : DReg, (big r.nm.length ∧ big r.ls.length ∧ ∀ l ∈ r.ls, big l.length) ∧ shRg.wrap vs = encRg r := by
  simp only [Sh.rd.eq_5, Sh.rdL] at h
  obtain ⟨_, _, rfl, ⟨nm, rfl, h1⟩, _, _, rfl, h2, rfl⟩ := h
  obtain ⟨ls, l1, l2, rfl⟩ := rdMapP rdIs' h2
  exact ⟨⟨nm, ls⟩, ⟨rb h1, l1, l2⟩, rfl⟩
theorem rdCl (vs : List AVal) (h : shCl.rd vs) : ∃ c : DClu, (big c.nm.length ∧ big c.on.length) ∧ shCl.wrap vs = encCl c := by
  simp only [Sh.rd.eq_5, Sh.rdL] at h
  obtain ⟨_, _, rfl, ⟨nm, rfl, h1⟩, _, _, rfl, ⟨on, rfl, h2⟩, _, _, rfl, ⟨a, rfl, _⟩, _, _, rfl, ⟨b, rfl, _⟩, _, _, rfl, ⟨c, rfl, _⟩, _, _, rfl, ⟨d, rfl, _⟩, rfl⟩ := h
  exact ⟨⟨nm, on, a, b, c, d⟩, ⟨rb h1, rb h2⟩, rfl⟩
theorem rdRu (vs : List AVal) (h : shRu.rd vs) : ∃ r : DRul, (big r.nm.length ∧ big r.on.length ∧ big r.byN.length ∧ big r.ns.length ∧ big r.os.length ∧ (∀ s ∈ r.ns, big s.length) ∧ ∀ s ∈ r.os, big s.length) ∧ shRu.wrap vs = encRu r := by
  simp only [Sh.rd.eq_5, Sh.rdL] at h
  obtain ⟨_, _, rfl, ⟨nm, rfl, h1⟩, _, _, rfl, ⟨on, rfl, h2⟩, _, _, rfl, ⟨k, rfl, _⟩, _, _, rfl, ⟨f, rfl, _⟩, _, _, rfl, h3, _, _, rfl, h4, _, _, rfl, ⟨set, rfl, _⟩, _, _, rfl, ⟨oth, rfl, _⟩, _, _, rfl, ⟨op, rfl, _⟩, _, _, rfl, ⟨n, rfl, _⟩, _, _, rfl, ⟨b, rfl, h5⟩, _, _, rfl, ⟨c, rfl, _⟩, rfl⟩ := h
  obtain ⟨ns, n1, n2, rfl⟩ := rdMapP rdS' h3
  obtain ⟨os, o1, o2, rfl⟩ := rdMapP rdS' h4
  exact ⟨⟨nm, on, k, f, ns, os, set, oth, op, n, b, c⟩, ⟨rb h1, rb h2, rb h5, n1, o1, n2, o2⟩, rfl⟩
theorem rdD (vs : List AVal) (h : shD.rd vs) : ∃ d : Dcl, BigD d ∧ shD.wrap vs = encD d := by
  simp only [Sh.rd.eq_5, Sh.rdL] at h
  obtain ⟨_, _, rfl, ⟨nm, rfl, h1⟩, _, _, rfl, ⟨v, rfl, _⟩, _, _, rfl, ⟨sh, rfl, _⟩, _, _, rfl, ⟨w, rfl, _⟩, _, _, rfl, ⟨hh, rfl, _⟩, _, _, rfl, h2, _, _, rfl, h3, _, _, rfl, h4, _, _, rfl, h5, _, _, rfl, h6, rfl⟩ := h
  obtain ⟨ho, a1, -, rfl⟩ := rdMapP rdI' h2
  obtain ⟨sy, b1, b2, rfl⟩ := rdMapP rdSy h3
  obtain ⟨rg, c1, c2, rfl⟩ := rdMapP rdRg h4
  obtain ⟨cl, d1, d2, rfl⟩ := rdMapP rdCl h5
  obtain ⟨ru, e1, e2, rfl⟩ := rdMapP rdRu h6
  exact ⟨⟨nm, v, sh, w, hh, ho, sy, rg, cl, ru⟩, ⟨rb h1, a1, b1, b2, c1, c2, d1, d2, e1, e2⟩, rfl⟩
theorem argD {av : List AVal} (h : Sh.rdA [shD] av) : ∃ d : Dcl, BigD d ∧ av = [encD d] := by
  simp only [Sh.rdA] at h
  obtain ⟨x, _, rfl, hx, rfl⟩ := h
  obtain ⟨d, hd, e⟩ := rdD _ hx
  exact ⟨d, hd, by rw [e]⟩
theorem argDRII {av : List AVal} (h : Sh.rdA [shD, shRu, .int .i64, .int .i64] av) : ∃ (d : Dcl) (r : DRul) (a b : Int), BigD d ∧ av = [encD d, encRu r, .int .i64 a, .int .i64 b] := by
  simp only [Sh.rdA] at h
  obtain ⟨x, _, rfl, hx, y, _, rfl, hy, z, _, rfl, ⟨a, rfl, _⟩, w, _, rfl, ⟨b, rfl, _⟩, rfl⟩ := h
  obtain ⟨d, hd, e⟩ := rdD _ hx
  obtain ⟨r, -, e2⟩ := rdRu _ hy
  exact ⟨d, r, a, b, hd, by rw [e, e2]; rfl⟩
theorem argDBII {av : List AVal} (h : Sh.rdA [shD, .bool, .int .i64, .int .i64] av) : ∃ (d : Dcl) (st : Bool) (a b : Int), BigD d ∧ av = [encD d, .bool st, .int .i64 a, .int .i64 b] := by
  simp only [Sh.rdA] at h
  obtain ⟨x, _, rfl, hx, y, _, rfl, ⟨st, rfl⟩, z, _, rfl, ⟨a, rfl, _⟩, w, _, rfl, ⟨b, rfl, _⟩, rfl⟩ := h
  obtain ⟨d, hd, e⟩ := rdD _ hx
  exact ⟨d, st, a, b, hd, by rw [e]; rfl⟩
theorem rdU8' (vs : List AVal) (h : (Sh.int .u8).rd vs) : ∃ k : Nat, k < 256 ∧ (Sh.int .u8).wrap vs = eU k := by
  obtain ⟨n, rfl, hw⟩ := h
  have hw : IntKind.u8.min ≤ n ∧ n ≤ IntKind.u8.max := by simpa [Lit.wf] using hw
  have h0 : (0 : Int) ≤ n := hw.1
  have h1 : n ≤ 255 := hw.2
  exact ⟨n.toNat, by omega, by show AVal.int .u8 n = .int .u8 ((n.toNat : Nat) : Int); rw [show ((n.toNat : Nat) : Int) = n by omega]⟩
theorem argDIU {av : List AVal} (h : Sh.rdA [shD, .int .i64, .sl (.int .u8)] av) : ∃ (d : Dcl) (a : Int) (us : List Nat), BigD d ∧ (∀ k ∈ us, k < 256) ∧ av = [encD d, .int .i64 a, eUs us] := by
  simp only [Sh.rdA] at h
  obtain ⟨x, _, rfl, hx, y, _, rfl, ⟨a, rfl, _⟩, z, _, rfl, hz, rfl⟩ := h
  obtain ⟨d, hd, e⟩ := rdD _ hx
  obtain ⟨us, -, hu, rfl⟩ := rdMapP rdU8' hz
  exact ⟨d, a, us, hd, hu, by rw [e]; rfl⟩
theorem argDU {av : List AVal} (h : Sh.rdA [shD, .int .u8] av) : ∃ (d : Dcl) (k : Nat), BigD d ∧ k < 256 ∧ av = [encD d, .int .u8 (k : Int)] := by
  simp only [Sh.rdA] at h
  obtain ⟨x, _, rfl, hx, y, _, rfl, hy, rfl⟩ := h
  obtain ⟨d, hd, e⟩ := rdD _ hx
  obtain ⟨k, hk, e2⟩ := rdU8' _ hy
  exact ⟨d, k, hd, hk, by rw [e, e2]⟩
theorem argDSI {av : List AVal} (h : Sh.rdA [shD, .str, .int .i64] av) : ∃ (d : Dcl) (s : Bs) (a : Int), BigD d ∧ av = [encD d, .str s, .int .i64 a] := by
  simp only [Sh.rdA] at h
  obtain ⟨x, _, rfl, hx, y, _, rfl, ⟨s, rfl, _⟩, z, _, rfl, ⟨a, rfl, _⟩, rfl⟩ := h
  obtain ⟨d, hd, e⟩ := rdD _ hx
  exact ⟨d, s, a, hd, by rw [e]; rfl⟩
end Go.AM
end
