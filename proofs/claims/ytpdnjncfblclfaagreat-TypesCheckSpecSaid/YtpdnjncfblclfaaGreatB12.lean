/-
  The reference of types: whether all is well-formed · The reference of names: numbers of names, names twice, sets of symbols (written by mku7 · The reference of names: clues, rules, declarations resolved (written by mku8 · The reference of names: a declaration resolved (written by mku9 · The reference of types: Check; the law on Check · The law on Check: from the rows to the abstract machine.
  Conditions: none beyond those of its parts.
-/
import Derived.Test.YtpdnjncfblclfaaGreatB11
import Derived.Test.YtpdnjncfblclfaaGreatRows
import Derived.SizedLaws
import Derived.LaidLaws

section
set_option maxRecDepth 20000
set_option linter.all false
namespace Go.AM
open Go.Proofs Go.Lib
def Tfo : Tab := tadd 79 (s2 dD dRu any2 fun d r => .bool (rulOK d.clus r)) (tadd 80 (s1 dCl any1 fun c => .bool (cluOK c)) tnil)
theorem Tfo_ok : TabOK Tryz.prog Tfo := (TabOK.tnil.add (q1 fun c _ => p80 c)).add (q2 fun d r _ => p79 d r)
theorem Tfo_r (a : List AVal) (H : AHeap) : Tfo 79 a H = s2 dD dRu any2 (fun d r => .bool (rulOK d.clus r)) a H := rfl
theorem Tfo_c (a : List AVal) (H : AHeap) : Tfo 80 a H = s1 dCl any1 (fun c => .bool (cluOK c)) a H := rfl
theorem p32 (d : Dcl) (hd : FewD d) : Pur Tryz.prog 32 [encD d] (.bool (formOK d)) := by
  refine .mk ⟨encD_under 0 d, trivial⟩ trivial (a32 (ev_awp Tfo_ok (ev_evK ?_)))
  have hsl : d.syms.length < 1000000000 := hd.sy
  have hrl : d.ruls.length < 1000000000 := hd.ru
  have hcl : d.clus.length < 1000000000 := hd.cl
  simp only [eE, eN, Nat.reduceEqDiff, ↓reduceIte, Nat.reduceAdd, c32]
  refine k_loop (fun i : Nat => ⟨[(1, true, .ptr 0 0), (3, true, .int .i64 i)], hset hnil 0 (.box (cellsD d)), 2⟩) (fun i => i ≤ d.syms.length ∧ (d.syms.all fun s => decide (0 ≤ s.v) && decide (s.v ≤ 99)) = ((d.syms.drop i).all fun s => decide (0 ≤ s.v) && decide (s.v ≤ 99))) (fun i => d.syms.length - i)
    0 rfl ⟨Nat.zero_le _, rfl⟩ ?_
  rintro i ⟨hi, hall⟩
  by_cases hlt : i < d.syms.length
  · have hg := List.getElem?_eq_getElem hlt
    have e := w64_succ (k := i) (by omega)
    rw [all_drop hlt] at hall
    generalize d.syms[i] = s at hg hall
    by_cases hs : 0 ≤ s.v ∧ s.v ≤ 99
    · have hb : (decide (s.v < 0) || decide (99 < s.v)) = false := by simp; omega
      simp only [eE, eC, eN, Nat.reduceEqDiff, ↓reduceIte, Nat.reduceAdd, Nat.reduceLeDiff, Int.reduceEq, Option.getD_some, Int.toNat_natCast, Int.natCast_nonneg, List.length_map, List.getElem?_map, lt_T hlt, hg, e, hb]
      exact .mk (i + 1) rfl ⟨hlt, by rw [hall, dec_T hs.1, dec_T hs.2]; rfl⟩ (by omega)
    · have hb : (decide (s.v < 0) || decide (99 < s.v)) = true := by simp; omega
      have hR : formOK d = false := by
        unfold formOK
        rw [hall, show (decide (0 ≤ s.v) && decide (s.v ≤ 99)) = false by simp; omega]; rfl
      rw [hR]
      simp only [eE, eC, eN, Nat.reduceEqDiff, ↓reduceIte, Nat.reduceAdd, Nat.reduceLeDiff, Option.getD_some, Int.toNat_natCast, Int.natCast_nonneg, List.length_map, List.getElem?_map, lt_T hlt, hg, hb]
  obtain rfl : i = d.syms.length := by omega
  rw [List.drop_length] at hall
  simp only [eE, eC, eN, Nat.reduceEqDiff, ↓reduceIte, Nat.reduceAdd, Nat.reduceLeDiff, List.length_map, lt_F hlt]
  refine k_loop (fun i : Nat => ⟨[(1, true, .ptr 0 0), (4, true, .int .i64 i)], hset hnil 0 (.box (cellsD d)), 2⟩) (fun i => i ≤ d.ruls.length ∧ d.ruls.all (rulOK d.clus) = (d.ruls.drop i).all (rulOK d.clus)) (fun i => d.ruls.length - i)
    0 rfl ⟨Nat.zero_le _, rfl⟩ ?_
  rintro k ⟨hk, hok⟩
  by_cases hlk : k < d.ruls.length
  · have hg := List.getElem?_eq_getElem hlk
    have e := w64_succ (k := k) (by omega)
    rw [all_drop hlk] at hok
    generalize d.ruls[k] = r at hg hok
    cases hr : rulOK d.clus r with
    | false =>
      have hR : formOK d = false := by
        unfold formOK
        rw [hok, hr]; simp
      rw [hR]
      simp only [eE, eC, eN, Nat.reduceEqDiff, ↓reduceIte, Nat.reduceAdd, Bool.not_false, Option.getD_some, Int.toNat_natCast, Int.natCast_nonneg, List.length_map, List.getElem?_map, lt_T hlk, hg, Tfo_r, s2, dD_ok, dD_dec, dRu_ok, dRu_dec, hr]
    | true =>
      rw [hr, Bool.true_and] at hok
      simp only [eE, eC, eN, Nat.reduceEqDiff, ↓reduceIte, Nat.reduceAdd, Int.reduceEq, Bool.not_true, Option.getD_some, Int.toNat_natCast, Int.natCast_nonneg, List.length_map, List.getElem?_map, lt_T hlk, hg, Tfo_r, s2, dD_ok, dD_dec, dRu_ok, dRu_dec, hr, e]
      exact .mk (k + 1) rfl ⟨hlk, hok⟩ (by omega)
  obtain rfl : k = d.ruls.length := by omega
  rw [List.drop_length] at hok
  simp only [eE, eC, eN, Nat.reduceEqDiff, ↓reduceIte, Nat.reduceAdd, List.length_map, lt_F hlk]
  refine k_loop (fun j : Nat => ⟨[(1, true, .ptr 0 0), (5, true, .int .i64 j)], hset hnil 0 (.box (cellsD d)), 2⟩) (fun i => i ≤ d.clus.length ∧ ∀ j (h : j < d.clus.length), j < i → manyC d.ruls j = 1 ∧ cluOK d.clus[j] = true) (fun i => d.clus.length - i)
    0 rfl ⟨Nat.zero_le _, fun j h q => absurd q (Nat.not_lt_zero _)⟩ ?_
  rintro j ⟨hj, hal⟩
  by_cases hlj : j < d.clus.length
  · have hg := List.getElem?_eq_getElem hlj
    have ej := w64_succ (k := j) (by omega)
    have hbad : ¬ (manyC d.ruls j = 1 ∧ cluOK d.clus[j] = true) → formOK d = false := fun q => by
      unfold formOK
      rw [hall, hok]
      cases q1 : ((List.range d.clus.length).all fun i => decide (manyC d.ruls i = 1)) with
      | false => rfl
      | true =>
      cases q2 : d.clus.all cluOK with
      | false => rfl
      | true => exact absurd ⟨of_decide_eq_true (List.all_eq_true.1 q1 j (List.mem_range.2 hlj)), List.all_eq_true.1 q2 _ (List.getElem_mem hlj)⟩ q
    have hnext : manyC d.ruls j = 1 ∧ cluOK d.clus[j] = true → ∀ q (h : q < d.clus.length), q < j + 1 → manyC d.ruls q = 1 ∧ cluOK d.clus[q] = true := fun z q h hq => by
      by_cases w : q = j
      · subst w; exact z
      · exact hal q h (by omega)
    generalize hx : d.clus[j] = x at hg hbad hnext
    simp only [eE, eC, eN, Nat.reduceEqDiff, ↓reduceIte, Nat.reduceAdd, Nat.reduceLeDiff, List.length_map, lt_T hlj]
    refine k_loop (fun k : Nat => ⟨[(1, true, .ptr 0 0), (5, true, .int .i64 j), (6, true, .int .i64 (cntZ (d.ruls.take k) j)), (7, true, .int .i64 k)], hset hnil 0 (.box (cellsD d)), 2⟩) (fun k => k ≤ d.ruls.length) (fun k => d.ruls.length - k)
      0 rfl (Nat.zero_le _) ?_
    intro k hk
    by_cases hlk : k < d.ruls.length
    · have hgk := List.getElem?_eq_getElem hlk
      have ek := w64_succ (k := k) (by omega)
      have htk : d.ruls.take (k + 1) = d.ruls.take k ++ [d.ruls[k]] := by rw [List.take_add_one, List.getElem?_eq_getElem hlk]; rfl
      have hcle := cnt_le (d.ruls.take k) (j : Int)
      rw [List.length_take] at hcle
      have ew := w64_succ (k := cntZ (d.ruls.take k) (j : Int)) (by omega)
      generalize d.ruls[k] = r at hgk htk
      have hcn := cnt_app (d.ruls.take k) r (j : Int)
      rw [← htk] at hcn
      by_cases hrc : r.clue = j
      · rw [if_pos hrc] at hcn
        simp only [eE, eC, eN, Nat.reduceEqDiff, ↓reduceIte, Nat.reduceAdd, Int.reduceEq, Option.getD_some, Int.toNat_natCast, Int.natCast_nonneg, List.length_map, List.getElem?_map, lt_T hlk, hgk, ek, eq_true hrc, ew]
        exact .mk (k + 1) (by simp only [hcn]) hlk (by omega)
      · replace hcn : cntZ (d.ruls.take (k + 1)) (j : Int) = cntZ (d.ruls.take k) (j : Int) := by rw [hcn, if_neg hrc]; rfl
        simp only [eE, eC, eN, Nat.reduceEqDiff, ↓reduceIte, Nat.reduceAdd, Int.reduceEq, Option.getD_some, Int.toNat_natCast, Int.natCast_nonneg, List.length_map, List.getElem?_map, lt_T hlk, hgk, ek, eq_false hrc]
        exact .mk (k + 1) (by simp only [hcn]) hlk (by omega)
    obtain rfl : k = d.ruls.length := by omega
    have hmc0 : cntZ d.ruls (j : Int) = manyC d.ruls j := cnt_many _ _
    by_cases hmc : manyC d.ruls j = 1
    · have hmb : (((manyC d.ruls j : Nat) : Int) = 1) = True := eq_true (by omega)
      cases hc : cluOK x with
      | false =>
        rw [hbad (by rw [hc]; simp)]
        simp only [eE, eC, eN, Nat.reduceEqDiff, ↓reduceIte, Nat.reduceAdd, Nat.reduceLeDiff, Bool.not_true, Bool.not_false, Option.getD_some, Int.toNat_natCast, Int.natCast_nonneg, List.length_map, List.getElem?_map, lt_F hlk, List.take_length, hmc0, hmb, lt_T hlj, hg, Tfo_c, s1, dCl_ok, dCl_dec, hc]
      | true =>
        simp only [eE, eC, eN, Nat.reduceEqDiff, ↓reduceIte, Nat.reduceAdd, Nat.reduceLeDiff, Int.reduceEq, Bool.not_true, Option.getD_some, Int.toNat_natCast, Int.natCast_nonneg, List.length_map, List.getElem?_map, lt_F hlk, List.take_length, hmc0, hmb, lt_T hlj, hg, Tfo_c, s1, dCl_ok, dCl_dec, hc, ej]
        exact .mk (j + 1) rfl ⟨hlj, fun q h z => hnext ⟨hmc, hc⟩ q h z⟩ (by omega)
    · have hmb : (((manyC d.ruls j : Nat) : Int) = 1) = False := eq_false (by omega)
      rw [hbad (fun q => hmc q.1)]
      simp only [eE, eC, eN, reduceCtorEq, Nat.reduceEqDiff, ↓reduceIte, Nat.reduceAdd, Nat.reduceLeDiff, Bool.not_true, Bool.not_false, Int.toNat_natCast, Int.natCast_nonneg, List.length_map, List.getElem?_map, lt_F hlk, List.take_length, hmc0, hmb]
  obtain rfl : j = d.clus.length := by omega
  have hR : formOK d = true := by
    have z2 : d.clus.all cluOK = true := List.all_eq_true.2 fun q hq => by
      obtain ⟨m, hm, rfl⟩ := List.mem_iff_getElem.1 hq
      exact (hal m hm hm).2
    unfold formOK
    rw [hall, hok, List.all_eq_true.2 fun q hq => decide_eq_true (hal q (List.mem_range.1 hq) (List.mem_range.1 hq)).1, z2]
    rfl
  rw [hR]
  simp only [eE, eC, eN, Nat.reduceEqDiff, ↓reduceIte, Nat.reduceAdd, Nat.reduceLeDiff, List.length_map, lt_F hlj]
end Go.AM
end
section
set_option maxRecDepth 20000
set_option linter.all false
namespace Go.AM
open Go.Proofs Go.Lib
theorem p70 : Pur Tryz.prog 70 [] (eSs givenF) := by
  refine .mk trivial (eSs_under 0 _) (a70 (ev_awp TabOK.tnil (ev_evK ?_)))
  simp only [eE, eN, ↓reduceIte, Nat.reduceLeDiff, Nat.reduceMul, Nat.reduceLT, c70]
  exact Wk.sl (.inl rfl)
def numV (l : List Bs) (s : Bs) : AVal := match numOf l s with
  | some i => .tup [.int .i64 i, .bool true]
  | none => .tup [.int .i64 0, .bool false]
theorem numV_under (n : Nat) (l : List Bs) (s : Bs) : (numV l s).under n := by unfold numV; split <;> exact ⟨trivial, trivial, trivial⟩
theorem num_hit {α : Type} (f : α → Bs) {l : List α} {s : Bs} {i : Nat} (hi : i < l.length) (h : f l[i] = s) (hb : ∀ k (hk : k < l.length), k < i → ¬ f l[k] = s) : numOf (l.map f) s = some (i : Int) := by
  unfold numOf
  rw [List.findIdx?_eq_some_iff_getElem.2 ⟨by simpa using hi, by simpa using h, fun j hj => by simpa using hb j (by omega) hj⟩]; rfl
theorem num_miss {α : Type} (f : α → Bs) {l : List α} {s : Bs} (hb : ∀ k (hk : k < l.length), ¬ f l[k] = s) : numOf (l.map f) s = none := by
  rw [numOf_none]
  intro h
  obtain ⟨y, hy, e⟩ := List.mem_map.1 h
  obtain ⟨k, hk, rfl⟩ := List.mem_iff_getElem.1 hy
  exact hb k hk e
theorem p112 (d : Dcl) (s : Bs) (hd : FewD d) : Pur Tryz.prog 112 [encD d, .str s] (numV (d.syms.map (·.nm)) s) := by
  refine .mk ⟨encD_under 0 d, trivial, trivial⟩ (numV_under 0 _ _) (a112 (ev_awp TabOK.tnil (ev_evK ?_)))
  have hll : d.syms.length < 1000000000 := hd.sy
  simp only [eE, eN, reduceCtorEq, Nat.reduceEqDiff, ↓reduceIte, Nat.reduceAdd, c112]
  refine k_loop (fun i : Nat => ⟨[(1, true, .str s), (2, true, .ptr 0 0), (6, true, .int .i64 i)], hset hnil 0 (.box (cellsD d)), 3⟩) (fun i => i ≤ d.syms.length ∧ ∀ k (hk : k < d.syms.length), k < i → ¬ d.syms[k].nm = s) (fun i => d.syms.length - i)
    0 rfl ⟨Nat.zero_le _, fun k _ q => absurd q (Nat.not_lt_zero _)⟩ ?_
  rintro i ⟨hi, hb⟩
  by_cases hlt : i < d.syms.length
  · have hg := List.getElem?_eq_getElem hlt
    have e := w64_succ (k := i) (by omega)
    have hhit := fun q => num_hit (fun x => x.nm) (s := s) hlt q hb
    have hnx : ¬ d.syms[i].nm = s → ∀ k (hk : k < d.syms.length), k < i + 1 → ¬ d.syms[k].nm = s := fun q k hk h => by
      by_cases z : k = i
      · subst z; exact q
      · exact hb k hk (by omega)
    generalize d.syms[i] = x at hg hhit hnx
    by_cases hx : x.nm = s
    · have hR : numV (d.syms.map (·.nm)) s = .tup [.int .i64 i, .bool true] := by unfold numV; rw [hhit hx]
      rw [hR]
      simp only [eE, eC, eN, Nat.reduceEqDiff, ↓reduceIte, Nat.reduceAdd, Nat.reduceLeDiff, Option.getD_some, Int.toNat_natCast, Int.natCast_nonneg, List.length_map, List.getElem?_map, lt_T hlt, hg, scmp_eq, dec_T hx]
      exact Wk.refl _
    · simp only [eE, eC, eN, Nat.reduceEqDiff, ↓reduceIte, Nat.reduceAdd, Nat.reduceLeDiff, Int.reduceEq, Option.getD_some, Int.toNat_natCast, Int.natCast_nonneg, List.length_map, List.getElem?_map, lt_T hlt, hg, e, scmp_eq, dec_F hx]
      exact .mk (i + 1) rfl ⟨hlt, hnx hx⟩ (by omega)
  obtain rfl : i = d.syms.length := by omega
  have hR : numV (d.syms.map (·.nm)) s = .tup [.int .i64 0, .bool false] := by unfold numV; rw [num_miss _ fun k hk => hb k hk hk]
  rw [hR]
  simp only [eE, eC, eN, Nat.reduceEqDiff, ↓reduceIte, Nat.reduceAdd, Nat.reduceLeDiff, List.length_map, lt_F hlt]
  exact Wk.refl _
theorem p101 (d : Dcl) (s : Bs) (hd : FewD d) : Pur Tryz.prog 101 [encD d, .str s] (numV (d.clus.map (·.nm)) s) := by
  refine .mk ⟨encD_under 0 d, trivial, trivial⟩ (numV_under 0 _ _) (a101 (ev_awp TabOK.tnil (ev_evK ?_)))
  have hll : d.clus.length < 1000000000 := hd.cl
  simp only [eE, eN, reduceCtorEq, Nat.reduceEqDiff, ↓reduceIte, Nat.reduceAdd, c101]
  refine k_loop (fun i : Nat => ⟨[(1, true, .str s), (2, true, .ptr 0 0), (6, true, .int .i64 i)], hset hnil 0 (.box (cellsD d)), 3⟩) (fun i => i ≤ d.clus.length ∧ ∀ k (hk : k < d.clus.length), k < i → ¬ d.clus[k].nm = s) (fun i => d.clus.length - i)
    0 rfl ⟨Nat.zero_le _, fun k _ q => absurd q (Nat.not_lt_zero _)⟩ ?_
  rintro i ⟨hi, hb⟩
  by_cases hlt : i < d.clus.length
  · have hg := List.getElem?_eq_getElem hlt
    have e := w64_succ (k := i) (by omega)
    have hhit := fun q => num_hit (fun x => x.nm) (s := s) hlt q hb
    have hnx : ¬ d.clus[i].nm = s → ∀ k (hk : k < d.clus.length), k < i + 1 → ¬ d.clus[k].nm = s := fun q k hk h => by
      by_cases z : k = i
      · subst z; exact q
      · exact hb k hk (by omega)
    generalize d.clus[i] = x at hg hhit hnx
    by_cases hx : x.nm = s
    · have hR : numV (d.clus.map (·.nm)) s = .tup [.int .i64 i, .bool true] := by unfold numV; rw [hhit hx]
      rw [hR]
      simp only [eE, eC, eN, Nat.reduceEqDiff, ↓reduceIte, Nat.reduceAdd, Nat.reduceLeDiff, Option.getD_some, Int.toNat_natCast, Int.natCast_nonneg, List.length_map, List.getElem?_map, lt_T hlt, hg, scmp_eq, dec_T hx]
      exact Wk.refl _
    · simp only [eE, eC, eN, Nat.reduceEqDiff, ↓reduceIte, Nat.reduceAdd, Nat.reduceLeDiff, Int.reduceEq, Option.getD_some, Int.toNat_natCast, Int.natCast_nonneg, List.length_map, List.getElem?_map, lt_T hlt, hg, e, scmp_eq, dec_F hx]
      exact .mk (i + 1) rfl ⟨hlt, hnx hx⟩ (by omega)
  obtain rfl : i = d.clus.length := by omega
  have hR : numV (d.clus.map (·.nm)) s = .tup [.int .i64 0, .bool false] := by unfold numV; rw [num_miss _ fun k hk => hb k hk hk]
  rw [hR]
  simp only [eE, eC, eN, Nat.reduceEqDiff, ↓reduceIte, Nat.reduceAdd, Nat.reduceLeDiff, List.length_map, lt_F hlt]
  exact Wk.refl _
def sGv : List AVal → AHeap → Prop × AVal := fun a _ => match a with
  | [] => (True, eSs givenF)
  | _ => (False, .tup [])
theorem qGv : ∀ args H n, (sGv args H).1 → Quiet Tryz.prog 70 args H n (sGv args H).2 := by
  intro args H n hh
  unfold sGv at hh ⊢
  split at hh
  · exact p70.quiet H n
  · exact hh.elim
def Tgv : Tab := tadd 70 sGv tnil
theorem Tgv_ok : TabOK Tryz.prog Tgv := TabOK.tnil.add qGv
theorem Tgv_e (a : List AVal) (H : AHeap) : Tgv 70 a H = sGv a H := rfl
theorem p89 (d : Dcl) (s : Bs) (hd : FewD d) : Pur Tryz.prog 89 [encD d, .str s] (numV (famNs d) s) := by
  refine .mk ⟨encD_under 0 d, trivial, trivial⟩ (numV_under 0 _ _) (a89 (ev_awp Tgv_ok (ev_evK ?_)))
  have hll : d.regs.length < 1000000000 := hd.rg
  have hfr := fam_ref d s
  obtain ⟨G, hG⟩ : ∃ G : List Bs, G = givenF := ⟨_, rfl⟩
  have hGl : G.length = 8 := by rw [hG]; rfl
  rw [← hG] at hfr
  have hsg : sGv [] = fun _ => (True, eSs G) := by rw [hG]; rfl
  simp only [eE, eN, reduceCtorEq, Nat.reduceEqDiff, ↓reduceIte, Nat.reduceAdd, c89, Tgv_e, hsg]
  refine k_loop (fun i : Nat => ⟨[(1, true, .str s), (2, true, .ptr 0 0), (6, true, eSs G), (7, true, .int .i64 i)], hset hnil 0 (.box (cellsD d)), 3⟩) (fun i => i ≤ G.length ∧ ∀ k (hk : k < G.length), k < i → ¬ G[k] = s) (fun i => G.length - i)
    0 rfl ⟨Nat.zero_le _, fun k _ q => absurd q (Nat.not_lt_zero _)⟩ ?_
  rintro i ⟨hi, hb⟩
  by_cases hlt : i < G.length
  · have hg := List.getElem?_eq_getElem hlt
    have e := w64_succ (k := i) (by omega)
    have hhit := fun q => num_hit (fun x : Bs => x) (s := s) hlt q hb
    rw [show G.map (fun x : Bs => x) = G from List.map_id _] at hhit
    have hnx : ¬ G[i] = s → ∀ k (hk : k < G.length), k < i + 1 → ¬ G[k] = s := fun q k hk h => by
      by_cases z : k = i
      · subst z; exact q
      · exact hb k hk (by omega)
    generalize G[i] = x at hg hhit hnx
    by_cases hx : x = s
    · have hR : numV (famNs d) s = .tup [.int .i64 i, .bool true] := by unfold numV; rw [hfr, hhit hx]
      rw [hR]
      simp only [eE, eC, eN, Nat.reduceEqDiff, ↓reduceIte, Option.getD_some, Int.toNat_natCast, Int.natCast_nonneg, List.length_map, List.getElem?_map, lt_T hlt, hg, scmp_eq, dec_T hx]
      exact Wk.refl _
    · simp only [eE, eC, eN, Nat.reduceEqDiff, ↓reduceIte, Int.reduceEq, Option.getD_some, Int.toNat_natCast, Int.natCast_nonneg, List.length_map, List.getElem?_map, lt_T hlt, hg, e, scmp_eq, dec_F hx]
      exact .mk (i + 1) rfl ⟨hlt, hnx hx⟩ (by omega)
  obtain rfl : i = G.length := by omega
  have hno : numOf G s = none := by
    have := num_miss (fun x : Bs => x) (l := G) (s := s) fun k hk => hb k hk hk
    rw [show G.map (fun x : Bs => x) = G from List.map_id _] at this; exact this
  rw [hno] at hfr
  simp only at hfr
  simp only [eE, eC, eN, Nat.reduceEqDiff, ↓reduceIte, List.length_map, lt_F hlt]
  refine k_loop (fun i : Nat => ⟨[(1, true, .str s), (2, true, .ptr 0 0), (8, true, .int .i64 i)], hset hnil 0 (.box (cellsD d)), 3⟩) (fun i => i ≤ d.regs.length ∧ ∀ k (hk : k < d.regs.length), k < i → ¬ d.regs[k].nm = s) (fun i => d.regs.length - i)
    0 rfl ⟨Nat.zero_le _, fun k _ q => absurd q (Nat.not_lt_zero _)⟩ ?_
  rintro i ⟨hi, hb⟩
  by_cases hlt2 : i < d.regs.length
  · have hg := List.getElem?_eq_getElem hlt2
    have e := w64_succ (k := i) (by omega)
    have e8 : IntKind.wrap .i64 (8 + (i : Int)) = 8 + (i : Int) := w64_in (by omega) (by omega)
    have hhit := fun q => num_hit (fun x : DReg => x.nm) (s := s) hlt2 q hb
    have hnx : ¬ d.regs[i].nm = s → ∀ k (hk : k < d.regs.length), k < i + 1 → ¬ d.regs[k].nm = s := fun q k hk h => by
      by_cases z : k = i
      · subst z; exact q
      · exact hb k hk (by omega)
    generalize d.regs[i] = x at hg hhit hnx
    by_cases hx : x.nm = s
    · have hR : numV (famNs d) s = .tup [.int .i64 (8 + (i : Int)), .bool true] := by unfold numV; rw [hfr, hhit hx]; rfl
      rw [hR]
      simp only [eE, eC, eN, Nat.reduceEqDiff, ↓reduceIte, Nat.reduceAdd, Nat.reduceLeDiff, Option.getD_some, Int.toNat_natCast, Int.natCast_nonneg, List.length_map, List.getElem?_map, lt_T hlt2, hg, e8, scmp_eq, dec_T hx]
      exact Wk.refl _
    · simp only [eE, eC, eN, Nat.reduceEqDiff, ↓reduceIte, Nat.reduceAdd, Nat.reduceLeDiff, Int.reduceEq, Option.getD_some, Int.toNat_natCast, Int.natCast_nonneg, List.length_map, List.getElem?_map, lt_T hlt2, hg, e, scmp_eq, dec_F hx]
      exact .mk (i + 1) rfl ⟨hlt2, hnx hx⟩ (by omega)
  obtain rfl : i = d.regs.length := by omega
  have hR : numV (famNs d) s = .tup [.int .i64 0, .bool false] := by unfold numV; rw [hfr, num_miss (fun x : DReg => x.nm) fun k hk => hb k hk hk]; rfl
  rw [hR]
  simp only [eE, eC, eN, Nat.reduceEqDiff, ↓reduceIte, Nat.reduceAdd, Nat.reduceLeDiff, List.length_map, lt_F hlt2]
  exact Wk.refl _
theorem twice_iff {l : List Bs} : twiceD l = true ↔ ∃ (a b : Nat) (ha : a < l.length) (hb : b < l.length), b < a ∧ l[a] = l[b] := by
  constructor
  · intro h
    apply Classical.byContradiction
    intro q
    have : twiceD l = false := twice_nodup.2 (List.nodup_iff_pairwise_ne.2 (List.pairwise_iff_getElem.2 fun i j hi hj hij e => q ⟨j, i, hj, hi, hij, e.symm⟩))
    rw [this] at h; cases h
  · rintro ⟨a, b, ha, hb, hab, e⟩
    cases h : twiceD l with
    | true => rfl
    | false => exact absurd e.symm (List.pairwise_iff_getElem.1 (List.nodup_iff_pairwise_ne.1 (twice_nodup.1 h)) b a hb ha hab)
theorem p69 (l : List Bs) (hl : few l) : Pur Tryz.prog 69 [eSs l] (.bool (twiceD l)) := by
  refine .mk ⟨eSs_under 0 _, trivial⟩ trivial (a69 (ev_awp TabOK.tnil (ev_evK ?_)))
  have hll : l.length < 1000000000 := hl
  simp only [eE, eN, reduceCtorEq, ↓reduceIte, c69]
  refine k_loop (fun a : Nat => ⟨[(0, true, eSs l), (3, true, .int .i64 a)], hnil, 0⟩) (fun a => a ≤ l.length ∧ ∀ x y (hx : x < l.length) (hy : y < l.length), x < a → y < x → ¬ l[x] = l[y]) (fun a => l.length - a)
    0 rfl ⟨Nat.zero_le _, fun x y _ _ q => absurd q (Nat.not_lt_zero _)⟩ ?_
  rintro a ⟨ha, hno⟩
  by_cases hla : a < l.length
  · have hga := List.getElem?_eq_getElem hla
    have ea := w64_succ (k := a) (by omega)
    simp only [eE, eC, eN, reduceCtorEq, Nat.reduceEqDiff, ↓reduceIte, List.length_map, lt_T hla]
    refine k_loop (fun b : Nat => ⟨[(0, true, eSs l), (3, true, .int .i64 a), (4, true, .int .i64 b)], hnil, 0⟩) (fun b => b ≤ a ∧ ∀ y (hy : y < l.length), y < b → ¬ l[a] = l[y]) (fun b => a - b)
      0 rfl ⟨Nat.zero_le _, fun y _ q => absurd q (Nat.not_lt_zero _)⟩ ?_
    rintro b ⟨hb2, hnb⟩
    by_cases hlb : b < a
    · have hbl : b < l.length := by omega
      have hgb := List.getElem?_eq_getElem hbl
      have eb := w64_succ (k := b) (by omega)
      by_cases hal : l[a] = l[b]
      · have hR : twiceD l = true := twice_iff.2 ⟨a, b, hla, hbl, hlb, hal⟩
        rw [hR]
        generalize l[a] = la at hga hal
        generalize l[b] = lb at hgb hal
        simp only [eE, eC, eN, reduceCtorEq, Nat.reduceEqDiff, ↓reduceIte, Option.getD_some, Int.toNat_natCast, Int.natCast_nonneg, List.length_map, List.getElem?_map, lt_T hlb, lt_T hla, lt_T hbl, hga, hgb, scmp_eq, dec_T hal]
      · have hnx : ∀ y (hy : y < l.length), y < b + 1 → ¬ l[a] = l[y] := fun y hy q => by
          by_cases z : y = b
          · subst z; exact hal
          · exact hnb y hy (by omega)
        generalize hA : l[a] = la at hga hal
        generalize hB : l[b] = lb at hgb hal
        simp only [eE, eC, eN, reduceCtorEq, Nat.reduceEqDiff, ↓reduceIte, Int.reduceEq, Option.getD_some, Int.toNat_natCast, Int.natCast_nonneg, List.length_map, List.getElem?_map, lt_T hlb, lt_T hla, lt_T hbl, hga, hgb, scmp_eq, dec_F hal, eb]
        exact .mk (b + 1) rfl ⟨hlb, fun y hy q => by rw [← hA]; exact hnx y hy q⟩ (by omega)
    obtain rfl : b = a := by omega
    simp only [eE, eC, eN, reduceCtorEq, Nat.reduceEqDiff, ↓reduceIte, Int.reduceEq, lt_F hlb, ea]
    refine .mk (b + 1) rfl ⟨hla, fun x y hx hy q1 q2 => ?_⟩ (by omega)
    by_cases z : x = b
    · subst z; exact hnb y hy q2
    · exact hno x y hx hy (by omega) q2
  obtain rfl : a = l.length := by omega
  have hR : twiceD l = false := by
    cases q : twiceD l with
    | false => rfl
    | true =>
      obtain ⟨x, y, hx, hy, hxy, h2⟩ := twice_iff.1 q
      exact absurd h2 (hno x y hx hy hx hxy)
  rw [hR]
  simp only [eE, eC, eN, reduceCtorEq, Nat.reduceEqDiff, ↓reduceIte, List.length_map, lt_F hla]
def setV (l ss : List Bs) : AVal := match setOf l ss with
  | some n => .tup [.int .i64 n, .bool true]
  | none => .tup [.int .i64 0, .bool false]
def Tsy : Tab := tadd 112 (s2 dD dS (fun d _ => FewD d) fun d s => numV (d.syms.map (·.nm)) s) tnil
theorem Tsy_ok : TabOK Tryz.prog Tsy := TabOK.tnil.add (q2 p112)
theorem Tsy_e (a : List AVal) (H : AHeap) : Tsy 112 a H = s2 dD dS (fun d _ => FewD d) (fun d s => numV (d.syms.map (·.nm)) s) a H := rfl
theorem p100 (d : Dcl) (ss : List Bs) (hd : FewD d) (h16 : d.syms.length ≤ 16) (hss : few ss) : Pur Tryz.prog 100 [encD d, eSs ss] (setV (d.syms.map (·.nm)) ss) := by
  refine .mk ⟨encD_under 0 d, eSs_under 0 _, trivial⟩ (by unfold setV; split <;> exact ⟨trivial, trivial, trivial⟩) (a100 (ev_awp Tsy_ok (ev_evK ?_)))
  have hsl : ss.length < 1000000000 := hss
  unfold setV
  rw [← setAcc_0]
  generalize hl : d.syms.map (·.nm) = l
  have hll : l.length ≤ 16 := by rw [← hl, List.length_map]; exact h16
  simp only [eE, eN, reduceCtorEq, Nat.reduceEqDiff, ↓reduceIte, Nat.reduceAdd, c100]
  refine k_loop (fun v : Nat × Nat => ⟨[(1, true, eSs ss), (2, true, .ptr 0 0), (6, true, .int .i64 v.2), (7, true, .int .i64 v.1)], hset hnil 0 (.box (cellsD d)), 3⟩) (fun v => v.1 ≤ ss.length ∧ v.2 < 65536 ∧ setAcc l 0 ss = setAcc l v.2 (ss.drop v.1)) (fun v => ss.length - v.1) (0, 0) rfl ⟨Nat.zero_le _, by decide, rfl⟩ ?_
  rintro ⟨i, acc⟩ ⟨hi, hacc, heq⟩
  simp only at hi hacc heq
  by_cases hlt : i < ss.length
  · have hg := List.getElem?_eq_getElem hlt
    have e := w64_succ (k := i) (by omega)
    rw [List.drop_eq_getElem_cons hlt, setAcc_cons] at heq
    generalize ss[i] = s at hg heq
    cases hno : numOf l s with
    | none =>
      have hnv : numV l s = .tup [.int .i64 0, .bool false] := by unfold numV; rw [hno]
      rw [hno] at heq
      simp only at heq
      rw [heq]
      simp only [eE, eC, eN, Nat.reduceEqDiff, ↓reduceIte, Nat.reduceAdd, Nat.reduceLT, Bool.not_false, Option.getD_some, Int.toNat_natCast, Int.natCast_nonneg, List.length_map, List.getElem?_map, List.getElem?_cons_zero, List.getElem?_cons_succ, lt_T hlt, hg, Tsy_e, s2, dD_ok, dD_dec, dS_ok, dS_dec, eq_true hd, hl, hnv]
      exact Wk.refl _
    | some k =>
      have hnv : numV l s = .tup [.int .i64 k, .bool true] := by unfold numV; rw [hno]
      rw [hno] at heq
      simp only at heq
      obtain ⟨h0, h1⟩ := numOf_rng hno
      obtain ⟨j, rfl⟩ : ∃ j : Nat, k = j := ⟨k.toNat, by omega⟩
      rw [Int.toNat_natCast] at heq
      simp only [eE, eC, eN, Nat.reduceEqDiff, ↓reduceIte, Nat.reduceAdd, Nat.reduceLT, Int.reduceEq, Bool.not_true, Option.getD_some, Int.toNat_natCast, Int.natCast_nonneg, List.length_map, List.getElem?_map, List.getElem?_cons_zero, List.getElem?_cons_succ, lt_T hlt, hg, Tsy_e, s2, dD_ok, dD_dec, dS_ok, dS_dec, eq_true hd, hl, hnv, shl_nat (show j < 16 by omega), or_nat hacc (shl_lt (show j < 16 by omega)), e]
      exact .mk (i + 1, acc ||| 1 <<< j) rfl ⟨hlt, Nat.or_lt_two_pow (n := 16) hacc (shl_lt (by omega)), heq⟩ (by simp only []; omega)
  obtain rfl : i = ss.length := by omega
  rw [List.drop_length, setAcc_nil] at heq
  rw [heq]
  simp only [eE, eC, eN, Nat.reduceEqDiff, ↓reduceIte, List.length_map, lt_F hlt]
  exact Wk.refl _
end Go.AM
end
section
set_option maxRecDepth 20000
set_option linter.all false
namespace Go.AM
open Go.Proofs Go.Lib
structure VNm where
  i : Nat
  tk : Tok
  H : AHeap
  n : Nat
structure INm (d : Dcl) (lo m : Nat) (ns : List Bs) (v : VNm) : Prop where
  hi : v.i ≤ m
  fr : Fresh v.H v.n
  hn : lo ≤ v.n
  h0 : hget v.H 0 = some (.box (cellsD d))
  tok : tkG 1 lo v.H v.tk
  es : v.tk.esz = 1 ∨ ns = []
theorem dSs_okt {t : Tok} {l : List Bs} (ht : t.esz = 1 ∨ l = []) : dSs.ok (.sl t (l.map .str)) = True := eq_true ⟨ht.imp id fun q => by rw [q]; rfl, by rw [toSs_map]⟩
theorem dSs_dect {t : Tok} (l : List Bs) : dSs.dec (.sl t (l.map .str)) = l := toSs_map l
def tw : Tab := tadd 69 (s1 dSs few fun l => .bool (twiceD l)) tnil
def twS : List AVal → AHeap → Prop × AVal := s1 dSs few fun l => .bool (twiceD l)
structure VRs (α : Type) where
  i : Nat
  tk : Tok
  dn : List α
  H : AHeap
  n : Nat
structure IRs {α β : Type} (d : Dcl) (e : Nat) (l : List α) (f : α → Option β) (v : VRs β) : Prop where
  hi : v.i ≤ l.length
  dl : v.dn.length = v.i
  fr : Fresh v.H v.n
  hn : 3 ≤ v.n
  h0 : hget v.H 0 = some (.box (cellsD d))
  tok : tkG e 3 v.H v.tk
  es : v.tk.esz = e ∨ v.dn = []
  eq : allSome f l = (allSome f (l.drop v.i)).map fun r => v.dn ++ r
def nmF {α : Type} (init : List Bs) (f : α → Bs) (l : List α) (i : Nat) : List Bs := init ++ (l.take i).map f
theorem nmF_succ {α : Type} (init : List Bs) (f : α → Bs) {l : List α} {i : Nat} (h : i < l.length) : nmF init f l (i + 1) = nmF init f l i ++ [f l[i]] := by
  unfold nmF; rw [map_take h, List.append_assoc]
theorem nmF_len {α : Type} (init : List Bs) (f : α → Bs) (l : List α) (i : Nat) : (nmF init f l i).length ≤ init.length + i := by
  unfold nmF; rw [List.length_append, List.length_map, List.length_take]; omega
theorem nmF_all {α : Type} (init : List Bs) (f : α → Bs) (l : List α) : nmF init f l l.length = init ++ l.map f := by
  unfold nmF; rw [List.take_length]
def cluesV (d : Dcl) : AVal := if twiceD (d.clus.map fun x : DClu => x.nm) = true then .tup [eCls [], .int .i64 161] else match allSome (resClu d) d.clus with
  | none => .tup [eCls [], .int .i64 160]
  | some cs => .tup [eCls cs, .int .i64 0]
def Tcv : Tab := tadd 69 twS (tadd 89 (s2 dD dS (fun d _ => FewD d) fun d s => numV (famNs d) s) tnil)
theorem Tcv_ok : TabOK Tryz.prog Tcv := (TabOK.tnil.add (q2 p89)).add (q1 p69)
theorem Tcv_t (a : List AVal) (H : AHeap) : Tcv 69 a H = s1 dSs few (fun l => .bool (twiceD l)) a H := rfl
theorem Tcv_f (a : List AVal) (H : AHeap) : Tcv 89 a H = s2 dD dS (fun d _ => FewD d) (fun d s => numV (famNs d) s) a H := rfl
theorem wk2 {a b : AVal} {e : Int} (h : Wk a b) : Wk (.tup [a, .int .i64 e]) (.tup [b, .int .i64 e]) := Wk.tup (.cons h (.cons (Wk.refl _) .nil))
theorem p71 (d : Dcl) (hd : FewD d) : Pur Tryz.prog 71 [encD d] (cluesV d) := by
  refine .mk ⟨encD_under 0 d, trivial⟩ (by unfold cluesV; split; exact ⟨eCls_under 0 _, trivial, trivial⟩; split <;> exact ⟨eCls_under 0 _, trivial, trivial⟩) (a71 (ev_awp Tcv_ok (ev_evK ?_)))
  have hcl : d.clus.length < 1000000000 := hd.cl
  simp only [eE, eN, Nat.reduceEqDiff, ↓reduceIte, Nat.reduceAdd, c71]
  refine k_loop (fun v : VNm => ⟨[(1, true, .ptr 0 0), (4, true, .sl v.tk ((nmF [] (fun x : DClu => x.nm) d.clus v.i).map .str)), (5, true, .int .i64 v.i)], v.H, v.n⟩) (fun v => INm d 3 d.clus.length (nmF [] (fun x : DClu => x.nm) d.clus v.i) v) (fun v => d.clus.length - v.i)
    ⟨0, .nil, hset hnil 0 (.box (cellsD d)), 3⟩ rfl ⟨Nat.zero_le _, Fresh.nil.hset (m := 3) (Nat.zero_le 3) (show 0 < 3 by decide), Nat.le_refl _, rfl, .inl rfl, .inr rfl⟩ ?_
  rintro ⟨i, tk, H, n⟩ ⟨hi, hfr, hn, h0, htk, hes⟩
  simp only at hi hfr hn h0 htk hes
  by_cases hlt : i < d.clus.length
  · have hg := List.getElem?_eq_getElem hlt
    have e := w64_succ (k := i) (by omega)
    have htx := nmF_succ [] (fun x : DClu => x.nm) hlt
    have hnl := nmF_len [] (fun x : DClu => x.nm) d.clus i
    have hil : ([] : List Bs).length ≤ 8 := by decide
    generalize d.clus[i] = x at hg htx
    generalize hL : nmF [] (fun x : DClu => x.nm) d.clus i = L at htx htk hes hnl ⊢
    have q1 : appOK H 1 tk = True := eq_true htk.app
    have q2 : (L.length ≤ 35184372088831) = True := eq_true (by omega)
    have q3 : small (L.length + 1) 16 = True := eq_true (by unfold small; omega)
    simp only [eE, eC, eN, reduceCtorEq, Nat.reduceEqDiff, ↓reduceIte, Nat.reduceAdd, Nat.reduceLeDiff, Nat.reduceMul, Nat.reduceLT, Int.reduceEq, Option.getD_some, Int.toNat_natCast, Int.natCast_nonneg, List.length_map, List.getElem?_map, lt_T hlt, hg, e, h0, fr1 hfr, q1, q2, q3]
    refine .mk ⟨i + 1, .own (n + 8) 1, hset (killTok H tk) (n + 8) .tok, n + 10⟩ ?_ ?_ (by simp only []; omega)
    · simp only [htx, List.map_append]; rfl
    · refine ⟨hlt, (kill_fresh htk hfr).hset (m := n + 10) (by omega) (by omega), by simp only []; omega, ?_, .inr (.inr ⟨n + 8, rfl, by omega, hget_hset_eq ..⟩), .inl rfl⟩
      simp only []
      rw [hget_hset_ne _ _ _ _ (by omega), kill_get htk (.inr ⟨_, h0⟩)]; exact h0
  obtain rfl : i = d.clus.length := by omega
  have hNA := nmF_all [] (fun x : DClu => x.nm) d.clus
  have hil : ([] : List Bs).length ≤ 8 := by decide
  rw [hNA] at hes
  have hnf : few (d.clus.map fun x : DClu => x.nm) := show (d.clus.map fun x : DClu => x.nm).length < _ by first | (rw [List.length_map]; omega) | (rw [List.length_append, List.length_map]; omega)
  rw [List.nil_append] at hNA hes
  cases ht : twiceD (d.clus.map fun x : DClu => x.nm) with
  | true =>
    have hR : cluesV d = .tup [eCls [], .int .i64 161] := by unfold cluesV; rw [if_pos ht]
    rw [hR]
    simp only [eE, eC, eN, Nat.reduceEqDiff, ↓reduceIte, Nat.reduceAdd, Nat.reduceLeDiff, List.length_map, lt_F hlt, h0, hNA, Tcv_t, s1, dSs_okt hes, dSs_dect, eq_true hnf, ht]
    exact wk2 (Wk.sl (.inr rfl))
  | false =>
  have hR : cluesV d = match allSome (resClu d) d.clus with
    | none => .tup [eCls [], .int .i64 160]
    | some cs => .tup [eCls cs, .int .i64 0] := by unfold cluesV; rw [if_neg (by rw [ht]; decide)]
  rw [hR]
  simp only [eE, eC, eN, Nat.reduceEqDiff, ↓reduceIte, Nat.reduceAdd, Nat.reduceLeDiff, List.length_map, lt_F hlt, h0, hNA, Tcv_t, s1, dSs_okt hes, dSs_dect, eq_true hnf, ht]
  refine k_loop (fun v : VRs DClu => ⟨[(1, true, .ptr 0 0), (6, true, .sl v.tk (v.dn.map encCl)), (7, true, .int .i64 v.i)], v.H, v.n⟩) (IRs d 6 d.clus (resClu d)) (fun v => d.clus.length - v.i)
    ⟨0, .nil, [], H, n⟩ rfl ⟨Nat.zero_le _, rfl, hfr, hn, h0, .inl rfl, .inr rfl, by simp only [List.drop_zero]; cases allSome (resClu d) d.clus <;> rfl⟩ ?_
  rintro ⟨j, tk, dn, H1, n1⟩ ⟨hj, hdl, hf1, hn1, h01, ht1, he1, heq⟩
  simp only at hj hdl hf1 hn1 h01 ht1 he1 heq
  by_cases hlj : j < d.clus.length
  · have hg := List.getElem?_eq_getElem hlj
    have e := w64_succ (k := j) (by omega)
    rw [List.drop_eq_getElem_cons hlj, allSome_cons] at heq
    generalize d.clus[j] = c at hg heq
    have y0 : ∀ q, (n1 + q = 0) = False := fun q => eq_false (by omega)
    cases hno : numOf (famNs d) c.on with
    | none =>
      have hnv : numV (famNs d) c.on = .tup [.int .i64 0, .bool false] := by unfold numV; rw [hno]
      rw [show resClu d c = none by unfold resClu; rw [hno]; rfl] at heq
      simp only [Option.map_none] at heq
      rw [heq]
      simp only [eE, eC, eN, Nat.reduceEqDiff, ↓reduceIte, Nat.reduceAdd, Nat.reduceLeDiff, Nat.reduceLT, Bool.not_false, Option.getD_some, Int.toNat_natCast, Int.natCast_nonneg, List.length_map, List.getElem?_map, List.getElem?_cons_zero, List.getElem?_cons_succ, lt_T hlj, hg, h01, fr1 hf1, y0, hset_hset, Tcv_f, s2, dD_ok, dD_dec, dS_ok, dS_dec, eq_true hd, hnv]
      exact wk2 (Wk.sl (.inr rfl))
    | some f =>
      have hnv : numV (famNs d) c.on = .tup [.int .i64 f, .bool true] := by unfold numV; rw [hno]
      rw [show resClu d c = some { c with fam := f } by unfold resClu; rw [hno]; rfl] at heq
      simp only at heq
      have q1 : ∀ ob1, appOK (hset H1 (n1 + 5) ob1) 6 tk = True := fun ob1 => eq_true (ht1.set (.inr (.inr (fr1 hf1 5)))).app
      have q2 : (dn.length ≤ 35184372088831) = True := eq_true (by omega)
      have q3 : small (dn.length + 1) 64 = True := eq_true (small_of (by omega) (by decide))
      simp only [eE, eC, eN, reduceCtorEq, Nat.reduceEqDiff, ↓reduceIte, Nat.reduceAdd, Nat.reduceLeDiff, Nat.reduceMul, Nat.reduceLT, Int.reduceEq, Bool.not_true, Option.getD_some, Int.toNat_natCast, Int.natCast_nonneg, List.length_map, List.getElem?_map, List.getElem?_cons_zero, List.getElem?_cons_succ, lt_T hlj, hg, e, h01, fr1 hf1, y0, hset_hset, Tcv_f, s2, dD_ok, dD_dec, dS_ok, dS_dec, eq_true hd, hnv, q1, q2, q3]
      obtain ⟨H2, hH2⟩ : ∃ H2, H2 = hset H1 (n1 + 5) (.box (encCl { c with fam := f }).cells) := ⟨_, rfl⟩
      have gt : tkG 6 3 H2 tk := by rw [hH2]; exact ht1.set (.inr (.inr (fr1 hf1 5)))
      have gf : Fresh H2 (n1 + 12) := by rw [hH2]; exact hf1.hset (m := n1 + 12) (by omega) (by omega)
      have g0 : hget H2 0 = some (.box (cellsD d)) := by rw [hH2, hget_hset_ne _ _ _ _ (by omega)]; exact h01
      refine .mk ⟨j + 1, .own (n1 + 10) 6, dn ++ [{ c with fam := f }], hset (killTok H2 tk) (n1 + 10) .tok, n1 + 12⟩ ?_ ?_ (by simp only []; omega)
      · rw [hH2]; simp only [List.map_append]; rfl
      · refine ⟨hlj, by simp [hdl], (kill_fresh gt gf).hset (Nat.le_refl _) (show n1 + 10 < n1 + 12 by omega), by simp only []; omega, ?_, .inr (.inr ⟨n1 + 10, rfl, by omega, hget_hset_eq ..⟩), .inl rfl, ?_⟩
        · simp only []
          rw [hget_hset_ne _ _ _ _ (by omega), kill_get gt (.inl (by omega))]; exact g0
        · simp only []
          rw [heq]
          cases allSome (resClu d) (d.clus.drop (j + 1)) <;> simp
  obtain rfl : j = d.clus.length := by omega
  rw [List.drop_length] at heq
  have heq : allSome (resClu d) d.clus = some dn := by rw [heq]; simp [allSome]
  rw [heq]
  simp only [eE, eC, eN, Nat.reduceEqDiff, ↓reduceIte, Nat.reduceAdd, Nat.reduceLeDiff, List.length_map, lt_F hlj, h01]
  exact wk2 (Wk.sl (he1.imp id fun q => by rw [q]; rfl))
def rulV (d : Dcl) (r : DRul) : DRul × Bool := match (if r.on = [] then some 0 else numOf (famNs d) r.on) with
  | none => ({ r with fam := 0 }, false)
  | some f => match (if r.byN = [] then some (-1) else numOf (d.clus.map (·.nm)) r.byN) with
    | none => ({ r with fam := f, set := (setOf (d.syms.map (·.nm)) r.ns).getD 0, oth := (setOf (d.syms.map (·.nm)) r.os).getD 0, clue := -1 }, false)
    | some c => ({ r with fam := f, set := (setOf (d.syms.map (·.nm)) r.ns).getD 0, oth := (setOf (d.syms.map (·.nm)) r.os).getD 0, clue := c }, (setOf (d.syms.map (·.nm)) r.ns).isSome && (setOf (d.syms.map (·.nm)) r.os).isSome)
theorem rulV_res (d : Dcl) (r : DRul) : resRul d r = if (rulV d r).2 = true then some (rulV d r).1 else none := by
  unfold resRul rulV
  cases (if r.on = [] then some 0 else numOf (famNs d) r.on) with
  | none => rfl
  | some f =>
  cases (if r.byN = [] then some (-1) else numOf (d.clus.map (·.nm)) r.byN) with
  | none => cases setOf (d.syms.map (·.nm)) r.ns <;> cases setOf (d.syms.map (·.nm)) r.os <;> rfl
  | some c => cases setOf (d.syms.map (·.nm)) r.ns <;> cases setOf (d.syms.map (·.nm)) r.os <;> rfl
abbrev encRV (x : DRul × Bool) : AVal := .tup [encRu x.1, .bool x.2]
theorem setV_e (l ss : List Bs) : setV l ss = .tup [.int .i64 ((setOf l ss).getD 0), .bool (setOf l ss).isSome] := by unfold setV; cases setOf l ss <;> rfl
def Tsr : Tab := tadd 89 (s2 dD dS (fun d _ => FewD d) fun d s => numV (famNs d) s) (tadd 101 (s2 dD dS (fun d _ => FewD d) fun d s => numV (d.clus.map (·.nm)) s) (tadd 100 (s2 dD dSs (fun d ss => FewD d ∧ d.syms.length ≤ 16 ∧ few ss) fun d ss => setV (d.syms.map (·.nm)) ss) tnil))
theorem Tsr_ok : TabOK Tryz.prog Tsr := ((TabOK.tnil.add (q2 fun d ss h => p100 d ss h.1 h.2.1 h.2.2)).add (q2 p101)).add (q2 p89)
theorem Tsr_f (a : List AVal) (H : AHeap) : Tsr 89 a H = s2 dD dS (fun d _ => FewD d) (fun d s => numV (famNs d) s) a H := rfl
theorem Tsr_c (a : List AVal) (H : AHeap) : Tsr 101 a H = s2 dD dS (fun d _ => FewD d) (fun d s => numV (d.clus.map (·.nm)) s) a H := rfl
theorem Tsr_s (a : List AVal) (H : AHeap) : Tsr 100 a H = s2 dD dSs (fun d ss => FewD d ∧ d.syms.length ≤ 16 ∧ few ss) (fun d ss => setV (d.syms.map (·.nm)) ss) a H := rfl
theorem p90 (d : Dcl) (r : DRul) (hd : FewD d) (h16 : d.syms.length ≤ 16) (hr : fewRu r) : Pur Tryz.prog 90 [encD d, encRu r] (encRV (rulV d r)) := by
  refine .mk ⟨encD_under 0 d, encRu_under 0 r, trivial⟩ ⟨encRu_under 0 _, trivial, trivial⟩ (a90 (ev_awp Tsr_ok (ev_evK ?_)))
  have hs1 := eq_true (⟨hd, h16, hr.1⟩ : FewD d ∧ d.syms.length ≤ 16 ∧ few r.ns)
  have hs2 := eq_true (⟨hd, h16, hr.2⟩ : FewD d ∧ d.syms.length ≤ 16 ∧ few r.os)
  unfold rulV
  by_cases h1 : r.on = []
  · rw [if_pos h1]
    by_cases h2 : r.byN = []
    · rw [if_pos h2]
      simp only [eE, eC, eN, reduceCtorEq, Nat.reduceEqDiff, ↓reduceIte, Nat.reduceAdd, Nat.reduceLeDiff, Nat.reduceLT, Bool.not_true, Option.getD_some, rcell, List.getElem?_cons_zero, List.getElem?_cons_succ, c90, scmp_ne, dec_T h1, dec_T h2, Tsr_s, s2, dD_ok, dD_dec, dSs_ok, dSs_dec, eq_true hd, eq_true h16, eq_true hr.1, eq_true hr.2, setV_e]
      exact Wk.refl _
    · rw [if_neg h2]
      cases hc : numOf (d.clus.map (·.nm)) r.byN with
      | none =>
        have hnv : numV (d.clus.map (·.nm)) r.byN = .tup [.int .i64 0, .bool false] := by unfold numV; rw [hc]
        simp only [eE, eC, eN, reduceCtorEq, Nat.reduceEqDiff, ↓reduceIte, Nat.reduceAdd, Nat.reduceLeDiff, Nat.reduceLT, Bool.not_true, Bool.not_false, Option.getD_some, rcell, List.getElem?_cons_zero, List.getElem?_cons_succ, c90, scmp_ne, dec_T h1, dec_F h2, Tsr_s, Tsr_c, s2, dD_ok, dD_dec, dSs_ok, dSs_dec, dS_ok, dS_dec, eq_true hd, eq_true h16, eq_true hr.1, eq_true hr.2, setV_e, hnv]
        exact Wk.refl _
      | some c =>
        have hnv : numV (d.clus.map (·.nm)) r.byN = .tup [.int .i64 c, .bool true] := by unfold numV; rw [hc]
        simp only [eE, eC, eN, reduceCtorEq, Nat.reduceEqDiff, ↓reduceIte, Nat.reduceAdd, Nat.reduceLeDiff, Nat.reduceLT, Bool.not_true, Bool.not_false, Option.getD_some, rcell, List.getElem?_cons_zero, List.getElem?_cons_succ, c90, scmp_ne, dec_T h1, dec_F h2, Tsr_s, Tsr_c, s2, dD_ok, dD_dec, dSs_ok, dSs_dec, dS_ok, dS_dec, eq_true hd, eq_true h16, eq_true hr.1, eq_true hr.2, setV_e, hnv]
        exact Wk.refl _
  · rw [if_neg h1]
    cases hf : numOf (famNs d) r.on with
    | none =>
      have hnf : numV (famNs d) r.on = .tup [.int .i64 0, .bool false] := by unfold numV; rw [hf]
      simp only [eE, eC, eN, reduceCtorEq, Nat.reduceEqDiff, ↓reduceIte, Nat.reduceAdd, Nat.reduceLeDiff, Nat.reduceLT, Bool.not_false, Option.getD_some, rcell, List.getElem?_cons_zero, List.getElem?_cons_succ, c90, scmp_ne, dec_F h1, Tsr_f, s2, dD_ok, dD_dec, dS_ok, dS_dec, eq_true hd, hnf]
      exact Wk.refl _
    | some f =>
      have hnf : numV (famNs d) r.on = .tup [.int .i64 f, .bool true] := by unfold numV; rw [hf]
      by_cases h2 : r.byN = []
      · rw [if_pos h2]
        simp only [eE, eC, eN, reduceCtorEq, Nat.reduceEqDiff, ↓reduceIte, Nat.reduceAdd, Nat.reduceLeDiff, Nat.reduceLT, Bool.not_true, Bool.not_false, Option.getD_some, rcell, List.getElem?_cons_zero, List.getElem?_cons_succ, c90, scmp_ne, dec_F h1, dec_T h2, Tsr_f, Tsr_s, s2, dD_ok, dD_dec, dSs_ok, dSs_dec, dS_ok, dS_dec, eq_true hd, eq_true h16, eq_true hr.1, eq_true hr.2, setV_e, hnf]
        exact Wk.refl _
      · rw [if_neg h2]
        cases hc : numOf (d.clus.map (·.nm)) r.byN with
        | none =>
          have hnv : numV (d.clus.map (·.nm)) r.byN = .tup [.int .i64 0, .bool false] := by unfold numV; rw [hc]
          simp only [eE, eC, eN, reduceCtorEq, Nat.reduceEqDiff, ↓reduceIte, Nat.reduceAdd, Nat.reduceLeDiff, Nat.reduceLT, Bool.not_true, Bool.not_false, Option.getD_some, rcell, List.getElem?_cons_zero, List.getElem?_cons_succ, c90, scmp_ne, dec_F h1, dec_F h2, Tsr_f, Tsr_s, Tsr_c, s2, dD_ok, dD_dec, dSs_ok, dSs_dec, dS_ok, dS_dec, eq_true hd, eq_true h16, eq_true hr.1, eq_true hr.2, setV_e, hnf, hnv]
          exact Wk.refl _
        | some c =>
          have hnv : numV (d.clus.map (·.nm)) r.byN = .tup [.int .i64 c, .bool true] := by unfold numV; rw [hc]
          simp only [eE, eC, eN, reduceCtorEq, Nat.reduceEqDiff, ↓reduceIte, Nat.reduceAdd, Nat.reduceLeDiff, Nat.reduceLT, Bool.not_true, Bool.not_false, Option.getD_some, rcell, List.getElem?_cons_zero, List.getElem?_cons_succ, c90, scmp_ne, dec_F h1, dec_F h2, Tsr_f, Tsr_s, Tsr_c, s2, dD_ok, dD_dec, dSs_ok, dSs_dec, dS_ok, dS_dec, eq_true hd, eq_true h16, eq_true hr.1, eq_true hr.2, setV_e, hnf, hnv]
          exact Wk.refl _
def rulesV (d : Dcl) : AVal := if twiceD (d.ruls.map fun x : DRul => x.nm) = true then .tup [eRus [], .int .i64 161] else match allSome (resRul d) d.ruls with
  | none => .tup [eRus [], .int .i64 160]
  | some cs => .tup [eRus cs, .int .i64 0]
def Trv : Tab := tadd 69 twS (tadd 90 (s2 dD dRu (fun d r => FewD d ∧ d.syms.length ≤ 16 ∧ fewRu r) fun d r => encRV (rulV d r)) tnil)
theorem Trv_ok : TabOK Tryz.prog Trv := (TabOK.tnil.add (q2 fun d r h => p90 d r h.1 h.2.1 h.2.2)).add (q1 p69)
theorem Trv_t (a : List AVal) (H : AHeap) : Trv 69 a H = s1 dSs few (fun l => .bool (twiceD l)) a H := rfl
theorem Trv_r (a : List AVal) (H : AHeap) : Trv 90 a H = s2 dD dRu (fun d r => FewD d ∧ d.syms.length ≤ 16 ∧ fewRu r) (fun d r => encRV (rulV d r)) a H := rfl
theorem p72 (d : Dcl) (hd : FewD d) (h16 : d.syms.length ≤ 16) : Pur Tryz.prog 72 [encD d] (rulesV d) := by
  refine .mk ⟨encD_under 0 d, trivial⟩ (by unfold rulesV; split; exact ⟨eRus_under 0 _, trivial, trivial⟩; split <;> exact ⟨eRus_under 0 _, trivial, trivial⟩) (a72 (ev_awp Trv_ok (ev_evK ?_)))
  have hcl : d.ruls.length < 1000000000 := hd.ru
  simp only [eE, eN, Nat.reduceEqDiff, ↓reduceIte, Nat.reduceAdd, c72]
  refine k_loop (fun v : VNm => ⟨[(1, true, .ptr 0 0), (4, true, .sl v.tk ((nmF [] (fun x : DRul => x.nm) d.ruls v.i).map .str)), (5, true, .int .i64 v.i)], v.H, v.n⟩) (fun v => INm d 3 d.ruls.length (nmF [] (fun x : DRul => x.nm) d.ruls v.i) v) (fun v => d.ruls.length - v.i)
    ⟨0, .nil, hset hnil 0 (.box (cellsD d)), 3⟩ rfl ⟨Nat.zero_le _, Fresh.nil.hset (m := 3) (Nat.zero_le 3) (show 0 < 3 by decide), Nat.le_refl _, rfl, .inl rfl, .inr rfl⟩ ?_
  rintro ⟨i, tk, H, n⟩ ⟨hi, hfr, hn, h0, htk, hes⟩
  simp only at hi hfr hn h0 htk hes
  by_cases hlt : i < d.ruls.length
  · have hg := List.getElem?_eq_getElem hlt
    have e := w64_succ (k := i) (by omega)
    have htx := nmF_succ [] (fun x : DRul => x.nm) hlt
    have hnl := nmF_len [] (fun x : DRul => x.nm) d.ruls i
    have hil : ([] : List Bs).length ≤ 8 := by decide
    generalize d.ruls[i] = x at hg htx
    generalize hL : nmF [] (fun x : DRul => x.nm) d.ruls i = L at htx htk hes hnl ⊢
    have q1 : appOK H 1 tk = True := eq_true htk.app
    have q2 : (L.length ≤ 35184372088831) = True := eq_true (by omega)
    have q3 : small (L.length + 1) 16 = True := eq_true (by unfold small; omega)
    simp only [eE, eC, eN, reduceCtorEq, Nat.reduceEqDiff, ↓reduceIte, Nat.reduceAdd, Nat.reduceLeDiff, Nat.reduceMul, Nat.reduceLT, Int.reduceEq, Option.getD_some, Int.toNat_natCast, Int.natCast_nonneg, List.length_map, List.getElem?_map, lt_T hlt, hg, e, h0, fr1 hfr, q1, q2, q3]
    refine .mk ⟨i + 1, .own (n + 8) 1, hset (killTok H tk) (n + 8) .tok, n + 10⟩ ?_ ?_ (by simp only []; omega)
    · simp only [htx, List.map_append]; rfl
    · refine ⟨hlt, (kill_fresh htk hfr).hset (m := n + 10) (by omega) (by omega), by simp only []; omega, ?_, .inr (.inr ⟨n + 8, rfl, by omega, hget_hset_eq ..⟩), .inl rfl⟩
      simp only []
      rw [hget_hset_ne _ _ _ _ (by omega), kill_get htk (.inr ⟨_, h0⟩)]; exact h0
  obtain rfl : i = d.ruls.length := by omega
  have hNA := nmF_all [] (fun x : DRul => x.nm) d.ruls
  have hil : ([] : List Bs).length ≤ 8 := by decide
  rw [hNA] at hes
  have hnf : few (d.ruls.map fun x : DRul => x.nm) := show (d.ruls.map fun x : DRul => x.nm).length < _ by first | (rw [List.length_map]; omega) | (rw [List.length_append, List.length_map]; omega)
  rw [List.nil_append] at hNA hes
  cases ht : twiceD (d.ruls.map fun x : DRul => x.nm) with
  | true =>
    have hR : rulesV d = .tup [eRus [], .int .i64 161] := by unfold rulesV; rw [if_pos ht]
    rw [hR]
    simp only [eE, eC, eN, Nat.reduceEqDiff, ↓reduceIte, Nat.reduceAdd, List.length_map, lt_F hlt, h0, hNA, Trv_t, s1, dSs_okt hes, dSs_dect, eq_true hnf, ht]
    exact wk2 (Wk.sl (.inr rfl))
  | false =>
  have hR : rulesV d = match allSome (resRul d) d.ruls with
    | none => .tup [eRus [], .int .i64 160]
    | some cs => .tup [eRus cs, .int .i64 0] := by unfold rulesV; rw [if_neg (by rw [ht]; decide)]
  rw [hR]
  simp only [eE, eC, eN, Nat.reduceEqDiff, ↓reduceIte, Nat.reduceAdd, List.length_map, lt_F hlt, h0, hNA, Trv_t, s1, dSs_okt hes, dSs_dect, eq_true hnf, ht]
  refine k_loop (fun v : VRs DRul => ⟨[(1, true, .ptr 0 0), (6, true, .sl v.tk (v.dn.map encRu)), (7, true, .int .i64 v.i)], v.H, v.n⟩) (IRs d 12 d.ruls (resRul d)) (fun v => d.ruls.length - v.i)
    ⟨0, .nil, [], H, n⟩ rfl ⟨Nat.zero_le _, rfl, hfr, hn, h0, .inl rfl, .inr rfl, by simp only [List.drop_zero]; cases allSome (resRul d) d.ruls <;> rfl⟩ ?_
  rintro ⟨j, tk, dn, H1, n1⟩ ⟨hj, hdl, hf1, hn1, h01, ht1, he1, heq⟩
  simp only at hj hdl hf1 hn1 h01 ht1 he1 heq
  by_cases hlj : j < d.ruls.length
  · have hg := List.getElem?_eq_getElem hlj
    have e := w64_succ (k := j) (by omega)
    have hrf := hd.rus _ (List.getElem_mem hlj)
    rw [List.drop_eq_getElem_cons hlj, allSome_cons] at heq
    generalize d.ruls[j] = r at hg heq hrf
    have y0 : ∀ q, (n1 + q = 0) = False := fun q => eq_false (by omega)
    rw [rulV_res] at heq
    obtain ⟨r', ok, hv⟩ : ∃ a b, rulV d r = (a, b) := ⟨_, _, rfl⟩
    rw [hv] at heq
    have u1 : unders 0 [encD d, encRu r] = True := eq_true ⟨encD_under 0 d, encRu_under 0 r, trivial⟩
    have u2 : ∀ b, AVal.under 0 (encRV (r', b)) = True := fun b => eq_true ⟨encRu_under 0 _, trivial, trivial⟩
    cases ok with
    | false =>
      simp only [Bool.false_eq_true, if_false, Option.map_none] at heq
      rw [heq]
      simp only [eE, eC, eN, Nat.reduceEqDiff, ↓reduceIte, Nat.reduceAdd, Nat.reduceLT, Bool.not_false, Option.getD_some, Int.toNat_natCast, Int.natCast_nonneg, List.length_map, List.getElem?_map, List.getElem?_cons_zero, List.getElem?_cons_succ, lt_T hlj, hg, h01, fr1 hf1, hset_hset, Trv_r, s2, dD_ok, dD_dec, dRu_ok, dRu_dec, eq_true hd, eq_true h16, eq_true hrf, hv, u1, u2]
      exact wk2 (Wk.sl (.inr rfl))
    | true =>
      simp only [if_true] at heq
      have q1 : ∀ ob1, appOK (hset H1 (n1 + 10) ob1) 12 tk = True := fun ob1 => eq_true (ht1.set (.inr (.inr (fr1 hf1 10)))).app
      have q2 : (dn.length ≤ 35184372088831) = True := eq_true (by omega)
      have q3 : small (dn.length + 1) 152 = True := eq_true (small_of (by omega) (by decide))
      simp only [eE, eC, eN, reduceCtorEq, Nat.reduceEqDiff, ↓reduceIte, Nat.reduceAdd, Nat.reduceLeDiff, Nat.reduceMul, Nat.reduceLT, Int.reduceEq, Bool.not_true, Option.getD_some, Int.toNat_natCast, Int.natCast_nonneg, List.length_map, List.getElem?_map, List.getElem?_cons_zero, List.getElem?_cons_succ, lt_T hlj, hg, e, h01, fr1 hf1, hset_hset, Trv_r, s2, dD_ok, dD_dec, dRu_ok, dRu_dec, eq_true hd, eq_true h16, eq_true hrf, hv, u1, u2, q1, q2, q3]
      obtain ⟨H2, hH2⟩ : ∃ H2, H2 = hset H1 (n1 + 10) (.box (cellsRu r')) := ⟨_, rfl⟩
      have gt : tkG 12 3 H2 tk := by rw [hH2]; exact ht1.set (.inr (.inr (fr1 hf1 10)))
      have gf : Fresh H2 (n1 + 18) := by rw [hH2]; exact hf1.hset (m := n1 + 18) (by omega) (by omega)
      have g0 : hget H2 0 = some (.box (cellsD d)) := by rw [hH2, hget_hset_ne _ _ _ _ (by omega)]; exact h01
      refine .mk ⟨j + 1, .own (n1 + 16) 12, dn ++ [r'], hset (killTok H2 tk) (n1 + 16) .tok, n1 + 18⟩ ?_ ?_ (by simp only []; omega)
      · rw [hH2]; simp only [List.map_append]; rfl
      · refine ⟨hlj, by simp [hdl], (kill_fresh gt gf).hset (Nat.le_refl _) (show n1 + 16 < n1 + 18 by omega), by simp only []; omega, ?_, .inr (.inr ⟨n1 + 16, rfl, by omega, hget_hset_eq ..⟩), .inl rfl, ?_⟩
        · simp only []
          rw [hget_hset_ne _ _ _ _ (by omega), kill_get gt (.inl (by omega))]; exact g0
        · simp only []
          rw [heq]
          cases allSome (resRul d) (d.ruls.drop (j + 1)) <;> simp
  obtain rfl : j = d.ruls.length := by omega
  rw [List.drop_length] at heq
  have heq : allSome (resRul d) d.ruls = some dn := by rw [heq]; simp [allSome]
  rw [heq]
  simp only [eE, eC, eN, Nat.reduceEqDiff, ↓reduceIte, Nat.reduceAdd, List.length_map, lt_F hlj, h01]
  exact wk2 (Wk.sl (he1.imp id fun q => by rw [q]; rfl))
end Go.AM
end
section
set_option maxRecDepth 20000
set_option linter.all false
namespace Go.AM
open Go.Proofs Go.Lib
def givX : AVal := .sl (.exact 1) (givenF.map .str)
theorem pGvX : Pur Tryz.prog 70 [] givX := by
  refine .mk trivial (eSs_under 0 givenF) (a70 (ev_awp TabOK.tnil (ev_evK ?_)))
  simp only [eE, eN, ↓reduceIte, Nat.reduceLeDiff, Nat.reduceMul, Nat.reduceLT, c70]
  exact Wk.refl _
def sGx : List AVal → AHeap → Prop × AVal := fun a _ => match a with
  | [] => (True, givX)
  | _ => (False, .tup [])
theorem qGx : ∀ args H n, (sGx args H).1 → Quiet Tryz.prog 70 args H n (sGx args H).2 := by
  intro args H n hh
  unfold sGx at hh ⊢
  split at hh
  · exact pGvX.quiet H n
  · exact hh.elim
def Tre : Tab := tadd 69 twS (tadd 70 sGx (tadd 71 (s1 dD FewD cluesV) (tadd 72 (s1 dD (fun d => FewD d ∧ d.syms.length ≤ 16) rulesV) tnil)))
theorem Tre_ok : TabOK Tryz.prog Tre := (((TabOK.tnil.add (q1 fun d h => p72 d h.1 h.2)).add (q1 p71)).add qGx).add (q1 p69)
theorem Tre_t (a : List AVal) (H : AHeap) : Tre 69 a H = s1 dSs few (fun l => .bool (twiceD l)) a H := rfl
theorem Tre_g (a : List AVal) (H : AHeap) : Tre 70 a H = sGx a H := rfl
theorem Tre_c (a : List AVal) (H : AHeap) : Tre 71 a H = s1 dD FewD cluesV a H := rfl
theorem Tre_r (a : List AVal) (H : AHeap) : Tre 72 a H = s1 dD (fun d => FewD d ∧ d.syms.length ≤ 16) rulesV a H := rfl
theorem wk0 {e : Int} : Wk (.tup [.agg decl0, .int .i64 e]) (.tup [encD dcl0, .int .i64 e]) := wk2 (wk_D (Wk.sl (.inr rfl)) (Wk.sl (.inr rfl)) (Wk.sl (.inr rfl)) (Wk.sl (.inr rfl)) (Wk.sl (.inr rfl)))
theorem p28 (d : Dcl) (hd : FewD d) (hq9 : d.regs.length < 999999000) : Pur Tryz.prog 28 [encD d] (nresV d) := by
  refine .mk ⟨encD_under 0 d, trivial⟩ (by unfold nresV; split <;> exact ⟨encD_under 0 _, trivial, trivial⟩) (a28 (ev_awp Tre_ok (ev_evK ?_)))
  have hsl : d.syms.length < 1000000000 := hd.sy
  have hrl : d.regs.length < 1000000000 := hd.rg
  have hE : ∀ e, resD d = .error e → nresV d = .tup [encD dcl0, .int .i64 e] := fun e h => by unfold nresV; rw [h]
  have hO : ∀ x, resD d = .ok x → nresV d = .tup [encD x, .int .i64 0] := fun x h => by unfold nresV; rw [h]
  by_cases h16 : 16 < d.syms.length
  · have hb : ((16 : Int) < (d.syms.length : Int)) = True := eq_true (by omega)
    rw [hE 2 (by unfold resD; rw [if_pos h16])]
    simp only [eE, eC, eN, reduceCtorEq, Nat.reduceEqDiff, ↓reduceIte, Nat.reduceAdd, Nat.reduceLeDiff, rcell, List.length_map, c28, hb]
    exact wk0
  have hb : ((16 : Int) < (d.syms.length : Int)) = False := eq_false (by omega)
  have h16' : d.syms.length ≤ 16 := by omega
  simp only [eE, eC, eN, reduceCtorEq, Nat.reduceEqDiff, ↓reduceIte, Nat.reduceAdd, Nat.reduceLeDiff, List.length_map, c28, hb]
  refine k_loop (fun v : VNm => ⟨[(1, true, .ptr 0 0), (2, true, .ptr 1 0), (4, true, .sl v.tk ((nmF [] (fun x : DSym => x.nm) d.syms v.i).map .str)), (5, true, .int .i64 v.i)], v.H, v.n⟩) (fun v => (hget v.H 1 = some (.box decl0)) ∧ INm d 3 d.syms.length (nmF [] (fun x : DSym => x.nm) d.syms v.i) v) (fun v => d.syms.length - v.i)
    ⟨0, .nil, hset (hset hnil 0 (.box (cellsD d))) 1 (.box decl0), 3⟩ rfl ⟨rfl, Nat.zero_le _, (Fresh.nil.hset (m := 3) (Nat.zero_le 3) (show 0 < 3 by decide)).hset (Nat.le_refl 3) (show 1 < 3 by decide), Nat.le_refl _, rfl, .inl rfl, .inr rfl⟩ ?_
  rintro ⟨i, tk, H, n⟩ ⟨h1, hi, hfr, hn, h0, htk, hes⟩
  simp only at h1 hi hfr hn h0 htk hes
  by_cases hlt : i < d.syms.length
  · have hg := List.getElem?_eq_getElem hlt
    have e := w64_succ (k := i) (by omega)
    have htx := nmF_succ [] (fun x : DSym => x.nm) hlt
    have hnl := nmF_len [] (fun x : DSym => x.nm) d.syms i
    have hil : ([] : List Bs).length ≤ 8 := by decide
    generalize d.syms[i] = x at hg htx
    generalize hL : nmF [] (fun x : DSym => x.nm) d.syms i = L at htx htk hes hnl ⊢
    have q1 : appOK H 1 tk = True := eq_true htk.app
    have q2 : (L.length ≤ 35184372088831) = True := eq_true (by omega)
    have q3 : small (L.length + 1) 16 = True := eq_true (by unfold small; omega)
    simp only [eE, eC, eN, reduceCtorEq, Nat.reduceEqDiff, ↓reduceIte, Nat.reduceAdd, Nat.reduceLeDiff, Nat.reduceMul, Nat.reduceLT, Int.reduceEq, Option.getD_some, Int.toNat_natCast, Int.natCast_nonneg, List.length_map, List.getElem?_map, lt_T hlt, hg, e, h0, fr1 hfr, q1, q2, q3]
    refine .mk ⟨i + 1, .own (n + 8) 1, hset (killTok H tk) (n + 8) .tok, n + 10⟩ ?_ ?_ (by simp only []; omega)
    · simp only [htx, List.map_append]; rfl
    · refine ⟨by simp only []; rw [hget_hset_ne _ _ _ _ (by omega), kill_get htk (.inr ⟨_, h1⟩)]; exact h1, hlt, (kill_fresh htk hfr).hset (m := n + 10) (by omega) (by omega), by simp only []; omega, ?_, .inr (.inr ⟨n + 8, rfl, by omega, hget_hset_eq ..⟩), .inl rfl⟩
      simp only []
      rw [hget_hset_ne _ _ _ _ (by omega), kill_get htk (.inr ⟨_, h0⟩)]; exact h0
  obtain rfl : i = d.syms.length := by omega
  have hNA := nmF_all [] (fun x : DSym => x.nm) d.syms
  have hil : ([] : List Bs).length ≤ 8 := by decide
  rw [hNA] at hes
  have hnf : few (d.syms.map fun x : DSym => x.nm) := show (d.syms.map fun x : DSym => x.nm).length < _ by first | (rw [List.length_map]; omega) | (unfold famNs; rw [List.length_append, List.length_map]; omega)
  rw [List.nil_append] at hNA hes
  cases ht : twiceD (d.syms.map fun x : DSym => x.nm) with
  | true =>
    rw [hE 161 (by unfold resD; rw [if_neg h16, if_pos ht])]
    simp only [eE, eC, eN, Nat.reduceEqDiff, ↓reduceIte, Nat.reduceAdd, Nat.reduceLeDiff, rcell, List.length_map, lt_F hlt, h0, h1, hNA, Tre_t, s1, dSs_okt hes, dSs_dect, eq_true hnf, ht]
    exact wk0
  | false =>
  have hgx : sGx [] = fun _ => (True, givX) := rfl
  have hg0 : givX = .sl (.exact 1) ((nmF givenF (fun x : DReg => x.nm) d.regs 0).map .str) := by unfold nmF; rw [List.take_zero, List.map_nil, List.append_nil]; rfl
  simp only [eE, eC, eN, Nat.reduceEqDiff, ↓reduceIte, Nat.reduceAdd, Nat.reduceLeDiff, List.length_map, lt_F hlt, h0, hNA, Tre_t, Tre_g, hgx, s1, dSs_okt hes, dSs_dect, eq_true hnf, ht]
  rw [hg0]
  clear hes htk hi hlt hNA hil hnf
  refine k_loop (fun v : VNm => ⟨[(1, true, .ptr 0 0), (2, true, .ptr 1 0), (6, true, .sl v.tk ((nmF givenF (fun x : DReg => x.nm) d.regs v.i).map .str)), (7, true, .int .i64 v.i)], v.H, v.n⟩) (fun v => (hget v.H 1 = some (.box decl0)) ∧ INm d 3 d.regs.length (nmF givenF (fun x : DReg => x.nm) d.regs v.i) v) (fun v => d.regs.length - v.i)
    ⟨0, .exact 1, H, n⟩ rfl ⟨h1, Nat.zero_le _, hfr, hn, h0, .inr (.inl rfl), .inl rfl⟩ ?_
  rintro ⟨i, tk, H, n⟩ ⟨h1, hi, hfr, hn, h0, htk, hes⟩
  simp only at h1 hi hfr hn h0 htk hes
  by_cases hlt : i < d.regs.length
  · have hg := List.getElem?_eq_getElem hlt
    have e := w64_succ (k := i) (by omega)
    have htx := nmF_succ givenF (fun x : DReg => x.nm) hlt
    have hnl := nmF_len givenF (fun x : DReg => x.nm) d.regs i
    have hil : (givenF : List Bs).length ≤ 8 := by decide
    generalize d.regs[i] = x at hg htx
    generalize hL : nmF givenF (fun x : DReg => x.nm) d.regs i = L at htx htk hes hnl ⊢
    have q1 : appOK H 1 tk = True := eq_true htk.app
    have q2 : (L.length ≤ 35184372088831) = True := eq_true (by omega)
    have q3 : small (L.length + 1) 16 = True := eq_true (by unfold small; omega)
    simp only [eE, eC, eN, reduceCtorEq, Nat.reduceEqDiff, ↓reduceIte, Nat.reduceAdd, Nat.reduceLeDiff, Nat.reduceMul, Nat.reduceLT, Int.reduceEq, Option.getD_some, Int.toNat_natCast, Int.natCast_nonneg, List.length_map, List.getElem?_map, lt_T hlt, hg, e, h0, fr1 hfr, q1, q2, q3]
    refine .mk ⟨i + 1, .own (n + 8) 1, hset (killTok H tk) (n + 8) .tok, n + 10⟩ ?_ ?_ (by simp only []; omega)
    · simp only [htx, List.map_append]; rfl
    · refine ⟨by simp only []; rw [hget_hset_ne _ _ _ _ (by omega), kill_get htk (.inr ⟨_, h1⟩)]; exact h1, hlt, (kill_fresh htk hfr).hset (m := n + 10) (by omega) (by omega), by simp only []; omega, ?_, .inr (.inr ⟨n + 8, rfl, by omega, hget_hset_eq ..⟩), .inl rfl⟩
      simp only []
      rw [hget_hset_ne _ _ _ _ (by omega), kill_get htk (.inr ⟨_, h0⟩)]; exact h0
  obtain rfl : i = d.regs.length := by omega
  have hNA := nmF_all givenF (fun x : DReg => x.nm) d.regs
  have hil : (givenF : List Bs).length ≤ 8 := by decide
  rw [hNA] at hes
  have hnf : few (famNs d) := show (famNs d).length < _ by first | (rw [List.length_map]; omega) | (unfold famNs; rw [List.length_append, List.length_map]; omega)
  cases ht2 : twiceD (famNs d) with
  | true =>
    rw [hE 161 (by unfold resD; rw [if_neg h16, if_neg (by rw [ht]; decide), if_pos ht2])]
    have hNA : nmF givenF (fun x : DReg => x.nm) d.regs d.regs.length = famNs d := hNA
    have hes : tk.esz = 1 ∨ famNs d = [] := hes
    simp only [eE, eC, eN, Nat.reduceEqDiff, ↓reduceIte, Nat.reduceAdd, Nat.reduceLeDiff, rcell, List.length_map, lt_F hlt, h0, h1, hNA, Tre_t, s1, dSs_okt hes, dSs_dect, eq_true hnf, ht2]
    exact wk0
  | false =>
  have hNA : nmF givenF (fun x : DReg => x.nm) d.regs d.regs.length = famNs d := hNA
  have hes : tk.esz = 1 ∨ famNs d = [] := hes
  have hres : resD d = if twiceD (d.clus.map fun x : DClu => x.nm) = true then .error 161 else match allSome (resClu d) d.clus with
      | none => .error 160
      | some cs => if twiceD (d.ruls.map fun x : DRul => x.nm) = true then .error 161 else match allSome (resRul d) d.ruls with
        | none => .error 160
        | some rs => .ok { d with clus := cs, ruls := rs } := by unfold resD; rw [if_neg h16, if_neg (by rw [ht]; decide), if_neg (by rw [ht2]; decide)]; rfl
  have base := fun (X : AVal) (hX : cluesV d = X) => hX
  cases ht3 : twiceD (d.clus.map fun x : DClu => x.nm) with
  | true =>
    have hc : cluesV d = .tup [eCls [], .int .i64 161] := by unfold cluesV; rw [if_pos ht3]
    rw [hE 161 (by rw [hres, if_pos ht3])]
    simp only [eE, eC, eN, Nat.reduceEqDiff, ↓reduceIte, Nat.reduceAdd, Nat.reduceLeDiff, Nat.reduceLT, Int.reduceEq, Bool.not_false, Option.getD_some, rcell, List.length_map, List.getElem?_cons_zero, List.getElem?_cons_succ, lt_F hlt, h0, h1, hNA, Tre_t, Tre_c, s1, dSs_okt hes, dSs_dect, dD_ok, dD_dec, eq_true hd, eq_true hnf, ht2, hc]
    exact wk0
  | false =>
  rw [if_neg (by rw [ht3]; decide)] at hres
  cases hcs : allSome (resClu d) d.clus with
  | none =>
    have hc : cluesV d = .tup [eCls [], .int .i64 160] := by unfold cluesV; rw [if_neg (by rw [ht3]; decide), hcs]
    rw [hE 160 (by rw [hres, hcs])]
    simp only [eE, eC, eN, Nat.reduceEqDiff, ↓reduceIte, Nat.reduceAdd, Nat.reduceLeDiff, Nat.reduceLT, Int.reduceEq, Bool.not_false, Option.getD_some, rcell, List.length_map, List.getElem?_cons_zero, List.getElem?_cons_succ, lt_F hlt, h0, h1, hNA, Tre_t, Tre_c, s1, dSs_okt hes, dSs_dect, dD_ok, dD_dec, eq_true hd, eq_true hnf, ht2, hc]
    exact wk0
  | some cs =>
  have hc : cluesV d = .tup [eCls cs, .int .i64 0] := by unfold cluesV; rw [if_neg (by rw [ht3]; decide), hcs]
  rw [hcs] at hres
  simp only at hres
  cases ht4 : twiceD (d.ruls.map fun x : DRul => x.nm) with
  | true =>
    have hr : rulesV d = .tup [eRus [], .int .i64 161] := by unfold rulesV; rw [if_pos ht4]
    rw [hE 161 (by rw [hres, if_pos ht4])]
    simp only [eE, eC, eN, Nat.reduceEqDiff, ↓reduceIte, Nat.reduceAdd, Nat.reduceLeDiff, Nat.reduceLT, Int.reduceEq, Bool.not_true, Bool.not_false, Option.getD_some, rcell, List.length_map, List.getElem?_cons_zero, List.getElem?_cons_succ, lt_F hlt, h0, h1, hNA, Tre_t, Tre_c, Tre_r, s1, dSs_okt hes, dSs_dect, dD_ok, dD_dec, eq_true hd, eq_true h16', eq_true hnf, ht2, hc, hr]
    exact wk0
  | false =>
  rw [if_neg (by rw [ht4]; decide)] at hres
  cases hrs : allSome (resRul d) d.ruls with
  | none =>
    have hr : rulesV d = .tup [eRus [], .int .i64 160] := by unfold rulesV; rw [if_neg (by rw [ht4]; decide), hrs]
    rw [hE 160 (by rw [hres, hrs])]
    simp only [eE, eC, eN, Nat.reduceEqDiff, ↓reduceIte, Nat.reduceAdd, Nat.reduceLeDiff, Nat.reduceLT, Int.reduceEq, Bool.not_true, Bool.not_false, Option.getD_some, rcell, List.length_map, List.getElem?_cons_zero, List.getElem?_cons_succ, lt_F hlt, h0, h1, hNA, Tre_t, Tre_c, Tre_r, s1, dSs_okt hes, dSs_dect, dD_ok, dD_dec, eq_true hd, eq_true h16', eq_true hnf, ht2, hc, hr]
    exact wk0
  | some rs =>
    have hr : rulesV d = .tup [eRus rs, .int .i64 0] := by unfold rulesV; rw [if_neg (by rw [ht4]; decide), hrs]
    rw [hO _ (by rw [hres, hrs])]
    simp only [eE, eC, eN, reduceCtorEq, Nat.reduceEqDiff, ↓reduceIte, Nat.reduceAdd, Nat.reduceLeDiff, Nat.reduceLT, Bool.not_true, Option.getD_some, rcell, List.length_map, List.getElem?_cons_zero, List.getElem?_cons_succ, lt_F hlt, h0, h1, hNA, Tre_t, Tre_c, Tre_r, s1, dSs_okt hes, dSs_dect, dD_ok, dD_dec, eq_true hd, eq_true h16', eq_true hnf, ht2, hc, hr, hset_hset]
    exact Wk.refl _
end Go.AM
end
section
set_option maxRecDepth 20000
set_option linter.all false
namespace Go.AM
open Go.Proofs Go.Lib
abbrev FewR (d : Dcl) : Prop := FewD d ∧ d.regs.length < 999999000
def Tcz : Tab := tadd 28 (s1 dD FewR nresV) (tadd 29 (s2 dD dD (fun a _ => FewD a) fun a b => .bool (decide (a = b))) (tadd 30 sMk (tadd 31 (s2 dD dGd (fun d g => FewD d ∧ cellsG g.sh g.w g.h g.holes = some g.cells ∧ few g.holes) fun d g => .int .i64 (regsE g.cells d.regs)) (tadd 32 (s1 dD FewD fun d => .bool (formOK d)) (tadd 33 (s1 dD (fun d => few d.ruls) fun d => eIs (unread d.ruls)) tnil)))))
theorem Tcz_ok : TabOK Tryz.prog Tcz := (((((TabOK.tnil.add (q1 fun d h => p33 d h)).add (q1 fun d h => p32 d h)).add (q2 fun d g h => p31 d g h.1 h.2.1 h.2.2)).add qMk).add (q2 fun a b h => p29 a b h)).add (q1 fun d h => p28 d h.1 h.2)
theorem Tcz_n (a : List AVal) (H : AHeap) : Tcz 28 a H = s1 dD FewR nresV a H := rfl
theorem Tcz_s (a : List AVal) (H : AHeap) : Tcz 29 a H = s2 dD dD (fun a _ => FewD a) (fun a b => .bool (decide (a = b))) a H := rfl
theorem Tcz_m (sh w h : Int) (x : AVal) (H : AHeap) : Tcz 30 [.int .i64 sh, .int .i64 w, .int .i64 h, x] H = (dIs.ok x ∧ few (dIs.dec x), makeV sh w h (dIs.dec x)) := rfl
theorem Tcz_g (a : List AVal) (H : AHeap) : Tcz 31 a H = s2 dD dGd (fun d g => FewD d ∧ cellsG g.sh g.w g.h g.holes = some g.cells ∧ few g.holes) (fun d g => .int .i64 (regsE g.cells d.regs)) a H := rfl
theorem Tcz_f (a : List AVal) (H : AHeap) : Tcz 32 a H = s1 dD FewD (fun d => .bool (formOK d)) a H := rfl
theorem Tcz_u (a : List AVal) (H : AHeap) : Tcz 33 a H = s1 dD (fun d => few d.ruls) (fun d => eIs (unread d.ruls)) a H := rfl
theorem allSome_out {α β : Type} {f : α → Option β} : ∀ {l : List α} {r : List β}, allSome f l = some r → r.length = l.length ∧ ∀ y ∈ r, ∃ x ∈ l, f x = some y
  | [], r, h => by
    simp only [allSome, Option.some.injEq] at h
    subst h
    exact ⟨rfl, fun y hy => by cases hy⟩
  | x :: l, r, h => by
    rw [allSome_cons] at h
    cases hx : f x with
    | none => rw [hx] at h; cases h
    | some z =>
      rw [hx] at h
      simp only at h
      cases hl : allSome f l with
      | none => rw [hl] at h; cases h
      | some s =>
        rw [hl] at h
        simp only [Option.map_some, Option.some.injEq] at h
        subst h
        obtain ⟨h1, h2⟩ := allSome_out hl
        refine ⟨by simp [h1], fun y hy => ?_⟩
        rcases List.mem_cons.1 hy with rfl | hy
        · exact ⟨x, by simp, hx⟩
        · obtain ⟨w, hw, e⟩ := h2 y hy
          exact ⟨w, by simp [hw], e⟩
theorem resRul_ns {d : Dcl} {r r' : DRul} (h : resRul d r = some r') : r'.ns = r.ns ∧ r'.os = r.os := by
  unfold resRul at h
  split at h
  · cases h; exact ⟨rfl, rfl⟩
  · cases h
theorem few_res {d x : Dcl} (hd : FewD d) (h : resD d = .ok x) : FewD x := by
  obtain ⟨-, -, -, -, -, e1, e2, e3⟩ := res_same h
  have key : ∃ cs rs, allSome (resClu d) d.clus = some cs ∧ allSome (resRul d) d.ruls = some rs ∧ x.clus = cs ∧ x.ruls = rs := by
    unfold resD at h
    repeat' split at h
    all_goals first
      | (cases h; done)
      | (rename_i cs hcs _ _ rs hrs
         cases h
         exact ⟨_, _, hcs, hrs, rfl, rfl⟩)
  obtain ⟨cs, rs, h1, h2, h3, h4⟩ := key
  obtain ⟨l1, -⟩ := allSome_out h1
  obtain ⟨l2, m2⟩ := allSome_out h2
  refine ⟨by rw [e1]; exact hd.ho, by rw [e2]; exact hd.sy, by rw [e3]; exact hd.rg, by rw [e3]; exact hd.rgs, ?_, ?_, fun r hr => ?_⟩
  · rw [h3]; show cs.length < _; rw [l1]; exact hd.cl
  · rw [h4]; show rs.length < _; rw [l2]; exact hd.ru
  · rw [h4] at hr
    obtain ⟨r0, hr0, e⟩ := m2 r hr
    obtain ⟨q1, q2⟩ := resRul_ns e
    have := hd.rus r0 hr0
    exact ⟨by rw [q1]; exact this.1, by rw [q2]; exact this.2⟩
theorem lim_bad (d : Dcl) : (decide ((d.syms.length : Int) = 0) || decide ((16 : Int) < d.syms.length) || decide ((4 : Int) < d.regs.length) || decide ((4 : Int) < d.clus.length) || decide ((16 : Int) < d.ruls.length)) = !limD d := by
  rw [Bool.eq_iff_iff]
  unfold limD
  simp only [Bool.or_eq_true, decide_eq_true_eq, Bool.not_eq_true', Bool.and_eq_false_iff, decide_eq_false_iff_not]
  omega
theorem p7 (d : Dcl) (hd : FewD d) : Pur Tryz.prog 7 [encD d] (.int .i64 (chkD d)) := by
  refine .mk ⟨encD_under 0 d, trivial⟩ trivial (a7 (ev_awp Tcz_ok (ev_evK ?_)))
  unfold chkD
  have hlb := lim_bad d
  cases hl : limD d with
  | false =>
    rw [hl] at hlb
    rw [if_pos rfl]
    simp only [eE, eC, eN, Nat.reduceEqDiff, ↓reduceIte, Nat.reduceAdd, Nat.reduceLeDiff, Bool.not_false, List.length_map, c7, hlb, Bool.not_false]
  | true =>
  rw [hl] at hlb
  rw [if_neg (by decide)]
  have hfr : FewR d := ⟨hd, by
    unfold limD at hl
    simp only [Bool.and_eq_true, decide_eq_true_eq] at hl
    omega⟩
  cases hr : resD d with
  | error e =>
    have hv : nresV d = .tup [encD dcl0, .int .i64 e] := by unfold nresV; rw [hr]
    have he : (e = 0) = False := eq_false (res_err hr)
    simp only [eE, eC, eN, reduceCtorEq, Nat.reduceEqDiff, ↓reduceIte, Nat.reduceAdd, Nat.reduceLeDiff, Nat.reduceLT, Bool.not_true, Bool.not_false, Option.getD_some, List.length_map, List.getElem?_cons_zero, List.getElem?_cons_succ, c7, hlb, Bool.not_true, Tcz_n, s1, dD_ok, dD_dec, eq_true hfr, hv, he]
  | ok x =>
  have hv : nresV d = .tup [encD x, .int .i64 0] := by unfold nresV; rw [hr]
  have hfx := few_res hd hr
  simp only []
  by_cases hx : x = d
  case neg =>
    rw [if_pos hx]
    simp only [eE, eC, eN, reduceCtorEq, Nat.reduceEqDiff, ↓reduceIte, Nat.reduceAdd, Nat.reduceLeDiff, Nat.reduceLT, Bool.not_true, Bool.not_false, Option.getD_some, List.length_map, List.getElem?_cons_zero, List.getElem?_cons_succ, c7, hlb, Bool.not_true, Tcz_n, Tcz_s, s1, s2, dD_ok, dD_dec, eq_true hfr, eq_true hfx, hv, dec_F hx]
  rw [if_neg (fun z => z hx)]
  subst hx
  by_cases hver : x.ver < 1 ∨ 255 < x.ver
  · have hvb : (decide (x.ver < 1) || decide (255 < x.ver)) = true := by simpa using hver
    rw [if_pos hver]
    simp only [eE, eC, eN, reduceCtorEq, Nat.reduceEqDiff, ↓reduceIte, Nat.reduceAdd, Nat.reduceLeDiff, Nat.reduceLT, Bool.not_true, Option.getD_some, List.length_map, List.getElem?_cons_zero, List.getElem?_cons_succ, c7, hlb, Bool.not_true, Tcz_n, Tcz_s, s1, s2, dD_ok, dD_dec, eq_true hfr, eq_true hd, hv, hvb]
  have hvb : (decide (x.ver < 1) || decide (255 < x.ver)) = false := by simp; omega
  rw [if_neg hver]
  cases hc : cellsG x.sh x.w x.h x.holes with
  | none =>
    have hm : makeV x.sh x.w x.h x.holes = .tup [encG 0 0 0 [] [], .int .i64 130] := by unfold makeV; rw [hc]
    simp only [eE, eC, eN, reduceCtorEq, Nat.reduceEqDiff, ↓reduceIte, Nat.reduceAdd, Nat.reduceLeDiff, Nat.reduceLT, Int.reduceEq, Bool.not_true, Bool.not_false, Option.getD_some, List.length_map, List.getElem?_cons_zero, List.getElem?_cons_succ, c7, hlb, Bool.not_true, Tcz_n, Tcz_s, Tcz_m, s1, s2, dD_ok, dD_dec, dIs_ok, dIs_dec, eq_true hfr, eq_true hd, eq_true hd.ho, hv, hvb, hm]
  | some cells =>
  have hm : makeV x.sh x.w x.h x.holes = .tup [encG x.sh x.w x.h x.holes cells, .int .i64 0] := by unfold makeV; rw [hc]
  simp only []
  by_cases hre : regsE cells x.regs = 0
  case neg =>
    rw [if_pos hre]
    simp only [eE, eC, eN, reduceCtorEq, Nat.reduceEqDiff, ↓reduceIte, Nat.reduceAdd, Nat.reduceLeDiff, Nat.reduceLT, Bool.not_true, Bool.not_false, Option.getD_some, List.length_map, List.getElem?_cons_zero, List.getElem?_cons_succ, c7, hlb, Bool.not_true, Tcz_n, Tcz_s, Tcz_m, Tcz_g, s1, s2, dD_ok, dD_dec, dIs_ok, dIs_dec, dG_ok, dG_dec, eq_true hfr, eq_true hd, eq_true hd.ho, hv, hvb, hm, hc, eq_false hre]
  rw [if_neg (fun z => z hre)]
  cases hf : formOK x with
  | false =>
    rw [if_pos rfl]
    simp only [eE, eC, eN, reduceCtorEq, Nat.reduceEqDiff, ↓reduceIte, Nat.reduceAdd, Nat.reduceLeDiff, Nat.reduceLT, Bool.not_true, Bool.not_false, Option.getD_some, List.length_map, List.getElem?_cons_zero, List.getElem?_cons_succ, c7, hlb, Bool.not_true, Tcz_n, Tcz_s, Tcz_m, Tcz_g, Tcz_f, s1, s2, dD_ok, dD_dec, dIs_ok, dIs_dec, dG_ok, dG_dec, eq_true hfr, eq_true hd, eq_true hd.ho, hv, hvb, hm, hc, hre, hf]
  | true =>
  rw [if_neg (by decide)]
  by_cases hu : unread x.ruls = []
  · rw [if_neg (fun z => z hu)]
    simp only [eE, eC, eN, reduceCtorEq, Nat.reduceEqDiff, ↓reduceIte, Nat.reduceAdd, Nat.reduceLeDiff, Nat.reduceLT, Bool.not_true, Option.getD_some, c0, i00, List.length_map, List.getElem?_cons_zero, List.getElem?_cons_succ, c7, hlb, Bool.not_true, Tcz_n, Tcz_s, Tcz_m, Tcz_g, Tcz_f, Tcz_u, s1, s2, dD_ok, dD_dec, dIs_ok, dIs_dec, dG_ok, dG_dec, eq_true hfr, eq_true hd, eq_true hd.ho, eq_true hd.ru, hv, hvb, hm, hc, hre, hf, hu]
  · rw [if_pos hu]
    have hup : ((0 : Int) < ((unread x.ruls).length : Int)) = True := eq_true (by have := List.length_pos_iff.2 hu; omega)
    simp only [eE, eC, eN, reduceCtorEq, Nat.reduceEqDiff, ↓reduceIte, Nat.reduceAdd, Nat.reduceLeDiff, Nat.reduceLT, Bool.not_true, Option.getD_some, List.length_map, List.getElem?_cons_zero, List.getElem?_cons_succ, c7, hlb, Bool.not_true, Tcz_n, Tcz_s, Tcz_m, Tcz_g, Tcz_f, Tcz_u, s1, s2, dD_ok, dD_dec, dIs_ok, dIs_dec, dG_ok, dG_dec, eq_true hfr, eq_true hd, eq_true hd.ho, eq_true hd.ru, hv, hvb, hm, hc, hre, hf, hup]
def TLz : Tab := tadd 7 (s1 dD FewD fun d => .int .i64 (chkD d)) TLb
theorem TLz_ok : TabOK Tryz.prog TLz := TLb_ok.add (q1 p7)
theorem TLz_sane (a : List AVal) (H : AHeap) : TLz 4 a H = sSan a H := rfl
theorem TLz_few (a : List AVal) (H : AHeap) : TLz 5 a H = s1 dD BigD (fun d => .bool (few17 d)) a H := rfl
theorem TLz_chk (a : List AVal) (H : AHeap) : TLz 6 a H = s1 dD FewD (fun d => .int .i64 (chkD d)) a H := rfl
theorem TLz_ref (a : List AVal) (H : AHeap) : TLz 7 a H = s1 dD FewD (fun d => .int .i64 (chkD d)) a H := rfl
theorem p3 (d : Dcl) (hb : BigD d) : Pur Tryz.prog 3 [encD d] (.bool true) := by
  refine .mk ⟨encD_under 0 d, trivial⟩ trivial (a3 (ev_awp TLz_ok (ev_evK ?_)))
  cases hf : few17 d with
  | false =>
    simp only [eE, eC, eN, reduceCtorEq, Nat.reduceEqDiff, ↓reduceIte, Nat.reduceAdd, Bool.not_true, Bool.not_false, c3, TLz_sane, TLz_few, sSan, s1, dD_ok, dD_dec, eq_true hb, hf]
  | true =>
    have hd := small_few (few_small hf)
    simp only [eE, eC, eN, Nat.reduceEqDiff, ↓reduceIte, Nat.reduceAdd, Bool.not_true, c3, TLz_sane, TLz_few, TLz_chk, TLz_ref, sSan, s1, dD_ok, dD_dec, eq_true hb, hf, eq_true hd]
end Go.AM
end
section
set_option maxRecDepth 20000
set_option linter.all false
namespace Go.AM
open Go.Proofs Go.Lib Go.ChangeShapes Go.WideShapes Go.ChangeAt Go.WideMaps Go.WideElems Go.RowKit
theorem own : ownKnob Tryz.prog.godebug = none := by kernel_rfl
theorem glob_no (i : Nat) : glob i = none := by rfl
theorem glob_all (W : World) : GlobOK (gW W) ∧ GlobZ W :=
  ⟨(fun i cs h => by rw [glob_no] at h; cases h), (fun i cs h => by rw [glob_no] at h; cases h)⟩
abbrev shSy : Sh := .st [.str, .int .i64]
abbrev shRg : Sh := .st [.str, .sl (.sl (.int .i64))]
abbrev shCl : Sh := .st [.str, .str, .int .i64, .int .i64, .int .i64, .int .i64]
abbrev shRu : Sh := .st [.str, .str, .int .i64, .int .i64, .sl .str, .sl .str, .int .i64, .int .i64, .int .i64, .int .i64, .str, .int .i64]
abbrev shD : Sh := .st [.str, .int .i64, .int .i64, .int .i64, .int .i64, .sl (.int .i64), .sl shSy, .sl shRg, .sl shCl, .sl shRu]
theorem rb {n : Nat} (h : n ≤ reachBytes) : big n := Nat.le_trans h (by decide)
theorem rdMapP {e : Sh} {α : Type} {enc : α → AVal} {Q : α → Prop} (he : ∀ vs, e.rd vs → ∃ a, Q a ∧ e.wrap vs = enc a) {av : List AVal} (h : (Sh.sl e).rd av) : ∃ l : List α, big l.length ∧ (∀ x ∈ l, Q x) ∧ av = [.sl (.none e.size) (l.map enc)] := by
  simp only [Sh.rd] at h
  obtain ⟨l, rfl, hln, h⟩ := h
  suffices ∃ m : List α, m.length = l.length ∧ (∀ x ∈ m, Q x) ∧ l.map e.wrap = m.map enc by
    obtain ⟨m, hm, hq, hm2⟩ := this
    exact ⟨m, by rw [hm]; exact rb hln, hq, by rw [hm2]⟩
  clear hln
  induction l with
  | nil => exact ⟨[], rfl, (fun x hx => by cases hx), rfl⟩
  | cons x l ih =>
    obtain ⟨m, h1, h2, h3⟩ := ih fun y hy => h y (by simp [hy])
    obtain ⟨a, hq, ha⟩ := he x (h x (by simp))
    exact ⟨a :: m, by simp [h1], fun y hy => by
      rcases List.mem_cons.1 hy with rfl | hy
      · exact hq
      · exact h2 y hy, by rw [List.map_cons, List.map_cons, h3, ha]⟩
theorem rdI' (vs : List AVal) (h : (Sh.int .i64).rd vs) : ∃ n : Int, True ∧ (Sh.int .i64).wrap vs = eI n := by
  obtain ⟨n, rfl, _⟩ := h
  exact ⟨n, trivial, rfl⟩
theorem rdS' (vs : List AVal) (h : Sh.str.rd vs) : ∃ s : Bs, big s.length ∧ Sh.str.wrap vs = .str s := by
  obtain ⟨s, rfl, hs⟩ := h
  exact ⟨s, rb hs, rfl⟩
theorem rdIs' (vs : List AVal) (h : (Sh.sl (.int .i64)).rd vs) : ∃ l : List Int, big l.length ∧ (Sh.sl (.int .i64)).wrap vs = eIs l := by
  obtain ⟨l, h1, -, rfl⟩ := rdMapP rdI' h
  exact ⟨l, h1, rfl⟩
theorem rdSy (vs : List AVal) (h : shSy.rd vs) : ∃ s : DSym, big s.nm.length ∧ shSy.wrap vs = encSy s := by
  simp only [Sh.rd.eq_5, Sh.rdL] at h
  obtain ⟨_, _, rfl, ⟨nm, rfl, h1⟩, _, _, rfl, ⟨v, rfl, _⟩, rfl⟩ := h
  exact ⟨⟨nm, v⟩, rb h1, rfl⟩
theorem rdRg (vs : List AVal) (h : shRg.rd vs) : ∃ r : DReg, (big r.nm.length ∧ big r.ls.length ∧ ∀ l ∈ r.ls, big l.length) ∧ shRg.wrap vs = encRg r := by
  simp only [Sh.rd.eq_5, Sh.rdL] at h
  obtain ⟨_, _, rfl, ⟨nm, rfl, h1⟩, _, _, rfl, h2, rfl⟩ := h
  obtain ⟨ls, l1, l2, rfl⟩ := rdMapP rdIs' h2
  exact ⟨⟨nm, ls⟩, ⟨rb h1, l1, l2⟩, rfl⟩
theorem rdCl (vs : List AVal) (h : shCl.rd vs) : ∃ c : DClu, (big c.nm.length ∧ big c.on.length) ∧ shCl.wrap vs = encCl c := by
  simp only [Sh.rd.eq_5, Sh.rdL] at h
  obtain ⟨_, _, rfl, ⟨nm, rfl, h1⟩, _, _, rfl, ⟨on, rfl, h2⟩, _, _, rfl, ⟨a, rfl, _⟩, _, _, rfl, ⟨b, rfl, _⟩, _, _, rfl, ⟨c, rfl, _⟩, _, _, rfl, ⟨d, rfl, _⟩, rfl⟩ := h
  exact ⟨⟨nm, on, a, b, c, d⟩, ⟨rb h1, rb h2⟩, rfl⟩
theorem rdRu (vs : List AVal) (h : shRu.rd vs) : ∃ r : DRul, (big r.nm.length ∧ big r.on.length ∧ big r.byN.length ∧ big r.ns.length ∧ big r.os.length ∧ (∀ s ∈ r.ns, big s.length) ∧ ∀ s ∈ r.os, big s.length) ∧ shRu.wrap vs = encRu r := by
  simp only [Sh.rd.eq_5, Sh.rdL] at h
  obtain ⟨_, _, rfl, ⟨nm, rfl, h1⟩, _, _, rfl, ⟨on, rfl, h2⟩, _, _, rfl, ⟨k, rfl, _⟩, _, _, rfl, ⟨f, rfl, _⟩, _, _, rfl, h3, _, _, rfl, h4, _, _, rfl, ⟨set, rfl, _⟩, _, _, rfl, ⟨oth, rfl, _⟩, _, _, rfl, ⟨op, rfl, _⟩, _, _, rfl, ⟨n, rfl, _⟩, _, _, rfl, ⟨b, rfl, h5⟩, _, _, rfl, ⟨c, rfl, _⟩, rfl⟩ := h
  obtain ⟨ns, n1, n2, rfl⟩ := rdMapP rdS' h3
  obtain ⟨os, o1, o2, rfl⟩ := rdMapP rdS' h4
  exact ⟨⟨nm, on, k, f, ns, os, set, oth, op, n, b, c⟩, ⟨rb h1, rb h2, rb h5, n1, o1, n2, o2⟩, rfl⟩
theorem rdD (vs : List AVal) (h : shD.rd vs) : ∃ d : Dcl, BigD d ∧ shD.wrap vs = encD d := by
  simp only [Sh.rd.eq_5, Sh.rdL] at h
  obtain ⟨_, _, rfl, ⟨nm, rfl, h1⟩, _, _, rfl, ⟨v, rfl, _⟩, _, _, rfl, ⟨sh, rfl, _⟩, _, _, rfl, ⟨w, rfl, _⟩, _, _, rfl, ⟨hh, rfl, _⟩, _, _, rfl, h2, _, _, rfl, h3, _, _, rfl, h4, _, _, rfl, h5, _, _, rfl, h6, rfl⟩ := h
  obtain ⟨ho, a1, -, rfl⟩ := rdMapP rdI' h2
  obtain ⟨sy, b1, b2, rfl⟩ := rdMapP rdSy h3
  obtain ⟨rg, c1, c2, rfl⟩ := rdMapP rdRg h4
  obtain ⟨cl, d1, d2, rfl⟩ := rdMapP rdCl h5
  obtain ⟨ru, e1, e2, rfl⟩ := rdMapP rdRu h6
  exact ⟨⟨nm, v, sh, w, hh, ho, sy, rg, cl, ru⟩, ⟨rb h1, a1, b1, b2, c1, c2, d1, d2, e1, e2⟩, rfl⟩
theorem argD {av : List AVal} (h : Sh.rdA [shD] av) : ∃ d : Dcl, BigD d ∧ av = [encD d] := by
  simp only [Sh.rdA] at h
  obtain ⟨x, _, rfl, hx, rfl⟩ := h
  obtain ⟨d, hd, e⟩ := rdD _ hx
  exact ⟨d, hd, by rw [e]⟩
end Go.AM
end
