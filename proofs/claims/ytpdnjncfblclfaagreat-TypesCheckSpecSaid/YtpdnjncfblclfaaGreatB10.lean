/-
  The library: the values of a slice, collected and sorted · Types: regions · Types: Check's steps · Types: Check (written by mky6 · The reference of types: how much a declaration holds · The reference of types: Readable, Unreadable, equal lists.
  Conditions: none beyond those of its parts.
-/
import Derived.Test.YtpdnjncfblclfaaGreatB9
import Derived.Test.YtpdnjncfblclfaaGreatB5

section
set_option maxRecDepth 20000
set_option linter.all false
namespace Go.AM
open Go.Proofs Go.Lib
def LvG {α : Type} (enc : α → AVal) (e lo : Nat) (H : AHeap) (lv : AVal) (qs : List α) : Prop := (lv = .sl .nil [] ∧ qs = []) ∨ qs ≠ [] ∧ ∃ id rest, lv = .ref id e 0 qs.length (qs.length + rest.length) ∧ lo ≤ id ∧ hget H id = some (.arr e ((qs ++ rest).map enc))
section
variable {α : Type} {enc : α → AVal} {e lo : Nat}
theorem app_lvG {H : AHeap} {m b : Nat} {lv z v : AVal} {z0 : α} {qs : List α} {q : α} {K : AHeap → AVal → Prop} (h : LvG enc e lo H lv qs) (hv : v = enc q) (he : 0 < e) (hz : z.cells.length = e) (hz0 : z = enc z0) (hb : small (qs.length + 1) b) (hm : hget H m = none) (hm2 : lo ≤ m) (hk : qs.length + 1 ≤ 35184372088832)
    (hK : ∀ id (rest : List α), lo ≤ id → (id = m ∨ ∃ L, hget H id = some (.arr e L)) → K (hset H id (.arr e (((qs ++ [q]) ++ rest).map enc))) (.ref id e 0 (qs ++ [q]).length ((qs ++ [q]).length + rest.length))) : appRK H m e b z K lv (some [v]) := by
  subst hv
  subst hz0
  have el : (qs ++ [q]).length = qs.length + 1 := by simp
  rcases h with ⟨rfl, rfl⟩ | ⟨-, id, rest, rfl, h2, h3⟩
  · rw [appRK_sl]
    refine ⟨hm, he, hz, .inl rfl, hb, by simp, (fun e => by cases e), fun _ cap hcap => ?_⟩
    have := hK m (List.replicate (cap - 1) z0) hm2 (.inl rfl)
    simp only [List.nil_append, List.map_cons, List.length_cons, List.length_nil, List.length_replicate, List.cons_append, List.map_replicate] at this hcap ⊢
    rw [show 0 + 1 + (cap - 1) = cap by omega] at this
    exact this
  · rw [appRK_ref h3]
    refine ⟨hm, he, hz, rfl, rfl, hb, hk, rfl, by simp, by omega, fun hr => ?_, fun hr cap' hc => ?_⟩
    · have := hK id (rest.drop 1) h2 (.inr ⟨_, h3⟩)
      simp only [List.length_cons, List.length_nil] at hr ⊢
      have e1 : List.take qs.length ((qs ++ rest).map enc) = qs.map enc := by rw [List.map_append, List.take_append_of_le_length (by simp), List.take_of_length_le (by simp)]
      have e2 : List.drop (qs.length + (0 + 1)) ((qs ++ rest).map enc) = (rest.drop 1).map enc := by rw [List.map_append, List.drop_append, List.drop_eq_nil_of_le (by simp)]; simp
      rw [e1, e2]
      rw [el, List.map_append, List.map_append, List.length_drop, show qs.length + 1 + (rest.length - 1) = qs.length + rest.length by omega] at this
      exact this
    · have := hK m (List.replicate (cap' - (qs.length + 1)) z0) hm2 (.inl rfl)
      simp only [List.length_cons, List.length_nil] at hr hc ⊢
      have e1 : List.take qs.length ((qs ++ rest).map enc) = qs.map enc := by rw [List.map_append, List.take_append_of_le_length (by simp), List.take_of_length_le (by simp)]
      rw [e1]
      rw [el, List.map_append, List.map_append, List.map_replicate, List.length_replicate, show qs.length + 1 + (cap' - (qs.length + 1)) = cap' by omega] at this
      exact this
end
abbrev clV (q : Nat) : AVal := .fn (.func 87) [] [.ptr q 0]
abbrev eApp (q c : Nat) : List (Nat × Bool × AVal) := [(2, true, .ptr c 0), (4, true, .sl .nil []), (6, true, clV q)]
structure AppF (q c L l' : Nat) (H0 : AHeap) (n0 : Nat) (qs : List Int) (H : AHeap) (m : Nat) : Prop where
  fr : Fresh H m
  lc : n0 ≤ c
  cl : c < L
  lm : L < m
  hc : ∃ lv, hget H c = some (.box [lv]) ∧ LvG eI 1 (L + 1) H lv qs
  hL : hget H L = some (.lp ⟨l', .ready, none, 13, eApp q c, #[7], ra97_0, rb97_0⟩)
  kp : ∀ id ob, id < n0 → hget H0 id = some ob → hget H id = some ob
theorem y_app {q c L l' : Nat} {H0 : AHeap} {n0 : Nat} {qs : List Int} {H : AHeap} {m : Nat} (F : AppF q c L l' H0 n0 qs H m) (x : Int) (hs : qs.length < 1000000000) {R : Bool → AHeap → Nat → Prop}
    (hR : ∀ H' m', AppF q c L l' H0 n0 (qs ++ [x]) H' m' → R true H' m') : AYield Tryz.prog l' [eI x] H m R := by
  obtain ⟨fr, lc, cl, lm, ⟨lv, hc, hlv⟩, hL, kp⟩ := F
  refine y97_0 hL rfl (ev_awp TabOK.tnil (ev_evK ?_))
  simp only [eE, eN, Nat.reduceEqDiff, ↓reduceIte, c97_0a, renv, List.zip_cons_cons, List.zip_nil_left, List.foldl_cons, List.foldl_nil]
  refine ⟨_, hL, rfl, ev_awp TabOK.tnil (ev_evK ?_)⟩
  have y1 : ∀ k, (L = m + k) = False := fun k => eq_false (by omega)
  have y2 : (L = c) = False := eq_false (by omega)
  have y3 : (c = L) = False := eq_false (by omega)
  simp only [eE, reduceCtorEq, Nat.reduceEqDiff, ↓reduceIte, Nat.reduceLeDiff, Nat.reduceMul, Nat.reduceLT, c97_0b, hc, y2]
  have g1 : ∀ k, hget (hset H L (.lp ⟨l', .busy, none, 13, eApp q c, #[7], ra97_0, rb97_0⟩)) (m + k) = none := fun k => by rw [hget_hset_ne _ _ _ _ (by omega)]; exact fr1 fr k
  refine app_lvG (enc := eI) (lo := L + 1) (qs := qs) (z0 := 0) ?_ rfl (by decide) rfl rfl (small_of (by omega) (by decide)) (g1 3) (by omega) (by omega) ?_
  · rcases hlv with h | ⟨hne, id, rest, h1, h2, h3⟩
    · exact .inl h
    · exact .inr ⟨hne, id, rest, h1, h2, by rw [hget_hset_ne _ _ _ _ (by omega)]; exact h3⟩
  intro id rest hlo hid
  have hidm : id < m + 5 := by
    rcases hid with rfl | ⟨Z, h⟩
    · omega
    · apply Classical.byContradiction
      intro z
      obtain ⟨k, rfl⟩ : ∃ k, id = m + k := ⟨id - m, by omega⟩
      rw [g1] at h; cases h
  have z1 : (id = L) = False := eq_false (by omega)
  have z2 : (id = c) = False := eq_false (by omega)
  have z3 : (L = id) = False := eq_false (by omega)
  have z4 : (c = id) = False := eq_false (by omega)
  have hidn : ¬ id < n0 := by omega
  simp only [eE, eN, Nat.reduceEqDiff, ↓reduceIte, afterR, z2, y2, hc]
  refine ⟨⟨l', .busy, none, 13, eApp q c, #[7], ra97_0, rb97_0⟩, by simp only [hget_hset, y3, z1, if_false, if_true], hR _ _ ⟨?_, lc, cl, by simp only []; omega, ⟨_, by simp only [hget_hset, y2, if_false, if_true], .inr ⟨by simp, id, rest, rfl, hlo, by simp only [hget_hset, z3, z4, if_false, if_true]⟩⟩, by simp only [hget_hset, if_true], ?_⟩⟩
  · intro j hj
    have hj' : m + 5 ≤ j := hj
    simp only [hget_hset]; repeat rw [if_neg (by omega)]
    exact fr j (by omega)
  · intro j ob hj h0
    simp only [hget_hset]; repeat rw [if_neg (by omega)]
    exact kp j ob hj h0
theorem t_appseq {H : AHeap} {n q : Nat} {l : List Int} (hf : Fresh H n) (hq : hget H q = some (.box [eIs l])) (hl : few l) :
    ACalls Tryz.prog 97 [.sl .nil [], clV q] H n fun o H' n' => ∃ lv, o = .ret lv ∧ LvG eI 1 (n + 3) H' lv l ∧ Fresh H' n' ∧ n ≤ n' ∧ ∀ id ob, id < n → hget H id = some ob → hget H' id = some ob := by
  have hll : l.length < 1000000000 := hl
  have hqn := hf.lt hq
  refine a97 (ev_awp TabOK.tnil (ev_evK ?_))
  simp only [eE, eN, reduceCtorEq, Nat.reduceEqDiff, ↓reduceIte, Nat.reduceAdd, c97, fr0 hf, rfunA]
  intro l'
  generalize hH1 : hset (hset H n (.box [.sl .nil []])) (n + 2) _ = H1
  have hq1 : hget H1 q = some (.box [eIs l]) := by
    subst hH1
    simp only [hget_hset]; repeat rw [if_neg (by omega)]
    exact hq
  have F0 : AppF q n (n + 2) l' H n [] H1 (n + 3) := by
    subst hH1
    refine ⟨fun j hj => ?_, Nat.le_refl _, by omega, by omega, ⟨.sl .nil [], ?_, .inl ⟨rfl, rfl⟩⟩, hget_hset_eq .., fun j ob hj h0 => ?_⟩
    · simp only [hget_hset]; repeat rw [if_neg (by omega)]
      exact hf j (by omega)
    · simp only [hget_hset]; rw [if_neg (by omega), if_pos trivial]
    · simp only [hget_hset]; repeat rw [if_neg (by omega)]
      exact h0
  clear hH1
  refine a87 (ev_awp TabOK.tnil (ev_evK ?_))
  simp only [eE, eN, reduceCtorEq, Nat.reduceEqDiff, ↓reduceIte, Nat.reduceAdd, List.length_map, c87, hq1]
  refine k_loop (fun v : VF => ⟨[(0, true, .fn (.yield l') [] []), (5, true, eIs l), (6, true, .int .i64 l.length), (7, true, .int .i64 v.i)], v.H, v.n⟩) (fun v => v.i ≤ l.length ∧ n + 3 ≤ v.n ∧ AppF q n (n + 2) l' H n (l.take v.i) v.H v.n) (fun v => l.length - v.i)
    ⟨0, H1, n + 3⟩ rfl ⟨Nat.zero_le _, Nat.le_refl _, F0⟩ ?_
  rintro ⟨i, H2, m⟩ ⟨hi, hm, F⟩
  simp only at hi hm F
  by_cases hlt : i < l.length
  · have hg := List.getElem?_eq_getElem hlt
    have e := w64_succ (k := i) (by omega)
    have htk : l.take (i + 1) = l.take i ++ [l[i]] := by rw [List.take_add_one, List.getElem?_eq_getElem hlt]; rfl
    generalize l[i] = x at hg htk
    simp only [eE, eC, eN, reduceCtorEq, Nat.reduceEqDiff, ↓reduceIte, Option.getD_some, Int.toNat_natCast, Int.natCast_nonneg, List.length_map, List.getElem?_map, lt_T hlt, hg]
    refine y_app F x (by rw [List.length_take]; omega) fun H' m' F' => ?_
    simp only [eE, eC, eN, reduceCtorEq, Nat.reduceEqDiff, ↓reduceIte, Int.reduceEq, Bool.not_true, yldK, e]
    exact .mk ⟨i + 1, H', m'⟩ rfl ⟨hlt, by have := F'.lm; simp only []; omega, by simp only []; rw [htk]; exact F'⟩ (by simp only []; omega)
  obtain rfl : i = l.length := by omega
  rw [List.take_length] at F
  obtain ⟨fr, lc, cl, lm, ⟨lv, hc, hlv⟩, hL, kp⟩ := F
  have y1 : (n + 2 = n) = False := eq_false (by omega)
  simp only [eE, eC, eN, reduceCtorEq, Nat.reduceEqDiff, ↓reduceIte, lt_F hlt, rfunK, hL, hc, y1]
  refine ⟨lv, rfl, ?_, fr.hset (Nat.le_refl m) (show n + 2 < m by omega), by omega, fun id ob hid h0 => by rw [if_neg (by omega)]; exact kp id ob hid h0⟩
  rcases hlv with h | ⟨hne, id, rest, h1, h2, h3⟩
  · exact .inl h
  · exact .inr ⟨hne, id, rest, h1, h2, by rw [hget_hset_ne _ _ _ _ (by omega)]; exact h3⟩
theorem t_coll {H : AHeap} {n q : Nat} {l : List Int} (hf : Fresh H n) (hq : hget H q = some (.box [eIs l])) (hl : few l) :
    ACalls Tryz.prog 85 [clV q] H n fun o H' n' => ∃ lv, o = .ret lv ∧ LvG eI 1 (n + 3) H' lv l ∧ Fresh H' n' ∧ n ≤ n' ∧ ∀ id ob, id < n → hget H id = some ob → hget H' id = some ob := by
  refine a85 (ev_awp TabOK.tnil (ev_evK ?_))
  simp only [eE, eN, reduceCtorEq, ↓reduceIte, c85]
  refine (t_appseq hf hq hl).mono ?_
  rintro o H' n' ⟨lv, rfl, h1, h2, h3, h4⟩
  simp only [eE, eN, ↓reduceIte, retK]
  exact ⟨lv, rfl, h1, h2, h3, h4⟩
theorem t_sort0 {H : AHeap} {n : Nat} : ACalls Tryz.prog 86 [.sl .nil []] H n fun o H' n' => o = .ret (.tup []) ∧ H' = H ∧ n' = n := by
  refine ⟨lSort, fun g w vs hR hv => ?_⟩
  obtain ⟨v, r, rfl, k1, k2⟩ := hv
  have k2' : r = [] := k2
  subst k2'
  have hv : ∃ p cap, v = .slice p 0 cap := by
    rcases k1 with ⟨-, rfl, -⟩ | ⟨-, b, o, cap, ⟨sp, rfl, hsp⟩, hc, hst, -⟩
    · exact ⟨_, _, rfl⟩
    · exact ⟨_, _, rfl⟩
  obtain ⟨p, cap, rfl⟩ := hv
  refine (Tryz.slices_Sort_int_none p cap w).mono ?_
  rintro e w' ⟨rfl, rfl⟩
  exact ⟨g, .ret (.tup []), H, n, ⟨rfl, rfl, rfl⟩, ⟨_, rfl, rfl⟩, hR, Nat.le_refl _, Trans.refl _ _ _ _⟩
def SrA (ob : List AVal → AObj) (H : AHeap) (l : List Int) : AOut → AHeap → Nat → Prop := fun o H' n' =>
  Keeps H H' ∧ ((l = [] ∧ o = .ret (.sl .nil [])) ∨ l ≠ [] ∧ ∃ id rest, o = .ret (.ref id 1 0 l.length (l.length + rest.length)) ∧ hget H id = none ∧ hget H' id = some (ob ((l.mergeSort leI ++ rest).map eI)))
theorem lSort_len (l : List Int) : (l.mergeSort leI).length = l.length := List.length_mergeSort ..
theorem t_srtd {H : AHeap} {n q : Nat} {l : List Int} (hf : Fresh H n) (hq : hget H q = some (.box [eIs l])) (hl : few l) :
    ACalls Tryz.prog 63 [clV q] H n (QRet H (eIs (l.mergeSort leI))) := by
  have hll : l.length < 1000000000 := hl
  refine ACalls.out (ACalls.seal (R := SrA (.arr 1) H l) (R' := SrA (.frz 1) H l) (a63 (ev_awp TabOK.tnil (ev_evK ?_))) ?_) ?_
  · simp only [eE, eN, reduceCtorEq, ↓reduceIte, c63]
    refine (t_coll hf hq hl).mono ?_
    rintro o H1 n1 ⟨lv, rfl, hlv, hf1, hn1, hk⟩
    simp only [eE, eN, ↓reduceIte, retK]
    have hK : Keeps H H1 := fun id ob h0 => hk id ob (hf.lt h0) h0
    rcases hlv with ⟨rfl, rfl⟩ | ⟨hne, id, rest, rfl, h2, h3⟩
    · refine t_sort0.mono ?_
      rintro o H2 n2 ⟨rfl, rfl, rfl⟩
      simp only [eE, eN, Nat.reduceEqDiff, ↓reduceIte, retK]
      exact ⟨hK, .inl ⟨rfl, rfl⟩⟩
    · refine (t_sort h3 (by simp) hll).mono ?_
      rintro o H2 n2 ⟨rfl, rfl, rfl⟩
      rw [List.take_left, List.drop_left]
      simp only [eE, eN, Nat.reduceEqDiff, ↓reduceIte, retK]
      refine ⟨fun i ob h0 => ?_, .inr ⟨hne, id, rest, rfl, hf _ (by omega), hget_hset_eq ..⟩⟩
      rw [hget_hset_ne _ _ _ _ (fun e => by subst e; rw [hf _ (by omega)] at h0; cases h0)]; exact hK i ob h0
  · rintro o H' n' ⟨hK, h⟩
    rcases h with h | ⟨hne, id, rest, h1, h2, h3⟩
    · exact .inl ⟨hK, .inl h⟩
    · refine .inr ⟨id, 1, _, h3, fun i ob h0 => ?_, .inr ⟨hne, id, rest, h1, h2, hget_hset_eq ..⟩⟩
      rw [hget_hset_ne _ _ _ _ (fun e => by subst e; rw [h2] at h0; cases h0)]; exact hK i ob h0
  · rintro o H' n' ⟨hK, h⟩
    refine ⟨.ret (eIs (l.mergeSort leI)), ⟨⟨_, rfl, Wk.refl _⟩, hK⟩, fun g w e hR he => ?_⟩
    have hL : ∃ lv, o = .ret lv ∧ LF 1 lv H' ((l.mergeSort leI).map eI) := by
      rcases h with ⟨rfl, rfl⟩ | ⟨hz, id, rest, rfl, h2, h3⟩
      · exact ⟨_, rfl, .inl ⟨by simp, _, rfl, .inl rfl⟩⟩
      · refine ⟨_, rfl, ?_⟩
        have hl2 := lSort_len l
        refine .inr ⟨fun q => hz (by rw [List.map_eq_nil_iff] at q; rw [q] at hl2; exact List.length_eq_zero_iff.1 hl2.symm), id, l.length + rest.length, rest.map eI, by rw [List.length_map, hl2], by rw [h3, List.map_append], by simp [hl2]⟩
    obtain ⟨lv, rfl, hL⟩ := hL
    cases e with
    | returned v => exact lf_rel hL hR he
    | panicked c => exact he.elim
    | outgrown => exact he.elim
theorem t_vals {H : AHeap} {n : Nat} {l : List Int} (hf : Fresh H n) : ACalls Tryz.prog 64 [eIs l] H n fun o H' n' => o = .ret (clV n) ∧ H' = hset H n (.box [eIs l]) ∧ n' = n + 2 := by
  refine a64 (ev_awp TabOK.tnil (ev_evK ?_))
  simp only [eE, eN, Nat.reduceEqDiff, ↓reduceIte, c64, fr0 hf]
end Go.AM
end
section
set_option maxRecDepth 20000
set_option linter.all false
namespace Go.AM
open Go.Proofs Go.Lib
abbrev srt (l : List Int) : List Int := l.mergeSort leI
def inMet (ls : List (List Int)) (j : Nat) (x : List Int) : Bool := ((ls.take j).map srt).contains (srt x)
theorem pair_hit {ls : List (List Int)} (hn : ∀ l ∈ ls, l.Nodup) {j : Nat} (hj : j < ls.length) (h : inMet ls j ls[j] = true) : pairTwice ls = true := by
  unfold inMet at h
  rw [List.contains_iff_mem, List.mem_map] at h
  obtain ⟨y, hy, e⟩ := h
  obtain ⟨b, hb, rfl⟩ := List.mem_iff_getElem.1 hy
  rw [List.length_take] at hb
  rw [List.getElem_take] at e
  refine pair_iff.2 ⟨j, b, hj, by omega, by omega, ?_⟩
  rw [alike_sort (hn _ (List.getElem_mem _)) (hn _ (List.getElem_mem _)), decide_eq_true_eq]
  exact e.symm
theorem pair_none {ls : List (List Int)} (hn : ∀ l ∈ ls, l.Nodup) (h : ∀ j (hj : j < ls.length), inMet ls j ls[j] = false) : pairTwice ls = false := by
  cases q : pairTwice ls with
  | false => rfl
  | true =>
    obtain ⟨a, b, ha, hb, hab, h2⟩ := pair_iff.1 q
    rw [alike_sort (hn _ (List.getElem_mem _)) (hn _ (List.getElem_mem _)), decide_eq_true_eq] at h2
    have := h a ha
    unfold inMet at this
    rw [← Bool.not_eq_true, List.contains_iff_mem, List.mem_map] at this
    exact absurd ⟨ls[b], List.mem_iff_getElem.2 ⟨b, by rw [List.length_take]; omega, by rw [List.getElem_take]⟩, h2.symm⟩ this
def isIs (o : Option AObj) : Prop := ∃ x : List Int, few x ∧ o = some (.box [eIs x])
def cellIs : Option AObj → List Int
  | some (.box [.sl _ L]) => L.map toI
  | _ => []
theorem isIs_T {x : List Int} (h : few x) : isIs (some (.box [eIs x])) = True := eq_true ⟨x, h, rfl⟩
theorem cellIs_e (x : List Int) : cellIs (some (.box [eIs x])) = x := eI_map x
def sSr : List AVal → AHeap → Prop × AVal := fun a H => match a with
  | [.fn (.func f) [] [.ptr q 0]] => (f = 87 ∧ isIs (hget H q), eIs (srt (cellIs (hget H q))))
  | _ => (False, .tup [])
theorem qSr : ∀ args H n, (sSr args H).1 → Quiet Tryz.prog 63 args H n (sSr args H).2 := by
  intro args H n hh
  unfold sSr at hh ⊢
  split at hh
  · rename_i f q
    obtain ⟨rfl, x, hx, h0⟩ := hh
    simp only [h0, cellIs_e]
    exact Quiet.of l63 (eIs_under n _) fun hf => t_srtd hf h0 hx
  · exact hh.elim
def sR1 : List AVal → AHeap → Prop × AVal := fun a H => match a with
  | [y, .ptr q 0] => (dIs.ok y ∧ few (dIs.dec y) ∧ isIs (hget H q), .bool (decide (cellIs (hget H q) = dIs.dec y)))
  | _ => (False, .tup [])
def Teq : Tab := tadd 53 (s2 dIs dIs (fun _ b => few b) (fun a b => .bool (decide (a = b)))) tnil
theorem Teq_ok : TabOK Tryz.prog Teq := TabOK.tnil.add (q2 p53)
theorem Teq_e (a : List AVal) (H : AHeap) : Teq 53 a H = s2 dIs dIs (fun _ b => few b) (fun a b => .bool (decide (a = b))) a H := rfl
theorem qR1 : ∀ args H n, (sR1 args H).1 → Quiet Tryz.prog 66 args H n (sR1 args H).2 := by
  intro args H n hh
  unfold sR1 at hh ⊢
  split at hh
  · rename_i y q
    obtain ⟨h1, h2, x, hx, h0⟩ := hh
    simp only [h0, cellIs_e]
    refine Quiet.of l66 trivial fun hf => a66 (ev_awp Teq_ok (ev_evK ?_))
    simp only [eE, eN, reduceCtorEq, Nat.reduceEqDiff, ↓reduceIte, Nat.reduceAdd, c66, h0, Teq_e, s2, dIs_ok, dIs_dec, eq_true h1, eq_true h2]
    exact fun _ _ h => h
  · exact hh.elim
abbrev clR (q : Nat) : AVal := .fn (.func 66) [] [.ptr q 0]
def Tr1 : Tab := tadd 66 sR1 tnil
theorem Tr1_ok : TabOK Tryz.prog Tr1 := TabOK.tnil.add qR1
theorem Tr1_e (a : List AVal) (H : AHeap) : Tr1 66 a H = sR1 a H := rfl
def idxL (met : List (List Int)) (x : List Int) : Int := match met.findIdx? (fun y => decide (x = y)) with
  | some k => (k : Int)
  | none => -1
theorem q_ifLi {H : AHeap} {n q : Nat} {met : List (List Int)} {x : List Int} (hm : fewLl met) (hx : few x) (h0 : hget H q = some (.box [eIs x])) : Quiet Tryz.prog 88 [eLl met, clR q] H n (.int .i64 (idxL met x)) := by
  refine Quiet.of l88 trivial fun hf => a88 (ev_awp Tr1_ok (ev_evK ?_))
  have hml : met.length < 1000000000 := hm.1
  simp only [eE, eN, reduceCtorEq, Nat.reduceEqDiff, ↓reduceIte, Nat.reduceAdd, List.length_map, c88]
  refine k_loop (fun i : Nat => ⟨[(0, true, eLl met), (1, true, clR q), (7, true, .int .i64 met.length), (8, true, .int .i64 i)], H, n⟩) (fun i => i ≤ met.length ∧ ∀ j (h : j < met.length), j < i → ¬ x = met[j]) (fun i => met.length - i)
    0 rfl ⟨Nat.zero_le _, fun j _ h => absurd h (Nat.not_lt_zero _)⟩ ?_
  rintro i ⟨hi, hb⟩
  by_cases hlt : i < met.length
  · have hg := List.getElem?_eq_getElem hlt
    have e := w64_succ (k := i) (by omega)
    have hyf := hm.2 _ (List.getElem_mem hlt)
    generalize hy : met[i] = y at hg hyf
    by_cases hxy : x = y
    · have hR : idxL met x = i := by
        unfold idxL
        rw [List.findIdx?_eq_some_iff_getElem.2 ⟨hlt, by simpa [hy] using hxy, fun j hj => by simpa using hb j (by omega) hj⟩]
      rw [hR]
      simp only [eE, eC, eN, reduceCtorEq, Nat.reduceEqDiff, ↓reduceIte, Option.getD_some, Int.toNat_natCast, Int.natCast_nonneg, List.length_map, List.getElem?_map, lt_T hlt, hg, Tr1_e, sR1, h0, isIs_T hx, cellIs_e, dIs_ok, dIs_dec, eq_true hyf, dec_T hxy]
      exact fun _ _ h => h
    · simp only [eE, eC, eN, reduceCtorEq, Nat.reduceEqDiff, ↓reduceIte, Int.reduceEq, Option.getD_some, Int.toNat_natCast, Int.natCast_nonneg, List.length_map, List.getElem?_map, lt_T hlt, hg, e, Tr1_e, sR1, h0, isIs_T hx, cellIs_e, dIs_ok, dIs_dec, eq_true hyf, dec_F hxy]
      refine .mk (i + 1) rfl ⟨hlt, fun j hj h => ?_⟩ (by omega)
      by_cases z : j = i
      · subst z; rw [hy]; exact hxy
      · exact hb j hj (by omega)
  obtain rfl : i = met.length := by omega
  have hR : idxL met x = -1 := by
    unfold idxL
    rw [List.findIdx?_eq_none_iff.2 fun y hy => by
      obtain ⟨j, hj, rfl⟩ := List.mem_iff_getElem.1 hy
      simpa using hb j hj hj]
  rw [hR]
  simp only [eE, eC, eN, reduceCtorEq, Nat.reduceEqDiff, ↓reduceIte, lt_F hlt]
  exact fun _ _ h => h
theorem idx_in (met : List (List Int)) (x : List Int) : decide (0 ≤ idxL met x) = met.contains x := by
  rw [Bool.eq_iff_iff, decide_eq_true_eq, List.contains_iff_mem]
  unfold idxL
  cases h : met.findIdx? (fun y => decide (x = y)) with
  | none =>
    rw [List.findIdx?_eq_none_iff] at h
    constructor
    · intro q; simp at q
    · intro q; have := h x q; simp at this
  | some k =>
    obtain ⟨h1, h2, -⟩ := List.findIdx?_eq_some_iff_getElem.1 h
    constructor
    · intro _
      have := of_decide_eq_true h2
      rw [this]; exact List.getElem_mem _
    · intro _; simp
def sIf (f : List (List Int) → List Int → AVal) : List AVal → AHeap → Prop × AVal := fun a H => match a with
  | [y, .fn (.func g) [] [.ptr q 0]] => (dLl.ok y ∧ fewLl (dLl.dec y) ∧ g = 66 ∧ isIs (hget H q), f (dLl.dec y) (cellIs (hget H q)))
  | _ => (False, .tup [])
theorem q_sIf {f : List (List Int) → List Int → AVal} {fid : FuncId} (h : ∀ {H : AHeap} {n q : Nat} {met : List (List Int)} {x : List Int}, fewLl met → few x → hget H q = some (.box [eIs x]) → Quiet Tryz.prog fid [eLl met, clR q] H n (f met x)) : ∀ args H n, (sIf f args H).1 → Quiet Tryz.prog fid args H n (sIf f args H).2 := by
  intro args H n hh
  unfold sIf at hh ⊢
  split at hh
  · rename_i y g q
    obtain ⟨h1, h2, rfl, x, hx, h0⟩ := hh
    simp only [h0, cellIs_e]
    refine ACalls.args (h (n := n) h2 hx h0) ?_
    rintro g vs ⟨v, r, rfl, k1, k2⟩
    exact ⟨v, _, rfl, dLl.wk _ h1 _ _ k1, k2⟩
  · exact hh.elim
abbrev fIf (met : List (List Int)) (x : List Int) : AVal := .int .i64 (idxL met x)
abbrev fCf (met : List (List Int)) (x : List Int) : AVal := .bool (met.contains x)
def Tr2 : Tab := tadd 88 (sIf fIf) tnil
theorem Tr2_ok : TabOK Tryz.prog Tr2 := TabOK.tnil.add (q_sIf fun h1 h2 h3 => q_ifLi h1 h2 h3)
theorem Tr2_e (a : List AVal) (H : AHeap) : Tr2 88 a H = sIf fIf a H := rfl
theorem dLl_okt {t : Tok} {l : List (List Int)} (ht : t.esz = 1 ∨ l = []) : dLl.ok (.sl t (l.map eIs)) = True := dLi_ok decIs_enc ht
theorem dLl_dect {t : Tok} (l : List (List Int)) : dLl.dec (.sl t (l.map eIs)) = l := dLi_dec decIs_enc
theorem q_cfLi {H : AHeap} {n q : Nat} {met : List (List Int)} {x : List Int} (hm : fewLl met) (hx : few x) (h0 : hget H q = some (.box [eIs x])) : Quiet Tryz.prog 65 [eLl met, clR q] H n (fCf met x) := by
  refine Quiet.of l65 trivial fun hf => a65 (ev_awp Tr2_ok (ev_evK ?_))
  simp only [eE, eN, reduceCtorEq, Nat.reduceEqDiff, ↓reduceIte, Nat.reduceAdd, c65, Tr2_e, sIf, h0, isIs_T hx, cellIs_e, dLl_ok, dLl_dec, eq_true hm, idx_in]
  exact fun _ _ h => h
def Trg : Tab := tadd 62 (s2 dGd dLl (fun g l => cellsG g.sh g.w g.h g.holes = some g.cells ∧ few g.holes ∧ fewLl l) fun g l => rgsV g.cells l) (tadd 65 (sIf fCf) (tadd 63 sSr tnil))
theorem Trg_ok : TabOK Tryz.prog Trg := ((TabOK.tnil.add qSr).add (q_sIf fun h1 h2 h3 => q_cfLi h1 h2 h3)).add (q2 fun g l h => p62 g l h.1 h.2.1 h.2.2)
theorem Trg_g (a : List AVal) (H : AHeap) : Trg 62 a H = s2 dGd dLl (fun g l => cellsG g.sh g.w g.h g.holes = some g.cells ∧ few g.holes ∧ fewLl l) (fun g l => rgsV g.cells l) a H := rfl
theorem Trg_c (a : List AVal) (H : AHeap) : Trg 65 a H = sIf fCf a H := rfl
theorem Trg_s (a : List AVal) (H : AHeap) : Trg 63 a H = sSr a H := rfl
structure VRm where
  j : Nat
  tk : Tok
  H : AHeap
  n : Nat
structure IRm (g : Grd) (r : DReg) (v : VRm) : Prop where
  hj : v.j ≤ r.ls.length
  fr : Fresh v.H v.n
  hn : 3 ≤ v.n
  h1 : hget v.H 1 = some (.box (cellsGr g.sh g.w g.h g.holes g.cells))
  tok : tkG 1 2 v.H v.tk
  es : v.tk.esz = 1 ∨ (r.ls.take v.j).map srt = []
  no : ∀ k (hk : k < r.ls.length), k < v.j → inMet r.ls k r.ls[k] = false
theorem p24 (d : Dcl) (g : Grd) (hd : FewD d) (hG : cellsG g.sh g.w g.h g.holes = some g.cells) (hh : few g.holes) : Pur Tryz.prog 24 [encD d, encGd g] (.int .i64 (regsE g.cells d.regs)) := by
  refine .mk ⟨encD_under 0 d, encG_under 0 .., trivial⟩ trivial (a24 (ev_awp Trg_ok (ev_evK ?_)))
  have hrl : d.regs.length < 1000000000 := hd.rg
  simp only [eE, eN, reduceCtorEq, Nat.reduceEqDiff, ↓reduceIte, Nat.reduceAdd, Nat.reduceLeDiff, List.length_map, c24]
  refine k_loop (fun v : VF => ⟨[(3, true, .ptr 1 0), (14, true, eRgs d.regs), (15, true, .int .i64 d.regs.length), (16, true, .int .i64 v.i)], v.H, v.n⟩) (fun v => v.i ≤ d.regs.length ∧ Fresh v.H v.n ∧ 3 ≤ v.n ∧ hget v.H 1 = some (.box (cellsGr g.sh g.w g.h g.holes g.cells)) ∧ regsE g.cells d.regs = regsE g.cells (d.regs.drop v.i)) (fun v => d.regs.length - v.i)
    ⟨0, hset (hset hnil 0 (.box (cellsD d))) 1 (.box (cellsGr g.sh g.w g.h g.holes g.cells)), 3⟩ rfl ⟨Nat.zero_le _, (Fresh.nil.hset (m := 3) (Nat.zero_le 3) (show 0 < 3 by decide)).hset (Nat.le_refl 3) (show 1 < 3 by decide), Nat.le_refl _, rfl, rfl⟩ ?_
  rintro ⟨i, H, n⟩ ⟨hi, hfr, hn, h1, heq⟩
  simp only at hi hfr hn h1 heq
  by_cases hlt : i < d.regs.length
  case neg =>
    obtain rfl : i = d.regs.length := by omega
    rw [List.drop_length] at heq
    rw [heq]
    simp only [eE, eC, eN, Nat.reduceEqDiff, ↓reduceIte, lt_F hlt]
    rfl
  have hg := List.getElem?_eq_getElem hlt
  have e := w64_succ (k := i) (by omega)
  have hrf : fewRg d.regs[i] := hd.rgs _ (List.getElem_mem hlt)
  rw [regs_drop _ _ _ hlt] at heq
  generalize d.regs[i] = r at hg hrf heq
  have y1 : ∀ q, (n + q = 1) = False := fun q => eq_false (by omega)
  have hc := eq_true (⟨hG, hh, hrf⟩ : cellsG g.sh g.w g.h g.holes = some g.cells ∧ few g.holes ∧ fewLl r.ls)
  by_cases hb : (decide (r.ls.length ≤ 64) && r.ls.all (listOK g.cells)) = true
  case neg =>
    have hv : rgsV g.cells r.ls = .tup [eLl [], .int .i64 130] := if_neg hb
    have hE : regE g.cells r = 130 := if_pos (by simpa using hb)
    rw [hE, if_neg (by decide)] at heq
    rw [heq]
    simp only [eE, eC, eN, Nat.reduceEqDiff, ↓reduceIte, Nat.reduceAdd, Nat.reduceLT, Int.reduceEq, Bool.not_false, Option.getD_some, Int.toNat_natCast, Int.natCast_nonneg, List.length_map, List.getElem?_map, List.getElem?_cons_zero, List.getElem?_cons_succ, lt_T hlt, hg, fr1 hfr, h1, y1, Trg_g, s2, dG_ok, dG_dec, dLl_ok, dLl_dec, hc, hv]
  have hv : rgsV g.cells r.ls = .tup [eLl (r.ls.map (cellL g.cells)), .int .i64 0] := if_pos hb
  obtain ⟨hb1, hb2⟩ := (Bool.and_eq_true _ _).mp hb
  have hb1 := of_decide_eq_true hb1
  have hnd : ∀ l ∈ r.ls, l.Nodup := fun l hl => (listOK_nodup (List.all_eq_true.1 hb2 l hl)).1
  have hregE : regE g.cells r = if pairTwice r.ls = true then 161 else 0 := by unfold regE; rw [hb, if_neg (by decide)]
  simp only [eE, eC, eN, Nat.reduceEqDiff, ↓reduceIte, Nat.reduceAdd, Nat.reduceLT, Bool.not_true, Option.getD_some, Int.toNat_natCast, Int.natCast_nonneg, List.length_map, List.getElem?_map, List.getElem?_cons_zero, List.getElem?_cons_succ, lt_T hlt, hg, fr1 hfr, h1, y1, Trg_g, s2, dG_ok, dG_dec, dLl_ok, dLl_dec, hc, hv, hset_hset]
  refine k_loop (fun v : VRm => ⟨[(3, true, .ptr 1 0), (9, true, .sl v.tk (((r.ls.take v.j).map srt).map eIs)), (14, true, eRgs d.regs), (15, true, .int .i64 d.regs.length), (16, true, .int .i64 i), (31, true, eLl r.ls), (32, true, .int .i64 r.ls.length), (33, true, .int .i64 v.j)], v.H, v.n⟩) (IRm g r) (fun v => r.ls.length - v.j)
    ⟨0, .nil, hset H (n + 2) (.box [.str r.nm, eLl r.ls]), n + 4⟩ rfl ⟨Nat.zero_le _, hfr.hset (m := n + 4) (by omega) (by omega), by simp only []; omega, by simp only []; rw [hget_hset_ne _ _ _ _ (by omega)]; exact h1, .inl rfl, .inr rfl, fun k _ h => absurd h (Nat.not_lt_zero _)⟩ ?_
  rintro ⟨j, tk, H1, n1⟩ hI
  have hj := hI.hj
  have hf1 := hI.fr
  have hn1 := hI.hn
  have h11 := hI.h1
  have htk := hI.tok
  have hes := hI.es
  have hno := hI.no
  simp only at hj hf1 hn1 h11 htk hes hno
  by_cases hlj : j < r.ls.length
  · have hgj := List.getElem?_eq_getElem hlj
    have ej := w64_succ (k := j) (by omega)
    have hlf := hrf.2 _ (List.getElem_mem hlj)
    have hmt := map_take (f := srt) hlj
    have hhit := fun q => pair_hit hnd hlj q
    have hnx : inMet r.ls j r.ls[j] = false → ∀ k (hk : k < r.ls.length), k < j + 1 → inMet r.ls k r.ls[k] = false := fun q k hk h => by
      by_cases z : k = j
      · subst z; exact q
      · exact hno k hk (by omega)
    generalize r.ls[j] = l at hgj hlf hmt hhit hnx
    have hmf : fewLl ((r.ls.take j).map srt) := ⟨show ((r.ls.take j).map srt).length < _ by rw [List.length_map, List.length_take]; omega, fun x hx => by
      obtain ⟨y, hy, rfl⟩ := List.mem_map.1 hx
      show (srt y).length < _
      rw [lSort_len]; exact hrf.2 _ (List.mem_of_mem_take hy)⟩
    have hsf : few (srt l) := show (srt l).length < _ by rw [lSort_len]; exact hlf
    have z1 : ∀ q, (n1 + q = 1) = False := fun q => eq_false (by omega)
    have hmb : ((r.ls.take j).map srt).contains (srt l) = inMet r.ls j l := rfl
    simp only [eE, eC, eN, Nat.reduceEqDiff, ↓reduceIte, Option.getD_some, Int.toNat_natCast, Int.natCast_nonneg, List.length_map, List.getElem?_map, lt_T hlj, hgj]
    refine (t_vals (n := n1 + 5) fun j hj => hf1 j (by omega)).mono ?_
    rintro o H2 n2 ⟨rfl, rfl, rfl⟩
    cases hb3 : inMet r.ls j l with
    | true =>
      rw [hregE, hhit hb3, if_pos rfl, if_neg (by decide)] at heq
      rw [heq]
      simp only [eE, eC, eN, reduceCtorEq, Nat.reduceEqDiff, ↓reduceIte, Nat.reduceAdd, retK, Trg_s, sSr, isIs_T hlf, cellIs_e, fr1 hf1, Trg_c, sIf, isIs_T hsf, dLl_okt hes, dLl_dect, eq_true hmf, hmb, hb3, hset_hset]
    | false =>
      have gt : tkG 1 2 (hset (hset H1 (n1 + 5) (.box [eIs l])) (n1 + 3) (.box [eIs (srt l)])) tk := (htk.set (.inr (.inr (fr1 hf1 5)))).set (.inr (.inr (by rw [hget_hset_ne _ _ _ _ (by omega)]; exact fr1 hf1 3)))
      have gf : Fresh (hset (hset H1 (n1 + 5) (.box [eIs l])) (n1 + 3) (.box [eIs (srt l)])) (n1 + 12) := (hf1.hset (m := n1 + 12) (by omega) (by omega)).hset (m := n1 + 12) (by omega) (by omega)
      have q1 : appOK (hset (hset H1 (n1 + 5) (.box [eIs l])) (n1 + 3) (.box [eIs (srt l)])) 1 tk = True := eq_true gt.app
      have q2 : ((r.ls.take j).length ≤ 35184372088831) = True := eq_true (by rw [List.length_take]; omega)
      have q3 : small ((r.ls.take j).length + 1) 24 = True := eq_true (small_of (by rw [List.length_take]; omega) (by decide))
      simp only [eE, eC, eN, reduceCtorEq, Nat.reduceEqDiff, ↓reduceIte, Nat.reduceAdd, Nat.reduceLeDiff, Nat.reduceMul, Nat.reduceLT, Int.reduceEq, List.length_map, retK, Trg_s, sSr, isIs_T hlf, cellIs_e, fr1 hf1, Trg_c, sIf, isIs_T hsf, dLl_okt hes, dLl_dect, eq_true hmf, hmb, hb3, hset_hset, q2, q3, q1, ej]
      refine .mk ⟨j + 1, .own (n1 + 10) 1, hset (killTok (hset (hset H1 (n1 + 5) (.box [eIs l])) (n1 + 3) (.box [eIs (srt l)])) tk) (n1 + 10) .tok, n1 + 12⟩ ?_ ⟨hlj, (kill_fresh gt gf).hset (Nat.le_refl _) (show n1 + 10 < n1 + 12 by omega), by simp only []; omega, ?_, .inr (.inr ⟨n1 + 10, rfl, by omega, hget_hset_eq ..⟩), .inl rfl, hnx hb3⟩ (by simp only []; omega)
      · simp only [hmt, List.map_append]; rfl
      · simp only []
        rw [hget_hset_ne _ _ _ _ (by omega), kill_get gt (.inl (by omega)), hget_hset_ne _ _ _ _ (by omega), hget_hset_ne _ _ _ _ (by omega)]
        exact h11
  obtain rfl : j = r.ls.length := by omega
  rw [hregE, pair_none hnd fun j hj => hno j hj hj] at heq
  simp only [eE, eC, eN, Nat.reduceEqDiff, ↓reduceIte, Int.reduceEq, lt_F hlj, e]
  exact .mk ⟨i + 1, H1, n1⟩ rfl ⟨hlt, hf1, hn1, h11, heq⟩ (by simp only []; omega)
end Go.AM
end
section
set_option maxRecDepth 20000
set_option linter.all false
namespace Go.AM
open Go.Proofs Go.Lib
def whn (b : Bool) (e : Int) : Int := if b = true then 0 else e
def step1 (d : Dcl) : Int := whn (limD d) 2
def step2 (d : Dcl) : Int := match resD d with
  | .error e => e
  | .ok x => whn (decide (x = d)) 170
def step3 (d : Dcl) : Int := whn (decide (1 ≤ d.ver) && decide (d.ver ≤ 255)) 170
def step4 (d : Dcl) : Int := match cellsG d.sh d.w d.h d.holes with
  | some _ => 0
  | none => 130
def step6 (d : Dcl) : Int := whn (formOK d) 170
def step7 (d : Dcl) : Int := whn (decide (unread d.ruls = [])) 171
theorem res_err {d : Dcl} {e : Int} (h : resD d = .error e) : e ≠ 0 := by
  unfold resD at h
  rintro rfl
  repeat' split at h
  all_goals simp at h
def dB : Dc Bool := ⟨.bool, toB, fun v => match v with | .bool _ => True | _ => False, fun v h => by
  cases v <;> first | exact Wk.refl _ | exact h.elim⟩
theorem dB_ok (b : Bool) : dB.ok (.bool b) = True := rfl
theorem dB_dec (b : Bool) : dB.dec (.bool b) = b := rfl
def Tst : Tab := tadd 16 (s2 dB dI any2 fun b e => .int .i64 (whn b e)) (tadd 18 (s1 dD FewD nresV) (tadd 19 (s2 dD dD (fun _ b => FewD b) fun a b => .bool (decide (a = b))) (tadd 26 (s1 dD FewD fun d => .bool (formOK d)) (tadd 13 (s1 dD FewD fun d => eIs (unread d.ruls)) (tadd 24 (s2 dD dGd (fun d g => FewD d ∧ cellsG g.sh g.w g.h g.holes = some g.cells ∧ few g.holes) fun d g => .int .i64 (regsE g.cells d.regs)) tnil)))))
theorem Tst_ok : TabOK Tryz.prog Tst := (((((TabOK.tnil.add (q2 fun d g h => p24 d g h.1 h.2.1 h.2.2)).add (q1 fun d h => p13 d h.ru)).add (q1 fun d h => p26 d h)).add (q2 fun a b h => p19 a b h)).add (q1 fun d h => p18 d h)).add (q2 fun b e _ => p16 b e)
theorem Tst_w (a : List AVal) (H : AHeap) : Tst 16 a H = s2 dB dI any2 (fun b e => .int .i64 (whn b e)) a H := rfl
theorem Tst_n (a : List AVal) (H : AHeap) : Tst 18 a H = s1 dD FewD nresV a H := rfl
theorem Tst_s (a : List AVal) (H : AHeap) : Tst 19 a H = s2 dD dD (fun _ b => FewD b) (fun a b => .bool (decide (a = b))) a H := rfl
theorem Tst_f (a : List AVal) (H : AHeap) : Tst 26 a H = s1 dD FewD (fun d => .bool (formOK d)) a H := rfl
theorem Tst_u (a : List AVal) (H : AHeap) : Tst 13 a H = s1 dD FewD (fun d => eIs (unread d.ruls)) a H := rfl
theorem Tst_r (a : List AVal) (H : AHeap) : Tst 24 a H = s2 dD dGd (fun d g => FewD d ∧ cellsG g.sh g.w g.h g.holes = some g.cells ∧ few g.holes) (fun d g => .int .i64 (regsE g.cells d.regs)) a H := rfl
theorem keeps2 {H : AHeap} {n i : Nat} (hf : Fresh H n) (hi : n ≤ i) (a b : AObj) : Keeps H (hset (hset H i a) i b) := fun id ob h => by
  have := hf.lt h
  rw [hget_hset_ne _ _ _ _ (by omega), hget_hset_ne _ _ _ _ (by omega)]; exact h
theorem lim_code (d : Dcl) : (decide ((0 : Int) < d.syms.length) && decide ((d.syms.length : Int) ≤ 16) && decide ((d.regs.length : Int) ≤ 4) && decide ((d.clus.length : Int) ≤ 4) && decide ((d.ruls.length : Int) ≤ 16)) = limD d := by
  rw [Bool.eq_iff_iff]; simp [limD]; omega
theorem un_code (l : List Int) : decide ((l.length : Int) = 0) = decide (l = []) := by
  cases l <;> simp; omega
variable {d : Dcl} {H : AHeap} {n q : Nat}
theorem u1 (hd : FewD d) (h0 : hget H q = some (.box (cellsD d))) : Quiet Tryz.prog 15 [.ptr q 0] H n (.int .i64 (step1 d)) := by
  refine Quiet.of l15 trivial fun hf => a15 (ev_awp Tst_ok (ev_evK ?_))
  simp only [eE, eC, eN, reduceCtorEq, Nat.reduceEqDiff, ↓reduceIte, Nat.reduceAdd, Nat.reduceLeDiff, List.length_map, c15, h0, Tst_w, s2, dB_ok, dB_dec, dI_ok, dI_dec, lim_code]
  exact ⟨rfl, fun _ _ h => h⟩
theorem u2 (hd : FewD d) (h0 : hget H q = some (.box (cellsD d))) : Quiet Tryz.prog 17 [.ptr q 0] H n (.int .i64 (step2 d)) := by
  refine Quiet.of l17 trivial fun hf => a17 (ev_awp Tst_ok (ev_evK ?_))
  have hq := hf.lt h0
  have y1 : ∀ k, (n + k = q) = False := fun k => eq_false (by omega)
  unfold step2
  cases hr : resD d with
  | error e =>
    have hv : nresV d = .tup [encD dcl0, .int .i64 e] := by unfold nresV; rw [hr]
    have he : (e = 0) = False := eq_false (res_err hr)
    simp only [eE, eC, eN, reduceCtorEq, Nat.reduceEqDiff, ↓reduceIte, Nat.reduceAdd, Nat.reduceLT, Bool.not_false, Option.getD_some, List.getElem?_cons_zero, List.getElem?_cons_succ, c17, h0, Tst_n, s1, dD_ok, dD_dec, eq_true hd, hv, fr1 hf, he]
    exact keeps2 hf (by omega) _ _
  | ok x =>
    have hv : nresV d = .tup [encD x, .int .i64 0] := by unfold nresV; rw [hr]
    simp only [eE, eC, eN, reduceCtorEq, Nat.reduceEqDiff, ↓reduceIte, Nat.reduceAdd, Nat.reduceLT, Bool.not_true, Option.getD_some, List.getElem?_cons_zero, List.getElem?_cons_succ, c17, h0, Tst_n, Tst_s, Tst_w, s1, s2, dD_ok, dD_dec, eq_true hd, hv, fr1 hf, y1, dB_ok, dB_dec, dI_ok, dI_dec]
    exact keeps2 hf (by omega) _ _
theorem u3 (h0 : hget H q = some (.box (cellsD d))) : Quiet Tryz.prog 20 [.ptr q 0] H n (.int .i64 (step3 d)) := by
  refine Quiet.of l20 trivial fun hf => a20 (ev_awp Tst_ok (ev_evK ?_))
  simp only [eE, eC, eN, reduceCtorEq, Nat.reduceEqDiff, ↓reduceIte, Nat.reduceAdd, Nat.reduceLeDiff, c20, h0, Tst_w, s2, dB_ok, dB_dec, dI_ok, dI_dec]
  exact ⟨rfl, fun _ _ h => h⟩
theorem u6 (hd : FewD d) (h0 : hget H q = some (.box (cellsD d))) : Quiet Tryz.prog 25 [.ptr q 0] H n (.int .i64 (step6 d)) := by
  refine Quiet.of l25 trivial fun hf => a25 (ev_awp Tst_ok (ev_evK ?_))
  simp only [eE, eN, reduceCtorEq, ↓reduceIte, Nat.reduceAdd, c25, h0, Tst_w, Tst_f, s1, s2, dB_ok, dB_dec, dI_ok, dI_dec, dD_ok, dD_dec, eq_true hd]
  exact ⟨rfl, fun _ _ h => h⟩
theorem u7 (hd : FewD d) (h0 : hget H q = some (.box (cellsD d))) : Quiet Tryz.prog 27 [.ptr q 0] H n (.int .i64 (step7 d)) := by
  refine Quiet.of l27 trivial fun hf => a27 (ev_awp Tst_ok (ev_evK ?_))
  simp only [eE, eN, reduceCtorEq, ↓reduceIte, Nat.reduceAdd, List.length_map, c27, h0, Tst_w, Tst_u, s1, s2, dB_ok, dB_dec, dI_ok, dI_dec, dD_ok, dD_dec, eq_true hd, un_code]
  exact ⟨rfl, fun _ _ h => h⟩
theorem u5 {g : Grd} {q' : Nat} (hd : FewD d) (hG : cellsG g.sh g.w g.h g.holes = some g.cells) (hh : few g.holes) (h0 : hget H q = some (.box (cellsD d))) (h1 : hget H q' = some (.box (cellsGr g.sh g.w g.h g.holes g.cells))) : Quiet Tryz.prog 23 [.ptr q 0, .ptr q' 0] H n (.int .i64 (regsE g.cells d.regs)) := by
  refine Quiet.of l23 trivial fun hf => a23 (ev_awp Tst_ok (ev_evK ?_))
  simp only [eE, eN, reduceCtorEq, Nat.reduceEqDiff, ↓reduceIte, Nat.reduceAdd, c23, h0, h1, Tst_r, s2, dG_ok, dG_dec, dD_ok, dD_dec, eq_true hd, hG, eq_true hh]
  exact fun _ _ h => h
abbrev gr0 : List AVal := [.int .i64 0, .int .i64 0, .int .i64 0, .sl .nil [], .sl .nil []]
def Tmc : Tab := tadd 22 (fun a H => match a with
  | [.int .i64 sh, .int .i64 w, .int .i64 h, x] => (dIs.ok x ∧ few (dIs.dec x), makeV sh w h (dIs.dec x))
  | _ => (False, .tup [])) tnil
theorem Tmc_ok : TabOK Tryz.prog Tmc := TabOK.tnil.add q_make
theorem Tmc_m (sh w h : Int) (x : AVal) (H : AHeap) : Tmc 22 [.int .i64 sh, .int .i64 w, .int .i64 h, x] H = (dIs.ok x ∧ few (dIs.dec x), makeV sh w h (dIs.dec x)) := rfl
theorem u4 {q' : Nat} (hne : q ≠ q') (hh : few d.holes) (h0 : hget H q = some (.box (cellsD d))) (h1 : hget H q' = some (.box gr0)) :
    ACalls Tryz.prog 21 [.ptr q 0, .ptr q' 0] H n fun o H' n' => o = .ret (.int .i64 (step4 d)) ∧ n' = n ∧ ∃ cs, H' = hset H q' (.box cs) ∧ ∀ cells, cellsG d.sh d.w d.h d.holes = some cells → cs = cellsGr d.sh d.w d.h d.holes cells := by
  refine a21 (ev_awp Tmc_ok (ev_evK ?_))
  unfold step4
  cases hc : cellsG d.sh d.w d.h d.holes with
  | none =>
    have hv : makeV d.sh d.w d.h d.holes = .tup [encG 0 0 0 [] [], .int .i64 130] := by unfold makeV; rw [hc]
    simp only [eE, eN, reduceCtorEq, Nat.reduceEqDiff, ↓reduceIte, Nat.reduceAdd, Nat.reduceLeDiff, Nat.reduceLT, Option.getD_some, List.getElem?_cons_zero, List.getElem?_cons_succ, c21, h0, h1, Tmc_m, dIs_ok, dIs_dec, eq_true hh, hv]
    exact ⟨_, rfl⟩
  | some cells =>
    have hv : makeV d.sh d.w d.h d.holes = .tup [encG d.sh d.w d.h d.holes cells, .int .i64 0] := by unfold makeV; rw [hc]
    simp only [eE, eN, reduceCtorEq, Nat.reduceEqDiff, ↓reduceIte, Nat.reduceAdd, Nat.reduceLeDiff, Nat.reduceLT, Option.getD_some, List.getElem?_cons_zero, List.getElem?_cons_succ, c21, h0, h1, Tmc_m, dIs_ok, dIs_dec, eq_true hh, hv]
    exact ⟨_, rfl, fun c h => by cases h; rfl⟩
end Go.AM
end
section
set_option maxRecDepth 20000
set_option linter.all false
namespace Go.AM
open Go.Proofs Go.Lib
theorem chk_steps (d : Dcl) : chkD d = if step1 d ≠ 0 then step1 d else if step2 d ≠ 0 then step2 d else if step3 d ≠ 0 then step3 d else match cellsG d.sh d.w d.h d.holes with
    | none => 130
    | some cells => if regsE cells d.regs ≠ 0 then regsE cells d.regs else if step6 d ≠ 0 then step6 d else step7 d := by
  unfold chkD step1 step2 step3 step6 step7
  cases limD d with
  | false => rfl
  | true =>
  cases hr : resD d with
  | error e => simp [whn, res_err hr]
  | ok x =>
  by_cases hx : x = d
  · by_cases hv : d.ver < 1 ∨ 255 < d.ver
    · have : (decide (1 ≤ d.ver) && decide (d.ver ≤ 255)) = false := by simp; omega
      simp [whn, hx, hv, this]
    · have : (decide (1 ≤ d.ver) && decide (d.ver ≤ 255)) = true := by simp; omega
      cases hc : cellsG d.sh d.w d.h d.holes with
      | none => simp [whn, hx, hv, this]
      | some cells =>
        cases formOK d <;> by_cases hu : unread d.ruls = [] <;> simp [whn, hx, hv, this, hu]
  · simp [whn, hx]
abbrev stA : List AVal := [.fn (.func 15) [] [.ptr 0 0], .fn (.func 17) [] [.ptr 0 0], .fn (.func 20) [] [.ptr 0 0], .fn (.func 21) [] [.ptr 0 0, .ptr 2 0], .fn (.func 23) [] [.ptr 0 0, .ptr 2 0], .fn (.func 25) [] [.ptr 0 0], .fn (.func 27) [] [.ptr 0 0]]
structure IChk (d : Dcl) (v : VF) : Prop where
  hi : v.i ≤ 7
  h0 : hget v.H 0 = some (.box (cellsD d))
  z1 : 0 < v.i → step1 d = 0
  z2 : 1 < v.i → step2 d = 0
  z3 : 2 < v.i → step3 d = 0
  g0 : v.i ≤ 3 → hget v.H 2 = some (.box gr0)
  z4 : 3 < v.i → ∃ cells, cellsG d.sh d.w d.h d.holes = some cells ∧ hget v.H 2 = some (.box (cellsGr d.sh d.w d.h d.holes cells)) ∧ (4 < v.i → regsE cells d.regs = 0)
  z6 : 5 < v.i → step6 d = 0
  z7 : 6 < v.i → step7 d = 0
theorem p6 (d : Dcl) (hd : FewD d) : Pur Tryz.prog 6 [encD d] (.int .i64 (chkD d)) := by
  refine .mk ⟨encD_under 0 d, trivial⟩ trivial (a6 (ev_awp TabOK.tnil (ev_evK ?_)))
  simp only [eE, eN, reduceCtorEq, Nat.reduceEqDiff, ↓reduceIte, Nat.reduceAdd, Nat.reduceLeDiff, Nat.reduceMul, Nat.reduceLT, c6]
  have h7 : ((7 : Nat) : Int) = 7 := rfl
  refine k_loop (fun v : VF => ⟨[(14, true, .sl (.exact 1) stA), (15, true, .int .i64 7), (16, true, .int .i64 v.i)], v.H, v.n⟩) (IChk d) (fun v => 7 - v.i)
    ⟨0, hset (hset hnil 0 (.box (cellsD d))) 2 (.box gr0), 3⟩ rfl ⟨Nat.zero_le _, rfl, fun h => absurd h (Nat.not_lt_zero _), fun h => absurd h (Nat.not_lt_zero _), fun h => absurd h (Nat.not_lt_zero _), fun _ => rfl, fun h => absurd h (Nat.not_lt_zero _), fun h => absurd h (Nat.not_lt_zero _), fun h => absurd h (Nat.not_lt_zero _)⟩ ?_
  rintro ⟨i, H, n⟩ hI
  obtain ⟨hi, h0, z1, z2, z3, g0, z4, z6, z7⟩ := hI
  simp only at hi h0 z1 z2 z3 g0 z4 z6 z7
  have hS := chk_steps d
  by_cases hlt : i < 7
  case neg =>
    obtain ⟨cells, hc, -, hr⟩ := z4 (by omega)
    have hlF : ((i : Int) < 7) = False := eq_false (by omega)
    simp only [z1 (by omega), z2 (by omega), z3 (by omega), hc, hr (by omega), z6 (by omega), z7 (by omega), ne_eq, not_true_eq_false, if_false] at hS
    rw [hS]
    simp only [eE, eC, eN, Nat.reduceEqDiff, ↓reduceIte, hlF]
  have hlT : ((i : Int) < 7) = True := eq_true (by omega)
  have hlN : ((i : Int) < ((7 : Nat) : Int)) = True := hlT
  have e := w64_succ (k := i) (by omega)
  have h8 : i = 0 ∨ i = 1 ∨ i = 2 ∨ i = 3 ∨ i = 4 ∨ i = 5 ∨ i = 6 := by omega
  rcases h8 with h8 | h8 | h8 | h8 | h8 | h8 | h8
  · have hg : stA[i]? = some (.fn (.func 15) [] [.ptr 0 0]) := by rw [h8]; rfl
    have hl7 : i < stA.length := hlt
    simp only [eE, eC, eN, Nat.reduceEqDiff, ↓reduceIte, Nat.reduceAdd, Option.getD_some, Int.toNat_natCast, Int.natCast_nonneg, hlT, hlN, hg]
    refine (u1 hd h0).mono ?_
    rintro o H' n' ⟨rfl, rfl, rfl⟩
    by_cases hz : step1 d = 0
    · rw [hz]
      simp only [eE, eC, eN, Nat.reduceEqDiff, ↓reduceIte, Int.reduceEq, Bool.not_true, retK, e]
      exact .mk ⟨i + 1, H', n'⟩ rfl ⟨hlt, h0, fun _ => hz, fun h => absurd h (by simp only []; omega), fun h => absurd h (by simp only []; omega), fun _ => g0 (by omega), fun h => absurd h (by simp only []; omega), fun h => absurd h (by simp only []; omega), fun h => absurd h (by simp only []; omega)⟩ (by simp only []; omega)
    · rw [if_pos hz] at hS
      rw [hS]
      simp only [eE, eC, eN, Nat.reduceEqDiff, ↓reduceIte, Bool.not_false, retK, eq_false hz]
  · have hg : stA[i]? = some (.fn (.func 17) [] [.ptr 0 0]) := by rw [h8]; rfl
    have hl7 : i < stA.length := hlt
    simp only [eE, eC, eN, Nat.reduceEqDiff, ↓reduceIte, Nat.reduceAdd, Option.getD_some, Int.toNat_natCast, Int.natCast_nonneg, hlT, hlN, hg]
    refine (u2 hd h0).mono ?_
    rintro o H' n' ⟨rfl, rfl, rfl⟩
    simp only [z1 (by omega), ne_eq, not_true_eq_false, if_false] at hS
    by_cases hz : step2 d = 0
    · rw [hz]
      simp only [eE, eC, eN, Nat.reduceEqDiff, ↓reduceIte, Int.reduceEq, Bool.not_true, retK, e]
      exact .mk ⟨i + 1, H', n'⟩ rfl ⟨hlt, h0, fun _ => z1 (by omega), fun _ => hz, fun h => absurd h (by simp only []; omega), fun _ => g0 (by omega), fun h => absurd h (by simp only []; omega), fun h => absurd h (by simp only []; omega), fun h => absurd h (by simp only []; omega)⟩ (by simp only []; omega)
    · rw [if_pos hz] at hS
      rw [hS]
      simp only [eE, eC, eN, Nat.reduceEqDiff, ↓reduceIte, Bool.not_false, retK, eq_false hz]
  · have hg : stA[i]? = some (.fn (.func 20) [] [.ptr 0 0]) := by rw [h8]; rfl
    have hl7 : i < stA.length := hlt
    simp only [eE, eC, eN, Nat.reduceEqDiff, ↓reduceIte, Nat.reduceAdd, Option.getD_some, Int.toNat_natCast, Int.natCast_nonneg, hlT, hlN, hg]
    refine (u3 h0).mono ?_
    rintro o H' n' ⟨rfl, rfl, rfl⟩
    simp only [z1 (by omega), z2 (by omega), ne_eq, not_true_eq_false, if_false] at hS
    by_cases hz : step3 d = 0
    · rw [hz]
      simp only [eE, eC, eN, Nat.reduceEqDiff, ↓reduceIte, Int.reduceEq, Bool.not_true, retK, e]
      exact .mk ⟨i + 1, H', n'⟩ rfl ⟨hlt, h0, fun _ => z1 (by omega), fun _ => z2 (by omega), fun _ => hz, fun _ => g0 (by omega), fun h => absurd h (by simp only []; omega), fun h => absurd h (by simp only []; omega), fun h => absurd h (by simp only []; omega)⟩ (by simp only []; omega)
    · rw [if_pos hz] at hS
      rw [hS]
      simp only [eE, eC, eN, Nat.reduceEqDiff, ↓reduceIte, Bool.not_false, retK, eq_false hz]
  · have hg : stA[i]? = some (.fn (.func 21) [] [.ptr 0 0, .ptr 2 0]) := by rw [h8]; rfl
    have hl7 : i < stA.length := hlt
    simp only [eE, eC, eN, Nat.reduceEqDiff, ↓reduceIte, Nat.reduceAdd, Option.getD_some, Int.toNat_natCast, Int.natCast_nonneg, hlT, hlN, hg]
    refine (u4 (by decide) hd.ho h0 (g0 (by omega))).mono ?_
    rintro o H' n' ⟨rfl, rfl, cs, rfl, hcs⟩
    have h0' : hget (hset H 2 (.box cs)) 0 = some (.box (cellsD d)) := by rw [hget_hset_ne _ _ _ _ (by decide)]; exact h0
    simp only [z1 (by omega), z2 (by omega), z3 (by omega), ne_eq, not_true_eq_false, if_false] at hS
    cases hc : cellsG d.sh d.w d.h d.holes with
    | none =>
      have hs4 : step4 d = 130 := by unfold step4; rw [hc]
      rw [hc] at hS
      rw [hS, hs4]
      simp only [eE, eC, eN, Nat.reduceEqDiff, ↓reduceIte, Int.reduceEq, Bool.not_false, retK]
    | some cells =>
      have hs4 : step4 d = 0 := by unfold step4; rw [hc]
      rw [hs4]
      simp only [eE, eC, eN, Nat.reduceEqDiff, ↓reduceIte, Int.reduceEq, Bool.not_true, retK, e]
      refine .mk ⟨i + 1, hset H 2 (.box cs), n'⟩ rfl ⟨hlt, h0', fun _ => z1 (by omega), fun _ => z2 (by omega), fun _ => z3 (by omega), fun h => absurd h (by simp only []; omega), fun _ => ⟨cells, hc, by simp only []; rw [hget_hset_eq, hcs cells hc], fun h => absurd h (by simp only []; omega)⟩, fun h => absurd h (by simp only []; omega), fun h => absurd h (by simp only []; omega)⟩ (by simp only []; omega)
  · have hg : stA[i]? = some (.fn (.func 23) [] [.ptr 0 0, .ptr 2 0]) := by rw [h8]; rfl
    have hl7 : i < stA.length := hlt
    obtain ⟨cells, hc, hg2, hr⟩ := z4 (by omega)
    simp only [eE, eC, eN, Nat.reduceEqDiff, ↓reduceIte, Nat.reduceAdd, Option.getD_some, Int.toNat_natCast, Int.natCast_nonneg, hlT, hlN, hg]
    refine (u5 (g := ⟨d.sh, d.w, d.h, d.holes, cells⟩) hd hc hd.ho h0 hg2).mono ?_
    rintro o H' n' ⟨rfl, rfl, rfl⟩
    simp only [z1 (by omega), z2 (by omega), z3 (by omega), hc, ne_eq, not_true_eq_false, if_false] at hS
    by_cases hz : regsE cells d.regs = 0
    · rw [hz]
      simp only [eE, eC, eN, Nat.reduceEqDiff, ↓reduceIte, Int.reduceEq, Bool.not_true, retK, e]
      exact .mk ⟨i + 1, H', n'⟩ rfl ⟨hlt, h0, fun _ => z1 (by omega), fun _ => z2 (by omega), fun _ => z3 (by omega), fun h => absurd h (by simp only []; omega), fun _ => ⟨cells, hc, hg2, fun _ => hz⟩, fun h => absurd h (by simp only []; omega), fun h => absurd h (by simp only []; omega)⟩ (by simp only []; omega)
    · rw [if_pos hz] at hS
      rw [hS]
      simp only [eE, eC, eN, Nat.reduceEqDiff, ↓reduceIte, Bool.not_false, retK, eq_false hz]
  · have hg : stA[i]? = some (.fn (.func 25) [] [.ptr 0 0]) := by rw [h8]; rfl
    have hl7 : i < stA.length := hlt
    obtain ⟨cells, hc, hg2, hr⟩ := z4 (by omega)
    simp only [eE, eC, eN, Nat.reduceEqDiff, ↓reduceIte, Nat.reduceAdd, Option.getD_some, Int.toNat_natCast, Int.natCast_nonneg, hlT, hlN, hg]
    refine (u6 hd h0).mono ?_
    rintro o H' n' ⟨rfl, rfl, rfl⟩
    simp only [z1 (by omega), z2 (by omega), z3 (by omega), hc, hr (by omega), ne_eq, not_true_eq_false, if_false] at hS
    by_cases hz : step6 d = 0
    · rw [hz]
      simp only [eE, eC, eN, Nat.reduceEqDiff, ↓reduceIte, Int.reduceEq, Bool.not_true, retK, e]
      exact .mk ⟨i + 1, H', n'⟩ rfl ⟨hlt, h0, fun _ => z1 (by omega), fun _ => z2 (by omega), fun _ => z3 (by omega), fun h => absurd h (by simp only []; omega), fun _ => ⟨cells, hc, hg2, fun _ => hr (by omega)⟩, fun _ => hz, fun h => absurd h (by simp only []; omega)⟩ (by simp only []; omega)
    · rw [if_pos hz] at hS
      rw [hS]
      simp only [eE, eC, eN, Nat.reduceEqDiff, ↓reduceIte, Bool.not_false, retK, eq_false hz]
  · have hg : stA[i]? = some (.fn (.func 27) [] [.ptr 0 0]) := by rw [h8]; rfl
    have hl7 : i < stA.length := hlt
    obtain ⟨cells, hc, hg2, hr⟩ := z4 (by omega)
    simp only [eE, eC, eN, Nat.reduceEqDiff, ↓reduceIte, Nat.reduceAdd, Option.getD_some, Int.toNat_natCast, Int.natCast_nonneg, hlT, hlN, hg]
    refine (u7 hd h0).mono ?_
    rintro o H' n' ⟨rfl, rfl, rfl⟩
    simp only [z1 (by omega), z2 (by omega), z3 (by omega), hc, hr (by omega), z6 (by omega), ne_eq, not_true_eq_false, if_false] at hS
    by_cases hz : step7 d = 0
    · rw [hz]
      simp only [eE, eC, eN, Nat.reduceEqDiff, ↓reduceIte, Int.reduceEq, Bool.not_true, retK, e]
      exact .mk ⟨i + 1, H', n'⟩ rfl ⟨hlt, h0, fun _ => z1 (by omega), fun _ => z2 (by omega), fun _ => z3 (by omega), fun h => absurd h (by simp only []; omega), fun _ => ⟨cells, hc, hg2, fun _ => hr (by omega)⟩, fun _ => z6 (by omega), fun _ => hz⟩ (by simp only []; omega)
    · rw [hS]
      simp only [eE, eC, eN, Nat.reduceEqDiff, ↓reduceIte, Bool.not_false, retK, eq_false hz]
end Go.AM
end
section
set_option maxRecDepth 20000
set_option linter.all false
namespace Go.AM
open Go.Proofs Go.Lib
abbrev big (n : Nat) : Prop := n ≤ 140737488355328
structure BigD (d : Dcl) : Prop where
  nm : big d.nm.length
  ho : big d.holes.length
  sy : big d.syms.length
  sys : ∀ s ∈ d.syms, big s.nm.length
  rg : big d.regs.length
  rgs : ∀ r ∈ d.regs, big r.nm.length ∧ big r.ls.length ∧ ∀ l ∈ r.ls, big l.length
  cl : big d.clus.length
  cls : ∀ c ∈ d.clus, big c.nm.length ∧ big c.on.length
  ru : big d.ruls.length
  rus : ∀ r ∈ d.ruls, big r.nm.length ∧ big r.on.length ∧ big r.byN.length ∧ big r.ns.length ∧ big r.os.length ∧ (∀ s ∈ r.ns, big s.length) ∧ ∀ s ∈ r.os, big s.length
theorem w64_add {a b : Nat} (h : a + b ≤ 9000000000000000000) : IntKind.wrap .i64 ((a : Int) + (b : Int)) = ((a + b : Nat) : Int) := by rw [w64_in (by omega) (by omega)]; omega
theorem w64_nx {k : Nat} (h : k ≤ 8000000000000000000) : IntKind.wrap .i64 ((k : Int) + 1) = ((k + 1 : Nat) : Int) := by
  have := w64_add (a := k) (b := 1) (by omega)
  exact this
theorem addW_stop : ∀ {l : List Nat} {n : Nat}, 2000 ≤ n → addW n l = n
  | [], n, _ => rfl
  | x :: r, n, h => by rw [addW_cons, if_neg (by omega)]; exact addW_stop h
theorem addW_go {n x : Nat} {r : List Nat} (h : n < 2000) : addW n (x :: r) = addW (n + x) r := by rw [addW_cons, if_pos h]
theorem addG_stop {α : Type} {own : α → Nat} {parts : List (α → List Nat)} : ∀ {l : List α} {n : Nat}, 2000 ≤ n → addG own parts n l = n
  | [], n, _ => rfl
  | x :: r, n, h => by
    unfold addG
    rw [List.foldl_cons, if_neg (by omega)]
    exact addG_stop h
theorem addG_go {α : Type} {own : α → Nat} {parts : List (α → List Nat)} {n : Nat} {x : α} {r : List α} (h : n < 2000) : addG own parts n (x :: r) = addG own parts (parts.foldl (fun n p => addW n (p x)) (n + own x)) r := by
  unfold addG
  rw [List.foldl_cons, if_pos h]
theorem lt2T {n : Nat} (h : n < 2000) : ((n : Int) < 2000) = True := eq_true (by omega)
abbrev nmL (l : List DSym) : List Nat := l.map fun s => s.nm.length
abbrev clL (l : List DClu) : List Nat := l.map fun c => c.nm.length + c.on.length
abbrev rgG (n : Nat) (l : List DReg) : Nat := addG (fun r : DReg => r.nm.length + r.ls.length) [fun r => r.ls.map (·.length)] n l
abbrev ruG (n : Nat) (l : List DRul) : Nat := addG (fun r : DRul => r.nm.length + r.on.length + r.byN.length + r.ns.length + r.os.length) [fun r => r.ns.map (·.length), fun r => r.os.map (·.length)] n l
structure VFe where
  s : Nat
  i : Nat
structure VFr where
  s : Nat
  i : Nat
  H : AHeap
  n : Nat
theorem p5 (d : Dcl) (hd : BigD d) : Pur Tryz.prog 5 [encD d] (.bool (few17 d)) := by
  refine .mk ⟨encD_under 0 d, trivial⟩ trivial (a5 (ev_awp TabOK.tnil (ev_evK ?_)))
  obtain ⟨hnm, hho, hsy, hsys, hrg, hrgs, hcl, hcls, hru, hrus⟩ := hd
  obtain ⟨N1, h1⟩ : ∃ N1, N1 = d.nm.length + d.holes.length := ⟨_, rfl⟩
  obtain ⟨N2, h2⟩ : ∃ N2, N2 = N1 + d.syms.length := ⟨_, rfl⟩
  obtain ⟨N3, h3⟩ : ∃ N3, N3 = N2 + d.regs.length := ⟨_, rfl⟩
  obtain ⟨N4, h4⟩ : ∃ N4, N4 = N3 + d.clus.length := ⟨_, rfl⟩
  obtain ⟨N, h5⟩ : ∃ N, N = N4 + d.ruls.length := ⟨_, rfl⟩
  have e1 : IntKind.wrap .i64 ((d.nm.length : Int) + d.holes.length) = N1 := by rw [w64_add (by omega), h1]
  have e2 : IntKind.wrap .i64 ((N1 : Int) + d.syms.length) = N2 := by rw [w64_add (by omega), h2]
  have e3 : IntKind.wrap .i64 ((N2 : Int) + d.regs.length) = N3 := by rw [w64_add (by omega), h3]
  have e4 : IntKind.wrap .i64 ((N3 : Int) + d.clus.length) = N4 := by rw [w64_add (by omega), h4]
  have e5 : IntKind.wrap .i64 ((N4 : Int) + d.ruls.length) = N := by rw [w64_add (by omega), h5]
  simp only [eE, eN, Nat.reduceEqDiff, ↓reduceIte, Nat.reduceAdd, Nat.reduceLeDiff, List.length_map, c5, e1, e2, e3, e4, e5]
  have hF : fewN d = ruG (addW (rgG (addW N (nmL d.syms)) d.regs) (clL d.clus)) d.ruls := by rw [h5, h4, h3, h2, h1]; rfl
  have hNb : N ≤ 1125899906842624 := by omega
  clear h1 h2 h3 h4 h5 e1 e2 e3 e4 e5
  refine k_loop (fun v : VFe => ⟨[(1, true, .ptr 0 0), (3, true, .int .i64 v.s), (4, true, .int .i64 v.i)], hset hnil 0 (.box (cellsD d)), 2⟩) (fun v => v.i ≤ d.syms.length ∧ v.s ≤ 1125899906842624 ∧ addW N (nmL d.syms) = addW v.s (nmL (d.syms.drop v.i))) (fun v => d.syms.length - v.i)
    ⟨N, 0⟩ rfl ⟨Nat.zero_le _, hNb, rfl⟩ ?_
  rintro ⟨s, i⟩ ⟨hi, hsb, hs⟩
  simp only at hi hsb hs
  by_cases hlt : i < d.syms.length ∧ s < 2000
  · obtain ⟨hlt, hs2⟩ := hlt
    have hg := List.getElem?_eq_getElem hlt
    have e := w64_nx (k := i) (by omega)
    have hb := hsys _ (List.getElem_mem hlt)
    rw [List.drop_eq_getElem_cons hlt] at hs
    generalize d.syms[i] = x at hg hb hs
    rw [show nmL (x :: d.syms.drop (i + 1)) = x.nm.length :: nmL (d.syms.drop (i + 1)) from rfl, addW_go hs2] at hs
    have ea := w64_add (a := s) (b := x.nm.length) (by omega)
    simp only [eE, eC, eN, reduceCtorEq, Nat.reduceEqDiff, ↓reduceIte, Nat.reduceAdd, Nat.reduceLeDiff, Int.reduceEq, Option.getD_some, Int.toNat_natCast, Int.natCast_nonneg, List.length_map, List.getElem?_map, lt_T hlt, hg, e, lt2T hs2, ea]
    exact .mk ⟨s + x.nm.length, i + 1⟩ rfl ⟨hlt, by simp only []; omega, hs⟩ (by simp only []; omega)
  have hN1 : addW N (nmL d.syms) = s := by
    rw [hs]
    by_cases q : s < 2000
    · rw [List.drop_eq_nil_of_le (by omega)]; rfl
    · exact addW_stop (by omega)
  have hb : (decide ((i : Int) < (d.syms.length : Int)) && decide ((s : Int) < 2000)) = false := by simp; omega
  rw [hN1] at hF
  simp only [eE, eC, eN, Nat.reduceEqDiff, ↓reduceIte, Nat.reduceAdd, Nat.reduceLeDiff, List.length_map, hb]
  clear hb hlt hs hi hN1 hsys hNb
  refine k_loop (fun v : VFe => ⟨[(1, true, .ptr 0 0), (3, true, .int .i64 v.s), (5, true, .int .i64 v.i)], hset hnil 0 (.box (cellsD d)), 2⟩) (fun v => v.i ≤ d.regs.length ∧ v.s ≤ 1125899906842624 ∧ rgG s d.regs = rgG v.s (d.regs.drop v.i)) (fun v => d.regs.length - v.i)
    ⟨s, 0⟩ rfl ⟨Nat.zero_le _, hsb, rfl⟩ ?_
  rintro ⟨s1, i1⟩ ⟨hi1, hsb1, hs1⟩
  simp only at hi1 hsb1 hs1
  by_cases hlt : i1 < d.regs.length ∧ s1 < 2000
  · obtain ⟨hlt, hs2⟩ := hlt
    have hg := List.getElem?_eq_getElem hlt
    have e := w64_nx (k := i1) (by omega)
    obtain ⟨hb1, hb2, hb3⟩ := hrgs _ (List.getElem_mem hlt)
    rw [List.drop_eq_getElem_cons hlt] at hs1
    generalize d.regs[i1] = x at hg hb1 hb2 hb3 hs1
    rw [show rgG s1 (x :: d.regs.drop (i1 + 1)) = rgG (addW (s1 + (x.nm.length + x.ls.length)) (x.ls.map (·.length))) (d.regs.drop (i1 + 1)) from addG_go hs2] at hs1
    obtain ⟨m1, hm1⟩ : ∃ m1, m1 = s1 + x.nm.length := ⟨_, rfl⟩
    obtain ⟨m2, hm2⟩ : ∃ m2, m2 = m1 + x.ls.length := ⟨_, rfl⟩
    have ea : IntKind.wrap .i64 ((s1 : Int) + x.nm.length) = m1 := by rw [w64_add (by omega), hm1]
    have eb : IntKind.wrap .i64 ((m1 : Int) + x.ls.length) = m2 := by rw [w64_add (by omega), hm2]
    have hm : s1 + (x.nm.length + x.ls.length) = m2 := by omega
    rw [hm] at hs1
    simp only [eE, eC, eN, reduceCtorEq, Nat.reduceEqDiff, ↓reduceIte, Nat.reduceAdd, Nat.reduceLeDiff, Option.getD_some, Int.toNat_natCast, Int.natCast_nonneg, List.length_map, List.getElem?_map, lt_T hlt, hg, lt2T hs2, ea, eb]
    have hm2b : m2 ≤ 1125899906842624 := by omega
    refine k_loop (fun v : VFe => ⟨[(1, true, .ptr 0 0), (3, true, .int .i64 v.s), (5, true, .int .i64 i1), (6, true, .int .i64 v.i)], hset hnil 0 (.box (cellsD d)), 2⟩) (fun v => v.i ≤ x.ls.length ∧ v.s ≤ 1125899906842624 ∧ addW m2 (x.ls.map (·.length)) = addW v.s ((x.ls.drop v.i).map (·.length))) (fun v => x.ls.length - v.i)
      ⟨m2, 0⟩ rfl ⟨Nat.zero_le _, hm2b, rfl⟩ ?_
    rintro ⟨s2, j⟩ ⟨hj, hsb2, hs2'⟩
    simp only at hj hsb2 hs2'
    by_cases hlj : j < x.ls.length ∧ s2 < 2000
    · obtain ⟨hlj, hs3⟩ := hlj
      have hgj := List.getElem?_eq_getElem hlj
      have ej := w64_nx (k := j) (by omega)
      have hbj := hb3 _ (List.getElem_mem hlj)
      rw [List.drop_eq_getElem_cons hlj] at hs2'
      generalize x.ls[j] = l at hgj hbj hs2'
      rw [List.map_cons, addW_go hs3] at hs2'
      have ec := w64_add (a := s2) (b := l.length) (by omega)
      simp only [eE, eC, eN, reduceCtorEq, Nat.reduceEqDiff, ↓reduceIte, Nat.reduceAdd, Nat.reduceLeDiff, Int.reduceEq, Option.getD_some, Int.toNat_natCast, Int.natCast_nonneg, List.length_map, List.getElem?_map, lt_T hlt, hg, lt_T hlj, hgj, ej, lt2T hs3, ec]
      exact .mk ⟨s2 + l.length, j + 1⟩ rfl ⟨hlj, by simp only []; omega, hs2'⟩ (by simp only []; omega)
    have hN2 : addW m2 (x.ls.map (·.length)) = s2 := by
      rw [hs2']
      by_cases q : s2 < 2000
      · rw [List.drop_eq_nil_of_le (by omega)]; rfl
      · exact addW_stop (by omega)
    have hb : (decide ((j : Int) < (x.ls.length : Int)) && decide ((s2 : Int) < 2000)) = false := by simp; omega
    rw [hN2] at hs1
    simp only [eE, eC, eN, Nat.reduceEqDiff, ↓reduceIte, Nat.reduceAdd, Nat.reduceLeDiff, Int.reduceEq, Option.getD_some, Int.toNat_natCast, Int.natCast_nonneg, List.length_map, List.getElem?_map, lt_T hlt, hg, hb, e]
    exact .mk ⟨s2, i1 + 1⟩ rfl ⟨hlt, hsb2, hs1⟩ (by simp only []; omega)
  have hN1 : rgG s d.regs = s1 := by
    rw [hs1]
    by_cases q : s1 < 2000
    · rw [List.drop_eq_nil_of_le (by omega)]; rfl
    · exact addG_stop (by omega)
  have hb : (decide ((i1 : Int) < (d.regs.length : Int)) && decide ((s1 : Int) < 2000)) = false := by simp; omega
  rw [hN1] at hF
  simp only [eE, eC, eN, Nat.reduceEqDiff, ↓reduceIte, Nat.reduceAdd, Nat.reduceLeDiff, List.length_map, hb]
  clear hb hlt hs1 hi1 hN1 hrgs hsb
  refine k_loop (fun v : VFe => ⟨[(1, true, .ptr 0 0), (3, true, .int .i64 v.s), (7, true, .int .i64 v.i)], hset hnil 0 (.box (cellsD d)), 2⟩) (fun v => v.i ≤ d.clus.length ∧ v.s ≤ 1125899906842624 ∧ addW s1 (clL d.clus) = addW v.s (clL (d.clus.drop v.i))) (fun v => d.clus.length - v.i)
    ⟨s1, 0⟩ rfl ⟨Nat.zero_le _, hsb1, rfl⟩ ?_
  rintro ⟨s3, i3⟩ ⟨hi3, hsb3, hs3⟩
  simp only at hi3 hsb3 hs3
  by_cases hlt : i3 < d.clus.length ∧ s3 < 2000
  · obtain ⟨hlt, hs2⟩ := hlt
    have hg := List.getElem?_eq_getElem hlt
    have e := w64_nx (k := i3) (by omega)
    obtain ⟨hb1, hb2⟩ := hcls _ (List.getElem_mem hlt)
    rw [List.drop_eq_getElem_cons hlt] at hs3
    generalize d.clus[i3] = x at hg hb1 hb2 hs3
    rw [show clL (x :: d.clus.drop (i3 + 1)) = (x.nm.length + x.on.length) :: clL (d.clus.drop (i3 + 1)) from rfl, addW_go hs2] at hs3
    obtain ⟨m1, hm1⟩ : ∃ m1, m1 = s3 + x.nm.length := ⟨_, rfl⟩
    obtain ⟨m2, hm2⟩ : ∃ m2, m2 = m1 + x.on.length := ⟨_, rfl⟩
    have ea : IntKind.wrap .i64 ((s3 : Int) + x.nm.length) = m1 := by rw [w64_add (by omega), hm1]
    have eb : IntKind.wrap .i64 ((m1 : Int) + x.on.length) = m2 := by rw [w64_add (by omega), hm2]
    rw [show s3 + (x.nm.length + x.on.length) = m2 by omega] at hs3
    simp only [eE, eC, eN, reduceCtorEq, Nat.reduceEqDiff, ↓reduceIte, Nat.reduceAdd, Nat.reduceLeDiff, Int.reduceEq, Option.getD_some, Int.toNat_natCast, Int.natCast_nonneg, List.length_map, List.getElem?_map, lt_T hlt, hg, e, lt2T hs2, ea, eb]
    exact .mk ⟨m2, i3 + 1⟩ rfl ⟨hlt, by simp only []; omega, hs3⟩ (by simp only []; omega)
  have hN1 : addW s1 (clL d.clus) = s3 := by
    rw [hs3]
    by_cases q : s3 < 2000
    · rw [List.drop_eq_nil_of_le (by omega)]; rfl
    · exact addW_stop (by omega)
  have hb : (decide ((i3 : Int) < (d.clus.length : Int)) && decide ((s3 : Int) < 2000)) = false := by simp; omega
  rw [hN1] at hF
  simp only [eE, eC, eN, Nat.reduceEqDiff, ↓reduceIte, Nat.reduceAdd, Nat.reduceLeDiff, List.length_map, hb]
  clear hb hlt hs3 hi3 hN1 hcls hsb1
  refine k_loop (fun v : VFr => ⟨[(1, true, .ptr 0 0), (3, true, .int .i64 v.s), (8, true, .int .i64 v.i)], v.H, v.n⟩) (fun v => v.i ≤ d.ruls.length ∧ v.s ≤ 1125899906842624 ∧ ruG s3 d.ruls = ruG v.s (d.ruls.drop v.i) ∧ Fresh v.H v.n ∧ 2 ≤ v.n ∧ hget v.H 0 = some (.box (cellsD d))) (fun v => d.ruls.length - v.i)
    ⟨s3, 0, hset hnil 0 (.box (cellsD d)), 2⟩ rfl ⟨Nat.zero_le _, hsb3, rfl, Fresh.nil.hset (m := 2) (Nat.zero_le 2) (show 0 < 2 by decide), Nat.le_refl _, rfl⟩ ?_
  rintro ⟨s4, i4, H, n⟩ ⟨hi4, hsb4, hs4, hfr, hn, h0⟩
  simp only at hi4 hsb4 hs4 hfr hn h0
  by_cases hlt : i4 < d.ruls.length ∧ s4 < 2000
  · obtain ⟨hlt, hs2⟩ := hlt
    have hg := List.getElem?_eq_getElem hlt
    have e := w64_nx (k := i4) (by omega)
    obtain ⟨hb1, hb2, hb3, hb4, hb5, hb6, hb7⟩ := hrus _ (List.getElem_mem hlt)
    rw [List.drop_eq_getElem_cons hlt] at hs4
    generalize d.ruls[i4] = x at hg hb1 hb2 hb3 hb4 hb5 hb6 hb7 hs4
    rw [show ruG s4 (x :: d.ruls.drop (i4 + 1)) = ruG (addW (addW (s4 + (x.nm.length + x.on.length + x.byN.length + x.ns.length + x.os.length)) (x.ns.map (·.length))) (x.os.map (·.length))) (d.ruls.drop (i4 + 1)) from addG_go hs2] at hs4
    obtain ⟨m1, hm1⟩ : ∃ m1, m1 = s4 + x.nm.length := ⟨_, rfl⟩
    obtain ⟨m2, hm2⟩ : ∃ m2, m2 = m1 + x.on.length := ⟨_, rfl⟩
    obtain ⟨m3, hm3⟩ : ∃ m3, m3 = m2 + x.byN.length := ⟨_, rfl⟩
    obtain ⟨m4, hm4⟩ : ∃ m4, m4 = m3 + x.ns.length := ⟨_, rfl⟩
    obtain ⟨m5, hm5⟩ : ∃ m5, m5 = m4 + x.os.length := ⟨_, rfl⟩
    have ea : IntKind.wrap .i64 ((s4 : Int) + x.nm.length) = m1 := by rw [w64_add (by omega), hm1]
    have eb : IntKind.wrap .i64 ((m1 : Int) + x.on.length) = m2 := by rw [w64_add (by omega), hm2]
    have ec : IntKind.wrap .i64 ((m2 : Int) + x.byN.length) = m3 := by rw [w64_add (by omega), hm3]
    have ed : IntKind.wrap .i64 ((m3 : Int) + x.ns.length) = m4 := by rw [w64_add (by omega), hm4]
    have ef : IntKind.wrap .i64 ((m4 : Int) + x.os.length) = m5 := by rw [w64_add (by omega), hm5]
    rw [show s4 + (x.nm.length + x.on.length + x.byN.length + x.ns.length + x.os.length) = m5 by omega] at hs4
    have m5b : m5 ≤ 1125899906842624 := by omega
    have y1 : ∀ k, (n + k = 0) = False := fun k => eq_false (by omega)
    simp only [eE, eC, eN, reduceCtorEq, Nat.reduceEqDiff, ↓reduceIte, Nat.reduceAdd, Nat.reduceLeDiff, Option.getD_some, Int.toNat_natCast, Int.natCast_nonneg, List.length_map, List.getElem?_map, lt_T hlt, hg, lt2T hs2, ea, eb, ec, ed, ef, h0, fr1 hfr, hset_hset]
    generalize hH1 : hset H (n + 5) _ = H1
    have hx9 : hget H1 (n + 5) = some (.box (cellsRu x)) := by rw [← hH1]; exact hget_hset_eq ..
    have h01 : hget H1 0 = some (.box (cellsD d)) := by rw [← hH1, hget_hset_ne _ _ _ _ (by omega)]; exact h0
    have hf1 : Fresh H1 (n + 7) := by rw [← hH1]; exact hfr.hset (m := n + 7) (by omega) (by omega)
    clear hH1 ea eb ec ed ef hm1 hm2 hm3 hm4 hm5
    refine k_loop (fun v : VFe => ⟨[(1, true, .ptr 0 0), (3, true, .int .i64 v.s), (8, true, .int .i64 i4), (9, true, .ptr (n + 5) 0), (10, true, .int .i64 v.i)], H1, n + 7⟩) (fun v => v.i ≤ x.ns.length ∧ v.s ≤ 1125899906842624 ∧ addW m5 (x.ns.map (·.length)) = addW v.s ((x.ns.drop v.i).map (·.length))) (fun v => x.ns.length - v.i)
      ⟨m5, 0⟩ rfl ⟨Nat.zero_le _, m5b, rfl⟩ ?_
    rintro ⟨t1, j⟩ ⟨hj, t1b, hq⟩
    simp only at hj t1b hq
    by_cases hlj : j < x.ns.length ∧ t1 < 2000
    · obtain ⟨hlj, hs3⟩ := hlj
      have hgj := List.getElem?_eq_getElem hlj
      have ej := w64_nx (k := j) (by omega)
      have hbj := hb6 _ (List.getElem_mem hlj)
      rw [List.drop_eq_getElem_cons hlj] at hq
      generalize x.ns[j] = l at hgj hbj hq
      rw [List.map_cons, addW_go hs3] at hq
      have ec := w64_add (a := t1) (b := l.length) (by omega)
      simp only [eE, eC, eN, reduceCtorEq, Nat.reduceEqDiff, ↓reduceIte, Nat.reduceAdd, Nat.reduceLeDiff, Int.reduceEq, Option.getD_some, Int.toNat_natCast, Int.natCast_nonneg, List.length_map, List.getElem?_map, hx9, lt_T hlj, hgj, ej, lt2T hs3, ec]
      exact .mk ⟨t1 + l.length, j + 1⟩ rfl ⟨hlj, by simp only []; omega, hq⟩ (by simp only []; omega)
    have hN2 : addW m5 (x.ns.map (·.length)) = t1 := by
      rw [hq]
      by_cases q : t1 < 2000
      · rw [List.drop_eq_nil_of_le (by omega)]; rfl
      · exact addW_stop (by omega)
    have hb : (decide ((j : Int) < (x.ns.length : Int)) && decide ((t1 : Int) < 2000)) = false := by simp; omega
    rw [hN2] at hs4
    simp only [eE, eC, eN, Nat.reduceEqDiff, ↓reduceIte, Nat.reduceAdd, Nat.reduceLeDiff, List.length_map, hx9, hb]
    clear hb hlj hq hj hN2
    refine k_loop (fun v : VFe => ⟨[(1, true, .ptr 0 0), (3, true, .int .i64 v.s), (8, true, .int .i64 i4), (9, true, .ptr (n + 5) 0), (11, true, .int .i64 v.i)], H1, n + 7⟩) (fun v => v.i ≤ x.os.length ∧ v.s ≤ 1125899906842624 ∧ addW t1 (x.os.map (·.length)) = addW v.s ((x.os.drop v.i).map (·.length))) (fun v => x.os.length - v.i)
      ⟨t1, 0⟩ rfl ⟨Nat.zero_le _, t1b, rfl⟩ ?_
    rintro ⟨t2, j⟩ ⟨hj, t2b, hq⟩
    simp only at hj t2b hq
    by_cases hlj : j < x.os.length ∧ t2 < 2000
    · obtain ⟨hlj, hs3⟩ := hlj
      have hgj := List.getElem?_eq_getElem hlj
      have ej := w64_nx (k := j) (by omega)
      have hbj := hb7 _ (List.getElem_mem hlj)
      rw [List.drop_eq_getElem_cons hlj] at hq
      generalize x.os[j] = l at hgj hbj hq
      rw [List.map_cons, addW_go hs3] at hq
      have ec := w64_add (a := t2) (b := l.length) (by omega)
      simp only [eE, eC, eN, reduceCtorEq, Nat.reduceEqDiff, ↓reduceIte, Nat.reduceAdd, Nat.reduceLeDiff, Int.reduceEq, Option.getD_some, Int.toNat_natCast, Int.natCast_nonneg, List.length_map, List.getElem?_map, hx9, lt_T hlj, hgj, ej, lt2T hs3, ec]
      exact .mk ⟨t2 + l.length, j + 1⟩ rfl ⟨hlj, by simp only []; omega, hq⟩ (by simp only []; omega)
    have hN2 : addW t1 (x.os.map (·.length)) = t2 := by
      rw [hq]
      by_cases q : t2 < 2000
      · rw [List.drop_eq_nil_of_le (by omega)]; rfl
      · exact addW_stop (by omega)
    have hb : (decide ((j : Int) < (x.os.length : Int)) && decide ((t2 : Int) < 2000)) = false := by simp; omega
    rw [hN2] at hs4
    simp only [eE, eC, eN, Nat.reduceEqDiff, ↓reduceIte, Nat.reduceAdd, Nat.reduceLeDiff, Int.reduceEq, List.length_map, hx9, hb, e]
    clear hb hlj hq hj hN2
    exact .mk ⟨t2, i4 + 1, H1, n + 7⟩ rfl ⟨hlt, t2b, hs4, hf1, by simp only []; omega, h01⟩ (by simp only []; omega)
  have hN1 : ruG s3 d.ruls = s4 := by
    rw [hs4]
    by_cases q : s4 < 2000
    · rw [List.drop_eq_nil_of_le (by omega)]; rfl
    · exact addG_stop (by omega)
  have hb : (decide ((i4 : Int) < (d.ruls.length : Int)) && decide ((s4 : Int) < 2000)) = false := by simp; omega
  rw [hN1] at hF
  have hR : few17 d = decide ((s4 : Int) < 2000) := by
    unfold few17
    rw [hF, Bool.eq_iff_iff, decide_eq_true_eq, decide_eq_true_eq]; omega
  rw [hR]
  simp only [eE, eC, eN, Nat.reduceEqDiff, ↓reduceIte, Nat.reduceAdd, List.length_map, hb, h0]
end Go.AM
end
section
set_option maxRecDepth 20000
set_option linter.all false
namespace Go.AM
open Go.Proofs Go.Lib
theorem p12 (a b : List Int) (ha : few a) : Pur Tryz.prog 12 [eIs a, eIs b] (.bool (decide (a = b))) := by
  refine .mk ⟨eIs_under 0 _, eIs_under 0 _, trivial⟩ trivial (a12 (ev_awp TabOK.tnil (ev_evK ?_)))
  have hal : a.length < 1000000000 := ha
  by_cases hl : a.length = b.length
  case neg =>
    have hR : decide (a = b) = false := decide_eq_false fun q => hl (by rw [q])
    have hq : ((a.length : Int) = (b.length : Int)) = False := eq_false (by omega)
    rw [hR]
    simp only [eE, eC, eN, reduceCtorEq, Nat.reduceEqDiff, ↓reduceIte, Nat.reduceAdd, Bool.not_false, List.length_map, c12, hq]
  have hq : ((a.length : Int) = (b.length : Int)) = True := eq_true (by omega)
  simp only [eE, eC, eN, reduceCtorEq, Nat.reduceEqDiff, ↓reduceIte, Nat.reduceAdd, Bool.not_true, List.length_map, c12, hq]
  refine k_loop (fun i : Nat => ⟨[(0, true, eIs a), (1, true, eIs b), (5, true, .int .i64 i)], hnil, 0⟩) (fun i => i ≤ a.length ∧ a.take i = b.take i) (fun i => a.length - i) 0 rfl ⟨Nat.zero_le _, rfl⟩ ?_
  rintro i ⟨hi, htk⟩
  by_cases hlt : i < a.length
  · have hltb : i < b.length := by omega
    have hg := List.getElem?_eq_getElem hlt
    have hgb := List.getElem?_eq_getElem hltb
    have e := w64_succ (k := i) (by omega)
    have ta : a.take (i + 1) = a.take i ++ [a[i]] := by rw [List.take_add_one, hg]; rfl
    have tb : b.take (i + 1) = b.take i ++ [b[i]] := by rw [List.take_add_one, hgb]; rfl
    generalize a[i] = x at hg ta
    generalize b[i] = y at hgb tb
    by_cases hxy : x = y
    · simp only [eE, eC, eN, reduceCtorEq, Nat.reduceEqDiff, ↓reduceIte, Int.reduceEq, Bool.not_true, Option.getD_some, Int.toNat_natCast, Int.natCast_nonneg, List.length_map, List.getElem?_map, lt_T hlt, lt_T hltb, hg, hgb, e, hxy]
      exact .mk (i + 1) rfl ⟨hlt, by rw [ta, tb, htk, hxy]⟩ (by omega)
    · have hR : decide (a = b) = false := decide_eq_false fun q => hxy (by rw [q] at hg; rw [hg] at hgb; exact Option.some.inj hgb)
      rw [hR]
      simp only [eE, eC, eN, reduceCtorEq, Nat.reduceEqDiff, ↓reduceIte, Bool.not_false, Option.getD_some, Int.toNat_natCast, Int.natCast_nonneg, List.length_map, List.getElem?_map, lt_T hlt, lt_T hltb, hg, hgb, dec_F hxy]
  obtain rfl : i = a.length := by omega
  have hR : decide (a = b) = true := decide_eq_true (by rw [List.take_length, hl, List.take_length] at htk; exact htk)
  rw [hR]
  simp only [eE, eC, eN, reduceCtorEq, Nat.reduceEqDiff, ↓reduceIte, List.length_map, lt_F hlt]
theorem p81 (r : DRul) : Pur Tryz.prog 81 [encRu r] (.bool (readR r)) := by
  refine .mk ⟨encRu_under 0 r, trivial⟩ trivial (a81 (ev_awp TabOK.tnil (ev_evK ?_)))
  simp only [eE, eC, eN, Nat.reduceEqDiff, ↓reduceIte, Nat.reduceAdd, Nat.reduceLeDiff, c81]
  rfl
def Tr7 : Tab := tadd 81 (s1 dRu any1 fun r => .bool (readR r)) tnil
theorem Tr7_ok : TabOK Tryz.prog Tr7 := TabOK.tnil.add (q1 fun r _ => p81 r)
theorem Tr7_e (a : List AVal) (H : AHeap) : Tr7 81 a H = s1 dRu any1 (fun r => .bool (readR r)) a H := rfl
structure IUr (d : Dcl) (v : VU) : Prop where
  hi : v.i ≤ d.ruls.length
  fr : Fresh v.H v.n
  hn : 2 ≤ v.n
  h0 : hget v.H 0 = some (.box (cellsD d))
  tok : tkG 1 1 v.H v.tk
  es : v.tk.esz = 1 ∨ unread (d.ruls.take v.i) = []
theorem p33 (d : Dcl) (hr : few d.ruls) : Pur Tryz.prog 33 [encD d] (eIs (unread d.ruls)) := by
  refine .mk ⟨encD_under 0 d, trivial⟩ (eIs_under 0 _) (a33 (ev_awp Tr7_ok (ev_evK ?_)))
  have hrl : d.ruls.length < 1000000000 := hr
  simp only [eE, eN, Nat.reduceEqDiff, ↓reduceIte, Nat.reduceAdd, c33]
  refine k_loop (fun v : VU => ⟨[(1, true, .ptr 0 0), (3, true, .sl v.tk ((unread (d.ruls.take v.i)).map eI)), (4, true, .int .i64 v.i)], v.H, v.n⟩) (IUr d) (fun v => d.ruls.length - v.i)
    ⟨0, .nil, hset hnil 0 (.box (cellsD d)), 2⟩ rfl ⟨Nat.zero_le _, Fresh.nil.hset (m := 2) (Nat.zero_le 2) (show 0 < 2 by decide), Nat.le_refl _, rfl, .inl rfl, .inr rfl⟩ ?_
  rintro ⟨i, tk, H, n⟩ ⟨hi, hfr, hn, h0, htk, hes⟩
  simp only at hi hfr hn h0 htk hes
  by_cases hlt : i < d.ruls.length
  · have hg := List.getElem?_eq_getElem hlt
    have e := w64_succ (k := i) (by omega)
    have hu := unread_take hlt
    have hul := unread_len (d.ruls.take i)
    rw [List.length_take] at hul
    generalize d.ruls[i] = r at hg hu
    cases hrr : readR r with
    | true =>
      rw [hrr, if_pos rfl, List.append_nil] at hu
      simp only [eE, eC, eN, Nat.reduceEqDiff, ↓reduceIte, Nat.reduceAdd, Int.reduceEq, Bool.not_true, Option.getD_some, Int.toNat_natCast, Int.natCast_nonneg, List.length_map, List.getElem?_map, lt_T hlt, hg, Tr7_e, s1, dRu_ok, dRu_dec, hrr, e, h0]
      refine .mk ⟨i + 1, tk, H, n⟩ ?_ ⟨hlt, hfr, hn, h0, htk, by simp only [hu]; exact hes⟩ (by simp only []; omega)
      simp only [hu]
    | false =>
      rw [hrr, if_neg (by decide)] at hu
      have q1 : appOK H 1 tk = True := eq_true htk.app
      have q2 : ((unread (d.ruls.take i)).length ≤ 35184372088831) = True := eq_true (by omega)
      have q3 : small ((unread (d.ruls.take i)).length + 1) 8 = True := eq_true (small_of (by omega) (by decide))
      simp only [eE, eC, eN, reduceCtorEq, Nat.reduceEqDiff, ↓reduceIte, Nat.reduceAdd, Nat.reduceLeDiff, Nat.reduceMul, Nat.reduceLT, Int.reduceEq, Bool.not_false, Option.getD_some, Int.toNat_natCast, Int.natCast_nonneg, List.length_map, List.getElem?_map, lt_T hlt, hg, fr1 hfr, Tr7_e, s1, dRu_ok, dRu_dec, hrr, e, h0, q1, q2, q3]
      refine .mk ⟨i + 1, .own (n + 3) 1, hset (killTok H tk) (n + 3) .tok, n + 5⟩ ?_ ⟨hlt, (kill_fresh htk hfr).hset (m := n + 5) (by omega) (by omega), by simp only []; omega, ?_, .inr (.inr ⟨n + 3, rfl, by omega, hget_hset_eq ..⟩), .inl rfl⟩ (by simp only []; omega)
      · simp only [hu, List.map_append]; rfl
      · simp only []
        rw [hget_hset_ne _ _ _ _ (by omega), kill_get htk (.inr ⟨_, h0⟩)]; exact h0
  obtain rfl : i = d.ruls.length := by omega
  rw [List.take_length] at hes
  simp only [eE, eC, eN, Nat.reduceEqDiff, ↓reduceIte, Nat.reduceAdd, List.length_map, lt_F hlt, List.take_length, h0]
  exact Wk.sl (hes.imp id fun q => by rw [q]; rfl)
end Go.AM
end
