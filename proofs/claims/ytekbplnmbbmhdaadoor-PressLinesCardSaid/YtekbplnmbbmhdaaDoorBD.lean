/-
  Booklets: the laws, part 8: reading the numbers of a line · Booklets: the laws, part 9: PressLines.
  Conditions: none beyond those of its parts.
-/
import Derived.Test.YtekbplnmbbmhdaaDoorB8
import Derived.Test.YtekbplnmbbmhdaaDoorBB

/- Booklets: the laws, part 8: reading the numbers of a line. Conditions: none. -/
section
set_option maxRecDepth 10000
set_option linter.unusedSimpArgs false
set_option linter.unusedVariables false
set_option maxHeartbeats 1000000
set_option linter.unusedVariables false
set_option linter.unusedSimpArgs false
namespace Go.AM
open Go.Proofs Go.Lib

/-! the plain law -/
abbrev M40 : Int := 1099511627776
def numStep (st : Bool × List Int) (c : UInt8) : Bool × List Int :=
  if c.toNat < 48 ∨ 57 < c.toNat then (false, st.2)
  else (true, (if st.1 = true then st.2 else st.2 ++ [0]).dropLast ++ [min (10 * (if st.1 = true then st.2 else st.2 ++ [0]).getLastD 0 + ((c.toNat : Int) - 48)) M40])
def numsL (s : List UInt8) : List Int := (s.foldl numStep (false, [])).2
theorem dig_val {d : Nat} (h : d < 10) : (UInt8.ofNat (48 + d)).toNat = 48 + d := by
  rw [UInt8.toNat_ofNat']; omega
theorem dec_fold : ∀ (u : Nat), u < 100000 → ∀ L, (decDigits u).foldl numStep (false, L) = (true, L ++ [(u : Int)]) := by
  intro u
  induction u using Nat.strongRecOn with
  | _ u ih =>
    intro hu L
    rw [decDigits]
    by_cases h : u < 10
    · rw [dif_pos h]
      have hv := dig_val h
      simp only [List.foldl_cons, List.foldl_nil, numStep, hv]
      rw [if_neg (by omega)]
      simp only [Bool.false_eq_true, if_false, List.dropLast_concat, List.getLastD_concat]
      congr 3
      show min _ (1099511627776 : Int) = _
      omega
    · rw [dif_neg h, List.foldl_append, ih (u / 10) (by omega) (by omega) L]
      have hv := dig_val (d := u % 10) (by omega)
      simp only [List.foldl_cons, List.foldl_nil, numStep, hv]
      rw [if_neg (by omega)]
      simp only [if_true, List.dropLast_concat, List.getLastD_concat]
      congr 3
      show min _ (1099511627776 : Int) = _
      omega
theorem sep_fold {c : UInt8} (h : c.toNat < 48 ∨ 57 < c.toNat) (b : Bool) (L : List Int) : [c].foldl numStep (b, L) = (false, L) := by
  simp only [List.foldl_cons, List.foldl_nil, numStep]
  rw [if_pos h]
theorem num_fold {v : Int} (h0 : 0 ≤ v) (h1 : v < 100000) (L : List Int) : (decI v).foldl numStep (false, L) = (true, L ++ [v]) := by
  unfold decI
  rw [dec_fold v.toNat (by omega) L, Int.toNat_of_nonneg h0]
def headL (p : Pap) : List UInt8 := decI p.W ++ [32] ++ decI p.H
def lineL (p : Pap) (l : List Blk) (x : Plc) : List UInt8 := (numsS p l x).flatMap numS ++ [chrK (blkN l x.B.toNat).K, 32] ++ decI (blkN l x.B.toNat).N
theorem head_eq (p : Pap) : headS p = headL p ++ [10] := by simp [headS, headL]
theorem line_eq (p : Pap) (l : List Blk) (x : Plc) : lineS p l x = lineL p l x ++ [10] := by simp [lineS, lineL]
theorem head_nums {p : Pap} (hW : 0 ≤ p.W ∧ p.W < 100000) (hH : 0 ≤ p.H ∧ p.H < 100000) : numsL (headL p) = [p.W, p.H] := by
  unfold numsL headL
  rw [List.foldl_append, List.foldl_append, num_fold hW.1 hW.2, sep_fold (by decide), num_fold hH.1 hH.2]
  rfl
theorem chrK_sep (k : Int) : (chrK k).toNat < 48 ∨ 57 < (chrK k).toNat := by
  unfold chrK
  repeat' split
  all_goals decide
theorem nums_fold : ∀ (vs : List Int), (∀ v ∈ vs, 0 ≤ v ∧ v < 100000) → ∀ L, (vs.flatMap numS).foldl numStep (false, L) = (false, L ++ vs)
  | [], _, L => by simp
  | v :: vs, h, L => by
    have hv := h v (by simp)
    rw [List.flatMap_cons, List.foldl_append]
    unfold numS
    rw [List.foldl_append, num_fold hv.1 hv.2, sep_fold (by decide)]
    have := nums_fold vs (fun w hw => h w (by simp [hw])) (L ++ [v])
    unfold numS at this
    rw [this, List.append_assoc]; rfl
theorem line_nums {p : Pap} {l : List Blk} {x : Plc} (h : ∀ v ∈ numsS p l x, 0 ≤ v ∧ v < 100000) (hN : 0 ≤ (blkN l x.B.toNat).N ∧ (blkN l x.B.toNat).N < 100000) :
    numsL (lineL p l x) = numsS p l x ++ [(blkN l x.B.toNat).N] := by
  unfold numsL lineL
  rw [List.foldl_append, List.foldl_append, nums_fold _ h]
  have : [chrK (blkN l x.B.toNat).K, 32] = [chrK (blkN l x.B.toNat).K] ++ [32] := rfl
  rw [this, List.foldl_append, sep_fold (chrK_sep _), sep_fold (by decide), num_fold hN.1 hN.2, List.nil_append]
theorem numStep_len (st : Bool × List Int) (c : UInt8) (h : st.1 = true → st.2 ≠ []) : (numStep st c).2.length ≤ st.2.length + 1 ∧ ((numStep st c).1 = true → (numStep st c).2 ≠ []) := by
  unfold numStep
  split
  · simp
  · refine ⟨?_, fun _ => by simp⟩
    split <;> simp <;> omega

/-! the function -/
def Vec (H : AHeap) (w : AVal) (L : List Int) : Prop :=
  (w = .sl .nil [] ∧ L = []) ∨ (L ≠ [] ∧ ∃ id cap rest, w = .ref id 1 0 L.length cap ∧ hget H id = some (.arr 1 (L.map (.int .i64) ++ rest)) ∧ L.length + rest.length = cap)
def fstA : ACode → ACode
  | .seq x _ => x
  | c => c
def bdyA : ACode → ACode
  | .block _ x => x
  | .loop x => x
  | c => c
def tl21 : ACode := sndA (sndN 3 (bdyA (fstA (sndA (bdyA (bdyA (sndA (fstA (sndN 2 c21)))))))))
/-- The list with its last number grown by a digit. -/
def grw (L : List Int) (c : UInt8) : List Int := L.dropLast ++ [min (10 * L.getLastD 0 + ((c.toNat : Int) - 48)) M40]
theorem getLastD_bd {L : List Int} (h : ∀ x ∈ L, 0 ≤ x ∧ x ≤ M40) : 0 ≤ L.getLastD 0 ∧ L.getLastD 0 ≤ 1099511627776 := by
  rcases L.eq_nil_or_concat with rfl | ⟨l, x, rfl⟩
  · exact ⟨Int.le_refl _, by decide⟩
  · rw [List.concat_eq_append] at h ⊢
    rw [List.getLastD_concat]
    exact h x (by simp)
theorem tail21 {T : Tab} {k : List Item} {Q : AExit → AS → Prop} {s : List UInt8} {c : UInt8} {i id cap n : Nat} {L : List Int} {rest : List AVal} {H : AHeap} (hL : L ≠ []) (hl : L.length ≤ 1000001) (hid : hget H id = some (.arr 1 (L.map (.int .i64) ++ rest))) (hb : ∀ x ∈ L, 0 ≤ x ∧ x ≤ M40)
    (h1 : 48 ≤ c.toNat) (h2 : c.toNat ≤ 57) (h : kont Tryd.prog T Q k .normal ⟨[(0, true, .str s), (2, true, .ref id 1 0 L.length cap), (3, true, .bool true), (4, true, .int .i64 i)], hset H id (.arr 1 ((grw L c).map (.int .i64) ++ rest)), n⟩) :
    evK Tryd.prog T tl21 k Q ⟨[(0, true, .str s), (2, true, .ref id 1 0 L.length cap), (3, true, .bool true), (4, true, .int .i64 i), (5, true, .int .u8 c.toNat)], H, n⟩ := by
  have hlen : 0 < L.length := List.length_pos_iff.2 hL
  have e1 : IntKind.wrap .i64 ((L.length : Int) - 1) = ((L.length - 1 : Nat) : Int) := by rw [w64_in (by omega) (by omega)]; omega
  have hlb := getLastD_bd hb
  have hlast : (L.map (AVal.int .i64) ++ rest)[L.length - 1]? = some (.int .i64 (L.getLastD 0)) := by
    rw [List.getElem?_append_left (by simp; omega), List.getElem?_map]
    have : L[L.length - 1]? = some (L.getLastD 0) := by
      rw [← List.getLast?_eq_getElem?, List.getLastD_eq_getLast?]
      cases hh : L.getLast? with
      | none => exact absurd (List.getLast?_eq_none_iff.1 hh) hL
      | some x => rfl
    rw [this]; rfl
  have e2 : IntKind.wrap .i64 (10 * L.getLastD 0) = 10 * L.getLastD 0 := w64_in (by omega) (by omega)
  have e3 : IntKind.wrap .u8 ((c.toNat : Int) - 48) = (c.toNat : Int) - 48 := by
    have : IntKind.wrap .u8 ((c.toNat : Int) - 48) = ((c.toNat : Int) - 48) % 256 := rfl
    rw [this]; omega
  have e4 : IntKind.wrap .i64 ((c.toNat : Int) - 48) = (c.toNat : Int) - 48 := w64_in (by omega) (by omega)
  have e5 : IntKind.wrap .i64 (10 * L.getLastD 0 + ((c.toNat : Int) - 48)) = 10 * L.getLastD 0 + ((c.toNat : Int) - 48) := w64_in (by omega) (by omega)
  have hset1 : (L.map (AVal.int .i64) ++ rest).set (L.length - 1) (AVal.int .i64 (min (10 * L.getLastD 0 + ((c.toNat : Int) - 48)) M40)) = (grw L c).map (AVal.int .i64) ++ rest := by
    rcases L.eq_nil_or_concat with rfl | ⟨l, x, rfl⟩
    · exact absurd rfl hL
    · rw [List.concat_eq_append]
      unfold grw
      rw [List.dropLast_concat, List.getLastD_concat]
      simp only [List.map_append, List.map_cons, List.map_nil, List.length_append, List.length_cons, List.length_nil, Nat.zero_add, Nat.add_sub_cancel, List.append_assoc]
      rw [List.set_append_right _ _ (by simp)]
      simp
  have c1 : (((L.length - 1 : Nat) : Int) < (L.length : Int)) = True := eq_true (by omega)
  have c2 : (L.length - 1 < (L.map (AVal.int .i64) ++ rest).length) = True := eq_true (by simp; omega)
  simp only [k_reg, r_nil, r_v, r_st, stE, eget, lk, lkv, oks, AS.put, AS.keep, evk, evMM_cons, allI, foldMM, Opk.opds, aload, isI, isInt, toI, mk, iarith, nT, AVal.cells, List.length_cons, List.length_nil, List.filterMap, Option.map_some, reduceCtorEq, true_and, Nat.reduceEqDiff, ↓reduceIte, Bool.false_eq_true, List.drop, List.take, List.take_succ_cons, Int.reduceEq, Nat.le_refl, List.headD_cons, isDiv, false_implies, implies_true, Nat.zero_add, ne_eq, not_false_eq_true, and_self, Nat.add_zero, tl21, fstA, bdyA, sndN, sndA, c21, e1, e2, e3, e4, e5, hid, hlast, hset1, c1, c2, Int.toNat_natCast, Option.getD_some, Int.natCast_nonneg]
  exact h
theorem grw_len {L : List Int} (h : L ≠ []) (c : UInt8) : (grw L c).length = L.length := by
  have : 0 < L.length := List.length_pos_iff.2 h
  simp [grw]; omega
structure V21 where
  i : Nat
  b : Bool
  L : List Int
  w : AVal
  H : AHeap
  n : Nat
structure I21 (s : List UInt8) (v : V21) : Prop where
  il : v.i ≤ s.length
  st : (v.b, v.L) = (s.take v.i).foldl numStep (false, [])
  vec : Vec v.H v.w v.L
  bl : v.b = true → v.L ≠ []
  ll : v.L.length ≤ v.i
  lb : ∀ x ∈ v.L, 0 ≤ x ∧ x ≤ M40
  fr : Fresh v.H v.n
theorem step21 {s : List UInt8} {v : V21} {c : UInt8} {id cap n1 : Nat} {L1 : List Int} {rest : List AVal} {H1 : AHeap} (hI : I21 s v) (hc : s[v.i]? = some c) (hd : 48 ≤ c.toNat ∧ c.toNat ≤ 57) (hL1 : L1 = if v.b = true then v.L else v.L ++ [0])
    (hcap : L1.length + rest.length = cap) (hid : hget H1 id = some (.arr 1 (L1.map (.int .i64) ++ rest))) (fr1 : Fresh H1 n1) (hn : id < n1) : L1 ≠ [] ∧ L1.length ≤ 1000000 + 1 ∧ (∀ x ∈ L1, 0 ≤ x ∧ x ≤ M40) ∨ 1000000 < s.length := by
  by_cases hs : 1000000 < s.length
  · exact .inr hs
  left
  obtain ⟨il, st, vec, bl, ll, lb, fr⟩ := hI
  subst hL1
  split
  · rename_i hb
    exact ⟨bl hb, by omega, lb⟩
  · refine ⟨by simp, by simp; omega, fun x hx => ?_⟩
    rcases List.mem_append.1 hx with hx | hx
    · exact lb x hx
    · rw [List.mem_singleton.1 hx]; exact ⟨Int.le_refl _, by decide⟩
theorem next21 {s : List UInt8} {v : V21} {c : UInt8} {id cap n1 : Nat} {L1 : List Int} {rest : List AVal} {H1 : AHeap} (hI : I21 s v) (hlt : v.i < s.length) (hc : s[v.i]? = some c) (hd : 48 ≤ c.toNat ∧ c.toNat ≤ 57) (hL1 : L1 = if v.b = true then v.L else v.L ++ [0]) (hne : L1 ≠ []) (hb1 : ∀ x ∈ L1, 0 ≤ x ∧ x ≤ M40)
    (hcap : L1.length + rest.length = cap) (hid : hget H1 id = some (.arr 1 (L1.map (.int .i64) ++ rest))) (fr1 : Fresh H1 n1) :
    I21 s ⟨v.i + 1, true, grw L1 c, .ref id 1 0 L1.length cap, hset H1 id (.arr 1 ((grw L1 c).map (.int .i64) ++ rest)), n1⟩ := by
  obtain ⟨il, st, vec, bl, ll, lb, fr⟩ := hI
  have hgl := grw_len hne c
  have hgn : grw L1 c ≠ [] := by unfold grw; simp
  have hlb := getLastD_bd hb1
  refine ⟨hlt, ?_, .inr ⟨hgn, id, cap, rest, by rw [hgl], hget_hset_eq .., by rw [hgl]; exact hcap⟩, fun _ => hgn, ?_, ?_, fr1.hset (Nat.le_refl _) (fr1.lt hid)⟩
  · have htk : s.take (v.i + 1) = s.take v.i ++ [c] := by rw [List.take_add_one, hc]; rfl
    simp only []
    rw [htk, List.foldl_append, ← st]
    simp only [List.foldl_cons, List.foldl_nil, numStep]
    rw [if_neg (by omega), ← hL1]; rfl
  · simp only [hgl]
    rw [hL1]
    split
    · omega
    · simp; omega
  · intro x hx
    simp only [] at hx
    unfold grw at hx
    rcases List.mem_append.1 hx with hx | hx
    · exact hb1 x (List.dropLast_subset L1 hx)
    · rw [List.mem_singleton.1 hx]
      show 0 ≤ min _ (1099511627776 : Int) ∧ min _ (1099511627776 : Int) ≤ 1099511627776
      omega
theorem p21 (s : List UInt8) (hs : s.length ≤ 1000000) : Pur Tryd.prog 21 [.str s] (.sl (.none 1) ((numsL s).map (.int .i64))) := by
  refine .mk ⟨trivial, trivial⟩ ⟨trivial, unders_map (fun x => by simp [AVal.under]) _⟩ (a21 (ev_awp TabOK.tnil (ev_evK ?_)))
  simp only [kont_n, k_seq, k_block, k_reg, r_nil, r_v, penv, eget, lk, lkv, oks, AS.put, AS.keep, evk, Opk.opds, List.filterMap, Option.map_some, reduceCtorEq, true_and, Nat.reduceEqDiff, ↓reduceIte, and_self, Nat.add_zero, c21]
  refine k_loop (fun v : V21 => ⟨[(0, true, .str s), (2, true, v.w), (3, true, .bool v.b), (4, true, .int .i64 v.i)], v.H, v.n⟩) (I21 s) (fun v => s.length - v.i) ⟨0, false, [], .sl .nil [], hnil, 0⟩ rfl
    ⟨Nat.zero_le _, rfl, .inl ⟨rfl, rfl⟩, by simp, Nat.le_refl _, by simp, Fresh.nil⟩ ?_
  rintro ⟨i, b, L, w, H, n⟩ ⟨il, st, vec, bl, ll, lb, fr⟩
  simp only at il st vec bl ll lb fr
  have fr' : ∀ id, n ≤ id → hget H id = none := fr
  by_cases hlt : i < s.length
  case neg =>
    have hi : i = s.length := by omega
    subst hi
    rw [List.take_length] at st
    have hL : numsL s = L := by unfold numsL; rw [← st]
    rcases vec with ⟨rfl, rfl⟩ | ⟨hne, id, cap, rest, rfl, hid, hcap⟩
    · simp only [kont_nil, kont_n, kont_e, kont_bn, kont_be, k_skip, k_exit, k_ret, k_seq, k_block, k_cond, k_reg, k_frzo, r_appR, r_nil, r_v, r_vg, r_pick, r_st, stE, frzoE, lpQ_n, lpQ_e, postC, rcs, rc1, rvS, gok, gvb, eget, lk, lkv, oks, AS.put, AS.keep, evk, evMM_cons, allI, foldMM, evS_eq, allS, fillS, Opk.opds, aload, isI, isInt, toI, isB, toB, isS, toS, sel, mk, icmp, iarith, nT, AVal.cells, Tok.esz, List.length_cons, List.length_nil, List.filterMap, List.map_cons, List.map_nil, Option.map_some, reduceCtorEq, and_true, true_and, forall_const, Nat.reduceEqDiff, ↓reduceIte, Bool.false_eq_true, Nat.reduceLeDiff, Nat.reduceMul, Nat.reduceLT, Int.reduceEq, List.set_cons_zero, List.replicate_succ, List.replicate_zero, Bool.true_and, isDiv, false_implies, implies_true, Nat.zero_add, Bool.cond_true_left, imp_self, beq_false, Bool.not_eq_true', Bool.not_eq_false', Bool.or_eq_true, Bool.or_eq_false_iff, decide_eq_true_eq, decide_eq_false_iff_not, ne_eq, not_false_eq_true, and_self, or_false, ret_eq, Nat.add_zero, srcOf, decide_false, Int.ofNat_lt, hlt]
      rw [hL]
      exact Wk.sl (.inr rfl)
    · have h1 : L.length + rest.length = cap := hcap
      have h2 : L.length ≤ cap := by omega
      simp only [kont_nil, kont_n, kont_e, kont_bn, kont_be, k_skip, k_exit, k_ret, k_seq, k_block, k_cond, k_reg, k_frzo, r_appR, r_nil, r_v, r_vg, r_pick, r_st, stE, frzoE, lpQ_n, lpQ_e, postC, rcs, rc1, rvS, gok, gvb, eget, lk, lkv, oks, AS.put, AS.keep, evk, evMM_cons, allI, foldMM, evS_eq, allS, fillS, Opk.opds, aload, isI, isInt, toI, isB, toB, isS, toS, sel, mk, icmp, iarith, nT, AVal.cells, Tok.esz, List.length_cons, List.length_nil, List.filterMap, List.map_cons, List.map_nil, Option.map_some, reduceCtorEq, and_true, true_and, forall_const, Nat.reduceEqDiff, ↓reduceIte, Bool.false_eq_true, List.drop, Nat.reduceLeDiff, Nat.reduceMul, Nat.reduceLT, Int.reduceEq, List.set_cons_zero, List.replicate_succ, List.replicate_zero, Nat.le_refl, Bool.true_and, isDiv, false_implies, implies_true, Nat.zero_add, Bool.cond_true_left, imp_self, beq_false, Bool.not_eq_true', Bool.not_eq_false', Bool.or_eq_true, Bool.or_eq_false_iff, decide_eq_true_eq, decide_eq_false_iff_not, ne_eq, not_false_eq_true, and_self, or_false, ret_eq, Nat.add_zero, srcOf, decide_false, Int.ofNat_lt, hlt, hid, h1, h2, List.length_map, List.length_append, List.take_left']
      rw [hL]
      exact Wk.sl (.inl rfl)
  obtain ⟨c, hc⟩ : ∃ c, s[i]? = some c := ⟨_, List.getElem?_eq_getElem hlt⟩
  have htk : s.take (i + 1) = s.take i ++ [c] := by rw [List.take_add_one, hc]; rfl
  have hst : (s.take (i + 1)).foldl numStep (false, []) = numStep (b, L) c := by rw [htk, List.foldl_append, ← st]; rfl
  have e := w64_succ (k := i) (by omega)
  by_cases hd : c.toNat < 48 ∨ 57 < c.toNat
  · have hns : numStep (b, L) c = (false, L) := by unfold numStep; rw [if_pos hd]
    have fin : I21 s ⟨i + 1, false, L, w, H, n⟩ := ⟨hlt, by rw [hst, hns], vec, by simp, by simp only []; omega, lb, fr⟩
    have hd' : ((c.toNat : Int) < 48) ∨ ((57 : Int) < c.toNat) := by omega
    by_cases h1 : (c.toNat : Int) < 48
    · have h1' : ((c.toNat : Int) < 48) = True := eq_true h1
      simp only [kont_nil, kont_n, kont_e, kont_bn, kont_be, k_skip, k_exit, k_ret, k_seq, k_block, k_cond, k_reg, k_frzo, r_appR, r_nil, r_v, r_vg, r_pick, r_st, stE, frzoE, lpQ_n, lpQ_e, postC, rcs, rc1, rvS, gok, gvb, eget, lk, lkv, oks, AS.put, AS.keep, evk, evMM_cons, allI, foldMM, evS_eq, allS, fillS, splice, Opk.opds, aload, isI, isInt, toI, isB, toB, isS, toS, sel, mk, icmp, iarith, nT, AVal.cells, Tok.esz, List.length_cons, List.length_nil, List.filterMap, List.map_cons, List.map_nil, Option.map_some, reduceCtorEq, and_true, true_and, forall_const, Nat.reduceEqDiff, ↓reduceIte, Bool.false_eq_true, Nat.reduceLeDiff, Nat.reduceMul, Nat.reduceLT, Int.reduceEq, List.set_cons_zero, List.replicate_succ, List.replicate_zero, Bool.true_and, isDiv, false_implies, implies_true, Nat.zero_add, imp_self, beq_false, Bool.not_eq_true', Bool.not_eq_false', ne_eq, not_false_eq_true, and_self, or_false, ret_eq, Nat.add_zero, srcOf, decide_true, cond_true, Int.ofNat_lt, hlt, hc, h1', e, Int.toNat_natCast, Option.getD_some, Int.natCast_nonneg]
      exact .mk ⟨i + 1, false, L, w, H, n⟩ rfl fin (by simp only []; omega)
    · have h1' : ((c.toNat : Int) < 48) = False := eq_false h1
      have h2' : ((57 : Int) < c.toNat) = True := eq_true (hd'.resolve_left h1)
      simp only [kont_nil, kont_n, kont_e, kont_bn, kont_be, k_skip, k_exit, k_ret, k_seq, k_block, k_cond, k_reg, k_frzo, r_appR, r_nil, r_v, r_vg, r_pick, r_st, stE, frzoE, lpQ_n, lpQ_e, postC, rcs, rc1, rvS, gok, gvb, eget, lk, lkv, oks, AS.put, AS.keep, evk, evMM_cons, allI, foldMM, evS_eq, allS, fillS, splice, Opk.opds, aload, isI, isInt, toI, isB, toB, isS, toS, sel, mk, icmp, iarith, nT, AVal.cells, Tok.esz, List.length_cons, List.length_nil, List.filterMap, List.map_cons, List.map_nil, Option.map_some, reduceCtorEq, and_true, true_and, forall_const, Nat.reduceEqDiff, ↓reduceIte, Bool.false_eq_true, Nat.reduceLeDiff, Nat.reduceMul, Nat.reduceLT, Int.reduceEq, List.set_cons_zero, List.replicate_succ, List.replicate_zero, Bool.and_true, beq_self_eq_true, isDiv, false_implies, implies_true, Nat.zero_add, Bool.not_eq_true', Bool.not_eq_false', ne_eq, not_false_eq_true, and_self, or_false, ret_eq, Nat.add_zero, srcOf, decide_true, decide_false, cond_false, Int.ofNat_lt, hlt, hc, h1', h2', e, Int.toNat_natCast, Option.getD_some, Int.natCast_nonneg]
      exact .mk ⟨i + 1, false, L, w, H, n⟩ rfl fin (by simp only []; omega)
  have hdg : 48 ≤ c.toNat ∧ c.toNat ≤ 57 := by omega
  have h1' : ((c.toNat : Int) < 48) = False := eq_false (by omega)
  have h2' : ((57 : Int) < c.toNat) = False := eq_false (by omega)
  have hI : I21 s ⟨i, b, L, w, H, n⟩ := ⟨il, st, vec, bl, ll, lb, fr⟩
  cases b with
  | true =>
    rcases vec with ⟨rfl, rfl⟩ | ⟨hne, id, cap, rest, rfl, hid, hcap⟩
    · exact absurd rfl (bl rfl)
    have hN := next21 (L1 := L) hI hlt hc hdg rfl hne lb hcap hid fr
    simp only [k_seq, k_reg, r_nil, r_v, eget, lk, lkv, oks, AS.put, AS.keep, evk, Opk.opds, isI, toI, isS, toS, icmp, List.filterMap, Option.map_some, reduceCtorEq, true_and, Nat.reduceEqDiff, ↓reduceIte, and_self, Nat.add_zero, decide_true, Int.ofNat_lt, hlt]
    iterate 7 (rw [kont_n]; simp only [kont_nil, kont_e, kont_be, k_skip, k_exit, k_seq, k_block, k_cond, k_reg, r_appR, r_nil, r_v, r_vg, r_pick, lpQ_e, gok, gvb, eget, lk, lkv, oks, AS.put, AS.keep, evk, evS_eq, allS, fillS, Opk.opds, isI, isInt, toI, isB, toB, isS, toS, sel, icmp, nT, AVal.cells, Tok.esz, List.length_cons, List.length_nil, List.filterMap, List.map_cons, List.map_nil, Option.map_some, reduceCtorEq, and_true, true_and, forall_const, Nat.reduceEqDiff, ↓reduceIte, Bool.false_eq_true, Nat.reduceLeDiff, Nat.reduceMul, Nat.reduceLT, List.set_cons_zero, List.replicate_succ, List.replicate_zero, Bool.and_true, beq_self_eq_true, false_implies, implies_true, Nat.zero_add, Bool.not_eq_true', Bool.not_eq_false', and_self, or_false, Nat.add_zero, srcOf, decide_false, cond_false, Int.ofNat_lt, hlt, hc, h1', h2', Int.toNat_natCast, Option.getD_some, Int.natCast_nonneg])
    rw [kont_n]
    refine tail21 hne (by omega) hid lb hdg.1 hdg.2 ?_
    simp only [kont_nil, kont_n, kont_bn, k_reg, r_nil, r_v, lpQ_n, eget, lk, lkv, oks, AS.put, AS.keep, evk, Opk.opds, isI, toI, iarith, List.filterMap, Option.map_some, reduceCtorEq, true_and, Nat.reduceEqDiff, ↓reduceIte, Bool.false_eq_true, Int.reduceEq, isDiv, implies_true, ne_eq, not_false_eq_true, and_self, Nat.add_zero, e]
    exact .mk _ rfl hN (by simp only []; omega)
  | false =>
    rcases vec with ⟨rfl, rfl⟩ | ⟨hne, id, cap, rest, rfl, hid, hcap⟩
    · simp only [k_seq, k_reg, r_nil, r_v, eget, lk, lkv, oks, AS.put, AS.keep, evk, Opk.opds, isI, toI, isS, toS, icmp, List.filterMap, Option.map_some, reduceCtorEq, true_and, Nat.reduceEqDiff, ↓reduceIte, and_self, Nat.add_zero, decide_true, Int.ofNat_lt, hlt]
      iterate 5 (rw [kont_n]; simp only [kont_nil, kont_e, kont_be, k_skip, k_exit, k_seq, k_block, k_cond, k_reg, r_nil, r_v, r_vg, r_pick, lpQ_e, gok, gvb, eget, lk, lkv, oks, AS.put, AS.keep, evk, Opk.opds, isI, isInt, toI, isB, toB, isS, toS, sel, icmp, List.filterMap, Option.map_some, reduceCtorEq, and_true, true_and, forall_const, Nat.reduceEqDiff, ↓reduceIte, Bool.false_eq_true, Bool.and_true, beq_self_eq_true, false_implies, implies_true, and_self, Nat.add_zero, decide_false, cond_false, Int.ofNat_lt, hlt, hc, h1', h2', Int.toNat_natCast, Option.getD_some, Int.natCast_nonneg])
      rw [kont_n]
      simp only [k_skip, k_cond, k_reg, r_appR, r_v, eget, lk, lkv, oks, AS.put, evk, evS_eq, allS, fillS, Opk.opds, isB, toB, nT, AVal.cells, Tok.esz, List.length_cons, List.length_nil, List.map_cons, List.map_nil, List.nil_append, List.cons_append, reduceCtorEq, and_true, true_and, forall_const, Nat.reduceEqDiff, ↓reduceIte, Bool.false_eq_true, Nat.reduceLeDiff, Nat.reduceMul, Nat.reduceLT, List.set_cons_zero, List.replicate_succ, List.replicate_zero, false_implies, Nat.zero_add, Bool.not_eq_true', Bool.not_eq_false', ne_eq, not_false_eq_true, and_self, or_false, Nat.le_add_right, srcOf, fr', appRK_sl, small]
      intro cap hcap
      simp only [r_nil, r_v, eget, lk, lkv, oks, AS.put, AS.keep, evk, Opk.opds, List.filterMap, Option.map_some, reduceCtorEq, true_and, Nat.reduceEqDiff, ↓reduceIte, and_self, afterR]
      rw [kont_n]
      simp only [k_seq, k_reg, r_nil, r_v, eget, lk, lkv, oks, AS.put, AS.keep, evk, Opk.opds, List.filterMap, Option.map_some, reduceCtorEq, true_and, Nat.reduceEqDiff, ↓reduceIte, and_self, Nat.add_zero]
      rw [kont_n]
      have frn : Fresh (hset H (n + 2) (.arr 1 ([(0 : Int)].map (.int .i64) ++ List.replicate (cap - 1) (.int .i64 0)))) (n + 4) := fr.hset (by omega) (by omega)
      refine tail21 (L := [0]) (id := n + 2) (rest := List.replicate (cap - 1) (.int .i64 0)) (by simp) (by simp) (hget_hset_eq ..) (by simp) hdg.1 hdg.2 ?_
      simp only [kont_nil, kont_n, kont_bn, k_reg, r_nil, r_v, lpQ_n, eget, lk, lkv, oks, AS.put, AS.keep, evk, Opk.opds, isI, toI, iarith, List.length_cons, List.length_nil, List.filterMap, Option.map_some, reduceCtorEq, true_and, Nat.reduceEqDiff, ↓reduceIte, Bool.false_eq_true, Int.reduceEq, isDiv, implies_true, Nat.zero_add, ne_eq, not_false_eq_true, and_self, Nat.add_zero, e]
      exact .mk _ rfl (next21 (L1 := [0]) hI hlt hc hdg rfl (by simp) (by simp) (by simp; omega) (hget_hset_eq ..) frn) (by simp only []; omega)
    · have hcap' : (List.map (AVal.int .i64) L).length + rest.length = cap := by simpa using hcap
      simp only [k_seq, k_reg, r_nil, r_v, eget, lk, lkv, oks, AS.put, AS.keep, evk, Opk.opds, isI, toI, isS, toS, icmp, List.filterMap, Option.map_some, reduceCtorEq, true_and, Nat.reduceEqDiff, ↓reduceIte, and_self, Nat.add_zero, decide_true, Int.ofNat_lt, hlt]
      iterate 5 (rw [kont_n]; simp only [kont_nil, kont_e, kont_be, k_skip, k_exit, k_seq, k_block, k_cond, k_reg, r_nil, r_v, r_vg, r_pick, lpQ_e, gok, gvb, eget, lk, lkv, oks, AS.put, AS.keep, evk, Opk.opds, isI, isInt, toI, isB, toB, isS, toS, sel, icmp, List.filterMap, Option.map_some, reduceCtorEq, and_true, true_and, forall_const, Nat.reduceEqDiff, ↓reduceIte, Bool.false_eq_true, Bool.and_true, beq_self_eq_true, false_implies, implies_true, and_self, Nat.add_zero, decide_false, cond_false, Int.ofNat_lt, hlt, hc, h1', h2', Int.toNat_natCast, Option.getD_some, Int.natCast_nonneg])
      rw [kont_n]
      simp only [k_skip, k_cond, k_reg, r_appR, r_v, eget, lk, lkv, oks, AS.put, evk, evS_eq, allS, fillS, Opk.opds, isB, toB, nT, AVal.cells, Tok.esz, List.length_cons, List.length_nil, List.map_cons, List.map_nil, reduceCtorEq, and_true, true_and, forall_const, Nat.reduceEqDiff, ↓reduceIte, Bool.false_eq_true, Nat.reduceLeDiff, Nat.reduceMul, Nat.reduceLT, List.set_cons_zero, List.replicate_succ, List.replicate_zero, false_implies, Nat.zero_add, Bool.not_eq_true', Bool.not_eq_false', and_self, or_false, Nat.le_add_right, srcOf, fr', appRK_ref hid, small]
      have ht : List.take L.length (List.map (AVal.int .i64) L ++ rest) = List.map (AVal.int .i64) L := by
        rw [List.take_append_of_le_length (by simp), List.take_of_length_le (by simp)]
      have hdp : List.drop (L.length + 1) (List.map (AVal.int .i64) L ++ rest) = rest.drop 1 := by
        rw [List.drop_append, List.drop_eq_nil_of_le (by simp)]; simp
      have hl1 : (L ++ [0]).length = L.length + 1 := by simp
      have hm1 : List.map (AVal.int .i64) L ++ [.int .i64 0] = (L ++ [0]).map (AVal.int .i64) := by simp
      have lb1 : ∀ x ∈ L ++ [0], 0 ≤ x ∧ x ≤ M40 := fun x hx => by
        rcases List.mem_append.1 hx with hx | hx
        · exact lb x hx
        · rw [List.mem_singleton.1 hx]; exact ⟨Int.le_refl _, by decide⟩
      refine ⟨by omega, by omega, by simpa using hcap, by omega, fun hr => ?_, fun hr cap' hcp => ?_⟩
      · simp only [r_nil, r_v, eget, lk, lkv, oks, AS.put, AS.keep, evk, Opk.opds, List.filterMap, Option.map_some, reduceCtorEq, true_and, Nat.reduceEqDiff, ↓reduceIte, and_self, afterR]
        rw [kont_n]
        simp only [k_seq, k_reg, r_nil, r_v, eget, lk, lkv, oks, AS.put, AS.keep, evk, Opk.opds, List.filterMap, Option.map_some, reduceCtorEq, true_and, Nat.reduceEqDiff, ↓reduceIte, and_self, Nat.add_zero]
        rw [kont_n, ht, hdp, hm1, ← hl1]
        have frn : Fresh (hset H id (.arr 1 ((L ++ [0]).map (.int .i64) ++ rest.drop 1))) (n + 4) := fr.hset (by omega) (by have := fr.lt hid; omega)
        refine tail21 (L := L ++ [0]) (rest := rest.drop 1) (by simp) (by simp; omega) (hget_hset_eq ..) lb1 hdg.1 hdg.2 ?_
        simp only [kont_nil, kont_n, kont_bn, k_reg, r_nil, r_v, lpQ_n, eget, lk, lkv, oks, AS.put, AS.keep, evk, Opk.opds, isI, toI, iarith, List.filterMap, Option.map_some, reduceCtorEq, true_and, Nat.reduceEqDiff, ↓reduceIte, Bool.false_eq_true, Int.reduceEq, isDiv, implies_true, ne_eq, not_false_eq_true, and_self, Nat.add_zero, e]
        exact .mk _ rfl (next21 (L1 := L ++ [0]) hI hlt hc hdg rfl (by simp) lb1 (by simp; omega) (hget_hset_eq ..) frn) (by simp only []; omega)
      · simp only [r_nil, r_v, eget, lk, lkv, oks, AS.put, AS.keep, evk, Opk.opds, List.filterMap, Option.map_some, reduceCtorEq, true_and, Nat.reduceEqDiff, ↓reduceIte, and_self, afterR]
        rw [kont_n]
        simp only [k_seq, k_reg, r_nil, r_v, eget, lk, lkv, oks, AS.put, AS.keep, evk, Opk.opds, List.filterMap, Option.map_some, reduceCtorEq, true_and, Nat.reduceEqDiff, ↓reduceIte, and_self, Nat.add_zero]
        rw [kont_n, ht, hm1, ← hl1]
        have frn : Fresh (hset H (n + 2) (.arr 1 ((L ++ [0]).map (.int .i64) ++ List.replicate (cap' - (L ++ [0]).length) (.int .i64 0)))) (n + 4) := fr.hset (by omega) (by omega)
        refine tail21 (L := L ++ [0]) (rest := List.replicate (cap' - (L ++ [0]).length) (.int .i64 0)) (by simp) (by simp; omega) (hget_hset_eq ..) lb1 hdg.1 hdg.2 ?_
        simp only [kont_nil, kont_n, kont_bn, k_reg, r_nil, r_v, lpQ_n, eget, lk, lkv, oks, AS.put, AS.keep, evk, Opk.opds, isI, toI, iarith, List.filterMap, Option.map_some, reduceCtorEq, true_and, Nat.reduceEqDiff, ↓reduceIte, Bool.false_eq_true, Int.reduceEq, isDiv, implies_true, ne_eq, not_false_eq_true, and_self, Nat.add_zero, e]
        exact .mk _ rfl (next21 (L1 := L ++ [0]) hI hlt hc hdg rfl (by simp) lb1 (by simp; omega) (hget_hset_eq ..) frn) (by simp only []; omega)

end Go.AM
end

/- Booklets: the laws, part 9: PressLines. Conditions: none. -/
section
set_option maxRecDepth 10000
set_option linter.unusedSimpArgs false
set_option linter.unusedVariables false
set_option maxHeartbeats 1000000
set_option linter.unusedVariables false
set_option linter.unusedSimpArgs false
namespace Go.AM
open Go.Proofs Go.Lib

def s21 : List AVal → AHeap → Prop × AVal := fun a _ => match a with
  | [.str s] => (s.length ≤ 1000000, .sl (.none 1) ((numsL s).map (.int .i64)))
  | _ => (False, .tup [])
theorem q21 : ∀ args H n, (s21 args H).1 → Quiet Tryd.prog 21 args H n (s21 args H).2 := by
  intro args H n h
  unfold s21 at h ⊢
  split at h
  · exact (p21 _ h).quiet H n
  · exact h.elim
def T26 : Tab := tadd 21 s21 T20
theorem T26_ok : TabOK Tryd.prog T26 := T20_ok.add q21
theorem T26_10 (a : List AVal) (H : AHeap) : T26 10 a H = s10 a H := rfl
theorem T26_11 (a : List AVal) (H : AHeap) : T26 11 a H = s11 a H := rfl
theorem T26_15 (a : List AVal) (H : AHeap) : T26 15 a H = s15 a H := rfl
theorem T26_21 (a : List AVal) (H : AHeap) : T26 21 a H = s21 a H := rfl

/-! lines -/
abbrev nlc (s : List UInt8) : List UInt8 := s ++ [10]
def off (LS : List (List UInt8)) (k : Nat) : Nat := ((LS.take k).flatMap nlc).length
theorem off_succ {LS : List (List UInt8)} {k : Nat} {s : List UInt8} (h : LS[k]? = some s) : off LS (k + 1) = off LS k + s.length + 1 := by
  unfold off
  rw [List.take_add_one, h]
  simp only [Option.toList, List.flatMap_append, List.length_append, List.flatMap_cons, List.flatMap_nil, List.append_nil, List.length_cons, List.length_nil]
  omega
theorem off_split {LS : List (List UInt8)} {k : Nat} {s : List UInt8} (h : LS[k]? = some s) : ∃ r, LS.flatMap nlc = (LS.take k).flatMap nlc ++ (s ++ [10] ++ r) := by
  have hk := (List.getElem?_eq_some_iff.1 h).1
  have e : LS = LS.take k ++ (s :: LS.drop (k + 1)) := by
    have := (List.take_append_drop k LS).symm
    rw [List.drop_eq_getElem_cons hk] at this
    have hs : LS[k] = s := by rw [List.getElem?_eq_getElem hk] at h; exact Option.some.inj h
    rw [hs] at this; exact this
  refine ⟨(LS.drop (k + 1)).flatMap nlc, ?_⟩
  conv => lhs; rw [e]
  rw [List.flatMap_append, List.flatMap_cons]
theorem off_get {LS : List (List UInt8)} {k j : Nat} {s : List UInt8} (h : LS[k]? = some s) (hj : j < s.length) : (LS.flatMap nlc)[off LS k + j]? = s[j]? := by
  obtain ⟨r, e⟩ := off_split h
  rw [e]
  unfold off
  rw [List.getElem?_append_right (Nat.le_add_right _ _), Nat.add_sub_cancel_left, List.append_assoc, List.getElem?_append_left hj]
theorem off_end {LS : List (List UInt8)} {k : Nat} {s : List UInt8} (h : LS[k]? = some s) : (LS.flatMap nlc)[off LS k + s.length]? = some 10 := by
  obtain ⟨r, e⟩ := off_split h
  rw [e]
  unfold off
  rw [List.getElem?_append_right (Nat.le_add_right _ _), Nat.add_sub_cancel_left, List.append_assoc, List.getElem?_append_right (Nat.le_refl _), Nat.sub_self]
  rfl
theorem off_all (LS : List (List UInt8)) : off LS LS.length = (LS.flatMap nlc).length := by unfold off; rw [List.take_length]

theorem dec_asc {S : List UInt8} {pos : Nat} {c : UInt8} (h : S[pos]? = some c) (ha : c.toNat < 128) : Utf8.decode ⟨S.toArray⟩ pos = (c.toNat, 1) := by
  have hp := (List.getElem?_eq_some_iff.1 h).1
  have hs : pos < (⟨S.toArray⟩ : ByteArray).size := by show pos < S.toArray.size; simpa using hp
  have hg : (⟨S.toArray⟩ : ByteArray)[pos]'hs = c := by
    show S.toArray[pos]'_ = c
    have := (List.getElem?_eq_some_iff.1 h).2
    simpa using this
  rw [decode_ascii _ pos hs (by rw [hg]; exact ha), hg]
theorem enc_asc {c : UInt8} (ha : c.toNat < 128) : (Utf8.encode (c.toNat : Nat)).data.toList = [c] := by
  have hv : Utf8.valid (c.toNat : Int) = true := by simp [Utf8.valid]; omega
  unfold Utf8.encode
  simp only [hv, if_true, Int.toNat_natCast]
  rw [if_pos ha]
  simp
theorem map_e8 (bs : List UInt8) : List.map (fun v => UInt8.ofNat (toI v).toNat) (List.map e8 bs) = bs := by
  rw [List.map_map]
  conv => rhs; rw [← List.map_id bs]
  refine List.map_congr_left fun b _ => ?_
  simp [toI]
def linesL (p : Pap) (l : List Blk) : List (List UInt8) := headL p :: (layS p l).1.map (lineL p l)
theorem print_lines {p : Pap} {l : List Blk} (hc : checkS p l = 0) : (printS p l).1 = (linesL p l).flatMap nlc := by
  unfold printS
  rw [if_pos hc]
  unfold linesL
  have e : lineS p l = fun a => nlc (lineL p l a) := by funext a; exact line_eq p l a
  rw [List.flatMap_cons, List.flatMap_map, head_eq, e]
theorem dec_chars : ∀ (u : Nat), ∀ c ∈ decDigits u, 48 ≤ c.toNat ∧ c.toNat ≤ 57 := by
  intro u
  induction u using Nat.strongRecOn with
  | _ u ih =>
    intro c hc
    rw [decDigits] at hc
    by_cases h : u < 10
    · rw [dif_pos h, List.mem_singleton] at hc
      rw [hc, dig_val h]; omega
    · rw [dif_neg h] at hc
      rcases List.mem_append.1 hc with hc | hc
      · exact ih (u / 10) (by omega) c hc
      · rw [List.mem_singleton.1 hc, dig_val (by omega)]; omega
def okc (c : UInt8) : Prop := c.toNat < 128 ∧ c.toNat ≠ 10
theorem decI_ok (v : Int) : ∀ c ∈ decI v, okc c := fun c hc => by have := dec_chars _ c hc; exact ⟨by omega, by omega⟩
theorem okc_app {a b : List UInt8} (h1 : ∀ c ∈ a, okc c) (h2 : ∀ c ∈ b, okc c) : ∀ c ∈ a ++ b, okc c := fun c hc => (List.mem_append.1 hc).elim (h1 c) (h2 c)
theorem okc_32 : ∀ c ∈ ([32] : List UInt8), okc c := by intro c hc; rw [List.mem_singleton.1 hc]; exact ⟨by decide, by decide⟩
theorem okc_K (k : Int) : okc (chrK k) := by unfold chrK okc; repeat' split
                                             all_goals decide
theorem okc_nums : ∀ vs : List Int, ∀ c ∈ vs.flatMap numS, okc c
  | [], c, hc => by simp at hc
  | v :: vs, c, hc => by
    rw [List.flatMap_cons] at hc
    exact okc_app (okc_app (decI_ok v) okc_32) (okc_nums vs) c hc
structure LOKs (p : Pap) (l : List Blk) (X : List Plc) (LS : List (List UInt8)) : Prop where
  len : LS.length = X.length + 1
  ok : ∀ (k : Nat) (s : List UInt8), LS[k]? = some s → (∀ c ∈ s, okc c) ∧ s.length ≤ 100
  l0 : ∃ s : List UInt8, LS[0]? = some s ∧ numsL s = [p.W, p.H]
  ls : ∀ k (h : k < X.length), ∃ s : List UInt8, LS[k + 1]? = some s ∧ numsL s = [X[k].P, X[k].X, X[k].Y, (blkN l X[k].B.toNat).W * p.C, (blkN l X[k].B.toNat).H * p.C, (blkN l X[k].B.toNat).N]
  bl : ∀ k (h : k < X.length), 0 ≤ X[k].B ∧ X[k].B.toNat < l.length
  wb : ∀ k (h : k < X.length), 0 ≤ (blkN l X[k].B.toNat).W * p.C ∧ (blkN l X[k].B.toNat).W * p.C ≤ 65536 ∧ 0 ≤ (blkN l X[k].B.toNat).H * p.C ∧ (blkN l X[k].B.toNat).H * p.C ≤ 65536
  xl : X.length ≤ 64
theorem lines_ok {p : Pap} {l : List Blk} (hc : checkS p l = 0) : LOKs p l (layS p l).1 (linesL p l) := by
  obtain ⟨hl, hg, hfit⟩ := check_ok hc
  have hg' := (good_iff p).1 hg
  have hpg := layS_pg hc
  have hlen := layS_len hc
  generalize hX : (layS p l).1 = X at hpg hlen
  have hLS : linesL p l = headL p :: X.map (lineL p l) := by unfold linesL; rw [hX]
  have hfb : ∀ k (h : k < X.length), FB p (blkN l X[k].B.toNat) := fun k h => by
    have := (hpg _ (List.getElem_mem h)).b1
    rw [blkN_get this]; exact FB.of hg (hfit _ this)
  have d1 := decI_len (v := p.W) (by omega) (by omega)
  have d2 := decI_len (v := p.H) (by omega) (by omega)
  have hk1 : ∀ k (h : k < X.length), (linesL p l)[k + 1]? = some (lineL p l X[k]) := fun k h => by rw [hLS, List.getElem?_cons_succ, List.getElem?_map, List.getElem?_eq_getElem h]; rfl
  have hvs : ∀ k (h : k < X.length), ∀ v ∈ numsS p l X[k], 0 ≤ v ∧ v < 100000 := by
    intro k h v hv
    obtain ⟨b0, b1, q0, q1, q2⟩ := hpg _ (List.getElem_mem h)
    obtain ⟨c, w, hh, m, q, kk, n, w1, h1, w2, h2⟩ := hfb k h
    simp only [numsS, List.mem_cons, List.not_mem_nil, or_false] at hv
    rcases hv with rfl | rfl | rfl | rfl | rfl <;> omega
  refine ⟨by rw [hLS]; simp, ?_, ⟨headL p, by rw [hLS]; rfl, head_nums (by omega) (by omega)⟩, ?_, ?_, ?_, by omega⟩
  · intro k s hs
    cases k with
    | zero =>
      rw [hLS] at hs
      simp only [List.getElem?_cons_zero, Option.some.injEq] at hs
      subst hs
      unfold headL
      exact ⟨okc_app (okc_app (decI_ok _) okc_32) (decI_ok _), by simp; omega⟩
    | succ k =>
      have hkx : k < X.length := by
        have := (List.getElem?_eq_some_iff.1 hs).1
        rw [hLS] at this; simp at this; omega
      rw [hk1 k hkx] at hs
      cases hs
      have hv := hvs k hkx
      obtain ⟨c, w, hh, m, q, kk, n, w1, h1, w2, h2⟩ := hfb k hkx
      unfold lineL
      refine ⟨okc_app (okc_app (okc_nums _) (fun c hc => ?_)) (decI_ok _), ?_⟩
      · simp only [List.mem_cons, List.not_mem_nil, or_false] at hc
        rcases hc with rfl | rfl
        · exact okc_K _
        · exact ⟨by decide, by decide⟩
      · have dN := decI_len (v := (blkN l X[k].B.toNat).N) (by omega) (by omega)
        have hl2 : ∀ vs : List Int, (∀ v ∈ vs, 0 ≤ v ∧ v < 100000) → (vs.flatMap numS).length ≤ 6 * vs.length := by
          intro vs
          induction vs with
          | nil => intro _; simp
          | cons v vs ih =>
            intro h
            have := ih fun w hw => h w (by simp [hw])
            have dv := decI_len (v := v) (h v (by simp)).1 (h v (by simp)).2
            rw [List.flatMap_cons, List.length_append]
            simp only [numS, List.length_append, List.length_cons, List.length_nil]
            omega
        have := hl2 (numsS p l X[k]) hv
        have h5 : (numsS p l X[k]).length = 5 := rfl
        simp only [List.length_append, List.length_cons, List.length_nil]
        omega
  · intro k h
    obtain ⟨c, w, hh, m, q, kk, n, w1, h1, w2, h2⟩ := hfb k h
    exact ⟨_, hk1 k h, line_nums (hvs k h) (by omega)⟩
  · intro k h
    exact ⟨(hpg _ (List.getElem_mem h)).b0, (hpg _ (List.getElem_mem h)).b1⟩
  · intro k h
    obtain ⟨c, w, hh, m, q, kk, n, w1, h1, w2, h2⟩ := hfb k h
    omega
structure V9 where
  k : Nat
  j : Nat
  H : AHeap
  n : Nat
structure I9 (p : Pap) (LS : List (List UInt8)) (v : V9) : Prop where
  kl : v.k ≤ LS.length
  jl : v.j ≤ ((LS[v.k]?).getD []).length
  g0 : hget v.H 0 = some (boxP p)
  g4 : hget v.H 4 = some (.sit (LS.flatMap nlc) (off LS v.k + v.j))
  fr : Fresh v.H v.n
  n5 : 5 ≤ v.n
theorem p9 (p : Pap) (l : List Blk) : Pur Tryd.prog 9 [encP p, .sl (.none 4) (l.map encB)] (.bool true) := by
  refine .mk ⟨by simp [unders, AVal.under], ⟨trivial, encB_under 0 l⟩, trivial⟩ trivial (a9 (ev_awp T26_ok (ev_evK ?_)))
  by_cases hc : checkS p l = 0
  case neg =>
    have e1 : (layS p l) = ([], checkS p l) := by unfold layS; rw [if_neg hc]
    have e2 : (printS p l) = ([], checkS p l) := by unfold printS; rw [if_neg hc]
    simp only [kont_nil, kont_n, kont_r, k_skip, k_ret, k_seq, k_block, k_cond, k_reg, r_ext, r_nil, r_v, r_vg, r_pick, r_box, r_call, callT, penv, postC, rcs, rc1, rvS, gok, gvb, eget, lk, lkv, oks, AS.put, AS.keep, evk, Opk.opds, aload, isI, toI, isB, toB, sel, mk, icmp, nT, hget_hset, hget_nil, AVal.cells, Tok.esz, List.length_cons, List.length_nil, List.filterMap, List.map_cons, List.map_nil, List.append_nil, List.nil_append, Option.map_some, reduceCtorEq, and_true, true_and, forall_const, Nat.reduceEqDiff, ↓reduceIte, Bool.false_eq_true, Nat.reduceAdd, List.drop, List.take, List.take_succ_cons, Nat.reduceLT, Nat.le_refl, Bool.true_and, false_implies, implies_true, Nat.zero_add, Bool.cond_false_right, imp_self, beq_true, Bool.not_eq_true', Bool.not_eq_false', Bool.and_eq_true, decide_eq_true_eq, decide_eq_false_iff_not, and_self, or_true, true_or, ret_eq, Nat.add_zero, wk_bool, decide_true, decide_false, c9, T26_10, T26_11, T26_15, s10, s11, s15, pap_eta, encd_map, decB_map, List.getElem?_cons_zero, List.getElem?_cons_succ, Option.getD_some, e1, e2, hc]
    rfl
  have e1 : (layS p l).2 = 0 := by unfold layS; rw [if_pos hc]
  have e2 : (printS p l).2 = 0 := by unfold printS; rw [if_pos hc]
  obtain ⟨X, hX⟩ : ∃ X, X = (layS p l).1 := ⟨_, rfl⟩
  obtain ⟨LS, hLS⟩ : ∃ LS, LS = linesL p l := ⟨_, rfl⟩
  have hpr := print_lines hc
  rw [← hLS] at hpr
  have hm := map_e8 (LS.flatMap nlc)
  simp only [toI] at hm
  simp only [kont_nil, kont_n, kont_r, k_skip, k_ret, k_seq, k_block, k_cond, k_reg, r_ext, r_nil, r_v, r_vg, r_pick, r_box, r_call, callT, penv, postC, rcs, rc1, rvS, gok, gvb, eget, lk, lkv, oks, AS.put, AS.keep, evk, Opk.opds, aload, isI, toI, isB, toB, sel, mk, icmp, nT, hget_hset, hget_nil, AVal.cells, Tok.esz, List.length_cons, List.length_nil, List.filterMap, List.map_cons, List.map_nil, List.append_nil, List.nil_append, Option.map_some, reduceCtorEq, and_true, true_and, forall_const, Nat.reduceEqDiff, ↓reduceIte, Bool.false_eq_true, Nat.reduceAdd, List.drop, List.take, List.take_succ_cons, Nat.reduceLT, Nat.le_refl, Bool.true_and, false_implies, implies_true, Nat.zero_add, Bool.cond_false_right, imp_self, beq_true, Bool.not_eq_true', Bool.not_eq_false', Bool.and_eq_true, decide_eq_true_eq, decide_eq_false_iff_not, and_self, or_true, true_or, ret_eq, Nat.add_zero, wk_bool, decide_true, c9, T26_10, T26_11, T26_15, s10, s11, s15, List.length_map, pap_eta, encd_map, decB_map, List.getElem?_cons_zero, List.getElem?_cons_succ, Option.getD_some, e1, e2, ← hX, hpr, hm, xE]
  refine ⟨⟨_, rfl⟩, ?_⟩
  have hlo := lines_ok hc
  rw [← hX, ← hLS] at hlo
  refine k_loop (fun v : V9 => ⟨[(1, true, .sl (.none 4) (l.map encB)), (2, true, .ptr 0 0), (7, true, .sl (.none 4) (X.map encX)), (9, true, .int .i64 ((v.k : Int) - 1)), (10, true, .str (((LS[v.k]?).getD []).take v.j)), (45, true, .ptr 4 0)], v.H, v.n⟩)
    (I9 p LS) (fun v => (LS.flatMap nlc).length - (off LS v.k + v.j)) ⟨0, 0, hset (hset hnil 0 (boxP p)) 4 (.sit (LS.flatMap nlc) 0), 5⟩ ?_ ⟨Nat.zero_le _, Nat.zero_le _, rfl, rfl, ?_, Nat.le_refl _⟩ ?_
  · simp only [List.take_zero]; rfl
  · exact (Fresh.nil.hset (n := 0) (m := 5) (by omega) (by omega)).hset (n := 5) (m := 5) (by omega) (by omega)
  rintro ⟨k, j, H, n⟩ ⟨kl, jl, g0, g4, fr, n5⟩
  simp only at kl jl g0 g4 fr n5
  have fr' : ∀ id, n ≤ id → hget H id = none := fr
  by_cases hk : k < LS.length
  case neg =>
    have ek : k = LS.length := by omega
    subst ek
    have hno : LS[LS.length]? = none := List.getElem?_eq_none (Nat.le_refl _)
    have ej : j = 0 := by rw [hno] at jl; simpa using jl
    subst ej
    rw [hno]
    have hpos : (off LS LS.length < (LS.flatMap nlc).length) = False := eq_false (by rw [off_all]; omega)
    have hat : ((LS.length : Int) - 1) = (X.length : Int) := by rw [hlo.len]; omega
    simp only [kont_nil, kont_n, kont_e, kont_r, kont_bn, kont_be, kont_br, k_skip, k_exit, k_ret, k_seq, k_block, k_cond, k_reg, k_regx, r_ext, r_nil, rx_nil, r_v, r_vg, r_pick, r_call, rx_v, rx_v1, rx_st2, rx_alloc, stE, callT, lpQ_n, lpQ_e, lpQ_r, postC, rcs, rc1, rvS, gok, gvb, eget, lk, lkv, oks, AS.put, AS.keep, evk, splice, Opk.opds, aload, isI, isInt, toI, isB, toB, isS, toS, sel, mk, icmp, iarith, nT, below, above, hget_hset, AVal.cells, Tok.esz, List.length_cons, List.length_nil, List.filterMap, List.map_cons, List.map_nil, List.append_nil, List.nil_append, Option.map_some, reduceCtorEq, and_true, true_and, forall_const, Nat.reduceEqDiff, ↓reduceIte, Bool.false_eq_true, Nat.reduceAdd, List.drop, List.take, Nat.reduceLT, Int.reduceEq, Int.reduceLE, Int.reduceToNat, Nat.le_refl, Bool.true_and, Bool.and_true, beq_self_eq_true, isDiv, false_implies, implies_true, Nat.zero_add, Bool.cond_true_left, imp_self, beq_false, Bool.not_eq_true', Bool.not_eq_false', Bool.or_eq_true, Bool.or_eq_false_iff, decide_eq_true_eq, decide_eq_false_iff_not, ne_eq, not_false_eq_true, natE1, natE2, impA1, and_self, ret_eq, Nat.add_zero, Nat.le_add_right, wk_bool, decide_true, cond_true, xE, g4, hpos, hat, List.getElem?_cons_zero, Option.getD_some, scmp]
    simp
  obtain ⟨s, hs⟩ : ∃ s, LS[k]? = some s := ⟨_, List.getElem?_eq_getElem hk⟩
  obtain ⟨hok, hsl⟩ := hlo.ok k s hs
  rw [hs, Option.getD_some] at jl ⊢
  by_cases hj : j < s.length
  · obtain ⟨c, hcj⟩ : ∃ c, s[j]? = some c := ⟨_, List.getElem?_eq_getElem hj⟩
    have hcm : c ∈ s := List.mem_of_getElem? hcj
    obtain ⟨c1, c2⟩ := hok c hcm
    have hget : (LS.flatMap nlc)[off LS k + j]? = some c := by rw [off_get hs hj]; exact hcj
    have hpos : (off LS k + j < (LS.flatMap nlc).length) = True := eq_true (List.getElem?_eq_some_iff.1 hget).1
    have hdec := dec_asc hget c1
    have henc := enc_asc c1
    have hne : ((c.toNat : Int) = 10) = False := eq_false (by omega)
    have htk : s.take j ++ [c] = s.take (j + 1) := by rw [List.take_add_one, hcj]; rfl
    have hsm : (s.take j).length + 1 ≤ 35184372088832 := by rw [List.length_take]; omega
    simp only [kont_nil, kont_n, kont_e, kont_r, kont_bn, kont_be, kont_br, k_skip, k_exit, k_ret, k_seq, k_block, k_cond, k_reg, k_regx, r_ext, r_nil, rx_nil, r_v, r_vg, r_pick, r_call, rx_v, rx_v1, rx_st2, rx_alloc, stE, callT, lpQ_n, lpQ_e, lpQ_r, postC, rcs, rc1, rvS, gok, gvb, eget, lk, lkv, oks, AS.put, AS.keep, evk, splice, Opk.opds, aload, isI, isInt, toI, isB, toB, isS, toS, sel, mk, icmp, iarith, nT, below, above, hget_hset, AVal.cells, Tok.esz, List.length_cons, List.length_nil, List.filterMap, List.map_cons, List.map_nil, List.append_nil, List.nil_append, Option.map_some, reduceCtorEq, and_true, true_and, forall_const, Nat.reduceEqDiff, ↓reduceIte, Bool.false_eq_true, Nat.reduceAdd, List.drop, List.take, Nat.reduceLT, Int.reduceEq, Int.reduceLE, Int.reduceToNat, Nat.le_refl, Bool.true_and, isDiv, false_implies, implies_true, Nat.zero_add, Bool.cond_true_left, Bool.cond_false_right, imp_self, beq_true, beq_false, Bool.not_eq_true', Bool.not_eq_false', Bool.or_eq_true, Bool.or_eq_false_iff, Bool.and_eq_true, decide_eq_true_eq, decide_eq_false_iff_not, ne_eq, not_false_eq_true, natE1, natE2, impA1, and_self, ret_eq, Nat.add_zero, Nat.add_assoc, Nat.le_add_right, wk_bool, decide_false, xE, g4, hpos, hdec, henc, hne, htk, small, List.getElem?_cons_zero, List.getElem?_cons_succ, Option.getD_some]
    refine ⟨by omega, .mk ⟨k, j + 1, hset H 4 (.sit (LS.flatMap nlc) (off LS k + j + 1)), n⟩ (by simp only [hs, Option.getD_some, Nat.add_assoc]) ⟨kl, by simp only [hs, Option.getD_some]; omega, ?_, ?_, fr.hset (Nat.le_refl _) (fr.lt g4), n5⟩ ?_⟩
    · simp (disch := omega) only [hget_hset_ne]; exact g0
    · rw [hget_hset_eq]; rfl
    · have := (List.getElem?_eq_some_iff.1 hget).1
      simp only []; omega
  have ej : j = s.length := by omega
  subst ej
  have hget := off_end hs
  have hpos : (off LS k + s.length < (LS.flatMap nlc).length) = True := eq_true (List.getElem?_eq_some_iff.1 hget).1
  have hdec := dec_asc hget (by decide)
  have h10 : (((10 : UInt8).toNat : Nat) : Int) = 10 := rfl
  have hsl2 : s.length ≤ 1000000 := by omega
  have fin : I9 p LS ⟨k + 1, 0, hset H 4 (.sit (LS.flatMap nlc) (off LS k + s.length + 1)), n⟩ := by
    refine ⟨hk, Nat.zero_le _, ?_, ?_, fr.hset (Nat.le_refl _) (fr.lt g4), n5⟩
    · simp (disch := omega) only [hget_hset_ne]; exact g0
    · simp only []
      rw [hget_hset_eq, off_succ hs]
  have hmz : (LS.flatMap nlc).length - (off LS (k + 1) + 0) < (LS.flatMap nlc).length - (off LS k + s.length) := by
    have := (List.getElem?_eq_some_iff.1 hget).1
    rw [off_succ hs]; omega
  by_cases hk0 : k = 0
  · subst hk0
    obtain ⟨s', hs', hnum⟩ := hlo.l0
    obtain rfl : s = s' := Option.some.inj (hs.symm.trans hs')
    have ea : IntKind.wrap .i64 (((0 : Nat) : Int) - 1 + 1) = ((0 + 1 : Nat) : Int) - 1 := by decide
    have ea2 : ((((0 : Nat) : Int) - 1) < 0) = True := eq_true (by decide)
    have n2 : ((2 : Nat) : Int) = 2 := rfl
    simp only [kont_nil, kont_n, kont_e, kont_r, kont_bn, kont_be, kont_br, k_skip, k_exit, k_ret, k_seq, k_block, k_cond, k_reg, k_regx, r_ext, r_nil, rx_nil, r_v, r_vg, r_pick, r_call, rx_v, rx_v1, rx_st2, rx_alloc, stE, callT, lpQ_n, lpQ_e, lpQ_r, postC, rcs, rc1, rvS, gok, gvb, eget, lk, lkv, oks, AS.put, AS.keep, evk, splice, Opk.opds, aload, isI, isInt, toI, isB, toB, isS, toS, sel, mk, icmp, iarith, nT, below, above, hget_hset, AVal.cells, Tok.esz, List.length_cons, List.length_nil, List.filterMap, List.map_cons, List.map_nil, List.append_nil, List.nil_append, Option.map_some, reduceCtorEq, and_true, true_and, forall_const, Nat.reduceEqDiff, ↓reduceIte, Bool.false_eq_true, Nat.reduceAdd, List.drop, List.take, List.take_succ_cons, Nat.reduceLeDiff, Nat.reduceLT, Int.reduceEq, Int.reduceLE, Int.reduceLT, Int.reduceToNat, Nat.le_refl, List.headD_cons, Bool.true_and, isDiv, false_implies, implies_true, Nat.zero_add, Bool.cond_true_left, Bool.cond_false_right, imp_self, beq_true, beq_false, Bool.not_eq_true', Bool.not_eq_false', Bool.or_eq_true, Bool.or_eq_false_iff, Bool.and_eq_true, decide_eq_true_eq, decide_eq_false_iff_not, ne_eq, not_false_eq_true, natE1, natE2, impA1, and_self, or_true, or_false, ret_eq, Nat.add_zero, Nat.add_assoc, Nat.le_add_right, wk_bool, decide_true, decide_false, xE, g4, g0, hpos, hdec, h10, n2, T26_21, s21, hsl2, hnum, List.take_length, ea, ea2, List.map_cons, List.map_nil, List.getElem?_cons_zero, List.getElem?_cons_succ, Option.getD_some, List.length_cons, List.length_nil]
    exact .mk ⟨0 + 1, 0, hset H 4 (.sit (LS.flatMap nlc) (off LS 0 + s.length + 1)), n⟩ rfl fin hmz
  obtain ⟨k', rfl⟩ : ∃ k', k = k' + 1 := ⟨k - 1, by omega⟩
  have hkx : k' < X.length := by have := hlo.len; omega
  obtain ⟨s', hs', hnum⟩ := hlo.ls k' hkx
  obtain rfl : s = s' := Option.some.inj (hs.symm.trans hs')
  obtain ⟨b0, b1⟩ := hlo.bl k' hkx
  obtain ⟨w0, w1, w2, w3⟩ := hlo.wb k' hkx
  have hxl := hlo.xl
  have eat : (((k' + 1 : Nat) : Int) - 1) = (k' : Int) := by omega
  have ea2 : ((k' : Int) < 0) = False := eq_false (by omega)
  have ea3 : ((X.length : Int) ≤ (k' : Int)) = False := eq_false (by omega)
  have ea4 : ((k' : Int) < (X.length : Int)) = True := eq_true (by omega)
  have ea : IntKind.wrap .i64 ((k' : Int) + 1) = ((k' + 1 : Nat) : Int) := w64_succ (by omega)
  have hX1 : (X.map encX)[k']? = some (encX X[k']) := by rw [List.getElem?_map, List.getElem?_eq_getElem hkx]; rfl
  have hb0 : (X[k'].B < 0) = False := eq_false (by omega)
  have hb1 : ((l.length : Int) ≤ X[k'].B) = False := eq_false (by omega)
  have hb2 : (0 ≤ X[k'].B) = True := eq_true b0
  have hb3 : (X[k'].B < (l.length : Int)) = True := eq_true (by omega)
  have hlB : (l.map encB)[X[k'].B.toNat]? = some (encB (blkN l X[k'].B.toNat)) := by rw [List.getElem?_map, List.getElem?_eq_getElem b1]; simp [blkN, b1]
  have ew1 : IntKind.wrap .i64 ((blkN l X[k'].B.toNat).W * p.C) = (blkN l X[k'].B.toNat).W * p.C := w64_in (by omega) (by omega)
  have ew2 : IntKind.wrap .i64 ((blkN l X[k'].B.toNat).H * p.C) = (blkN l X[k'].B.toNat).H * p.C := w64_in (by omega) (by omega)
  have n6 : ((6 : Nat) : Int) = 6 := rfl
  have nn4 : (n = 4) = False := eq_false (by omega)
  simp only [kont_nil, kont_n, kont_e, kont_r, kont_bn, kont_be, kont_br, k_skip, k_exit, k_ret, k_seq, k_block, k_cond, k_reg, k_regx, r_ext, r_nil, rx_nil, r_v, r_vg, r_pick, r_call, rx_v, rx_v1, rx_st2, rx_alloc, stE, callT, lpQ_n, lpQ_e, lpQ_r, postC, rcs, rc1, rvS, gok, gvb, eget, lk, lkv, oks, AS.put, AS.keep, evk, splice, Opk.opds, aload, isI, isInt, toI, isB, toB, isS, toS, sel, mk, icmp, iarith, nT, below, above, hget_hset, AVal.cells, Tok.esz, List.length_cons, List.length_nil, List.filterMap, List.map_cons, List.map_nil, List.append_nil, List.nil_append, Option.map_some, reduceCtorEq, and_true, true_and, forall_const, Nat.reduceEqDiff, ↓reduceIte, Bool.false_eq_true, Nat.reduceAdd, List.drop, List.take, List.drop_succ_cons, List.take_succ_cons, Nat.reduceLeDiff, Nat.reduceLT, Int.reduceEq, Int.reduceLE, Int.reduceLT, Int.reduceToNat, Nat.le_refl, List.headD_cons, Bool.true_and, Bool.and_true, beq_self_eq_true, isDiv, false_implies, implies_true, Nat.zero_add, Bool.cond_true_left, Bool.cond_false_right, imp_self, beq_true, beq_false, Bool.not_eq_true', Bool.not_eq_false', Bool.or_eq_true, Bool.or_eq_false_iff, Bool.and_eq_true, decide_eq_true_eq, decide_eq_false_iff_not, ne_eq, not_false_eq_true, natE1, natE2, impA1, and_self, true_or, or_false, ret_eq, Nat.add_zero, Nat.add_assoc, Nat.le_add_right, wk_bool, decide_true, decide_false, cond_false, xE, g4, g0, fr', hpos, hdec, h10, T26_21, s21, hsl2, hnum, List.take_length, ea, ea2, ea3, ea4, eat, hX1, hb0, hb1, hb2, hb3, hlB, ew1, ew2, n6, List.map_cons, List.map_nil, List.length_map, List.getElem?_cons_zero, List.getElem?_cons_succ, Option.getD_some, List.length_cons, List.length_nil, Int.toNat_natCast, Int.natCast_nonneg]
  have e9 : (((k' + 1 + 1 : Nat) : Int) - 1) = ((k' + 1 : Nat) : Int) := by omega
  refine .mk ⟨k' + 1 + 1, 0, hset (hset (hset (hset (hset H 4 (.sit (LS.flatMap nlc) (off LS (k' + 1) + (s.length + 1)))) (n + 12) (.box [.int .i64 0, .int .i64 0, .int .i64 0, .int .i64 0])) (n + 13) (.box [.int .i64 0, .int .i64 0, .int .i64 0, .int .i64 0])) (n + 12) (.box [.int .i64 X[k'].B, .int .i64 X[k'].P, .int .i64 X[k'].X, .int .i64 X[k'].Y]))
      (n + 13) (.box [.int .i64 (blkN l X[k'].B.toNat).K, .int .i64 (blkN l X[k'].B.toNat).N, .int .i64 (blkN l X[k'].B.toNat).W, .int .i64 (blkN l X[k'].B.toNat).H]), n + 16⟩ (by simp only [e9, List.take_zero]) ⟨hk, Nat.zero_le _, ?_, ?_, ?_, by simp only []; omega⟩ hmz
  · simp (disch := omega) only [hget_hset_ne]; exact g0
  · simp only []
    simp (disch := omega) only [hget_hset_ne, hget_hset_eq]
    rw [off_succ hs]; rfl
  · intro m hm
    simp only [] at hm ⊢
    have f4 := fr.lt g4
    simp (disch := omega) only [hget_hset_ne]
    exact fr m (by omega)

end Go.AM
end
