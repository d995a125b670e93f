/-
  Booklets: what the small functions of the layer and of its reference return · Booklets: what the two Checks return · Booklets: what Same and the two Valids return · Booklets: what press · Booklets: sorting, part 1: rearrangements, what is compared, swapRange, insertionSort · Booklets: sorting, part 2: rotate, and what a merge needs · Booklets: sorting, part 3: symMerge · Booklets: sorting, part 4: symMerge in general, the stable sort · Booklets: sorting, part 5: the stable sort.
  Conditions: none beyond those of its parts.
-/
import Derived.Test.YtekbplnmbbmhdaaDoorB5
import Derived.Test.YtekbplnmbbmhdaaDoorB3
import Derived.Test.YtekbplnmbbmhdaaDoorB6

/- Booklets: what the small functions of the layer and of its reference return. Conditions: none. -/
section
set_option maxRecDepth 10000
set_option linter.unusedSimpArgs false
set_option linter.unusedVariables false
set_option maxHeartbeats 1000000
set_option linter.unusedVariables false
set_option linter.unusedSimpArgs false
namespace Go.AM
open Go.Proofs

structure Pap where
  W : Int
  H : Int
  M : Int
  S : Int
  C : Int
structure Blk where
  K : Int
  N : Int
  W : Int
  H : Int
structure Plc where
  B : Int
  P : Int
  X : Int
  Y : Int
abbrev encP (p : Pap) : AVal := .agg [.int .i64 p.W, .int .i64 p.H, .int .i64 p.M, .int .i64 p.S, .int .i64 p.C]
abbrev encB (b : Blk) : AVal := .agg [.int .i64 b.K, .int .i64 b.N, .int .i64 b.W, .int .i64 b.H]
abbrev encX (x : Plc) : AVal := .agg [.int .i64 x.B, .int .i64 x.P, .int .i64 x.X, .int .i64 x.Y]
def decB : AVal → Blk
  | .agg [.int _ a, .int _ b, .int _ c, .int _ d] => ⟨a, b, c, d⟩
  | _ => ⟨0, 0, 0, 0⟩
def decX : AVal → Plc
  | .agg [.int _ a, .int _ b, .int _ c, .int _ d] => ⟨a, b, c, d⟩
  | _ => ⟨0, 0, 0, 0⟩
abbrev w64 (x : Int) : Int := IntKind.wrap .i64 x
/-- An int of 64 bits. -/
def I64 (x : Int) : Prop := -9223372036854775808 ≤ x ∧ x ≤ 9223372036854775807
theorem w64_in {x : Int} (h1 : -9223372036854775808 ≤ x) (h2 : x ≤ 9223372036854775807) : IntKind.wrap .i64 x = x := by rw [IntKind.wrap_i64]; omega

theorem w64_succ {k : Nat} (h : k < 1000000000000) : IntKind.wrap .i64 ((k : Int) + 1) = ((k + 1 : Nat) : Int) := by rw [w64_in (by omega) (by omega)]; rfl

/-! between -/
def betweenS (n lo hi : Int) : Bool := decide (lo ≤ n) && decide (n ≤ hi)
theorem p25 (a b c : Int) : Pur Tryd.prog 25 [.int .i64 a, .int .i64 b, .int .i64 c] (.bool (betweenS a b c)) := by
  refine .mk (by simp [unders, AVal.under]) trivial (a25 (ev_awp TabOK.tnil (ev_evK ?_)))
  simp only [kont_nil, kont_n, k_ret, k_seq, k_reg, r_nil, r_v, r_vg, r_pick, penv, postC, rcs, rc1, rvS, gok, gvb, eget, lk, lkv, oks, AS.put, AS.keep, evk, Opk.opds, isI, toI, isB, toB, sel, icmp, List.filterMap, Option.map_some, reduceCtorEq, and_true, true_and, forall_const, Nat.reduceEqDiff, ↓reduceIte, Nat.reduceAdd, Bool.true_and, implies_true, Nat.zero_add, Bool.cond_false_right, imp_self, beq_true, decide_eq_true_eq, decide_eq_false_iff_not, and_self, ret_eq, Nat.add_zero, wk_bool, c25]
  rfl
def s25 : List AVal → AHeap → Prop × AVal := fun a H => match a with
  | [.int .i64 a, .int .i64 b, .int .i64 c] => (True, .bool (betweenS a b c))
  | _ => (False, .tup [])
theorem q25 : ∀ args H n, (s25 args H).1 → Quiet Tryd.prog 25 args H n (s25 args H).2 := by
  intro args H n h
  unfold s25 at h ⊢
  split at h
  · exact (p25 _ _ _).quiet H n
  · exact h.elim

/-! good, fits -/
def goodS (p : Pap) : Bool := decide (1 ≤ p.W) && decide (p.W ≤ 4096) && decide (1 ≤ p.H) && decide (p.H ≤ 4096) && decide (0 ≤ p.M) && decide (p.M ≤ 4096) && decide (0 ≤ p.S) && decide (p.S ≤ 4096) &&
  decide (2 * p.M < p.W) && decide (2 * p.M < p.H) && decide (1 ≤ p.C) && decide (p.C ≤ 16)
theorem p28 (p : Pap) : Pur Tryd.prog 28 [encP p] (.bool (goodS p)) := by
  refine .mk (by simp [unders, AVal.under]) trivial (a28 (ev_awp TabOK.tnil (ev_evK ?_)))
  simp only [kont_nil, kont_n, kont_r, k_skip, k_ret, k_seq, k_cond, k_reg, r_nil, r_v, r_vg, r_pick, r_box, penv, postC, rcs, rc1, rvS, gok, gvb, eget, lk, lkv, oks, AS.put, AS.keep, evk, Opk.opds, aload, isI, toI, isB, toB, sel, mk, icmp, iarith, nT, hget_hset, hget_nil, AVal.cells, List.length_cons, List.length_nil, List.filterMap, Option.map_some, and_true, true_and, forall_const, Nat.reduceEqDiff, ↓reduceIte, Bool.false_eq_true, Nat.reduceAdd, List.drop, List.take, List.take_succ_cons, Nat.reduceLeDiff, Nat.le_refl, List.headD_cons, Bool.true_and, isDiv, false_implies, implies_true, Nat.zero_add, Bool.cond_true_left, Bool.cond_false_right, imp_self, beq_true, beq_false, Bool.not_eq_true', Bool.or_eq_true, Bool.or_eq_false_iff, Bool.and_eq_true, decide_eq_true_eq, decide_eq_false_iff_not, ne_eq, and_self, ret_eq, Nat.add_zero, wk_bool, c28]
  refine ⟨fun h => ?_, fun h => ?_⟩
  · rw [Bool.eq_iff_iff]; simp [goodS]; omega
  · rw [w64_in (by omega) (by omega), Bool.eq_iff_iff]; simp [goodS]; omega
def s28 : List AVal → AHeap → Prop × AVal := fun a H => match a with
  | [.agg [.int .i64 a, .int .i64 b, .int .i64 c, .int .i64 d, .int .i64 e]] => (True, .bool (goodS ⟨a, b, c, d, e⟩))
  | _ => (False, .tup [])
theorem q28 : ∀ args H n, (s28 args H).1 → Quiet Tryd.prog 28 args H n (s28 args H).2 := by
  intro args H n h
  unfold s28 at h ⊢
  split at h
  · exact (p28 ⟨_, _, _, _, _⟩).quiet H n
  · exact h.elim

theorem good_iff (p : Pap) : goodS p = true ↔ (1 ≤ p.W ∧ p.W ≤ 4096 ∧ 1 ≤ p.H ∧ p.H ≤ 4096 ∧ 0 ≤ p.M ∧ p.M ≤ 4096 ∧ 0 ≤ p.S ∧ p.S ≤ 4096 ∧ 2 * p.M < p.W ∧ 2 * p.M < p.H ∧ 1 ≤ p.C ∧ p.C ≤ 16) := by
  simp [goodS, and_assoc]

def fitsS (p : Pap) (b : Blk) : Bool := decide (1 ≤ b.K) && decide (b.K ≤ 3) && decide (0 ≤ b.N) && decide (b.N ≤ 65536) && decide (1 ≤ b.W) && decide (b.W ≤ 4096) && decide (1 ≤ b.H) && decide (b.H ≤ 4096) &&
  decide (b.W * p.C ≤ p.W - 2 * p.M) && decide (b.H * p.C ≤ p.H - 2 * p.M)
theorem fits_iff (p : Pap) (b : Blk) : fitsS p b = true ↔ (1 ≤ b.K ∧ b.K ≤ 3 ∧ 0 ≤ b.N ∧ b.N ≤ 65536 ∧ 1 ≤ b.W ∧ b.W ≤ 4096 ∧ 1 ≤ b.H ∧ b.H ≤ 4096 ∧ b.W * p.C ≤ p.W - 2 * p.M ∧ b.H * p.C ≤ p.H - 2 * p.M) := by
  simp [fitsS, and_assoc]
theorem mul_bd {a c : Int} (h1 : 1 ≤ a) (h2 : a ≤ 4096) (h3 : 1 ≤ c) (h4 : c ≤ 16) : 1 ≤ a * c ∧ a * c ≤ 65536 := by
  constructor
  · have := Int.mul_le_mul h1 h3 (by omega) (by omega); simpa using this
  · have := Int.mul_le_mul h2 h4 (by omega) (by omega); simpa using this
theorem p29 (p : Pap) (b : Blk) (hg : goodS p = true) : Pur Tryd.prog 29 [encP p, encB b] (.bool (fitsS p b)) := by
  refine .mk (by simp [unders, AVal.under]) trivial (a29 (ev_awp TabOK.tnil (ev_evK ?_)))
  rw [good_iff] at hg
  simp only [kont_nil, kont_n, kont_r, k_skip, k_ret, k_seq, k_cond, k_reg, r_nil, r_v, r_vg, r_pick, r_box, penv, postC, rcs, rc1, rvS, gok, gvb, eget, lk, lkv, oks, AS.put, AS.keep, evk, Opk.opds, aload, isI, toI, isB, toB, sel, mk, icmp, iarith, nT, hget_hset, hget_nil, AVal.cells, List.length_cons, List.length_nil, List.filterMap, Option.map_some, reduceCtorEq, and_true, true_and, forall_const, Nat.reduceEqDiff, ↓reduceIte, Bool.false_eq_true, Nat.reduceAdd, List.drop, List.take, List.take_succ_cons, Nat.reduceLeDiff, Nat.le_refl, List.headD_cons, Bool.true_and, isDiv, false_implies, implies_true, Nat.zero_add, Bool.cond_true_left, Bool.cond_false_right, imp_self, beq_true, beq_false, Bool.not_eq_true', Bool.or_eq_true, Bool.or_eq_false_iff, decide_eq_true_eq, decide_eq_false_iff_not, ne_eq, and_self, ret_eq, Nat.add_zero, wk_bool, c29]
  refine ⟨fun h => ?_, fun h => ?_⟩
  · rw [Bool.eq_iff_iff]; simp [fitsS]; omega
  · have h1 := mul_bd (a := b.W) (c := p.C) (by omega) (by omega) (by omega) (by omega)
    have h2 := mul_bd (a := b.H) (c := p.C) (by omega) (by omega) (by omega) (by omega)
    rw [w64_in (x := b.W * p.C) (by omega) (by omega), w64_in (x := b.H * p.C) (by omega) (by omega), w64_in (x := 2 * p.M) (by omega) (by omega), w64_in (x := p.W - 2 * p.M) (by omega) (by omega), w64_in (x := p.H - 2 * p.M) (by omega) (by omega), Bool.eq_iff_iff]
    simp [fitsS]; omega
def s29 : List AVal → AHeap → Prop × AVal := fun a H => match a with
  | [.agg [.int .i64 a, .int .i64 b, .int .i64 c, .int .i64 d, .int .i64 e], .agg [.int .i64 x, .int .i64 y, .int .i64 z, .int .i64 t]] => (goodS ⟨a, b, c, d, e⟩ = true, .bool (fitsS ⟨a, b, c, d, e⟩ ⟨x, y, z, t⟩))
  | _ => (False, .tup [])
theorem q29 : ∀ args H n, (s29 args H).1 → Quiet Tryd.prog 29 args H n (s29 args H).2 := by
  intro args H n h
  unfold s29 at h ⊢
  split at h
  · exact (p29 ⟨_, _, _, _, _⟩ ⟨_, _, _, _⟩ h).quiet H n
  · exact h.elim

/-! spreads -/
theorem p33 (a : Int) : Pur Tryd.prog 33 [.int .i64 a] (.int .i64 (w64 ((w64 (a + 1)).tdiv 2))) := by
  refine .mk (by simp [unders, AVal.under]) trivial (a33 (ev_awp TabOK.tnil (ev_evK ?_)))
  simp only [kont_nil, kont_n, k_ret, k_seq, k_reg, r_nil, r_v, penv, postC, rcs, rc1, rvS, eget, lk, lkv, oks, AS.put, AS.keep, evk, Opk.opds, isI, toI, iarith, List.filterMap, Option.map_some, reduceCtorEq, forall_const, ↓reduceIte, Bool.false_eq_true, Int.reduceEq, isDiv, implies_true, ne_eq, not_false_eq_true, and_self, ret_eq, Nat.add_zero, wk_int, c33]
theorem p20 (a : Int) : Pur Tryd.prog 20 [.int .i64 a] (.int .i64 (w64 ((w64 (a + 1)).tdiv 2))) := by
  refine .mk (by simp [unders, AVal.under]) trivial (a20 (ev_awp TabOK.tnil (ev_evK ?_)))
  simp only [kont_nil, kont_n, k_ret, k_seq, k_reg, r_nil, r_v, penv, postC, rcs, rc1, rvS, eget, lk, lkv, oks, AS.put, AS.keep, evk, Opk.opds, isI, toI, iarith, List.filterMap, Option.map_some, reduceCtorEq, forall_const, ↓reduceIte, Bool.false_eq_true, Int.reduceEq, isDiv, implies_true, ne_eq, not_false_eq_true, and_self, ret_eq, Nat.add_zero, wk_int, c20]
theorem p35 (a : Int) : Pur Tryd.prog 35 [.int .i64 a] (.int .i64 (w64 (a - w64 (a.tdiv 2)))) := by
  refine .mk (by simp [unders, AVal.under]) trivial (a35 (ev_awp TabOK.tnil (ev_evK ?_)))
  simp only [kont_nil, kont_n, k_ret, k_seq, k_reg, r_nil, r_v, penv, postC, rcs, rc1, rvS, eget, lk, lkv, oks, AS.put, AS.keep, evk, Opk.opds, isI, toI, iarith, List.filterMap, Option.map_some, reduceCtorEq, forall_const, Nat.reduceEqDiff, ↓reduceIte, Bool.false_eq_true, Int.reduceEq, isDiv, false_implies, ne_eq, not_false_eq_true, and_self, ret_eq, Nat.add_zero, wk_int, c35]

/-! places -/
structure Bx where
  x : Plc
  b : Blk
  w : Int
  h : Int
abbrev encBx (a : Bx) : AVal := .agg [.int .i64 a.x.B, .int .i64 a.x.P, .int .i64 a.x.X, .int .i64 a.x.Y, .int .i64 a.b.K, .int .i64 a.b.N, .int .i64 a.b.W, .int .i64 a.b.H, .int .i64 a.w, .int .i64 a.h]
def Sm (x : Int) : Prop := -1000000 ≤ x ∧ x ≤ 1000000
def beforeS (a b : Bx) (s : Int) : Bool := decide (a.x.X + a.w + s ≤ b.x.X) || decide (a.x.Y + a.h + s ≤ b.x.Y)
theorem p36 (a b : Bx) (s : Int) (h : Sm a.x.X ∧ Sm a.x.Y ∧ Sm a.w ∧ Sm a.h ∧ Sm s) : Pur Tryd.prog 36 [encBx a, encBx b, .int .i64 s] (.bool (beforeS a b s)) := by
  refine .mk (by simp [unders, AVal.under]) trivial (a36 (ev_awp TabOK.tnil (ev_evK ?_)))
  unfold Sm at h
  simp only [kont_nil, kont_n, k_ret, k_seq, k_reg, r_nil, r_v, r_vg, r_pick, r_box, penv, postC, rcs, rc1, rvS, gok, gvb, eget, lk, lkv, oks, AS.put, AS.keep, evk, Opk.opds, aload, isI, toI, isB, toB, sel, mk, icmp, iarith, nT, hget_hset, hget_nil, AVal.cells, List.length_cons, List.length_nil, List.filterMap, Option.map_some, reduceCtorEq, and_true, true_and, forall_const, Nat.reduceEqDiff, ↓reduceIte, Bool.false_eq_true, Nat.reduceAdd, List.drop, List.take, List.take_succ_cons, Nat.reduceLeDiff, Nat.le_refl, List.headD_cons, Bool.true_and, isDiv, false_implies, implies_true, Nat.zero_add, Bool.cond_true_left, imp_self, beq_false, Bool.not_eq_true', decide_eq_true_eq, decide_eq_false_iff_not, ne_eq, and_self, ret_eq, Nat.add_zero, wk_bool, c36]
  simp (disch := omega) only [w64_in, beforeS]
def tellsS (a b : Bx) : Bool := decide (a.b.N = b.b.N) && decide (min a.b.K b.b.K = 1) && decide (max a.b.K b.b.K = 2)
theorem p37 (a b : Bx) : Pur Tryd.prog 37 [encBx a, encBx b] (.bool (tellsS a b)) := by
  refine .mk (by simp [unders, AVal.under]) trivial (a37 (ev_awp TabOK.tnil (ev_evK ?_)))
  simp only [kont_nil, kont_n, k_ret, k_seq, k_reg, r_nil, r_v, r_vg, r_pick, r_box, penv, postC, rcs, rc1, rvS, gok, gvb, eget, lk, lkv, oks, AS.put, AS.keep, evk, evMM_cons, allI, foldMM, Opk.opds, aload, isI, toI, isB, toB, sel, mk, icmp, nT, hget_hset, hget_nil, AVal.cells, List.length_cons, List.length_nil, List.filterMap, Option.map_some, reduceCtorEq, and_true, true_and, forall_const, Nat.reduceEqDiff, ↓reduceIte, Bool.false_eq_true, Nat.reduceAdd, List.drop, List.take, List.take_succ_cons, Nat.reduceLeDiff, List.headD_cons, Bool.true_and, implies_true, Nat.zero_add, Bool.cond_false_right, imp_self, beq_true, Bool.and_eq_true, decide_eq_true_eq, decide_eq_false_iff_not, and_self, ret_eq, Nat.add_zero, wk_bool, c37]
  rfl
def withinS (p : Pap) (b : Blk) (x : Plc) : Bool := decide (0 ≤ x.P) && decide (p.M ≤ x.X) && decide (x.X + b.W * p.C ≤ p.W - p.M) && decide (p.M ≤ x.Y) && decide (x.Y + b.H * p.C ≤ p.H - p.M)
theorem p38 (p : Pap) (b : Blk) (x : Plc) (hg : goodS p = true) (hf : fitsS p b = true) : Pur Tryd.prog 38 [encP p, encB b, encX x] (.bool (withinS p b x)) := by
  refine .mk (by simp [unders, AVal.under]) trivial (a38 (ev_awp TabOK.tnil (ev_evK ?_)))
  rw [good_iff] at hg
  rw [fits_iff] at hf
  simp only [kont_nil, kont_n, kont_r, k_skip, k_ret, k_seq, k_cond, k_reg, r_nil, r_v, r_vg, r_pick, r_box, penv, postC, rcs, rc1, rvS, gok, gvb, eget, lk, lkv, oks, AS.put, AS.keep, evk, Opk.opds, aload, isI, toI, isB, toB, sel, mk, icmp, iarith, nT, hget_hset, hget_nil, AVal.cells, List.length_cons, List.length_nil, List.filterMap, Option.map_some, reduceCtorEq, and_true, true_and, forall_const, Nat.reduceEqDiff, ↓reduceIte, Bool.false_eq_true, Nat.reduceAdd, List.drop, List.take, List.take_succ_cons, Nat.reduceLeDiff, Nat.le_refl, List.headD_cons, Bool.true_and, isDiv, false_implies, implies_true, Nat.zero_add, Bool.cond_true_left, Bool.cond_false_right, imp_self, beq_true, beq_false, Bool.not_eq_true', Bool.or_eq_true, Bool.or_eq_false_iff, decide_eq_true_eq, decide_eq_false_iff_not, ne_eq, and_self, ret_eq, Nat.add_zero, wk_bool, c38]
  have h1 := mul_bd (a := b.W) (c := p.C) (by omega) (by omega) (by omega) (by omega)
  have h2 := mul_bd (a := b.H) (c := p.C) (by omega) (by omega) (by omega) (by omega)
  refine ⟨fun h => ?_, fun h => ?_⟩
  · rw [Bool.eq_iff_iff]; simp [withinS]; omega
  · simp (disch := omega) only [w64_in]
    rw [Bool.eq_iff_iff]; simp [withinS]; omega
def aheadS (p : Pap) (a b : Blk) (x y : Plc) : Bool := decide (x.X + a.W * p.C + p.S ≤ y.X) || decide (x.Y + a.H * p.C + p.S ≤ y.Y)
theorem p39 (p : Pap) (a b : Blk) (x y : Plc) (hg : goodS p = true) (hf : fitsS p a = true) (hx : Sm x.X ∧ Sm x.Y) : Pur Tryd.prog 39 [encP p, encB a, encB b, encX x, encX y] (.bool (aheadS p a b x y)) := by
  refine .mk (by simp [unders, AVal.under]) trivial (a39 (ev_awp TabOK.tnil (ev_evK ?_)))
  rw [good_iff] at hg
  rw [fits_iff] at hf
  have h1 := mul_bd (a := a.W) (c := p.C) (by omega) (by omega) (by omega) (by omega)
  have h2 := mul_bd (a := a.H) (c := p.C) (by omega) (by omega) (by omega) (by omega)
  unfold Sm at hx
  simp only [kont_nil, kont_n, k_ret, k_seq, k_reg, r_nil, r_v, r_vg, r_pick, r_box, penv, postC, rcs, rc1, rvS, gok, gvb, eget, lk, lkv, oks, AS.put, AS.keep, evk, Opk.opds, aload, isI, toI, isB, toB, sel, mk, icmp, iarith, nT, hget_hset, hget_nil, AVal.cells, List.length_cons, List.length_nil, List.filterMap, Option.map_some, reduceCtorEq, and_true, true_and, forall_const, Nat.reduceEqDiff, ↓reduceIte, Bool.false_eq_true, Nat.reduceAdd, List.drop, List.take, List.take_succ_cons, Nat.reduceLeDiff, Nat.le_refl, List.headD_cons, Bool.true_and, isDiv, false_implies, implies_true, Nat.zero_add, Bool.cond_true_left, imp_self, beq_false, Bool.not_eq_true', decide_eq_true_eq, decide_eq_false_iff_not, ne_eq, and_self, ret_eq, Nat.add_zero, wk_bool, c39]
  simp (disch := omega) only [w64_in, aheadS]

/-! ### Their places in the table -/
def s33 : List AVal → AHeap → Prop × AVal := fun a H => match a with
  | [.int .i64 a] => (True, .int .i64 (w64 ((w64 (a + 1)).tdiv 2)))
  | _ => (False, .tup [])
theorem q33 : ∀ args H n, (s33 args H).1 → Quiet Tryd.prog 33 args H n (s33 args H).2 := by
  intro args H n h
  unfold s33 at h ⊢
  split at h
  · exact (p33 _).quiet H n
  · exact h.elim
theorem q20 : ∀ args H n, (s33 args H).1 → Quiet Tryd.prog 20 args H n (s33 args H).2 := by
  intro args H n h
  unfold s33 at h ⊢
  split at h
  · exact (p20 _).quiet H n
  · exact h.elim
def s35 : List AVal → AHeap → Prop × AVal := fun a H => match a with
  | [.int .i64 a] => (True, .int .i64 (w64 (a - w64 (a.tdiv 2))))
  | _ => (False, .tup [])
theorem q35 : ∀ args H n, (s35 args H).1 → Quiet Tryd.prog 35 args H n (s35 args H).2 := by
  intro args H n h
  unfold s35 at h ⊢
  split at h
  · exact (p35 _).quiet H n
  · exact h.elim
def s36 : List AVal → AHeap → Prop × AVal := fun a H => match a with
  | [.agg [.int .i64 a1, .int .i64 a2, .int .i64 a3, .int .i64 a4, .int .i64 a5, .int .i64 a6, .int .i64 a7, .int .i64 a8, .int .i64 a9, .int .i64 a0],
     .agg [.int .i64 b1, .int .i64 b2, .int .i64 b3, .int .i64 b4, .int .i64 b5, .int .i64 b6, .int .i64 b7, .int .i64 b8, .int .i64 b9, .int .i64 b0], .int .i64 s] =>
    (Sm a3 ∧ Sm a4 ∧ Sm a9 ∧ Sm a0 ∧ Sm s, .bool (beforeS ⟨⟨a1, a2, a3, a4⟩, ⟨a5, a6, a7, a8⟩, a9, a0⟩ ⟨⟨b1, b2, b3, b4⟩, ⟨b5, b6, b7, b8⟩, b9, b0⟩ s))
  | _ => (False, .tup [])
theorem q36 : ∀ args H n, (s36 args H).1 → Quiet Tryd.prog 36 args H n (s36 args H).2 := by
  intro args H n h
  unfold s36 at h ⊢
  split at h
  · exact (p36 ⟨⟨_, _, _, _⟩, ⟨_, _, _, _⟩, _, _⟩ ⟨⟨_, _, _, _⟩, ⟨_, _, _, _⟩, _, _⟩ _ h).quiet H n
  · exact h.elim
def s37 : List AVal → AHeap → Prop × AVal := fun a H => match a with
  | [.agg [.int .i64 a1, .int .i64 a2, .int .i64 a3, .int .i64 a4, .int .i64 a5, .int .i64 a6, .int .i64 a7, .int .i64 a8, .int .i64 a9, .int .i64 a0],
     .agg [.int .i64 b1, .int .i64 b2, .int .i64 b3, .int .i64 b4, .int .i64 b5, .int .i64 b6, .int .i64 b7, .int .i64 b8, .int .i64 b9, .int .i64 b0]] =>
    (True, .bool (tellsS ⟨⟨a1, a2, a3, a4⟩, ⟨a5, a6, a7, a8⟩, a9, a0⟩ ⟨⟨b1, b2, b3, b4⟩, ⟨b5, b6, b7, b8⟩, b9, b0⟩))
  | _ => (False, .tup [])
theorem q37 : ∀ args H n, (s37 args H).1 → Quiet Tryd.prog 37 args H n (s37 args H).2 := by
  intro args H n h
  unfold s37 at h ⊢
  split at h
  · exact (p37 ⟨⟨_, _, _, _⟩, ⟨_, _, _, _⟩, _, _⟩ ⟨⟨_, _, _, _⟩, ⟨_, _, _, _⟩, _, _⟩).quiet H n
  · exact h.elim
def s38 : List AVal → AHeap → Prop × AVal := fun a H => match a with
  | [.agg [.int .i64 a, .int .i64 b, .int .i64 c, .int .i64 d, .int .i64 e], .agg [.int .i64 x, .int .i64 y, .int .i64 z, .int .i64 t], .agg [.int .i64 u, .int .i64 v, .int .i64 w, .int .i64 k]] =>
    (goodS ⟨a, b, c, d, e⟩ = true ∧ fitsS ⟨a, b, c, d, e⟩ ⟨x, y, z, t⟩ = true, .bool (withinS ⟨a, b, c, d, e⟩ ⟨x, y, z, t⟩ ⟨u, v, w, k⟩))
  | _ => (False, .tup [])
theorem q38 : ∀ args H n, (s38 args H).1 → Quiet Tryd.prog 38 args H n (s38 args H).2 := by
  intro args H n h
  unfold s38 at h ⊢
  split at h
  · exact (p38 ⟨_, _, _, _, _⟩ ⟨_, _, _, _⟩ ⟨_, _, _, _⟩ h.1 h.2).quiet H n
  · exact h.elim
def s39 : List AVal → AHeap → Prop × AVal := fun a H => match a with
  | [.agg [.int .i64 a, .int .i64 b, .int .i64 c, .int .i64 d, .int .i64 e], .agg [.int .i64 x, .int .i64 y, .int .i64 z, .int .i64 t], .agg [.int .i64 x', .int .i64 y', .int .i64 z', .int .i64 t'],
     .agg [.int .i64 u, .int .i64 v, .int .i64 w, .int .i64 k], .agg [.int .i64 u', .int .i64 v', .int .i64 w', .int .i64 k']] =>
    (goodS ⟨a, b, c, d, e⟩ = true ∧ fitsS ⟨a, b, c, d, e⟩ ⟨x, y, z, t⟩ = true ∧ Sm w ∧ Sm k, .bool (aheadS ⟨a, b, c, d, e⟩ ⟨x, y, z, t⟩ ⟨x', y', z', t'⟩ ⟨u, v, w, k⟩ ⟨u', v', w', k'⟩))
  | _ => (False, .tup [])
theorem q39 : ∀ args H n, (s39 args H).1 → Quiet Tryd.prog 39 args H n (s39 args H).2 := by
  intro args H n h
  unfold s39 at h ⊢
  split at h
  · exact (p39 ⟨_, _, _, _, _⟩ ⟨_, _, _, _⟩ ⟨_, _, _, _⟩ ⟨_, _, _, _⟩ ⟨_, _, _, _⟩ h.1 h.2.1 h.2.2).quiet H n
  · exact h.elim
def T1 : Tab := tadd 25 s25 (tadd 28 s28 (tadd 29 s29 (tadd 33 s33 (tadd 20 s33 (tadd 35 s35 (tadd 36 s36 (tadd 37 s37 (tadd 38 s38 (tadd 39 s39 tnil)))))))))
theorem T1_25 (a : List AVal) (H : AHeap) : T1 25 a H = s25 a H := rfl
theorem T1_28 (a : List AVal) (H : AHeap) : T1 28 a H = s28 a H := rfl
theorem T1_29 (a : List AVal) (H : AHeap) : T1 29 a H = s29 a H := rfl
theorem T1_33 (a : List AVal) (H : AHeap) : T1 33 a H = s33 a H := rfl
theorem T1_20 (a : List AVal) (H : AHeap) : T1 20 a H = s33 a H := rfl
theorem T1_35 (a : List AVal) (H : AHeap) : T1 35 a H = s35 a H := rfl
theorem T1_36 (a : List AVal) (H : AHeap) : T1 36 a H = s36 a H := rfl
theorem T1_37 (a : List AVal) (H : AHeap) : T1 37 a H = s37 a H := rfl
theorem T1_38 (a : List AVal) (H : AHeap) : T1 38 a H = s38 a H := rfl
theorem T1_39 (a : List AVal) (H : AHeap) : T1 39 a H = s39 a H := rfl
theorem T1_ok : TabOK Tryd.prog T1 := (((((((((TabOK.tnil.add q39).add q38).add q37).add q36).add q35).add q20).add q33).add q29).add q28).add q25

end Go.AM
end

/- Booklets: what the two Checks return. Conditions: none. -/
section
set_option maxRecDepth 10000
set_option linter.unusedSimpArgs false
set_option linter.unusedVariables false
set_option maxHeartbeats 1000000
set_option linter.unusedVariables false
set_option linter.unusedSimpArgs false
namespace Go.AM
open Go.Proofs

theorem pap_eta (p : Pap) : Pap.mk p.W p.H p.M p.S p.C = p := rfl
theorem blk_eta (b : Blk) : Blk.mk b.K b.N b.W b.H = b := rfl
theorem plc_eta (x : Plc) : Plc.mk x.B x.P x.X x.Y = x := rfl

def dupB (prev : List Blk) (b : Blk) : Bool := prev.any fun c => decide (c.K = b.K) && decide (c.N = b.N)
def okB (p : Pap) (l : List Blk) (i : Nat) : Bool := match l[i]? with
  | some b => fitsS p b && !dupB (l.take i) b
  | none => true
def checkS (p : Pap) (l : List Blk) : Int := if 64 < l.length then 2 else if goodS p = false then 570 else if (List.range l.length).all (okB p l) then 0 else 570

theorem check_bad {p : Pap} {l : List Blk} {i : Nat} (h1 : l.length ≤ 64) (hi : i < l.length) (h : okB p l i = false) : checkS p l = 570 := by
  unfold checkS
  rw [if_neg (by omega)]
  split
  · rfl
  · rw [if_neg]
    intro hh
    rw [List.all_eq_true] at hh
    rw [hh i (by simpa using hi)] at h; cases h
theorem check_good {p : Pap} {l : List Blk} (h1 : l.length ≤ 64) (hg : goodS p = true) (h : ∀ i, i < l.length → okB p l i = true) : checkS p l = 0 := by
  unfold checkS
  rw [if_neg (by omega), if_neg (by simp [hg]), if_pos]
  rw [List.all_eq_true]
  intro i hi; exact h i (by simpa using hi)

theorem dup_take {l : List Blk} {i j : Nat} {b : Blk} (hj : j < l.length) (hij : j < i) (h1 : (l[j]).K = b.K) (h2 : (l[j]).N = b.N) : dupB (l.take i) b = true := by
  unfold dupB
  rw [List.any_eq_true]
  refine ⟨l[j], ?_, by simp [h1, h2]⟩
  rw [List.mem_take_iff_getElem]
  exact ⟨j, by omega, rfl⟩
theorem dup_none {l : List Blk} {i : Nat} {b : Blk} (h : ∀ j (hj : j < l.length), j < i → ¬ ((l[j]).K = b.K ∧ (l[j]).N = b.N)) : dupB (l.take i) b = false := by
  unfold dupB
  rw [List.any_eq_false]
  intro c hc
  rw [List.mem_take_iff_getElem] at hc
  obtain ⟨j, hj, rfl⟩ := hc
  have := h j (by omega) (by omega)
  simpa using this

theorem p14 (p : Pap) (l : List Blk) : Pur Tryd.prog 14 [encP p, .sl (.none 4) (l.map encB)] (.int .i64 (checkS p l)) := by
  refine .mk ⟨by simp [unders, AVal.under], ⟨trivial, unders_map (fun x => by simp [AVal.under, unders]) l⟩, trivial⟩ trivial (a14 (ev_awp T1_ok (ev_evK ?_)))
  simp only [kont_nil, kont_n, kont_r, k_skip, k_ret, k_seq, k_block, k_cond, k_reg, r_nil, r_v, r_box, r_call, callT, penv, postC, rcs, rc1, rvS, eget, lk, lkv, oks, AS.put, AS.keep, evk, Opk.opds, aload, isI, toI, isB, toB, mk, icmp, nT, hget_hset, hget_nil, AVal.cells, List.length_cons, List.length_nil, List.filterMap, List.map_cons, List.map_nil, List.append_nil, List.nil_append, Option.map_some, reduceCtorEq, true_and, Nat.reduceEqDiff, ↓reduceIte, Nat.reduceAdd, List.drop, List.take, List.take_succ_cons, Nat.le_refl, Nat.zero_add, Bool.not_eq_true', Bool.not_eq_false', decide_eq_true_eq, decide_eq_false_iff_not, and_self, ret_eq, Nat.add_zero, wk_int, c14, T1_28, s28, List.length_map, pap_eta]
  refine ⟨fun h => ?_, fun h => ⟨fun hg => ?_, fun hg => ?_⟩⟩
  · unfold checkS; rw [if_pos (by omega)]
  · unfold checkS; rw [if_neg (by omega), if_pos hg]
  have hg : goodS p = true := by simpa using hg
  have hl : l.length ≤ 64 := by omega
  refine k_loop (fun i : Nat => ⟨[(1, true, .sl (.none 4) (l.map encB)), (2, true, .ptr 0 0), (5, true, .int .i64 i)], hset hnil 0 (.box [.int .i64 p.W, .int .i64 p.H, .int .i64 p.M, .int .i64 p.S, .int .i64 p.C]), 2⟩)
    (fun i => i ≤ l.length ∧ ∀ j < i, okB p l j = true) (fun i => l.length - i) 0 rfl ⟨by omega, fun j hj => by omega⟩ ?_
  rintro i ⟨hi, hall⟩
  by_cases hlt : i < l.length
  · simp only [kont_nil, kont_n, kont_e, kont_r, kont_be, kont_br, k_skip, k_exit, k_ret, k_seq, k_block, k_cond, k_reg, r_nil, r_v, r_call, callT, lpQ_e, lpQ_r, postC, rcs, rc1, rvS, eget, lk, lkv, oks, AS.put, AS.keep, evk, Opk.opds, aload, isI, isInt, toI, isB, toB, mk, icmp, hget_hset, AVal.cells, Tok.esz, List.length_cons, List.length_nil, List.filterMap, List.map_cons, List.map_nil, List.append_nil, List.nil_append, Option.map_some, reduceCtorEq, and_true, true_and, forall_const, Nat.reduceEqDiff, ↓reduceIte, Nat.reduceAdd, List.drop, List.take, List.take_succ_cons, Nat.le_refl, false_implies, Nat.zero_add, Bool.not_eq_true', Bool.not_eq_false', and_self, ret_eq, Nat.add_zero, wk_int, decide_true, T1_29, s29, List.length_map, Int.ofNat_lt, hlt, List.getElem?_map, List.getElem?_eq_getElem hlt, Int.toNat_natCast, Option.getD_some, pap_eta, blk_eta, hg, Int.natCast_nonneg]
    refine ⟨fun hf => (check_bad hl hlt ?_).symm, fun hf => ?_⟩
    · simp [okB, List.getElem?_eq_getElem hlt, hf]
    have hf : fitsS p l[i] = true := by simpa using hf
    refine k_loop (fun k : Nat => ⟨[(1, true, .sl (.none 4) (l.map encB)), (2, true, .ptr 0 0), (5, true, .int .i64 i), (6, true, .int .i64 k)], hset hnil 0 (.box [.int .i64 p.W, .int .i64 p.H, .int .i64 p.M, .int .i64 p.S, .int .i64 p.C]), 2⟩)
      (fun k => k ≤ i ∧ ∀ j (hj : j < l.length), j < k → ¬ ((l[j]).K = (l[i]).K ∧ (l[j]).N = (l[i]).N)) (fun k => i - k) 0 rfl ⟨by omega, fun j hj h => by omega⟩ ?_
    rintro k ⟨hk, hno⟩
    by_cases hki : k < i
    · have hkl : k < l.length := by omega
      have e := w64_succ (k := k) (by omega)
      simp only [kont_nil, kont_n, kont_e, kont_r, kont_bn, kont_be, kont_br, k_skip, k_exit, k_ret, k_seq, k_block, k_cond, k_reg, r_nil, r_v, r_vg, r_pick, lpQ_n, lpQ_e, lpQ_r, postC, rcs, rc1, rvS, gok, gvb, eget, lk, lkv, oks, AS.put, AS.keep, evk, Opk.opds, aload, isI, isInt, toI, isB, toB, sel, mk, icmp, iarith, AVal.cells, Tok.esz, List.length_cons, List.length_nil, List.filterMap, Option.map_some, reduceCtorEq, and_true, true_and, forall_const, Nat.reduceEqDiff, ↓reduceIte, Bool.false_eq_true, Nat.reduceAdd, List.drop, List.take, Nat.reduceLeDiff, Int.reduceEq, List.headD_cons, Bool.true_and, isDiv, false_implies, implies_true, Nat.zero_add, Bool.cond_false_right, imp_self, beq_true, Bool.and_eq_true, decide_eq_true_eq, decide_eq_false_iff_not, ne_eq, not_false_eq_true, and_self, ret_eq, Nat.add_zero, wk_int, decide_true, List.length_map, Int.ofNat_lt, hki, hkl, hlt, List.getElem?_map, List.getElem?_eq_getElem hlt, List.getElem?_eq_getElem hkl, Int.toNat_natCast, Option.getD_some, Int.natCast_nonneg, e]
      refine ⟨fun h => (check_bad hl hlt ?_).symm, fun h => .mk (k + 1) rfl ⟨by omega, fun j hj hjk => ?_⟩ (by omega)⟩
      · simp only [okB, List.getElem?_eq_getElem hlt, hf, dup_take hkl hki h.1 h.2]; rfl
      · by_cases hjk' : j = k
        · subst hjk'; intro q; simp [q.1, q.2] at h
        · exact hno j hj (by omega)
    · have : k = i := by omega
      subst this
      have e := w64_succ (k := k) (by omega)
      simp only [kont_nil, kont_n, kont_e, kont_r, kont_bn, kont_be, kont_br, k_skip, k_exit, k_ret, k_seq, k_block, k_cond, k_reg, r_nil, r_v, r_vg, r_pick, lpQ_n, lpQ_e, lpQ_r, postC, rcs, rc1, rvS, gok, gvb, eget, lk, lkv, oks, AS.put, AS.keep, evk, Opk.opds, aload, isI, isInt, toI, isB, toB, sel, mk, icmp, iarith, AVal.cells, Tok.esz, List.filterMap, Option.map_some, reduceCtorEq, and_true, true_and, forall_const, Nat.reduceEqDiff, ↓reduceIte, Bool.false_eq_true, List.drop, Int.reduceEq, Bool.and_true, beq_self_eq_true, isDiv, false_implies, implies_true, ne_eq, not_false_eq_true, and_self, ret_eq, Nat.add_zero, wk_int, decide_true, decide_false, cond_true, List.length_map, Int.ofNat_lt, hki, e]
      refine .mk (k + 1) rfl ⟨by omega, fun j hj => ?_⟩ (by omega)
      by_cases hjk : j = k
      · subst hjk; simp [okB, List.getElem?_eq_getElem hlt, hf, dup_none hno]
      · exact hall j (by omega)
  · have : i = l.length := by omega
    simp only [kont_nil, kont_n, kont_e, kont_r, kont_be, kont_br, k_skip, k_exit, k_ret, k_seq, k_block, k_cond, k_reg, r_nil, r_v, r_call, callT, lpQ_e, lpQ_r, postC, rcs, rc1, rvS, eget, lk, lkv, oks, AS.put, AS.keep, evk, Opk.opds, aload, isI, isInt, toI, isB, toB, mk, icmp, hget_hset, AVal.cells, Tok.esz, List.length_cons, List.length_nil, List.filterMap, List.map_cons, List.map_nil, List.append_nil, List.nil_append, Option.map_some, true_and, forall_const, Nat.reduceEqDiff, ↓reduceIte, Bool.false_eq_true, Nat.reduceAdd, List.drop, List.take, List.take_succ_cons, Nat.le_refl, false_implies, Nat.zero_add, Bool.not_eq_true', Bool.not_eq_false', and_self, ret_eq, Nat.add_zero, wk_int, decide_false, List.length_map, Int.ofNat_lt, hlt]
    exact (check_good hl hg (fun j hj => hall j (by omega))).symm

/-! the closure in Check, and the two functions of the library -/
def sameB (k n : Int) (c : Blk) : Bool := decide (c.K = k) && decide (c.N = n)
def s26 : List AVal → AHeap → Prop × AVal := fun a H => match a with
  | [.agg [.int .i64 x, .int .i64 y, .int .i64 z, .int .i64 t], .ptr id 0] => match hget H id with
    | some (.box [.int .i64 k, .int .i64 n, .int .i64 w, .int .i64 h]) => (True, .bool (sameB k n ⟨x, y, z, t⟩))
    | _ => (False, .tup [])
  | _ => (False, .tup [])
theorem q26 : ∀ args H n, (s26 args H).1 → Quiet Tryd.prog 26 args H n (s26 args H).2 := by
  intro args H n h
  unfold s26 at h ⊢
  split at h
  · rename_i x y z t id
    split at h
    · rename_i k m w hh ho
      refine Quiet.of l26 trivial fun hf => a26 (ev_awp TabOK.tnil (ev_evK ?_))
      have h1 := hf.lt ho
      have e1 : (n = id) = False := by simp; omega
      have f0 := hf n (Nat.le_refl n)
      simp only [kont_nil, kont_n, k_ret, k_seq, k_reg, r_nil, r_v, r_box, penv, postC, rcs, rc1, rvS, eget, lk, lkv, oks, AS.put, AS.keep, evk, evB_eq, allB, fillB, splice, Opk.opds, aload, mk, nT, hget_hset, AVal.cells, List.length_cons, List.length_nil, List.filterMap, List.map_cons, List.map_nil, List.append_nil, List.nil_append, List.cons_append, Option.map_some, reduceCtorEq, true_and, Nat.reduceEqDiff, ↓reduceIte, Bool.false_eq_true, Nat.reduceAdd, List.drop, List.take, List.drop_succ_cons, List.take_succ_cons, Nat.reduceLeDiff, Nat.le_refl, List.headD_cons, Bool.and_true, Nat.zero_add, and_self, qret_eq, Nat.add_zero, wk_bool, c26, f0, ho, e1, cfit, ceqs, ceq]
      exact ⟨rfl, .new hf (Nat.le_refl n) (.refl H)⟩
    · exact h.elim
  · exact h.elim
def T2 : Tab := tadd 26 s26 T1
theorem T2_26 (a : List AVal) (H : AHeap) : T2 26 a H = s26 a H := rfl
theorem T2_ok : TabOK Tryd.prog T2 := T1_ok.add q26

/-- The place of the first element for which q holds; -1: none. -/
def idxF (q : Blk → Bool) : List Blk → Int
  | [] => -1
  | b :: l => if q b then 0 else (let r := idxF q l; if r < 0 then -1 else r + 1)
theorem idxF_none {q : Blk → Bool} : ∀ {l : List Blk}, (∀ i (hi : i < l.length), q l[i] = false) → idxF q l = -1
  | [], _ => rfl
  | b :: l, h => by
    have h0 := h 0 (by simp)
    have := idxF_none (l := l) fun i hi => by have := h (i + 1) (by simp; omega); simpa using this
    simp at h0
    simp [idxF, h0, this]
theorem idxF_some {q : Blk → Bool} : ∀ {l : List Blk} {i : Nat} (hi : i < l.length), q l[i] = true → (∀ j (hj : j < l.length), j < i → q l[j] = false) → idxF q l = i
  | [], i, hi, _, _ => by simp at hi
  | b :: l, 0, hi, h, _ => by simp at h; simp [idxF, h]
  | b :: l, i + 1, hi, h, hn => by
    have h0 := hn 0 (by simp) (by omega)
    simp at h0
    have := idxF_some (l := l) (i := i) (by simpa using hi) (by simpa using h) fun j hj hji => by have := hn (j + 1) (by simp; omega) (by omega); simpa using this
    simp [idxF, h0, this]; omega
theorem idxF_any {q : Blk → Bool} (l : List Blk) : decide (idxF q l ≥ 0) = l.any q := by
  induction l with
  | nil => rfl
  | cons b l ih =>
    simp only [idxF, List.any_cons]
    by_cases h : q b
    · simp [h]
    · simp only [h, Bool.false_eq_true, if_false, Bool.false_or, ← ih]
      split <;> simp <;> omega
theorem decB_map (l : List Blk) : (l.map encB).map decB = l := by
  rw [List.map_map]; conv => rhs; rw [← List.map_id l]
  rfl

theorem i41 (l : List Blk) (id : Nat) (k m w h : Int) (H : AHeap) (n : Nat) (ho : hget H id = some (.box [.int .i64 k, .int .i64 m, .int .i64 w, .int .i64 h])) (hl : l.length ≤ 1000) :
    Quiet Tryd.prog 41 [.sl (.none 4) (l.map encB), .fn (.func 26) [] [.ptr id 0]] H n (.int .i64 (idxF (sameB k m) l)) := by
  refine Quiet.of l41 trivial fun hf => a41 (ev_awp T2_ok (ev_evK ?_))
  simp only [kont_n, k_seq, k_block, k_reg, r_nil, r_v, penv, eget, lk, lkv, oks, AS.put, AS.keep, evk, Opk.opds, List.filterMap, Option.map_some, reduceCtorEq, true_and, Nat.reduceEqDiff, ↓reduceIte, Nat.zero_add, and_self, Nat.add_zero, c41, List.length_map]
  refine k_loop (fun i : Nat => ⟨[(0, true, .sl (.none 4) (l.map encB)), (1, true, .fn (.func 26) [] [.ptr id 0]), (7, true, .int .i64 l.length), (8, true, .int .i64 i)], H, n⟩)
    (fun i => i ≤ l.length ∧ ∀ j (hj : j < l.length), j < i → sameB k m l[j] = false) (fun i => l.length - i) 0 rfl ⟨by omega, fun j hj h => by omega⟩ ?_
  rintro i ⟨hi, hno⟩
  by_cases hlt : i < l.length
  · have e := w64_succ (k := i) (by omega)
    simp only [kont_nil, kont_n, kont_e, kont_r, kont_bn, kont_be, kont_br, k_skip, k_exit, k_ret, k_seq, k_block, k_cond, k_reg, r_nil, r_v, r_call, callT, lpQ_n, lpQ_e, lpQ_r, postC, rcs, rc1, rvS, eget, lk, lkv, oks, AS.put, AS.keep, evk, Opk.opds, aload, isI, isInt, toI, isB, toB, mk, icmp, iarith, AVal.cells, Tok.esz, List.length_cons, List.length_nil, List.filterMap, List.map_cons, List.map_nil, List.nil_append, List.cons_append, Option.map_some, reduceCtorEq, and_true, true_and, forall_const, Nat.reduceEqDiff, ↓reduceIte, Bool.false_eq_true, Nat.reduceAdd, List.take, Int.reduceEq, Nat.le_refl, isDiv, false_implies, implies_true, Nat.zero_add, ne_eq, not_false_eq_true, and_self, qret_eq, Nat.add_zero, wk_int, decide_true, T2_26, s26, ho, List.length_map, Int.ofNat_lt, hlt, List.getElem?_map, List.getElem?_eq_getElem hlt, Int.toNat_natCast, Option.getD_some, Int.natCast_nonneg, e, blk_eta, Keeps.refl]
    refine ⟨fun h => (idxF_some hlt h hno).symm, fun h => .mk (i + 1) rfl ⟨by omega, fun j hj hjk => ?_⟩ (by omega)⟩
    by_cases hjk' : j = i
    · subst hjk'; exact h
    · exact hno j hj (by omega)
  · simp only [kont_nil, kont_n, kont_e, kont_r, kont_bn, kont_be, kont_br, k_skip, k_exit, k_ret, k_seq, k_block, k_cond, k_reg, r_nil, r_v, r_call, callT, lpQ_n, lpQ_e, lpQ_r, postC, rcs, rc1, rvS, eget, lk, lkv, oks, AS.put, AS.keep, evk, Opk.opds, aload, isI, isInt, toI, isB, toB, mk, icmp, iarith, AVal.cells, Tok.esz, List.filterMap, List.map_cons, List.map_nil, List.nil_append, List.cons_append, Option.map_some, reduceCtorEq, and_true, true_and, forall_const, Nat.reduceEqDiff, ↓reduceIte, Bool.false_eq_true, Int.reduceEq, isDiv, false_implies, implies_true, ne_eq, not_false_eq_true, and_self, qret_eq, Nat.add_zero, wk_int, decide_false, List.length_map, Int.ofNat_lt, hlt, Keeps.refl]
    exact (idxF_none fun j hj => hno j hj (by omega)).symm

/-- A list of blocks. -/
def encd (L : List AVal) : Prop := L = (L.map decB).map encB
theorem encd_map (l : List Blk) : encd (l.map encB) := by unfold encd; rw [decB_map]
def s41 : List AVal → AHeap → Prop × AVal := fun a H => match a with
  | [.sl tok L, .fn (.func 26) [] [.ptr id 0]] => match hget H id with
    | some (.box [.int .i64 k, .int .i64 n, .int .i64 w, .int .i64 h]) => (encd L ∧ L.length ≤ 1000 ∧ (tok.esz = 4 ∨ L = []), .int .i64 (idxF (sameB k n) (L.map decB)))
    | _ => (False, .tup [])
  | _ => (False, .tup [])
theorem q41 : ∀ args H n, (s41 args H).1 → Quiet Tryd.prog 41 args H n (s41 args H).2 := by
  intro args H n h
  unfold s41 at h ⊢
  split at h
  · rename_i tok L id
    split at h
    · rename_i k m w hh ho
      simp only [] at h ⊢
      obtain ⟨h1, h2, h3⟩ := h
      refine ACalls.args (i41 (L.map decB) id k m w hh H n ho (by simpa using h2)) ?_
      rintro g vs ⟨v, r, rfl, k1, k2⟩
      refine ⟨v, r, rfl, ?_, k2⟩
      rw [← h1]; exact Wk.sl h3 _ _ k1
    · exact h.elim
  · exact h.elim
def T3 : Tab := tadd 41 s41 T2
theorem T3_41 (a : List AVal) (H : AHeap) : T3 41 a H = s41 a H := rfl
theorem T3_ok : TabOK Tryd.prog T3 := T2_ok.add q41
theorem i27 (l : List Blk) (id : Nat) (k m w h : Int) (H : AHeap) (n : Nat) (ho : hget H id = some (.box [.int .i64 k, .int .i64 m, .int .i64 w, .int .i64 h])) (hl : l.length ≤ 1000) :
    Quiet Tryd.prog 27 [.sl (.none 4) (l.map encB), .fn (.func 26) [] [.ptr id 0]] H n (.bool (l.any (sameB k m))) := by
  refine Quiet.of l27 trivial fun hf => a27 (ev_awp T3_ok (ev_evK ?_))
  simp only [kont_nil, kont_n, k_ret, k_seq, k_reg, r_nil, r_v, r_call, callT, penv, postC, rcs, rc1, rvS, eget, lk, lkv, oks, AS.put, AS.keep, evk, Opk.opds, isI, toI, icmp, Tok.esz, List.filterMap, List.map_cons, List.map_nil, List.append_nil, List.nil_append, Option.map_some, reduceCtorEq, and_true, true_and, Nat.reduceEqDiff, ↓reduceIte, Nat.zero_add, and_self, true_or, qret_eq, Nat.add_zero, wk_bool, c27, T3_41, s41, ho, encd_map, List.length_map, hl, decB_map, true_or, Keeps.refl]
  rw [← idxF_any]
def s27 : List AVal → AHeap → Prop × AVal := fun a H => match a with
  | [.sl tok L, .fn (.func 26) [] [.ptr id 0]] => match hget H id with
    | some (.box [.int .i64 k, .int .i64 n, .int .i64 w, .int .i64 h]) => (encd L ∧ L.length ≤ 1000 ∧ (tok.esz = 4 ∨ L = []), .bool ((L.map decB).any (sameB k n)))
    | _ => (False, .tup [])
  | _ => (False, .tup [])
theorem q27 : ∀ args H n, (s27 args H).1 → Quiet Tryd.prog 27 args H n (s27 args H).2 := by
  intro args H n h
  unfold s27 at h ⊢
  split at h
  · rename_i tok L id
    split at h
    · rename_i k m w hh ho
      simp only [] at h ⊢
      obtain ⟨h1, h2, h3⟩ := h
      refine ACalls.args (i27 (L.map decB) id k m w hh H n ho (by simpa using h2)) ?_
      rintro g vs ⟨v, r, rfl, k1, k2⟩
      refine ⟨v, r, rfl, ?_, k2⟩
      rw [← h1]; exact Wk.sl h3 _ _ k1
    · exact h.elim
  · exact h.elim
def T4 : Tab := tadd 27 s27 T3
theorem T4_27 (a : List AVal) (H : AHeap) : T4 27 a H = s27 a H := rfl
theorem T4_25 (a : List AVal) (H : AHeap) : T4 25 a H = s25 a H := rfl
theorem T4_ok : TabOK Tryd.prog T4 := T3_ok.add q27

theorem fits_between {p : Pap} (hg : goodS p = true) (b : Blk) : fitsS p b = (betweenS b.K 1 3 && betweenS b.N 0 65536 && betweenS b.W 1 (IntKind.i64.wrap ((IntKind.i64.wrap (p.W - IntKind.i64.wrap (2 * p.M))).tdiv p.C)) &&
    betweenS b.H 1 (IntKind.i64.wrap ((IntKind.i64.wrap (p.H - IntKind.i64.wrap (2 * p.M))).tdiv p.C))) := by
  rw [good_iff] at hg
  have hdiv : ∀ x : Int, 1 ≤ x → x ≤ 4096 → x.tdiv p.C = x / p.C ∧ 0 ≤ x / p.C ∧ x / p.C ≤ 4096 := by
    intro x h1 h2
    refine ⟨Int.tdiv_eq_ediv_of_nonneg (by omega), Int.ediv_nonneg (by omega) (by omega), ?_⟩
    exact Int.le_trans (Int.ediv_le_self p.C (by omega)) h2
  have e1 := hdiv (p.W - 2 * p.M) (by omega) (by omega)
  have e2 := hdiv (p.H - 2 * p.M) (by omega) (by omega)
  rw [w64_in (x := 2 * p.M) (by omega) (by omega), w64_in (x := p.W - 2 * p.M) (by omega) (by omega), w64_in (x := p.H - 2 * p.M) (by omega) (by omega), e1.1, e2.1, w64_in (x := (p.W - 2 * p.M) / p.C) (by omega) (by omega), w64_in (x := (p.H - 2 * p.M) / p.C) (by omega) (by omega)]
  have m1 : b.W ≤ (p.W - 2 * p.M) / p.C ↔ b.W * p.C ≤ p.W - 2 * p.M := Int.le_ediv_iff_mul_le (by omega)
  have m2 : b.H ≤ (p.H - 2 * p.M) / p.C ↔ b.H * p.C ≤ p.H - 2 * p.M := Int.le_ediv_iff_mul_le (by omega)
  rw [Bool.eq_iff_iff, fits_iff]
  simp only [betweenS, Bool.and_eq_true, decide_eq_true_eq]
  rw [m1, m2]
  constructor
  · rintro ⟨a1, a2, a3, a4, a5, a6, a7, a8, a9, a10⟩; exact ⟨⟨⟨⟨a1, a2⟩, a3, a4⟩, a5, a9⟩, a7, a10⟩
  · rintro ⟨⟨⟨⟨a1, a2⟩, a3, a4⟩, a5, a9⟩, a7, a10⟩
    have := m1.2 a9
    have := m2.2 a10
    exact ⟨a1, a2, a3, a4, a5, by omega, a7, by omega, a9, a10⟩

theorem p13 (p : Pap) (l : List Blk) : Pur Tryd.prog 13 [encP p, .sl (.none 4) (l.map encB)] (.int .i64 (checkS p l)) := by
  refine .mk ⟨by simp [unders, AVal.under], ⟨trivial, unders_map (fun x => by simp [AVal.under, unders]) l⟩, trivial⟩ trivial (a13 (ev_awp T4_ok (ev_evK ?_)))
  simp only [kont_nil, kont_n, kont_r, k_skip, k_ret, k_seq, k_block, k_cond, k_reg, r_nil, r_v, r_vg, r_pick, r_box, r_call, r_callg, callT, penv, postC, rcs, rc1, rvS, gok, gvb, eget, lk, lkv, oks, AS.put, AS.keep, evk, evMM_cons, allI, foldMM, Opk.opds, aload, isI, toI, isB, toB, sel, mk, icmp, iarith, nT, hget_hset, hget_nil, AVal.cells, List.length_cons, List.length_nil, List.filterMap, List.map_cons, List.map_nil, List.append_nil, List.nil_append, Option.map_some, reduceCtorEq, and_true, true_and, forall_const, Nat.reduceEqDiff, ↓reduceIte, Bool.false_eq_true, Nat.reduceAdd, List.drop, List.take, List.take_succ_cons, Nat.reduceLeDiff, Nat.le_refl, List.headD_cons, Bool.true_and, isDiv, false_implies, implies_true, Nat.zero_add, Bool.cond_true_left, imp_self, beq_false, Bool.not_eq_true', Bool.not_eq_false', Bool.or_eq_true, Bool.or_eq_false_iff, decide_eq_true_eq, decide_eq_false_iff_not, ne_eq, and_self, ret_eq, Nat.add_zero, wk_int, c13, T4_25, s25, List.length_map]
  refine ⟨fun h => ?_, fun h => ?_⟩
  · unfold checkS; rw [if_pos (by omega)]
  have hl : l.length ≤ 64 := by omega
  refine ⟨fun h => ?_, fun h => ?_⟩
  · have hg : goodS p = false := by
      cases hgd : goodS p with
      | false => rfl
      | true =>
        exfalso
        rw [good_iff] at hgd
        rw [w64_in (by omega) (by omega)] at h
        simp [betweenS] at h
        omega
    unfold checkS; rw [if_neg (by omega), if_pos hg]
  have hg : goodS p = true := by
    rw [good_iff]
    simp [betweenS] at h
    rw [w64_in (by omega) (by omega)] at h
    omega
  have hg' := (good_iff p).1 hg
  have hC : (p.C = 0) = False := by simp; omega
  refine k_loop (fun i : Nat => ⟨[(1, true, .sl (.none 4) (l.map encB)), (2, true, .ptr 0 0), (50, true, .sl (.none 4) (l.map encB)), (51, true, .int .i64 l.length), (52, true, .int .i64 i)], hset hnil 0 (.box [.int .i64 p.W, .int .i64 p.H, .int .i64 p.M, .int .i64 p.S, .int .i64 p.C]), 2⟩)
    (fun i => i ≤ l.length ∧ ∀ j < i, okB p l j = true) (fun i => l.length - i) 0 rfl ⟨by omega, fun j hj => by omega⟩ ?_
  rintro i ⟨hi, hall⟩
  by_cases hlt : i < l.length
  · have e := w64_succ (k := i) (by omega)
    simp only [kont_nil, kont_n, kont_e, kont_r, kont_bn, kont_be, kont_br, k_skip, k_exit, k_ret, k_seq, k_block, k_cond, k_reg, r_nil, r_v, r_vg, r_pick, r_alloc, r_st, r_call, r_callg, stE, callT, lpQ_n, lpQ_e, lpQ_r, postC, rcs, rc1, rvS, gok, gvb, eget, lk, lkv, oks, AS.put, AS.keep, evk, splice, Opk.opds, aload, isI, isInt, toI, isB, toB, sel, mk, icmp, iarith, bnd, bndI, nT, hget_hset, hget_nil, AVal.cells, Tok.esz, Option.toList, List.length_cons, List.length_nil, List.filterMap, List.map_cons, List.map_nil, List.append_nil, List.nil_append, Option.map_some, Option.map_none, reduceCtorEq, and_true, true_and, forall_const, Nat.reduceEqDiff, ↓reduceIte, Bool.false_eq_true, Nat.reduceAdd, List.drop, List.take, List.drop_zero, List.drop_succ_cons, List.take_succ_cons, Nat.reduceLeDiff, Int.reduceEq, Int.reduceLE, Int.reduceToNat, Nat.le_refl, List.headD_cons, Bool.true_and, isDiv, slTok, false_implies, implies_true, Nat.zero_add, Bool.cond_true_left, imp_self, beq_false, Bool.not_eq_true', Bool.not_eq_false', Bool.or_eq_true, Bool.or_eq_false_iff, ne_eq, not_true_eq_false, not_false_eq_true, and_self, or_true, true_or, ret_eq, Nat.add_zero, wk_int, decide_true, T4_25, s25, T4_27, s27, List.length_map, Int.ofNat_lt, Int.ofNat_le, hlt, List.getElem?_map, List.getElem?_eq_getElem hlt, Int.toNat_natCast, Option.getD_some, Int.natCast_nonneg, e, hC, ← List.map_take, encd_map, decB_map, List.length_take, true_or, hi]
    have hfb := fits_between hg l[i]
    refine ⟨fun h => (check_bad hl hlt ?_).symm, fun h => ⟨by omega, fun hd => (check_bad hl hlt ?_).symm, fun hd => ?_⟩⟩
    · have : fitsS p l[i] = false := by
        rw [hfb]
        rcases h with ((h | h) | h) | h <;> simp [h]
      simp [okB, List.getElem?_eq_getElem hlt, this]
    · have : dupB (l.take i) l[i] = true := hd
      simp [okB, List.getElem?_eq_getElem hlt, this]
    · have hf : fitsS p l[i] = true := by rw [hfb, h.1.1.1, h.1.1.2, h.1.2, h.2]; rfl
      have hd : dupB (l.take i) l[i] = false := hd
      refine lpN.drop (i + 1) rfl rfl rfl rfl ?_ ?_ ?_ ⟨by omega, fun j hj => ?_⟩ (by omega)
      · exact Fresh.nil.hset (n := 0) (m := 2) (by omega) (by omega)
      · exact .new (n := 2) (Fresh.nil.hset (n := 0) (by omega) (by omega)) (by omega) (.new (n := 2) (Fresh.nil.hset (n := 0) (by omega) (by omega)) (by omega) (.refl _))
      · simp only [envUnder, AVal.under, Tok.under]
        refine ⟨⟨trivial, unders_map (fun x => by simp [AVal.under, unders]) l⟩, by omega, ⟨trivial, unders_map (fun x => by simp [AVal.under, unders]) l⟩, trivial, trivial, trivial⟩
      · by_cases hjk : j = i
        · subst hjk; simp [okB, List.getElem?_eq_getElem hlt, hf, hd]
        · exact hall j (by omega)
  · have : i = l.length := by omega
    simp only [kont_nil, kont_n, kont_e, kont_r, kont_bn, kont_be, kont_br, k_skip, k_exit, k_ret, k_seq, k_block, k_cond, k_reg, r_nil, r_v, r_vg, r_pick, r_alloc, r_st, r_call, r_callg, stE, callT, lpQ_n, lpQ_e, lpQ_r, postC, rcs, rc1, rvS, gok, gvb, eget, lk, lkv, oks, AS.put, AS.keep, evk, splice, Opk.opds, aload, isI, isInt, toI, isB, toB, sel, mk, icmp, iarith, bnd, bndI, nT, hget_hset, hget_nil, AVal.cells, Tok.esz, Option.toList, List.length_cons, List.length_nil, List.filterMap, List.map_cons, List.map_nil, List.append_nil, List.nil_append, Option.map_some, Option.map_none, reduceCtorEq, and_true, true_and, forall_const, Nat.reduceEqDiff, ↓reduceIte, Bool.false_eq_true, Nat.reduceAdd, List.drop, List.take, List.drop_zero, List.take_succ_cons, Nat.reduceLeDiff, Int.reduceEq, Int.reduceLE, Int.reduceToNat, Nat.le_refl, List.headD_cons, Bool.true_and, isDiv, slTok, false_implies, implies_true, Nat.zero_add, Bool.cond_true_left, imp_self, beq_false, Bool.not_eq_true', Bool.not_eq_false', Bool.or_eq_true, Bool.or_eq_false_iff, ne_eq, not_true_eq_false, not_false_eq_true, impA1, and_self, or_true, ret_eq, Nat.add_zero, wk_int, decide_false, List.length_map, Int.ofNat_lt, hlt]
    exact (check_good hl hg (fun j hj => hall j (by omega))).symm

end Go.AM
end

/- Booklets: what Same and the two Valids return. Conditions: none. -/
section
set_option maxRecDepth 10000
set_option linter.unusedSimpArgs false
set_option linter.unusedVariables false
set_option maxHeartbeats 1000000
set_option linter.unusedVariables false
set_option linter.unusedSimpArgs false
namespace Go.AM
open Go.Proofs

def encdX (L : List AVal) : Prop := L = (L.map decX).map encX
theorem decX_map (l : List Plc) : (l.map encX).map decX = l := by
  rw [List.map_map]; conv => rhs; rw [← List.map_id l]
  rfl
theorem encdX_map (l : List Plc) : encdX (l.map encX) := by unfold encdX; rw [decX_map]
/-- The Checks' place in the table. -/
def s13 : List AVal → AHeap → Prop × AVal := fun a H => match a with
  | [.agg [.int .i64 a, .int .i64 b, .int .i64 c, .int .i64 d, .int .i64 e], .sl tok L] => (encd L ∧ (tok.esz = 4 ∨ L = []), .int .i64 (checkS ⟨a, b, c, d, e⟩ (L.map decB)))
  | _ => (False, .tup [])
theorem q13 : ∀ args H n, (s13 args H).1 → Quiet Tryd.prog 13 args H n (s13 args H).2 := by
  intro args H n h
  unfold s13 at h ⊢
  split at h
  · rename_i a b c d e tok L
    refine ACalls.args ((p13 ⟨a, b, c, d, e⟩ (L.map decB)).quiet H n) ?_
    rintro g vs ⟨v, r, rfl, k1, w, r', rfl, k2, k3⟩
    refine ⟨v, _, rfl, k1, w, r', rfl, ?_, k3⟩
    rw [← h.1]; exact Wk.sl h.2 _ _ k2
  · exact h.elim
theorem q14 : ∀ args H n, (s13 args H).1 → Quiet Tryd.prog 14 args H n (s13 args H).2 := by
  intro args H n h
  unfold s13 at h ⊢
  split at h
  · rename_i a b c d e tok L
    refine ACalls.args ((p14 ⟨a, b, c, d, e⟩ (L.map decB)).quiet H n) ?_
    rintro g vs ⟨v, r, rfl, k1, w, r', rfl, k2, k3⟩
    refine ⟨v, _, rfl, k1, w, r', rfl, ?_, k3⟩
    rw [← h.1]; exact Wk.sl h.2 _ _ k2
  · exact h.elim
def T5 : Tab := tadd 13 s13 (tadd 14 s13 T4)
theorem T5_ok : TabOK Tryd.prog T5 := (T4_ok.add q14).add q13
theorem T5_13 (a : List AVal) (H : AHeap) : T5 13 a H = s13 a H := rfl
theorem T5_14 (a : List AVal) (H : AHeap) : T5 14 a H = s13 a H := rfl
theorem T5_25 (a : List AVal) (H : AHeap) : T5 25 a H = s25 a H := rfl
theorem T5_33 (a : List AVal) (H : AHeap) : T5 33 a H = s33 a H := rfl
theorem T5_35 (a : List AVal) (H : AHeap) : T5 35 a H = s35 a H := rfl
theorem T5_36 (a : List AVal) (H : AHeap) : T5 36 a H = s36 a H := rfl
theorem T5_37 (a : List AVal) (H : AHeap) : T5 37 a H = s37 a H := rfl
theorem T5_38 (a : List AVal) (H : AHeap) : T5 38 a H = s38 a H := rfl
theorem T5_39 (a : List AVal) (H : AHeap) : T5 39 a H = s39 a H := rfl

/-! Same -/
def eqX (x y : Plc) : Bool := decide (x.B = y.B) && decide (x.P = y.P) && decide (x.X = y.X) && decide (x.Y = y.Y)
theorem eqX_iff {x y : Plc} : eqX x y = true ↔ x = y := by
  cases x; cases y; simp [eqX, and_assoc]
def sameS : List Plc → List Plc → Bool
  | [], [] => true
  | x :: xs, y :: ys => eqX x y && sameS xs ys
  | _, _ => false
theorem sameS_iff : ∀ {xs ys : List Plc}, sameS xs ys = true ↔ xs = ys
  | [], [] => by simp [sameS]
  | [], _ :: _ => by simp [sameS]
  | _ :: _, [] => by simp [sameS]
  | x :: xs, y :: ys => by simp [sameS, eqX_iff, sameS_iff]
theorem same_false {xs ys : List Plc} (h : xs ≠ ys) : sameS xs ys = false := by
  cases hs : sameS xs ys with
  | false => rfl
  | true => exact absurd (sameS_iff.1 hs) h
theorem p17 (xs ys : List Plc) (hx : xs.length ≤ 1000000) : Pur Tryd.prog 17 [.sl (.none 4) (xs.map encX), .sl (.none 4) (ys.map encX)] (.bool (sameS xs ys)) := by
  refine .mk ⟨⟨trivial, unders_map (fun x => by simp [AVal.under, unders]) xs⟩, ⟨trivial, unders_map (fun x => by simp [AVal.under, unders]) ys⟩, trivial⟩ trivial (a17 (ev_awp TabOK.tnil (ev_evK ?_)))
  simp only [kont_nil, kont_n, kont_r, k_skip, k_ret, k_seq, k_block, k_cond, k_reg, r_nil, r_v, penv, postC, rcs, rc1, rvS, eget, lk, lkv, oks, AS.put, AS.keep, evk, Opk.opds, isI, toI, isB, toB, icmp, List.filterMap, Option.map_some, reduceCtorEq, true_and, Nat.reduceEqDiff, ↓reduceIte, Nat.zero_add, Bool.not_eq_true', Bool.not_eq_false', decide_eq_true_eq, decide_eq_false_iff_not, and_self, ret_eq, Nat.add_zero, wk_bool, c17, List.length_map]
  refine ⟨fun h => (same_false fun e => ?_).symm, fun h => ?_⟩
  · subst e; exact h rfl
  have hl : xs.length = ys.length := by omega
  refine k_loop (fun i : Nat => ⟨[(0, true, .sl (.none 4) (xs.map encX)), (1, true, .sl (.none 4) (ys.map encX)), (5, true, .int .i64 i)], hnil, 0⟩)
    (fun i => i ≤ xs.length ∧ ∀ j (h1 : j < xs.length) (h2 : j < ys.length), j < i → xs[j] = ys[j]) (fun i => xs.length - i) 0 rfl ⟨by omega, fun j _ _ h => by omega⟩ ?_
  rintro i ⟨hi, hall⟩
  by_cases hlt : i < xs.length
  · have hlt2 : i < ys.length := by omega
    have e := w64_succ (k := i) (by omega)
    simp only [kont_nil, kont_n, kont_e, kont_r, kont_bn, kont_be, kont_br, k_skip, k_exit, k_ret, k_seq, k_block, k_cond, k_reg, r_nil, r_v, lpQ_n, lpQ_e, lpQ_r, postC, rcs, rc1, rvS, eget, lk, lkv, oks, AS.put, AS.keep, evk, Opk.opds, aload, isI, isInt, toI, isB, toB, mk, icmp, iarith, AVal.cells, Tok.esz, List.length_cons, List.length_nil, List.filterMap, Option.map_some, reduceCtorEq, and_true, true_and, forall_const, Nat.reduceEqDiff, ↓reduceIte, Bool.false_eq_true, Nat.reduceAdd, List.take, Int.reduceEq, Nat.le_refl, Bool.and_true, isDiv, false_implies, implies_true, Nat.zero_add, Bool.not_eq_true', Bool.not_eq_false', Bool.and_eq_true, decide_eq_true_eq, ne_eq, not_false_eq_true, and_self, ret_eq, Nat.add_zero, wk_bool, decide_true, List.length_map, Int.ofNat_lt, hlt, hlt2, List.getElem?_map, List.getElem?_eq_getElem hlt, List.getElem?_eq_getElem hlt2, Int.toNat_natCast, Option.getD_some, Int.natCast_nonneg, e, cfit, ceqs, ceq]
    refine ⟨fun h => (same_false fun e => ?_).symm, fun h => .mk (i + 1) rfl ⟨by omega, fun j h1 h2 hjk => ?_⟩ (by omega)⟩
    · subst e; simp at h
    · by_cases hji : j = i
      · subst hji
        obtain ⟨e1, e2, e3, e4⟩ : _ ∧ _ ∧ _ ∧ _ := h
        cases hx : xs[j]; cases hy : ys[j]
        simp only [hx, hy] at e1 e2 e3 e4
        simp [e1, e2, e3, e4]
      · exact hall j h1 h2 (by omega)
  · have : i = xs.length := by omega
    simp only [kont_nil, kont_n, kont_e, kont_r, kont_bn, kont_be, kont_br, k_skip, k_exit, k_ret, k_seq, k_block, k_cond, k_reg, r_nil, r_v, lpQ_n, lpQ_e, lpQ_r, postC, rcs, rc1, rvS, eget, lk, lkv, oks, AS.put, AS.keep, evk, Opk.opds, aload, isI, isInt, toI, isB, toB, mk, icmp, iarith, AVal.cells, Tok.esz, List.filterMap, Option.map_some, reduceCtorEq, true_and, forall_const, Nat.reduceEqDiff, ↓reduceIte, Bool.false_eq_true, Int.reduceEq, isDiv, false_implies, implies_true, Bool.not_eq_true', Bool.not_eq_false', ne_eq, not_false_eq_true, and_self, ret_eq, Nat.add_zero, wk_bool, decide_false, List.length_map, Int.ofNat_lt, hlt]
    exact (sameS_iff.2 (List.ext_getElem hl fun j h1 h2 => hall j h1 h2 (by omega))).symm

/-! Valid -/
def spS (a : Int) : Int := a - a / 2
def pairS (p : Pap) (a b : Blk) (x y : Plc) : Bool :=
  !(decide (x.B = y.B) || decide (x.P = y.P) && !aheadS p a b x y && !aheadS p b a y x) &&
  !(decide (a.N = b.N) && decide (spS x.P = spS y.P) && (decide (a.K = 1) && decide (b.K = 2) || decide (a.K = 2) && decide (b.K = 1)))
def blkAt (l : List Blk) (x : Plc) : Option Blk := if 0 ≤ x.B ∧ x.B < l.length then l[x.B.toNat]? else none
def vokS (p : Pap) (l : List Blk) (xs : List Plc) (i : Nat) : Bool := match xs[i]? with
  | none => true
  | some x => match blkAt l x with
    | none => false
    | some a => withinS p a x && (List.range i).all fun k => match xs[k]? with
      | none => true
      | some y => match blkAt l y with
        | none => true
        | some b => pairS p a b x y
def validS (p : Pap) (l : List Blk) (xs : List Plc) : Bool × Int :=
  if checkS p l = 0 then (if xs.length = l.length then ((List.range xs.length).all (vokS p l xs), 0) else (false, 0)) else (false, checkS p l)
theorem valid_bad {p : Pap} {l : List Blk} {xs : List Plc} {i : Nat} (h0 : checkS p l = 0) (h1 : xs.length = l.length) (hi : i < xs.length) (h : vokS p l xs i = false) : validS p l xs = (false, 0) := by
  unfold validS
  rw [if_pos h0, if_pos h1]
  congr 1
  rw [List.all_eq_false]
  exact ⟨i, by simpa using hi, by simp [h]⟩
theorem valid_good {p : Pap} {l : List Blk} {xs : List Plc} (h0 : checkS p l = 0) (h1 : xs.length = l.length) (h : ∀ i, i < xs.length → vokS p l xs i = true) : validS p l xs = (true, 0) := by
  unfold validS
  rw [if_pos h0, if_pos h1]
  congr 1
  rw [List.all_eq_true]
  intro i hi; exact h i (by simpa using hi)
theorem check_ok {p : Pap} {l : List Blk} (h : checkS p l = 0) : l.length ≤ 64 ∧ goodS p = true ∧ ∀ i (hi : i < l.length), fitsS p l[i] = true := by
  unfold checkS at h
  split at h
  · cases h
  split at h
  · cases h
  split at h
  · rename_i h1 h2 h3
    refine ⟨by omega, by simpa using h2, fun i hi => ?_⟩
    rw [List.all_eq_true] at h3
    have := h3 i (by simpa using hi)
    simp [okB, List.getElem?_eq_getElem hi] at this
    exact this.1
  · cases h

theorem sp_ref {a : Int} (h0 : 0 ≤ a) (h1 : a ≤ 9223372036854775807) : IntKind.wrap .i64 (a - IntKind.wrap .i64 (a.tdiv 2)) = spS a := by
  rw [Int.tdiv_eq_ediv_of_nonneg h0, w64_in (x := a / 2) (by omega) (by omega), w64_in (by omega) (by omega)]; rfl
theorem within_sm {p : Pap} {b : Blk} {x : Plc} (hg : goodS p = true) (hf : fitsS p b = true) (h : withinS p b x = true) : Sm x.X ∧ Sm x.Y ∧ 0 ≤ x.P := by
  rw [good_iff] at hg
  rw [fits_iff] at hf
  have h1 := mul_bd (a := b.W) (c := p.C) (by omega) (by omega) (by omega) (by omega)
  have h2 := mul_bd (a := b.H) (c := p.C) (by omega) (by omega) (by omega) (by omega)
  simp [withinS] at h
  unfold Sm
  omega

theorem vok_spec {p : Pap} {l : List Blk} {xs : List Plc} {k : Nat} (hk : k < xs.length) (h : vokS p l xs k = true) : ∃ j : Nat, (xs[k]).B = j ∧ ∃ hj : j < l.length, blkAt l xs[k] = some l[j] ∧ withinS p l[j] xs[k] = true := by
  simp only [vokS, List.getElem?_eq_getElem hk] at h
  cases hb : blkAt l xs[k] with
  | none => rw [hb] at h; cases h
  | some a =>
    rw [hb] at h
    simp only [Bool.and_eq_true] at h
    unfold blkAt at hb
    split at hb
    · rename_i hB
      refine ⟨(xs[k]).B.toNat, by omega, by omega, ?_⟩
      rw [List.getElem?_eq_getElem (by omega)] at hb
      cases hb
      exact ⟨rfl, h.1⟩
    · cases hb

theorem vok_pair {p : Pap} {l : List Blk} {xs : List Plc} {i k : Nat} {a b : Blk} (hi : i < xs.length) (hk : k < xs.length) (hki : k < i) (ha : blkAt l xs[i] = some a) (hb : blkAt l xs[k] = some b) (h : pairS p a b xs[i] xs[k] = false) : vokS p l xs i = false := by
  simp only [vokS, List.getElem?_eq_getElem hi, ha, Bool.and_eq_false_iff]
  right
  rw [List.all_eq_false]
  exact ⟨k, by simpa using hki, by simp [hk, hb, h]⟩
theorem vok_all {p : Pap} {l : List Blk} {xs : List Plc} {i : Nat} {a : Blk} (hi : i < xs.length) (ha : blkAt l xs[i] = some a) (hw : withinS p a xs[i] = true) (h : ∀ m (hm : m < xs.length), m < i → ∀ b, blkAt l xs[m] = some b → pairS p a b xs[i] xs[m] = true) : vokS p l xs i = true := by
  simp only [vokS, List.getElem?_eq_getElem hi, ha, hw, Bool.true_and, List.all_eq_true]
  intro k hk
  have hk' : k < i := by simpa using hk
  have hkl : k < xs.length := by omega
  simp only [List.getElem?_eq_getElem hkl]
  cases hb : blkAt l xs[k] with
  | none => rfl
  | some b => exact h k hkl hk' b hb

abbrev H5 (p : Pap) : AHeap := hset hnil 0 (.box [.int .i64 p.W, .int .i64 p.H, .int .i64 p.M, .int .i64 p.S, .int .i64 p.C])
theorem fresh5 (p : Pap) : Fresh (H5 p) 3 := Fresh.nil.hset (n := 0) (by omega) (by omega)
abbrev z4 : List AVal := [.int .i64 0, .int .i64 0, .int .i64 0, .int .i64 0]
abbrev b4 (b : Blk) : List AVal := [.int .i64 b.K, .int .i64 b.N, .int .i64 b.W, .int .i64 b.H]
theorem encB_under (n : Nat) (l : List Blk) : unders n (l.map encB) := unders_map (fun x => by simp [AVal.under, unders]) l
theorem encX_under (n : Nat) (l : List Plc) : unders n (l.map encX) := unders_map (fun x => by simp [AVal.under, unders]) l

theorem p19 (p : Pap) (l : List Blk) (xs : List Plc) (hx : ∀ x ∈ xs, x.P ≤ 9223372036854775807) : Pur Tryd.prog 19 [encP p, .sl (.none 4) (l.map encB), .sl (.none 4) (xs.map encX)] (.tup [.bool (validS p l xs).1, .int .i64 (validS p l xs).2]) := by
  refine .mk ⟨by simp [unders, AVal.under], ⟨trivial, encB_under 0 l⟩, ⟨trivial, encX_under 0 xs⟩, trivial⟩ (by simp [AVal.under, unders]) (a19 (ev_awp T5_ok (ev_evK ?_)))
  simp only [kont_nil, kont_n, kont_r, k_skip, k_ret, k_seq, k_block, k_cond, k_reg, r_nil, r_v, r_box, r_call, callT, penv, postC, rcs, rc1, rvS, eget, lk, lkv, oks, AS.put, AS.keep, evk, Opk.opds, aload, isI, toI, isB, toB, mk, icmp, nT, hget_hset, hget_nil, AVal.cells, Tok.esz, List.length_cons, List.length_nil, List.filterMap, List.map_cons, List.map_nil, List.append_nil, List.nil_append, Option.map_some, reduceCtorEq, true_and, Nat.reduceEqDiff, ↓reduceIte, Nat.reduceAdd, List.drop, List.take, List.take_succ_cons, Nat.le_refl, Nat.zero_add, Bool.not_eq_true', Bool.not_eq_false', decide_eq_true_eq, decide_eq_false_iff_not, and_self, true_or, ret_eq, Nat.add_zero, c19, T5_14, s13, List.length_map, pap_eta, encd_map, decB_map]
  refine ⟨fun h => ?_, fun h => ?_⟩
  · have : validS p l xs = (false, checkS p l) := by unfold validS; rw [if_neg h]
    rw [this]; exact Wk.refl _
  have h0 : checkS p l = 0 := by simpa using h
  obtain ⟨hl, hg, hfit⟩ := check_ok h0
  refine ⟨fun h => ?_, fun h => ?_⟩
  · have : validS p l xs = (false, 0) := by unfold validS; rw [if_pos h0, if_neg (by omega)]
    rw [this]; exact Wk.refl _
  have hlen : xs.length = l.length := by omega
  refine k_loop (fun i : Nat => ⟨[(1, true, .sl (.none 4) (l.map encB)), (2, true, .sl (.none 4) (xs.map encX)), (3, true, .ptr 0 0), (9, true, .int .i64 i)], H5 p, 3⟩)
    (fun i => i ≤ xs.length ∧ ∀ j < i, vokS p l xs j = true) (fun i => xs.length - i) 0 rfl ⟨by omega, fun j h => by omega⟩ ?_
  rintro i ⟨hi, hall⟩
  by_cases hlt : i < xs.length
  case neg =>
    simp only [kont_nil, kont_n, kont_e, kont_r, kont_be, kont_br, k_skip, k_exit, k_ret, k_seq, k_block, k_cond, k_reg, r_nil, r_v, r_vg, r_pick, r_alloc, r_st, r_callg, stE, callT, lpQ_e, lpQ_r, postC, rcs, rc1, rvS, gok, gvb, eget, lk, lkv, oks, AS.put, AS.keep, evk, splice, Opk.opds, aload, isI, isInt, toI, isB, toB, sel, mk, icmp, nT, hget_hset, hget_nil, AVal.cells, Tok.esz, List.length_cons, List.length_nil, List.filterMap, List.map_cons, List.map_nil, List.append_nil, List.nil_append, Option.map_some, reduceCtorEq, and_true, true_and, forall_const, Nat.reduceEqDiff, ↓reduceIte, Bool.false_eq_true, Nat.reduceAdd, List.drop, List.take, List.take_succ_cons, Nat.le_refl, Bool.true_and, false_implies, implies_true, Nat.zero_add, Bool.cond_true_left, imp_self, beq_false, Bool.not_eq_true', Bool.not_eq_false', Bool.or_eq_true, Bool.or_eq_false_iff, decide_eq_true_eq, decide_eq_false_iff_not, impA1, and_self, ret_eq, Nat.add_zero, decide_false, List.length_map, Int.ofNat_lt, hlt]
    rw [valid_good h0 hlen fun j hj => hall j (by omega)]; exact Wk.refl _
  by_cases hB : 0 ≤ (xs[i]).B ∧ (xs[i]).B < l.length
  case neg =>
    have hv : validS p l xs = (false, 0) := valid_bad h0 hlen hlt (by simp [vokS, List.getElem?_eq_getElem hlt, blkAt, hB])
    have hB' : (xs[i]).B < 0 ∨ (l.length : Int) ≤ (xs[i]).B := by omega
    have e := w64_succ (k := i) (by omega)
    rcases hB' with hb | hb
    · simp only [kont_nil, kont_n, kont_e, kont_r, kont_be, kont_br, k_skip, k_exit, k_ret, k_seq, k_block, k_cond, k_reg, r_nil, r_v, r_vg, r_pick, r_alloc, r_st, r_callg, stE, callT, lpQ_e, lpQ_r, postC, rcs, rc1, rvS, gok, gvb, eget, lk, lkv, oks, AS.put, AS.keep, evk, splice, Opk.opds, aload, isI, isInt, toI, isB, toB, sel, mk, icmp, nT, hget_hset, hget_nil, AVal.cells, Tok.esz, List.length_cons, List.length_nil, List.filterMap, List.map_cons, List.map_nil, List.append_nil, List.nil_append, Option.map_some, reduceCtorEq, and_true, true_and, forall_const, Nat.reduceEqDiff, ↓reduceIte, Bool.false_eq_true, Nat.reduceAdd, List.drop, List.take, List.take_succ_cons, Nat.reduceLeDiff, Nat.le_refl, List.headD_cons, Bool.true_and, false_implies, implies_true, Nat.zero_add, imp_self, beq_false, Bool.not_eq_true', and_self, ret_eq, Nat.add_zero, decide_true, cond_true, List.length_map, Int.ofNat_lt, hlt, List.getElem?_map, List.getElem?_eq_getElem hlt, Int.toNat_natCast, Option.getD_some, Int.natCast_nonneg, hv, hb, false_and, and_false]
      exact Wk.refl _
    · simp only [kont_nil, kont_n, kont_e, kont_r, kont_be, kont_br, k_skip, k_exit, k_ret, k_seq, k_block, k_cond, k_reg, r_nil, r_v, r_vg, r_pick, r_alloc, r_st, r_callg, stE, callT, lpQ_e, lpQ_r, postC, rcs, rc1, rvS, gok, gvb, eget, lk, lkv, oks, AS.put, AS.keep, evk, splice, Opk.opds, aload, isI, isInt, toI, isB, toB, sel, mk, icmp, nT, hget_hset, hget_nil, AVal.cells, Tok.esz, List.length_cons, List.length_nil, List.filterMap, List.map_cons, List.map_nil, List.append_nil, List.nil_append, Option.map_some, reduceCtorEq, and_true, true_and, forall_const, Nat.reduceEqDiff, ↓reduceIte, Bool.false_eq_true, Nat.reduceAdd, List.drop, List.take, List.take_succ_cons, Nat.reduceLeDiff, Nat.le_refl, List.headD_cons, Bool.true_and, false_implies, implies_true, Nat.zero_add, Bool.cond_true_left, imp_self, beq_false, Bool.not_eq_true', decide_eq_true_eq, decide_eq_false_iff_not, and_self, ret_eq, Nat.add_zero, decide_true, Bool.or_true, cond_true, List.length_map, Int.ofNat_lt, hlt, List.getElem?_map, List.getElem?_eq_getElem hlt, Int.toNat_natCast, Option.getD_some, Int.natCast_nonneg, hv, hb, false_and, and_false]
      exact Wk.refl _
  obtain ⟨j, hj⟩ : ∃ j : Nat, (xs[i]).B = j := ⟨(xs[i]).B.toNat, by omega⟩
  have hjl : j < l.length := by omega
  have hj0 : ((j : Int) < 0) = False := by simp
  have hj1 : (l.length ≤ j) = False := by simp; omega
  have hfj := hfit j hjl
  have hba : blkAt l xs[i] = some l[j] := by unfold blkAt; rw [if_pos hB, hj]; simp [hjl]
  have hxe : (⟨(j : Int), (xs[i]).P, (xs[i]).X, (xs[i]).Y⟩ : Plc) = xs[i] := by rw [← hj]
  simp only [kont_nil, kont_n, kont_e, kont_r, kont_be, kont_br, k_skip, k_exit, k_ret, k_seq, k_block, k_cond, k_reg, r_nil, r_v, r_vg, r_pick, r_alloc, r_st, r_callg, stE, callT, lpQ_e, lpQ_r, postC, rcs, rc1, rvS, gok, gvb, eget, lk, lkv, oks, AS.put, AS.keep, evk, splice, Opk.opds, aload, isI, isInt, toI, isB, toB, sel, mk, icmp, nT, hget_hset, hget_nil, AVal.cells, Tok.esz, List.length_cons, List.length_nil, List.filterMap, List.map_cons, List.map_nil, List.append_nil, List.nil_append, Option.map_some, reduceCtorEq, and_true, true_and, forall_const, Nat.reduceEqDiff, ↓reduceIte, Bool.false_eq_true, Nat.reduceAdd, List.drop, List.take, List.drop_succ_cons, List.take_succ_cons, Nat.reduceLeDiff, Nat.le_refl, List.headD_cons, Bool.and_true, beq_self_eq_true, false_implies, implies_true, Nat.zero_add, Bool.not_eq_true', Bool.not_eq_false', and_self, ret_eq, Nat.add_zero, decide_true, decide_false, cond_false, List.length_map, Int.ofNat_lt, Int.ofNat_le, hlt, List.getElem?_map, List.getElem?_eq_getElem hlt, hj, hj0, hj1, hjl, List.getElem?_eq_getElem hjl, Int.toNat_natCast, Option.getD_some, Int.natCast_nonneg, T5_38, s38, pap_eta, blk_eta, hxe, hg, hfj]
  refine ⟨fun hw => ?_, fun hw => ?_⟩
  · have hv : validS p l xs = (false, 0) := valid_bad h0 hlen hlt (by simp [vokS, List.getElem?_eq_getElem hlt, hba, hw])
    rw [hv]; exact Wk.refl _
  obtain ⟨sx, sy, sp⟩ := within_sm hg hfj hw
  have hpx := hx _ (List.getElem_mem hlt)
  refine k_loop (fun k : Nat => ⟨[(1, true, .sl (.none 4) (l.map encB)), (2, true, .sl (.none 4) (xs.map encX)), (3, true, .ptr 0 0), (9, true, .int .i64 i), (10, true, .ptr 11 0), (11, true, .int .i64 k)], hset (hset (H5 p) 11 (.box z4)) 11 (.box (b4 l[j])), 13⟩)
    (fun k => k ≤ i ∧ ∀ m (hm : m < xs.length), m < k → ∀ b, blkAt l xs[m] = some b → pairS p l[j] b xs[i] xs[m] = true) (fun k => i - k) 0 rfl ⟨by omega, fun m _ h => by omega⟩ ?_
  rintro k ⟨hk, hno⟩
  by_cases hki : k < i
  case neg =>
    have : k = i := by omega
    subst this
    have e := w64_succ (k := k) (by omega)
    simp only [kont_nil, kont_n, kont_e, kont_r, kont_bn, kont_be, kont_br, k_skip, k_exit, k_ret, k_seq, k_block, k_cond, k_reg, r_nil, r_v, r_vg, r_pick, r_pickg, r_alloc, r_st, r_callg, stE, callT, lpQ_n, lpQ_e, lpQ_r, postC, rcs, rc1, rvS, gok, gvb, eget, lk, lkv, oks, AS.put, AS.keep, evk, splice, Opk.opds, aload, isI, isInt, toI, isB, toB, sel, mk, icmp, iarith, nT, hget_hset, hget_nil, AVal.cells, Tok.esz, List.length_cons, List.length_nil, List.filterMap, List.map_cons, List.map_nil, List.append_nil, List.nil_append, Option.map_some, reduceCtorEq, and_true, true_and, forall_const, Nat.reduceEqDiff, ↓reduceIte, Bool.false_eq_true, Nat.reduceAdd, List.drop, List.take, List.take_succ_cons, Nat.reduceLeDiff, Int.reduceEq, Nat.le_refl, List.headD_cons, Bool.true_and, Bool.and_true, beq_self_eq_true, isDiv, false_implies, implies_true, Nat.zero_add, Bool.cond_true_left, Bool.cond_false_right, imp_self, beq_true, beq_false, Bool.not_eq_true', Bool.not_eq_false', Bool.or_eq_true, Bool.and_eq_true, decide_eq_true_eq, decide_eq_false_iff_not, ne_eq, not_false_eq_true, impA1, impA2, and_self, ret_eq, Nat.add_zero, decide_true, decide_false, cond_true, List.length_map, Int.ofNat_lt, hki, e]
    refine lpN.drop (k + 1) rfl rfl rfl rfl (fresh5 p) ?_ ?_ ⟨by omega, fun m hm => ?_⟩ (by omega)
    · exact .new (fresh5 p) (by omega) (.new (fresh5 p) (by omega) (.refl _))
    · exact ⟨⟨trivial, encB_under _ l⟩, ⟨trivial, encX_under _ xs⟩, (by show 0 < 3; omega), trivial, trivial⟩
    · by_cases hmk : m = k
      · subst hmk; exact vok_all hlt hba hw hno
      · exact hall m (by omega)
  have hkl : k < xs.length := by omega
  obtain ⟨j', hj', hjl', hba', hw'⟩ := vok_spec hkl (hall k hki)
  have hfj' := hfit j' hjl'
  obtain ⟨sx', sy', sp'⟩ := within_sm hg hfj' hw'
  have hpx' := hx _ (List.getElem_mem hkl)
  have hxe' : (⟨(j' : Int), (xs[k]).P, (xs[k]).X, (xs[k]).Y⟩ : Plc) = xs[k] := by rw [← hj']
  have e := w64_succ (k := k) (by omega)
  simp only [kont_nil, kont_n, kont_e, kont_r, kont_bn, kont_be, kont_br, k_skip, k_exit, k_ret, k_seq, k_block, k_cond, k_reg, r_nil, r_v, r_vg, r_pick, r_pickg, r_alloc, r_st, r_callg, stE, callT, lpQ_n, lpQ_e, lpQ_r, postC, rcs, rc1, rvS, gok, gvb, eget, lk, lkv, oks, AS.put, AS.keep, evk, splice, Opk.opds, aload, isI, isInt, toI, isB, toB, sel, mk, icmp, iarith, nT, hget_hset, hget_nil, AVal.cells, Tok.esz, List.length_cons, List.length_nil, List.filterMap, List.map_cons, List.map_nil, List.append_nil, List.nil_append, Option.map_some, reduceCtorEq, and_true, true_and, forall_const, Nat.reduceEqDiff, ↓reduceIte, Bool.false_eq_true, Nat.reduceAdd, List.drop, List.take, List.drop_succ_cons, List.take_succ_cons, Nat.reduceLeDiff, Int.reduceEq, Nat.le_refl, List.headD_cons, Bool.true_and, isDiv, false_implies, implies_true, Nat.zero_add, Bool.cond_true_left, Bool.cond_false_right, imp_self, beq_true, beq_false, Bool.not_eq_true', Bool.or_eq_true, Bool.or_eq_false_iff, Bool.and_eq_true, decide_eq_true_eq, decide_eq_false_iff_not, ne_eq, not_false_eq_true, impA1, impA2, and_self, ret_eq, Nat.add_zero, decide_true, List.length_map, Int.ofNat_lt, hki, hlt, hkl, List.getElem?_map, List.getElem?_eq_getElem hlt, List.getElem?_eq_getElem hkl, hj, hj', hjl', List.getElem?_eq_getElem hjl', Int.toNat_natCast, Option.getD_some, Int.natCast_nonneg, T5_39, s39, T5_35, s35, pap_eta, blk_eta, hxe, hxe', hg, hfj, hfj', sx, sy, sx', sy', sp_ref sp hpx, sp_ref sp' hpx', e]
  have hbad : pairS p l[j] l[j'] xs[i] xs[k] = false → validS p l xs = (false, 0) := fun hp => valid_bad h0 hlen hlt (vok_pair hlt hkl hki hba hba' hp)
  have hps : pairS p l[j] l[j'] xs[i] xs[k] = (!(decide ((j : Int) = j') || decide ((xs[i]).P = (xs[k]).P) && !aheadS p l[j] l[j'] xs[i] xs[k] && !aheadS p l[j'] l[j] xs[k] xs[i]) &&
    !(decide ((l[j]).N = (l[j']).N) && decide (spS (xs[i]).P = spS (xs[k]).P) && (decide ((l[j]).K = 1) && decide ((l[j']).K = 2) || decide ((l[j]).K = 2) && decide ((l[j']).K = 1)))) := by
    unfold pairS; rw [hj, hj']
  have fr13 : Fresh (hset (hset (H5 p) 11 (.box z4)) 11 (.box (b4 l[j]))) 13 := ((fresh5 p).hset (n := 3) (m := 13) (by omega) (by omega)).hset (by omega) (by omega)
  refine ⟨fun hh => ?_, fun hh => ⟨fun h2 => ?_, fun h2 => ?_⟩⟩
  · rw [hbad ?_]
    · exact Wk.refl _
    · rw [hps]; rcases hh with hh | ⟨⟨h1, h2⟩, h3⟩ <;> simp [*]
  · rw [hbad ?_]
    · exact Wk.refl _
    · rw [hps]; rcases h2 with ⟨⟨h1, h3⟩, ⟨h4, h5⟩ | ⟨h4, h5⟩⟩ <;> simp [*]
  · refine lpN.drop (k + 1) rfl rfl rfl rfl fr13 ?_ ?_ ⟨by omega, fun m hm hmk b hb => ?_⟩ (by omega)
    · exact .new fr13 (by omega) (.new fr13 (by omega) (.refl _))
    · exact ⟨⟨trivial, encB_under _ l⟩, ⟨trivial, encX_under _ xs⟩, (by show 0 < 13; omega), trivial, (by show 11 < 13; omega), trivial, trivial⟩
    · by_cases hmk' : m = k
      · subst hmk'
        rw [hba'] at hb; cases hb
        rw [hps, h2, hh.2]; simp [hh.1]
      · exact hno m hm (by omega) b hb

end Go.AM
end

/- Booklets: what press.Valid returns. Conditions: none. -/
section
set_option maxRecDepth 10000
set_option linter.unusedSimpArgs false
set_option linter.unusedVariables false
set_option maxHeartbeats 1000000
set_option linter.unusedVariables false
set_option linter.unusedSimpArgs false
namespace Go.AM
open Go.Proofs

theorem sp_press {a b : Int} (ha : 0 ≤ a) (ha' : a ≤ 9223372036854775807) (hb : 0 ≤ b) (hb' : b ≤ 9223372036854775807) :
    (IntKind.wrap .i64 ((IntKind.wrap .i64 (a + 1)).tdiv 2) = IntKind.wrap .i64 ((IntKind.wrap .i64 (b + 1)).tdiv 2)) = (spS a = spS b) := by
  have key : ∀ x : Int, 0 ≤ x → x ≤ 9223372036854775807 → (x ≤ 9223372036854775806 → IntKind.wrap .i64 ((IntKind.wrap .i64 (x + 1)).tdiv 2) = (x + 1) / 2) ∧ (x = 9223372036854775807 → IntKind.wrap .i64 ((IntKind.wrap .i64 (x + 1)).tdiv 2) = -4611686018427387904) := by
    intro x h1 h2
    refine ⟨fun h => ?_, fun h => ?_⟩
    · rw [w64_in (x := x + 1) (by omega) (by omega), Int.tdiv_eq_ediv_of_nonneg (by omega), w64_in (by omega) (by omega)]
    · subst h; decide
  unfold spS
  apply propext
  have ka := key a ha ha'
  have kb := key b hb hb'
  by_cases h1 : a = 9223372036854775807 <;> by_cases h2 : b = 9223372036854775807
  · subst h1; subst h2; simp
  · rw [ka.2 h1, kb.1 (by omega)]; omega
  · rw [ka.1 (by omega), kb.2 h2]; omega
  · rw [ka.1 (by omega), kb.1 (by omega)]; omega

def mkBx (p : Pap) (b : Blk) (x : Plc) : Bx := ⟨x, b, b.W * p.C, b.H * p.C⟩
theorem before_ahead (p : Pap) (a b : Blk) (x y : Plc) : beforeS (mkBx p a x) (mkBx p b y) p.S = aheadS p a b x y := rfl
theorem tells_eq (p : Pap) {a b : Blk} (x y : Plc) (ha : 1 ≤ a.K ∧ a.K ≤ 3) (hb : 1 ≤ b.K ∧ b.K ≤ 3) : tellsS (mkBx p a x) (mkBx p b y) = (decide (a.N = b.N) && (decide (a.K = 1) && decide (b.K = 2) || decide (a.K = 2) && decide (b.K = 1))) := by
  rw [Bool.eq_iff_iff]
  have e1 : tellsS (mkBx p a x) (mkBx p b y) = (decide (a.N = b.N) && decide (min a.K b.K = 1) && decide (max a.K b.K = 2)) := rfl
  rw [e1]
  simp only [Bool.and_eq_true, Bool.or_eq_true, decide_eq_true_eq]
  constructor
  · rintro ⟨⟨h1, h2⟩, h3⟩; exact ⟨h1, by omega⟩
  · rintro ⟨h1, h2⟩; exact ⟨⟨h1, by omega⟩, by omega⟩
theorem encBx_under (n : Nat) (l : List Bx) : unders n (l.map encBx) := unders_map (fun x => by simp [AVal.under, unders]) l

theorem before_ahead' (p : Pap) (a b : Blk) (x y : Plc) (w h : Int) : beforeS ⟨x, a, a.W * p.C, a.H * p.C⟩ ⟨y, b, w, h⟩ p.S = aheadS p a b x y := rfl
theorem tells_eq' {a b : Blk} (x y : Plc) (w h w' h' : Int) (ha : 1 ≤ a.K ∧ a.K ≤ 3) (hb : 1 ≤ b.K ∧ b.K ≤ 3) : tellsS ⟨x, a, w, h⟩ ⟨y, b, w', h'⟩ = (decide (a.N = b.N) && (decide (a.K = 1) && decide (b.K = 2) || decide (a.K = 2) && decide (b.K = 1))) :=
  tells_eq ⟨0, 0, 0, 0, 0⟩ x y ha hb
structure V18 where
  i : Nat
  H : AHeap
  n : Nat
  tok : Tok
  bs : List Bx
def tokOK (H : AHeap) (tok : Tok) (bs : List Bx) : Prop := (tok = .nil ∧ bs = []) ∨ ∃ id, tok = .own id 10 ∧ hget H id = some .tok
def st18 (p : Pap) (l : List Blk) (xs : List Plc) (v : V18) : AS :=
  ⟨[(1, true, .sl (.none 4) (l.map encB)), (3, true, .ptr 0 0), (9, true, .sl v.tok (v.bs.map encBx)), (27, true, .sl (.none 4) (xs.map encX)), (28, true, .int .i64 xs.length), (29, true, .int .i64 v.i)], v.H, v.n⟩
def inv18 (p : Pap) (l : List Blk) (xs : List Plc) (v : V18) : Prop :=
  v.i ≤ xs.length ∧ (∀ j < v.i, vokS p l xs j = true) ∧ v.bs.length = v.i ∧ (∀ m (hm : m < v.bs.length) (hx : m < xs.length), ∃ b, blkAt l xs[m] = some b ∧ v.bs[m] = mkBx p b xs[m]) ∧
  hget v.H 0 = some (.box [.int .i64 p.W, .int .i64 p.H, .int .i64 p.M, .int .i64 p.S, .int .i64 p.C]) ∧ Fresh v.H v.n ∧ tokOK v.H v.tok v.bs ∧ 3 ≤ v.n

theorem p18 (p : Pap) (l : List Blk) (xs : List Plc) (hx : ∀ x ∈ xs, x.P ≤ 9223372036854775807) : Pur Tryd.prog 18 [encP p, .sl (.none 4) (l.map encB), .sl (.none 4) (xs.map encX)] (.tup [.bool (validS p l xs).1, .int .i64 (validS p l xs).2]) := by
  refine .mk ⟨by simp [unders, AVal.under], ⟨trivial, encB_under 0 l⟩, ⟨trivial, encX_under 0 xs⟩, trivial⟩ (by simp [AVal.under, unders]) (a18 (ev_awp T5_ok (ev_evK ?_)))
  simp only [kont_nil, kont_n, kont_r, k_skip, k_ret, k_seq, k_block, k_cond, k_reg, r_nil, r_v, r_box, r_call, callT, penv, postC, rcs, rc1, rvS, eget, lk, lkv, oks, AS.put, AS.keep, evk, Opk.opds, aload, isI, toI, isB, toB, mk, icmp, nT, hget_hset, hget_nil, AVal.cells, Tok.esz, List.length_cons, List.length_nil, List.filterMap, List.map_cons, List.map_nil, List.append_nil, List.nil_append, Option.map_some, reduceCtorEq, true_and, Nat.reduceEqDiff, ↓reduceIte, Nat.reduceAdd, List.drop, List.take, List.take_succ_cons, Nat.le_refl, Nat.zero_add, Bool.not_eq_true', Bool.not_eq_false', decide_eq_true_eq, decide_eq_false_iff_not, and_self, true_or, ret_eq, Nat.add_zero, c18, T5_13, s13, List.length_map, pap_eta, encd_map, decB_map]
  refine ⟨fun h => ?_, fun h => ?_⟩
  · have : validS p l xs = (false, checkS p l) := by unfold validS; rw [if_neg h]
    rw [this]; exact Wk.refl _
  have h0 : checkS p l = 0 := by simpa using h
  obtain ⟨hl, hg, hfit⟩ := check_ok h0
  refine ⟨fun h => ?_, fun h => ?_⟩
  · have : validS p l xs = (false, 0) := by unfold validS; rw [if_pos h0, if_neg (by omega)]
    rw [this]; exact Wk.refl _
  have hlen : xs.length = l.length := by omega
  refine k_loop (st18 p l xs) (inv18 p l xs) (fun v => xs.length - v.i) ⟨0, H5 p, 3, .nil, []⟩ rfl ⟨by simp, fun j hj => by simp at hj, rfl, fun m hm => by simp at hm, rfl, fresh5 p, .inl ⟨rfl, rfl⟩, by simp⟩ ?_
  rintro ⟨i, H, n, tok, bs⟩ ⟨hi, hall, hbl, hbs, hH0, hfr, htok, hn3⟩
  simp only at hi hall hbl hbs hH0 hfr htok hn3
  have hfr' : ∀ id, n ≤ id → hget H id = none := hfr
  by_cases hlt : i < xs.length
  case neg =>
    simp only [kont_nil, kont_n, kont_e, kont_r, kont_be, kont_br, k_skip, k_exit, k_ret, k_seq, k_block, k_cond, k_reg, r_nil, r_v, r_vg, r_pick, r_alloc, r_st, r_call, r_callg, stE, callT, lpQ_e, lpQ_r, postC, rcs, rc1, rvS, gok, gvb, eget, lk, lkv, oks, AS.put, AS.keep, evk, evB_eq, allB, fillB, splice, Opk.opds, aload, isI, isInt, toI, isB, toB, sel, mk, icmp, iarith, nT, hget_hset, AVal.cells, Tok.esz, List.length_cons, List.length_nil, List.filterMap, List.map_cons, List.map_nil, List.append_nil, List.nil_append, Option.map_some, reduceCtorEq, and_true, true_and, forall_const, Nat.reduceEqDiff, ↓reduceIte, Bool.false_eq_true, Nat.reduceAdd, List.drop, List.take, Nat.reduceLeDiff, Nat.le_refl, Bool.true_and, isDiv, false_implies, implies_true, Nat.zero_add, Bool.cond_true_left, imp_self, beq_false, Bool.not_eq_true', Bool.not_eq_false', Bool.or_eq_true, Bool.or_eq_false_iff, decide_eq_true_eq, decide_eq_false_iff_not, ne_eq, natE1, natE2, impA1, and_self, ret_eq, Nat.add_zero, Nat.add_assoc, decide_false, st18, List.length_map, Int.ofNat_lt, hlt]
    rw [valid_good h0 hlen fun j hj => hall j (by omega)]; exact Wk.refl _
  by_cases hB : 0 ≤ (xs[i]).B ∧ (xs[i]).B < l.length
  case neg =>
    have hv : validS p l xs = (false, 0) := valid_bad h0 hlen hlt (by simp [vokS, List.getElem?_eq_getElem hlt, blkAt, hB])
    have hB' : (xs[i]).B < 0 ∨ (l.length : Int) ≤ (xs[i]).B := by omega
    rcases hB' with hb | hb
    · simp only [kont_nil, kont_n, kont_e, kont_r, kont_be, kont_br, k_skip, k_exit, k_ret, k_seq, k_block, k_cond, k_reg, r_nil, r_v, r_vg, r_pick, r_alloc, r_st, r_call, r_callg, stE, callT, lpQ_e, lpQ_r, postC, rcs, rc1, rvS, gok, gvb, eget, lk, lkv, oks, AS.put, AS.keep, evk, evB_eq, allB, fillB, splice, Opk.opds, aload, isI, isInt, toI, isB, toB, sel, mk, icmp, iarith, nT, hget_hset, AVal.cells, Tok.esz, List.length_cons, List.length_nil, List.filterMap, List.map_cons, List.map_nil, List.append_nil, List.nil_append, List.cons_append, Option.map_some, reduceCtorEq, and_true, true_and, forall_const, Nat.reduceEqDiff, ↓reduceIte, Bool.false_eq_true, Nat.reduceAdd, List.drop, List.take, List.drop_succ_cons, List.take_succ_cons, Nat.reduceLeDiff, Nat.le_refl, List.headD_cons, Bool.true_and, isDiv, false_implies, implies_true, Nat.zero_add, Bool.cond_true_left, imp_self, beq_false, Bool.not_eq_true', Bool.not_eq_false', Bool.or_eq_true, Bool.or_eq_false_iff, ne_eq, natE1, natE2, impA1, and_self, ret_eq, Nat.add_zero, Nat.add_assoc, Nat.le_add_right, decide_true, cond_true, st18, List.length_map, Int.ofNat_lt, hlt, List.getElem?_map, List.getElem?_eq_getElem hlt, Int.toNat_natCast, Option.getD_some, Int.natCast_nonneg, hfr', hv, hb]
      exact Wk.refl _
    · simp only [kont_nil, kont_n, kont_e, kont_r, kont_be, kont_br, k_skip, k_exit, k_ret, k_seq, k_block, k_cond, k_reg, r_nil, r_v, r_vg, r_pick, r_alloc, r_st, r_call, r_callg, stE, callT, lpQ_e, lpQ_r, postC, rcs, rc1, rvS, gok, gvb, eget, lk, lkv, oks, AS.put, AS.keep, evk, evB_eq, allB, fillB, splice, Opk.opds, aload, isI, isInt, toI, isB, toB, sel, mk, icmp, iarith, nT, hget_hset, AVal.cells, Tok.esz, List.length_cons, List.length_nil, List.filterMap, List.map_cons, List.map_nil, List.append_nil, List.nil_append, List.cons_append, Option.map_some, reduceCtorEq, and_true, true_and, forall_const, Nat.reduceEqDiff, ↓reduceIte, Bool.false_eq_true, Nat.reduceAdd, List.drop, List.take, List.drop_succ_cons, List.take_succ_cons, Nat.reduceLeDiff, Nat.le_refl, List.headD_cons, Bool.true_and, isDiv, false_implies, implies_true, Nat.zero_add, Bool.cond_true_left, imp_self, beq_false, Bool.not_eq_true', Bool.not_eq_false', Bool.or_eq_true, Bool.or_eq_false_iff, decide_eq_true_eq, decide_eq_false_iff_not, ne_eq, natE1, natE2, impA1, and_self, ret_eq, Nat.add_zero, Nat.add_assoc, Nat.le_add_right, decide_true, Bool.or_true, cond_true, st18, List.length_map, Int.ofNat_lt, hlt, List.getElem?_map, List.getElem?_eq_getElem hlt, Int.toNat_natCast, Option.getD_some, Int.natCast_nonneg, hfr', hv, hb]
      exact Wk.refl _
  obtain ⟨j, hj⟩ : ∃ j : Nat, (xs[i]).B = j := ⟨(xs[i]).B.toNat, by omega⟩
  have hjl : j < l.length := by omega
  have hj0 : ((j : Int) < 0) = False := by simp
  have hj1 : (l.length ≤ j) = False := by simp; omega
  have hfj := hfit j hjl
  have hba : blkAt l xs[i] = some l[j] := by unfold blkAt; rw [if_pos hB, hj]; simp [hjl]
  have hxe : (⟨(j : Int), (xs[i]).P, (xs[i]).X, (xs[i]).Y⟩ : Plc) = xs[i] := by rw [← hj]
  have hg' := (good_iff p).1 hg
  have hfj' := (fits_iff p _).1 hfj
  have m1 := mul_bd (a := (l[j]).W) (c := p.C) (by omega) (by omega) (by omega) (by omega)
  have m2 := mul_bd (a := (l[j]).H) (c := p.C) (by omega) (by omega) (by omega) (by omega)
  have w1 := w64_in (x := (l[j]).W * p.C) (by omega) (by omega)
  have w2 := w64_in (x := (l[j]).H * p.C) (by omega) (by omega)
  have w3 := w64_in (x := p.W - p.M) (by omega) (by omega)
  have w4 := w64_in (x := p.H - p.M) (by omega) (by omega)
  have w5 := w64_in (x := p.W - p.M - (l[j]).W * p.C) (by omega) (by omega)
  have w6 := w64_in (x := p.H - p.M - (l[j]).H * p.C) (by omega) (by omega)
  simp only [kont_nil, kont_n, kont_e, kont_r, kont_be, kont_br, k_skip, k_exit, k_ret, k_seq, k_block, k_cond, k_reg, r_nil, r_v, r_vg, r_pick, r_alloc, r_st, r_call, r_callg, stE, callT, lpQ_e, lpQ_r, postC, rcs, rc1, rvS, gok, gvb, eget, lk, lkv, oks, AS.put, AS.keep, evk, evB_eq, allB, fillB, splice, Opk.opds, aload, isI, isInt, toI, isB, toB, sel, mk, icmp, iarith, nT, hget_hset, AVal.cells, Tok.esz, List.length_cons, List.length_nil, List.filterMap, List.map_cons, List.map_nil, List.append_nil, List.nil_append, List.cons_append, Option.map_some, reduceCtorEq, and_true, true_and, forall_const, Nat.reduceEqDiff, ↓reduceIte, Bool.false_eq_true, Nat.reduceAdd, List.drop, List.take, List.drop_succ_cons, List.take_succ_cons, Nat.reduceLeDiff, Nat.le_refl, List.headD_cons, Bool.true_and, Bool.and_true, beq_self_eq_true, isDiv, false_implies, implies_true, Nat.zero_add, Bool.cond_true_left, imp_self, beq_false, Bool.not_eq_true', Bool.not_eq_false', Bool.or_eq_true, Bool.or_eq_false_iff, decide_eq_true_eq, decide_eq_false_iff_not, ne_eq, natE1, natE2, and_self, ret_eq, Nat.add_zero, Nat.add_assoc, Nat.le_add_right, decide_true, decide_false, cond_false, st18, List.length_map, Int.ofNat_lt, Int.ofNat_le, hlt, List.getElem?_map, List.getElem?_eq_getElem hlt, hj, hj0, hj1, hjl, List.getElem?_eq_getElem hjl, Int.toNat_natCast, Option.getD_some, Int.natCast_nonneg, hfr', hH0, T5_25, s25, w1, w2, w3, w4, w5, w6]
  have hwi : withinS p l[j] xs[i] = (!decide ((xs[i]).P < 0) && (betweenS (xs[i]).X p.M (p.W - p.M - (l[j]).W * p.C) && betweenS (xs[i]).Y p.M (p.H - p.M - (l[j]).H * p.C))) := by
    rw [Bool.eq_iff_iff]; simp only [withinS, betweenS, Bool.and_eq_true, decide_eq_true_eq, Bool.not_eq_true', decide_eq_false_iff_not]; omega
  have hout : withinS p l[j] xs[i] = false → validS p l xs = (false, 0) := fun hw => valid_bad h0 hlen hlt (by simp [vokS, List.getElem?_eq_getElem hlt, hba, hw])
  refine ⟨fun hh => ?_, fun hh => ⟨fun h2 => ?_, fun h2 => ?_⟩⟩
  · rw [hout (by rw [hwi]; simp [hh])]; exact Wk.refl _
  · rw [hout (by rw [hwi]; rcases h2 with h2 | h2 <;> simp [h2])]; exact Wk.refl _
  have hw : withinS p l[j] xs[i] = true := by rw [hwi]; simp [hh, h2]
  obtain ⟨sx, sy, sp⟩ := within_sm hg hfj hw
  have hpx := hx _ (List.getElem_mem hlt)
  generalize hH2 : hset (hset (hset (hset (hset (hset H (n + 2) _) (n + 2) _) (n + 9) _) (n + 9) _) (n + 24) _) (n + 24) _ = H2
  have hidn : ∀ id ob, hget H id = some ob → id < n := fun id ob ho => hfr.lt ho
  have g2 : hget H2 (n + 2) = some (.box [.int .i64 j, .int .i64 (xs[i]).P, .int .i64 (xs[i]).X, .int .i64 (xs[i]).Y]) := by
    subst hH2; simp [hget_hset]
  have g24 : hget H2 (n + 24) = some (.box [.int .i64 j, .int .i64 (xs[i]).P, .int .i64 (xs[i]).X, .int .i64 (xs[i]).Y, .int .i64 (l[j]).K, .int .i64 (l[j]).N, .int .i64 (l[j]).W, .int .i64 (l[j]).H, .int .i64 ((l[j]).W * p.C), .int .i64 ((l[j]).H * p.C)]) := by
    subst hH2; simp [hget_hset]
  have gold : ∀ id ob, hget H id = some ob → hget H2 id = some ob := by
    intro id ob ho
    have := hidn id ob ho
    subst hH2
    rw [hget_hset_ne _ _ _ _ (by omega), hget_hset_ne _ _ _ _ (by omega), hget_hset_ne _ _ _ _ (by omega), hget_hset_ne _ _ _ _ (by omega), hget_hset_ne _ _ _ _ (by omega), hget_hset_ne _ _ _ _ (by omega)]; exact ho
  have g0 := gold 0 _ hH0
  have fr2 : Fresh H2 (n + 26) := by
    subst hH2
    exact ((((((hfr.hset (m := n + 26) (by omega) (by omega)).hset (Nat.le_refl _) (by omega)).hset (Nat.le_refl _) (by omega)).hset (Nat.le_refl _) (by omega)).hset (Nat.le_refl _) (by omega)).hset (Nat.le_refl _) (by omega))
  have fr2' : ∀ id, n + 26 ≤ id → hget H2 id = none := fr2
  have htok2 : tokOK H2 tok bs := htok.imp id fun ⟨id, h1, h2⟩ => ⟨id, h1, gold id _ h2⟩
  clear hH2
  refine k_loop (fun k : Nat => ⟨[(1, true, .sl (.none 4) (l.map encB)), (3, true, .ptr 0 0), (9, true, .sl tok (bs.map encBx)), (11, true, .ptr (n + 2) 0), (13, true, .ptr (n + 24) 0), (27, true, .sl (.none 4) (xs.map encX)), (28, true, .int .i64 xs.length),
      (29, true, .int .i64 i), (96, true, .sl tok (bs.map encBx)), (97, true, .int .i64 bs.length), (98, true, .int .i64 k)], H2, n + 26⟩)
    (fun k => k ≤ i ∧ ∀ m (hm : m < xs.length), m < k → ∀ b, blkAt l xs[m] = some b → pairS p l[j] b xs[i] xs[m] = true) (fun k => i - k) 0 rfl ⟨by omega, fun m _ h => by omega⟩ ?_
  rintro k ⟨hk, hno⟩
  by_cases hki : k < i
  case neg =>
    have : k = i := by omega
    subst this
    have e := w64_succ (k := k) (by omega)
    have fin : ∀ H3 : AHeap, hget H3 0 = some (.box [.int .i64 p.W, .int .i64 p.H, .int .i64 p.M, .int .i64 p.S, .int .i64 p.C]) → Fresh H3 (n + 26) →
        inv18 p l xs ⟨k + 1, hset H3 (n + 29) .tok, n + 31, .own (n + 29) 10, bs ++ [mkBx p l[j] xs[k]]⟩ := by
      intro H3 q1 q2
      refine ⟨by simp only []; omega, fun m hm => ?_, by simp [hbl], fun m hm hx => ?_, ?_, ?_, .inr ⟨n + 29, rfl, hget_hset_eq ..⟩, by simp only []; omega⟩
      · by_cases hmk : m = k
        · subst hmk; exact vok_all hlt hba hw hno
        · exact hall m (by simp only [] at hm; omega)
      · by_cases hmk : m < bs.length
        · obtain ⟨b, h1, h2⟩ := hbs m hmk hx
          exact ⟨b, h1, by simp only [List.getElem_append_left hmk]; exact h2⟩
        · have hmk' : m = k := by simp at hm; omega
          subst hmk'
          exact ⟨l[j], hba, by simp only [hbl.symm]; simp⟩
      · simp only []; rw [hget_hset_ne _ _ _ _ (by omega)]; exact q1
      · show Fresh (hset H3 (n + 29) .tok) (n + 31)
        exact q2.hset (by omega) (by omega)
    rcases htok2 with ⟨rfl, h2⟩ | ⟨id, rfl, hid⟩
    · simp only [kont_nil, kont_n, kont_e, kont_r, kont_bn, kont_be, kont_br, k_skip, k_exit, k_ret, k_seq, k_block, k_cond, k_reg, r_nil, r_v, r_vg, r_pick, r_pickg, r_alloc, r_st, r_callg, r_app, stE, appE, callT, lpQ_n, lpQ_e, lpQ_r, postC, rcs, rc1, rvS, gok, gvb, eget, lk, lkv, oks, AS.put, AS.keep, evk, evS_eq, allS, fillS, splice, Opk.opds, aload, isI, isInt, toI, isB, toB, sel, mk, icmp, iarith, nT, hget_hset, AVal.cells, Tok.esz, List.length_cons, List.length_nil, List.filterMap, List.map_cons, List.map_nil, List.append_nil, List.nil_append, Option.map_some, reduceCtorEq, and_true, true_and, forall_const, Nat.reduceEqDiff, ↓reduceIte, Bool.false_eq_true, Nat.reduceAdd, List.drop, List.take, List.take_succ_cons, Nat.reduceLeDiff, Nat.reduceMul, Nat.reduceLT, Int.reduceEq, List.set_cons_zero, List.replicate_succ, List.replicate_zero, Nat.le_refl, Bool.true_and, isDiv, false_implies, implies_true, Nat.zero_add, Bool.cond_true_left, Bool.cond_false_right, imp_self, beq_true, beq_false, Bool.not_eq_true', Bool.or_eq_true, Bool.or_eq_false_iff, Bool.and_eq_true, decide_eq_true_eq, decide_eq_false_iff_not, ne_eq, not_false_eq_true, natE2, impA1, impA2, and_self, or_false, ret_eq, Nat.add_zero, Nat.add_assoc, Nat.le_add_right, killTok, appOK, srcOf, decide_false, List.length_map, Int.ofNat_lt, hki, hbl, e, g24, fr2', small, List.length_append]
      refine ⟨⟨by omega, by omega⟩, .mk _ ?_ (fin H2 g0 fr2) (by simp only []; omega)⟩
      simp [st18, mkBx, hj]
    · have hid0 : id ≠ 0 := by rintro rfl; rw [g0] at hid; cases hid
      have hidn2 := fr2.lt hid
      have e2 : (id = n + 29) = False := by simp; omega
      have e3 : (id = n + 24) = False := by simp; rintro rfl; rw [g24] at hid; cases hid
      simp only [kont_nil, kont_n, kont_e, kont_r, kont_bn, kont_be, kont_br, k_skip, k_exit, k_ret, k_seq, k_block, k_cond, k_reg, r_nil, r_v, r_vg, r_pick, r_pickg, r_alloc, r_st, r_callg, r_app, stE, appE, callT, lpQ_n, lpQ_e, lpQ_r, postC, rcs, rc1, rvS, gok, gvb, eget, lk, lkv, oks, AS.put, AS.keep, evk, evS_eq, allS, fillS, splice, Opk.opds, aload, isI, isInt, toI, isB, toB, sel, mk, icmp, iarith, nT, hget_hset, AVal.cells, Tok.esz, List.length_cons, List.length_nil, List.filterMap, List.map_cons, List.map_nil, List.append_nil, List.nil_append, Option.map_some, reduceCtorEq, and_true, true_and, forall_const, Nat.reduceEqDiff, ↓reduceIte, Bool.false_eq_true, Nat.reduceAdd, List.drop, List.take, List.take_succ_cons, Nat.reduceLeDiff, Nat.reduceMul, Nat.reduceLT, Int.reduceEq, List.set_cons_zero, List.replicate_succ, List.replicate_zero, Nat.le_refl, Bool.true_and, isDiv, false_implies, implies_true, Nat.zero_add, Bool.cond_true_left, Bool.cond_false_right, imp_self, beq_true, beq_false, Bool.not_eq_true', Bool.or_eq_true, Bool.or_eq_false_iff, Bool.and_eq_true, decide_eq_true_eq, decide_eq_false_iff_not, ne_eq, not_false_eq_true, natE2, impA1, impA2, and_self, or_false, ret_eq, Nat.add_zero, Nat.add_assoc, Nat.le_add_right, killTok, appOK, srcOf, decide_false, List.length_map, Int.ofNat_lt, hki, hbl, e, g24, fr2', hid, small, List.length_append]
      refine ⟨⟨by omega, by omega⟩, .mk _ ?_ (fin (hset H2 id .dead) (by rw [hget_hset_ne _ _ _ _ hid0]; exact g0) (fr2.hset (Nat.le_refl _) hidn2)) (by simp only []; omega)⟩
      simp [st18, mkBx, hj]
  have hkl : k < xs.length := by omega
  have hkb : k < bs.length := by omega
  obtain ⟨id, rfl, hid⟩ : ∃ id, tok = .own id 10 ∧ hget H2 id = some .tok := by
    rcases htok2 with ⟨h1, h2⟩ | h
    · subst h2; simp at hkb
    · exact h
  obtain ⟨j', hj', hjl', hba', hw'⟩ := vok_spec hkl (hall k hki)
  obtain ⟨b', hbb, hbk⟩ := hbs k hkb hkl
  rw [hba'] at hbb; cases hbb
  have hfj' := hfit j' hjl'
  have hf1 := (fits_iff p _).1 hfj
  have hf2 := (fits_iff p _).1 hfj'
  obtain ⟨sx', sy', sp'⟩ := within_sm hg hfj' hw'
  have hpx' := hx _ (List.getElem_mem hkl)
  have hxe' : (⟨(j' : Int), (xs[k]).P, (xs[k]).X, (xs[k]).Y⟩ : Plc) = xs[k] := by rw [← hj']
  have e := w64_succ (k := k) (by omega)
  have m1' := mul_bd (a := (l[j']).W) (c := p.C) (by omega) (by omega) (by omega) (by omega)
  have m2' := mul_bd (a := (l[j']).H) (c := p.C) (by omega) (by omega) (by omega) (by omega)
  have q1 : Sm ((l[j]).W * p.C) := by unfold Sm; omega
  have q2 : Sm ((l[j]).H * p.C) := by unfold Sm; omega
  have q3 : Sm ((l[j']).W * p.C) := by unfold Sm; omega
  have q4 : Sm ((l[j']).H * p.C) := by unfold Sm; omega
  have q5 : Sm p.S := by unfold Sm; omega
  have tl := fun w h w' h' => tells_eq' (xs[i]) (xs[k]) w h w' h' (a := l[j]) (b := l[j']) ⟨by omega, by omega⟩ ⟨by omega, by omega⟩
  simp only [kont_nil, kont_n, kont_e, kont_r, kont_bn, kont_be, kont_br, k_skip, k_exit, k_ret, k_seq, k_block, k_cond, k_reg, r_nil, r_v, r_vg, r_pick, r_pickg, r_alloc, r_st, r_callg, r_app, stE, appE, callT, lpQ_n, lpQ_e, lpQ_r, postC, rcs, rc1, rvS, gok, gvb, eget, lk, lkv, oks, AS.put, AS.keep, evk, evS_eq, allS, fillS, splice, Opk.opds, aload, isI, isInt, toI, isB, toB, sel, mk, icmp, iarith, nT, hget_hset, AVal.cells, Tok.esz, List.length_cons, List.length_nil, List.filterMap, List.map_cons, List.map_nil, List.append_nil, List.nil_append, Option.map_some, reduceCtorEq, and_true, true_and, forall_const, Nat.reduceEqDiff, ↓reduceIte, Bool.false_eq_true, Nat.reduceAdd, List.drop, List.take, List.drop_succ_cons, List.take_succ_cons, Nat.reduceLeDiff, Nat.reduceMul, Nat.reduceLT, Int.reduceEq, List.set_cons_zero, List.replicate_succ, List.replicate_zero, Nat.le_refl, List.headD_cons, Bool.true_and, isDiv, false_implies, implies_true, Nat.zero_add, Bool.cond_true_left, Bool.cond_false_right, imp_self, beq_true, beq_false, Bool.not_eq_true', Bool.or_eq_true, Bool.or_eq_false_iff, Bool.and_eq_true, decide_eq_true_eq, decide_eq_false_iff_not, ne_eq, not_false_eq_true, natE2, impA1, impA2, and_self, or_false, ret_eq, Nat.add_zero, Nat.add_assoc, Nat.le_add_right, killTok, appOK, srcOf, decide_true, List.length_map, Int.ofNat_lt, hkb, List.getElem?_map, List.getElem?_eq_getElem hkb, hbk, mkBx, hj', Int.toNat_natCast, Option.getD_some, Int.natCast_nonneg, fr2', g2, g24, g0, T5_36, s36, T5_37, s37, T5_33, s33, blk_eta, hxe, hxe', before_ahead', tl, sx, sy, sx', sy', q1, q2, q3, q4, q5, sp_press sp' hpx' sp hpx, e]
  have hbad : pairS p l[j] l[j'] xs[i] xs[k] = false → validS p l xs = (false, 0) := fun hp => valid_bad h0 hlen hlt (vok_pair hlt hkl hki hba hba' hp)
  have hps : pairS p l[j] l[j'] xs[i] xs[k] = (!(decide ((j' : Int) = j) || decide ((xs[k]).P = (xs[i]).P) && !aheadS p l[j] l[j'] xs[i] xs[k] && !aheadS p l[j'] l[j] xs[k] xs[i]) &&
    !(decide (spS (xs[k]).P = spS (xs[i]).P) && (decide ((l[j]).N = (l[j']).N) && (decide ((l[j]).K = 1) && decide ((l[j']).K = 2) || decide ((l[j]).K = 2) && decide ((l[j']).K = 1))))) := by
    unfold pairS; rw [hj, hj']
    have c1 : decide ((j : Int) = j') = decide ((j' : Int) = j) := by simp only [eq_comm]
    have c2 : decide ((xs[i]).P = (xs[k]).P) = decide ((xs[k]).P = (xs[i]).P) := by simp only [eq_comm]
    have c3 : decide (spS (xs[i]).P = spS (xs[k]).P) = decide (spS (xs[k]).P = spS (xs[i]).P) := by simp only [eq_comm]
    rw [c1, c2, c3]
    generalize decide ((l[j]).N = (l[j']).N) = u
    generalize decide (spS (xs[k]).P = spS (xs[i]).P) = v
    cases u <;> cases v <;> rfl
  have hidn2 := fr2.lt hid
  refine ⟨fun hh => ?_, fun hh => ?_⟩
  · rw [hbad ?_]
    · exact Wk.refl _
    · rw [hps]; rcases hh with (hh | ⟨⟨h1, h2⟩, h3⟩) | ⟨h1, h3, ⟨h4, h5⟩ | ⟨h4, h5⟩⟩ <;> simp [*]
  · refine lpN.drop (k + 1) rfl rfl rfl rfl fr2 ?_ ?_ ⟨by omega, fun m hm hmk b hb => ?_⟩ (by omega)
    · exact .new fr2 (by omega) (.new fr2 (by omega) (.refl _))
    · exact ⟨⟨trivial, encB_under _ l⟩, (by show 0 < n + 26; omega), ⟨hidn2, encBx_under _ bs⟩, (by show n + 2 < n + 26; omega), (by show n + 24 < n + 26; omega), ⟨trivial, encX_under _ xs⟩, trivial, trivial, ⟨hidn2, encBx_under _ bs⟩, trivial, trivial, trivial⟩
    · by_cases hmk' : m = k
      · subst hmk'
        rw [hba'] at hb; cases hb
        rw [hps, hh.1.2, hh.2]; simp [hh.1.1]
      · exact hno m hm (by omega) b hb

end Go.AM
end

/- Booklets: sorting, part 1: rearrangements, what is compared, swapRange, insertionSort. Conditions: none. -/
section
set_option maxRecDepth 10000
set_option linter.unusedSimpArgs false
set_option linter.unusedVariables false
set_option maxHeartbeats 1000000
set_option linter.unusedVariables false
set_option linter.unusedSimpArgs false
namespace Go.AM
open Go.Proofs

/-! ### Arrays of numbers, as functions -/
def arrF (N : Nat) (g : Nat → Nat) : List AVal := (List.range N).map fun k => .int .i64 (g k)
def upd (g : Nat → Nat) (i v : Nat) : Nat → Nat := fun k => if k = i then v else g k
def swp (g : Nat → Nat) (i j : Nat) : Nat → Nat := upd (upd g i (g j)) j (g i)
theorem arrF_len {N : Nat} {g : Nat → Nat} : (arrF N g).length = N := by simp [arrF]
theorem arrF_get {N i : Nat} (h : i < N) (g : Nat → Nat) : (arrF N g)[i]? = some (.int .i64 (g i)) := by
  simp [arrF, h]
theorem arrF_set {N i v : Nat} {g : Nat → Nat} : (arrF N g).set i (.int .i64 v) = arrF N (upd g i v) := by
  refine List.ext_getElem (by simp [arrF]) fun k h1 h2 => ?_
  rw [List.getElem_set]
  simp only [arrF, List.getElem_map, List.getElem_range, upd]
  by_cases e : i = k
  · subst e; simp
  · rw [if_neg e, if_neg (fun q => e q.symm)]
def lst (N : Nat) (g : Nat → Nat) : List Nat := (List.range N).map g
theorem perm_swp {N i j : Nat} (hi : i < N) (hj : j < N) (g : Nat → Nat) : (lst N (swp g i j)).Perm (lst N g) := by
  have h1 : i < (lst N g).toArray.size := by simpa [lst] using hi
  have h2 : j < (lst N g).toArray.size := by simpa [lst] using hj
  have h := Array.swap_perm (xs := (lst N g).toArray) h1 h2
  rw [Array.perm_iff_toList_perm] at h
  have e : ((lst N g).toArray.swap i j h1 h2).toList = lst N (swp g i j) := by
    refine List.ext_getElem (by simp [lst]) fun k q1 q2 => ?_
    rw [Array.getElem_toList, Array.getElem_swap]
    simp only [lst, List.getElem_toArray, List.getElem_map, List.getElem_range, swp, upd]
    by_cases e1 : k = i <;> by_cases e2 : k = j <;> simp [e1, e2] <;> (try (intro e; rw [e]))
    all_goals (subst e1; intro e; exact absurd e e2)
  rw [e] at h
  simpa using h

theorem swp_l {g : Nat → Nat} {i j : Nat} : swp g i j i = g j := by unfold swp upd; by_cases h : i = j <;> simp [h]
theorem swp_r {g : Nat → Nat} {i j : Nat} : swp g i j j = g i := by unfold swp upd; simp
theorem swp_o {g : Nat → Nat} {i j k : Nat} (h1 : k ≠ i) (h2 : k ≠ j) : swp g i j k = g k := by unfold swp upd; simp [h1, h2]

/-! ### What is compared -/
def kd (l : List Blk) (i : Nat) : Int := match l[i]? with
  | some b => b.K
  | none => 0
def lexlt (l : List Blk) (x y : Nat) : Prop := kd l x < kd l y ∨ (kd l x = kd l y ∧ x < y)
theorem lexlt.trans {l : List Blk} {x y z : Nat} (h : lexlt l x y) (k : lexlt l y z) : lexlt l x z := by unfold lexlt at *; omega
def okK (l : List Blk) : Prop := ∀ b ∈ l, 1 ≤ b.K ∧ b.K ≤ 3
def s31 : List AVal → AHeap → Prop × AVal := fun a H => match a with
  | [.int .i64 x, .int .i64 y, .ptr id 0] => match hget H id with
    | some (.box [.sl tok L]) => (tok.esz = 4 ∧ encd L ∧ 0 ≤ x ∧ x < L.length ∧ 0 ≤ y ∧ y < L.length ∧ okK (L.map decB), .int .i64 (kd (L.map decB) x.toNat - kd (L.map decB) y.toNat))
    | _ => (False, .tup [])
  | _ => (False, .tup [])
theorem q31 : ∀ args H n, (s31 args H).1 → Quiet Tryd.prog 31 args H n (s31 args H).2 := by
  intro args H n h
  unfold s31 at h ⊢
  split at h
  · rename_i x y id
    split at h
    · rename_i tok L ho
      obtain ⟨h1, h2, h3, h4, h5, h6, h7⟩ := h
      have h2' : L = (L.map decB).map encB := h2
      clear h2
      generalize L.map decB = l at h2' h7 ⊢
      subst h2'
      obtain ⟨i, rfl⟩ : ∃ i : Nat, x = i := ⟨x.toNat, by omega⟩
      obtain ⟨j, rfl⟩ : ∃ j : Nat, y = j := ⟨y.toNat, by omega⟩
      rw [List.length_map] at h4 h6
      have hi : i < l.length := by omega
      have hj : j < l.length := by omega
      have ki := h7 _ (List.getElem_mem hi)
      have kj := h7 _ (List.getElem_mem hj)
      refine Quiet.of l31 trivial fun hf => a31 (ev_awp TabOK.tnil (ev_evK ?_))
      simp only [kont_nil, kont_n, k_ret, k_seq, k_reg, r_nil, r_v, penv, postC, rcs, rc1, rvS, eget, lk, lkv, oks, AS.put, AS.keep, evk, Opk.opds, aload, isI, isInt, toI, mk, iarith, AVal.cells, Tok.esz, List.length_cons, List.length_nil, List.filterMap, Option.map_some, reduceCtorEq, and_true, true_and, Nat.reduceEqDiff, ↓reduceIte, Bool.false_eq_true, Nat.reduceAdd, List.drop, List.take, List.take_succ_cons, Nat.reduceLeDiff, Nat.le_refl, List.headD_cons, isDiv, false_implies, Nat.zero_add, ne_eq, and_self, qret_eq, Nat.add_zero, wk_int, c31, ho, List.length_map, Int.ofNat_lt, Int.natCast_nonneg, hi, hj, Int.toNat_natCast, List.getElem?_map, List.getElem?_eq_getElem hi, List.getElem?_eq_getElem hj, Option.getD_some, kd, Keeps.refl]
      exact ⟨h1, h1, w64_in (x := (l[i]).K - (l[j]).K) (by omega) (by omega)⟩
    · exact h.elim
  · exact h.elim
def T6 : Tab := tadd 31 s31 T5
theorem T6_31 (a : List AVal) (H : AHeap) : T6 31 a H = s31 a H := rfl
theorem T6_ok : TabOK Tryd.prog T6 := T5_ok.add q31

/-! ### swapRange -/
def swr (g : Nat → Nat) (a b : Nat) : Nat → (Nat → Nat)
  | 0 => g
  | m + 1 => swp (swr g a b m) (a + m) (b + m)
theorem swr_perm {N a b : Nat} {g : Nat → Nat} : ∀ {m : Nat}, a + m ≤ N → b + m ≤ N → (lst N (swr g a b m)).Perm (lst N g)
  | 0, _, _ => .refl _
  | m + 1, h1, h2 => (perm_swp (by omega) (by omega) _).trans (swr_perm (by omega) (by omega))
theorem swr_get {a b : Nat} {g : Nat → Nat} : ∀ {m : Nat}, (a + m ≤ b ∨ b + m ≤ a) → ∀ k, swr g a b m k = if a ≤ k ∧ k < a + m then g (b + (k - a)) else if b ≤ k ∧ k < b + m then g (a + (k - b)) else g k
  | 0, _, k => by simp only [swr]; rw [if_neg (by omega), if_neg (by omega)]
  | m + 1, h, k => by
    have ih := swr_get (g := g) (m := m) (a := a) (b := b) (by omega)
    simp only [swr]
    by_cases e1 : k = a + m
    · subst e1
      rw [swp_l, ih, if_neg (by omega), if_neg (by omega), if_pos (by omega)]
      congr 1; omega
    by_cases e2 : k = b + m
    · subst e2
      rw [swp_r, ih, if_neg (by omega), if_neg (by omega), if_neg (by omega), if_pos (by omega)]
      congr 1; omega
    rw [swp_o e1 e2, ih]
    repeat' split
    all_goals first | rfl | (exfalso; omega)

abbrev Sx (H : AHeap) (id N : Nat) (g : Nat → Nat) : AHeap := hset H id (.arr 1 (arrF N g))
theorem p57 (H : AHeap) (n id N : Nat) (g : Nat → Nat) (a b m : Nat) (cv : AVal) (ha : a + m ≤ N) (hb : b + m ≤ N) (hN : N ≤ 1000) :
    ACalls Tryd.prog 57 [.ref id 1 0 N N, .int .i64 a, .int .i64 b, .int .i64 m, cv] (Sx H id N g) n (fun o H' n' => o = .ret (.tup []) ∧ n' = n ∧ H' = Sx H id N (swr g a b m)) := by
  refine a57 (ev_awp T6_ok (ev_evK ?_))
  simp only [kont_n, k_seq, k_block, k_reg, r_nil, r_v, penv, eget, lk, lkv, oks, AS.put, AS.keep, evk, Opk.opds, List.filterMap, Option.map_some, reduceCtorEq, true_and, Nat.reduceEqDiff, ↓reduceIte, Nat.reduceAdd, Nat.zero_add, and_self, Nat.add_zero, c57]
  refine k_loop (fun i : Nat => ⟨[(0, true, .ref id 1 0 N N), (1, true, .int .i64 a), (2, true, .int .i64 b), (3, true, .int .i64 m), (10, true, .int .i64 i)], Sx H id N (swr g a b i), n⟩)
    (fun i => i ≤ m) (fun i => m - i) 0 rfl (by omega) ?_
  intro i hi
  by_cases hlt : i < m
  case neg =>
    have : i = m := by omega
    subst this
    simp only [kont_nil, kont_n, kont_e, kont_bn, kont_be, k_skip, k_exit, k_seq, k_block, k_cond, k_reg, r_nil, r_v, r_st, stE, lpQ_n, lpQ_e, postC, rcs, rvS, eget, lk, lkv, oks, AS.put, AS.keep, evk, Opk.opds, aload, isI, isInt, toI, isB, toB, mk, icmp, iarith, nT, hget_hset, AVal.cells, List.filterMap, Option.map_some, reduceCtorEq, and_true, true_and, forall_const, Nat.reduceEqDiff, ↓reduceIte, Bool.false_eq_true, List.drop, Int.reduceEq, Nat.le_refl, isDiv, false_implies, implies_true, Nat.zero_add, ne_eq, not_false_eq_true, and_self, Nat.add_zero, decide_false, Int.ofNat_lt, hlt]
  have e1 : IntKind.wrap .i64 ((a : Int) + i) = ((a + i : Nat) : Int) := by rw [w64_in (by omega) (by omega)]; omega
  have e2 : IntKind.wrap .i64 ((b : Int) + i) = ((b + i : Nat) : Int) := by rw [w64_in (by omega) (by omega)]; omega
  have e := w64_succ (k := i) (by omega)
  have l1 : a + i < N := by omega
  have l2 : b + i < N := by omega
  simp only [kont_nil, kont_n, kont_e, kont_bn, kont_be, k_skip, k_exit, k_seq, k_block, k_cond, k_reg, r_nil, r_v, r_st, stE, lpQ_n, lpQ_e, postC, rcs, rvS, eget, lk, lkv, oks, AS.put, AS.keep, evk, Opk.opds, aload, isI, isInt, toI, isB, toB, mk, icmp, iarith, nT, hget_hset, AVal.cells, List.length_cons, List.length_nil, List.filterMap, Option.map_some, reduceCtorEq, and_true, true_and, forall_const, Nat.reduceEqDiff, ↓reduceIte, Bool.false_eq_true, List.drop, List.take, List.take_succ_cons, Int.reduceEq, Nat.le_refl, List.headD_cons, isDiv, false_implies, implies_true, Nat.zero_add, ne_eq, not_false_eq_true, and_self, Nat.add_zero, decide_true, Int.ofNat_lt, hlt, e1, e2, e, l1, l2, Int.natCast_nonneg, Int.toNat_natCast, arrF_len, arrF_get l1, arrF_get l2, Option.getD_some, arrF_set, hset_hset]
  exact .mk (i + 1) rfl (by omega) (by omega)

/-- On [a, b) the values are rearranged; elsewhere they stay. -/
structure Pm (N a b : Nat) (g g' : Nat → Nat) : Prop where
  perm : (lst N g').Perm (lst N g)
  out : ∀ k, ¬ (a ≤ k ∧ k < b) → g' k = g k
  mem : ∀ k, a ≤ k → k < b → ∃ k', a ≤ k' ∧ k' < b ∧ g' k = g k'
theorem Pm.refl {N a b : Nat} {g : Nat → Nat} : Pm N a b g g := ⟨.refl _, fun _ _ => rfl, fun k h1 h2 => ⟨k, h1, h2, rfl⟩⟩
theorem Pm.trans {N a b : Nat} {g g' g'' : Nat → Nat} (h : Pm N a b g g') (k : Pm N a b g' g'') : Pm N a b g g'' :=
  ⟨k.perm.trans h.perm, fun i hi => (k.out i hi).trans (h.out i hi), fun i h1 h2 => let ⟨j, j1, j2, j3⟩ := k.mem i h1 h2; let ⟨m, m1, m2, m3⟩ := h.mem j j1 j2; ⟨m, m1, m2, j3.trans m3⟩⟩
theorem Pm.wide {N a b a' b' : Nat} {g g' : Nat → Nat} (h : Pm N a b g g') (ha : a' ≤ a) (hb : b ≤ b') : Pm N a' b' g g' :=
  ⟨h.perm, fun i hi => h.out i (by omega), fun i h1 h2 => by
    by_cases hi : a ≤ i ∧ i < b
    · obtain ⟨j, j1, j2, j3⟩ := h.mem i hi.1 hi.2; exact ⟨j, by omega, by omega, j3⟩
    · exact ⟨i, h1, h2, h.out i hi⟩⟩
theorem Pm.swp {N a b i j : Nat} (hb : b ≤ N) (hi : a ≤ i ∧ i < b) (hj : a ≤ j ∧ j < b) (g : Nat → Nat) : Pm N a b g (swp g i j) :=
  ⟨perm_swp (by omega) (by omega) g, fun k hk => swp_o (by omega) (by omega), fun k h1 h2 => by
    by_cases e1 : k = i
    · subst e1; exact ⟨j, hj.1, hj.2, swp_l⟩
    by_cases e2 : k = j
    · subst e2; exact ⟨i, hi.1, hi.2, swp_r⟩
    exact ⟨k, h1, h2, swp_o e1 e2⟩⟩
def Srt (l : List Blk) (a b : Nat) (g : Nat → Nat) : Prop := ∀ i j, a ≤ i → i < j → j < b → lexlt l (g i) (g j)

/-- What surrounds the sorting. -/
structure Cx (H : AHeap) (id lb N : Nat) (l : List Blk) : Prop where
  hlb : hget H lb = some (.box [.sl (.none 4) (l.map encB)])
  ne : (id = lb) = False
  hK : okK l
  hN : N ≤ 1000
def SrtPost (H : AHeap) (n id N a b : Nat) (l : List Blk) (g : Nat → Nat) : AOut → AHeap → Nat → Prop := fun o H' n' =>
  o = .ret (.tup []) ∧ n' = n ∧ ∃ g', H' = Sx H id N g' ∧ Pm N a b g g' ∧ Srt l a b g'

structure V45 where
  i : Nat
  g : Nat → Nat
structure W45 where
  j : Nat
  g : Nat → Nat
/-- Inside: the element that is being put in its place is at j. -/
structure In45 (l : List Blk) (N a i : Nat) (g0 : Nat → Nat) (w : W45) : Prop where
  ja : a ≤ w.j
  ji : w.j ≤ i
  pm : Pm N a (i + 1) g0 w.g
  so : ∀ p q, a ≤ p → p < q → q ≤ i → p ≠ w.j → q ≠ w.j → lexlt l (w.g p) (w.g q)
  up : ∀ q, w.j < q → q ≤ i → lexlt l (w.g w.j) (w.g q)
  ix : ∀ p, a ≤ p → p ≤ i → p ≠ w.j → w.g p < w.g w.j
theorem In45.step {l : List Blk} {N a i : Nat} {g0 : Nat → Nat} {w : W45} (h : In45 l N a i g0 w) (hN : i < N) (hj : a < w.j) (hl : kd l (w.g w.j) < kd l (w.g (w.j - 1))) : In45 l N a i g0 ⟨w.j - 1, Go.AM.swp w.g w.j (w.j - 1)⟩ := by
  obtain ⟨j, g⟩ := w
  obtain ⟨h1, h2, h3, h4, h5, h6⟩ := h
  simp only at *
  have hx : lexlt l (g j) (g (j - 1)) := .inl hl
  refine ⟨by simp only []; omega, by simp only []; omega, h3.trans (Pm.swp (by omega) ⟨by omega, by omega⟩ ⟨by omega, by omega⟩ g), ?_, ?_, ?_⟩
  · intro p q p1 p2 p3 p4 p5
    simp only at p4 p5 ⊢
    by_cases e1 : p = j
    · subst e1; rw [swp_l, swp_o (by omega) (by omega)]; exact h4 _ _ (by omega) (by omega) p3 (by omega) (by omega)
    rw [swp_o (k := p) e1 p4]
    by_cases e2 : q = j
    · subst e2; rw [swp_l]; exact h4 _ _ p1 (by omega) (by omega) (by omega) (by omega)
    rw [swp_o e2 p5]; exact h4 _ _ p1 p2 p3 e1 e2
  · intro q q1 q2
    simp only at q1 ⊢
    rw [swp_r]
    by_cases e : q = j
    · subst e; rw [swp_l]; exact hx
    · rw [swp_o e (by omega)]; exact h5 q (by omega) q2
  · intro p p1 p2 p3
    simp only at p3 ⊢
    rw [swp_r]
    by_cases e : p = j
    · subst e; rw [swp_l]; exact h6 _ (by omega) (by omega) (by omega)
    · rw [swp_o e p3]; exact h6 p p1 p2 e
theorem In45.done {l : List Blk} {N a i : Nat} {g0 : Nat → Nat} {w : W45} (h : In45 l N a i g0 w) (hj : w.j = a ∨ ¬ kd l (w.g w.j) < kd l (w.g (w.j - 1))) : Srt l a (i + 1) w.g := by
  obtain ⟨j, g⟩ := w
  obtain ⟨h1, h2, h3, h4, h5, h6⟩ := h
  simp only at *
  intro p q p1 p2 p3
  by_cases e1 : p = j
  · subst e1; exact h5 q p2 (by omega)
  by_cases e2 : q = j
  · subst e2
    rcases hj with hj | hj
    · omega
    have hx : lexlt l (g (q - 1)) (g q) := by
      have := h6 (q - 1) (by omega) (by omega) (by omega)
      unfold lexlt; omega
    by_cases e3 : p = q - 1
    · subst e3; exact hx
    · exact (h4 p (q - 1) p1 (by omega) (by omega) e1 (by omega)).trans hx
  exact h4 p q p1 p2 (by omega) e1 e2

abbrev cmpA (lb : Nat) : AVal := .fn (.func 31) [] [.ptr lb 0]
theorem p45 {H : AHeap} {n id lb N : Nat} {l : List Blk} (cx : Cx H id lb N l) (g : Nat → Nat) (a b : Nat) (hab : a ≤ b) (hb : b ≤ N) (hg : ∀ k < N, g k < l.length) (hinc : ∀ p q, a ≤ p → p < q → q < b → g p < g q) :
    ACalls Tryd.prog 45 [.ref id 1 0 N N, .int .i64 a, .int .i64 b, cmpA lb] (Sx H id N g) n (SrtPost H n id N a b l g) := by
  obtain ⟨hlb, ne, hK, hN⟩ := cx
  have e0 := w64_succ (k := a) (by omega)
  refine a45 (ev_awp T6_ok (ev_evK ?_))
  simp only [kont_n, k_seq, k_block, k_reg, r_nil, r_v, penv, eget, lk, lkv, oks, AS.put, AS.keep, evk, Opk.opds, isI, toI, iarith, List.filterMap, Option.map_some, reduceCtorEq, true_and, Nat.reduceEqDiff, ↓reduceIte, Bool.false_eq_true, Nat.reduceAdd, Int.reduceEq, isDiv, implies_true, Nat.zero_add, ne_eq, not_false_eq_true, and_self, Nat.add_zero, c45, e0]
  refine k_loop (fun v : V45 => ⟨[(0, true, .ref id 1 0 N N), (1, true, .int .i64 a), (2, true, .int .i64 b), (3, true, cmpA lb), (8, true, .int .i64 v.i)], Sx H id N v.g, n⟩)
    (fun v => a + 1 ≤ v.i ∧ (v.i ≤ b ∨ v.i = a + 1) ∧ Pm N a b g v.g ∧ (∀ k, v.i ≤ k → v.g k = g k) ∧ Srt l a v.i v.g ∧ ∀ p q, a ≤ p → p < v.i → v.i ≤ q → q < b → v.g p < v.g q) (fun v => b - v.i) ⟨a + 1, g⟩ rfl
    ⟨by simp, .inr rfl, .refl, fun _ _ => rfl, fun i j h1 h2 h3 => by simp only [] at h3; omega, fun p q h1 h2 h3 h4 => hinc p q h1 (by simp only [] at h2 h3; omega) h4⟩ ?_
  rintro ⟨i, g1⟩ ⟨ha, hib, pm, hsame, hsrt, hlow⟩
  simp only at ha hib pm hsame hsrt hlow
  by_cases hlt : i < b
  case neg =>
    simp only [kont_nil, kont_n, kont_e, kont_be, k_skip, k_exit, k_seq, k_block, k_cond, k_reg, r_nil, r_v, lpQ_e, postC, rcs, rvS, eget, lk, lkv, oks, AS.put, AS.keep, evk, Opk.opds, isI, toI, isB, toB, icmp, List.filterMap, Option.map_some, reduceCtorEq, true_and, forall_const, Nat.reduceEqDiff, ↓reduceIte, Bool.false_eq_true, false_implies, and_self, Nat.add_zero, decide_false, Int.ofNat_lt, hlt]
    refine ⟨rfl, rfl, g1, rfl, pm, ?_⟩
    intro p q p1 p2 p3; exact hsrt p q p1 p2 (by omega)
  have hgl : ∀ k < N, g1 k < l.length := by
    intro k hk
    by_cases q : a ≤ k ∧ k < b
    · obtain ⟨k', q1, q2, q3⟩ := pm.mem k q.1 q.2; rw [q3]; exact hg _ (by omega)
    · rw [pm.out k q]; exact hg k hk
  simp only [kont_nil, kont_n, kont_e, kont_be, k_skip, k_exit, k_seq, k_block, k_cond, k_reg, r_nil, r_v, lpQ_e, postC, rcs, rvS, eget, lk, lkv, oks, AS.put, AS.keep, evk, Opk.opds, isI, toI, isB, toB, icmp, List.filterMap, Option.map_some, reduceCtorEq, and_true, true_and, forall_const, Nat.reduceEqDiff, ↓reduceIte, false_implies, and_self, Nat.add_zero, decide_true, Int.ofNat_lt, hlt]
  refine k_loop (fun w : W45 => ⟨[(0, true, .ref id 1 0 N N), (1, true, .int .i64 a), (2, true, .int .i64 b), (3, true, cmpA lb), (8, true, .int .i64 i), (9, true, .int .i64 w.j)], Sx H id N w.g, n⟩)
    (In45 l N a i g1) (fun w => w.j) ⟨i, g1⟩ rfl ⟨by simp only []; omega, by simp, .refl, fun p q p1 p2 p3 p4 p5 => hsrt p q p1 p2 (by simp only [] at p5; omega), fun q q1 q2 => by simp only [] at q1; omega, fun p p1 p2 p3 => hlow p i p1 (by simp only [] at p3; omega) (Nat.le_refl i) hlt⟩ ?_
  rintro ⟨j, g2⟩ hin
  have hja := hin.ja
  have hji := hin.ji
  simp only at hja hji
  have hgl2 : ∀ k < N, g2 k < l.length := by
    intro k hk
    by_cases q : a ≤ k ∧ k < i + 1
    · obtain ⟨k', q1, q2, q3⟩ := hin.pm.mem k q.1 q.2; simp only at q3; rw [q3]; exact hgl _ (by omega)
    · have := hin.pm.out k q; simp only at this; rw [this]; exact hgl k hk
  have ei := w64_succ (k := i) (by omega)
  have fin : (j = a ∨ ¬ kd l (g2 j) < kd l (g2 (j - 1))) → a + 1 ≤ i + 1 ∧ (i + 1 ≤ b ∨ i + 1 = a + 1) ∧ Pm N a b g g2 ∧ (∀ k, i + 1 ≤ k → g2 k = g k) ∧ Srt l a (i + 1) g2 ∧ ∀ p q, a ≤ p → p < i + 1 → i + 1 ≤ q → q < b → g2 p < g2 q := by
    intro hd
    refine ⟨by omega, by omega, pm.trans (hin.pm.wide (Nat.le_refl _) (by omega)), ?_, hin.done hd, ?_⟩
    · intro k hk
      have := hin.pm.out k (by omega)
      simp only at this
      rw [this]; exact hsame k (by omega)
    · intro p q p1 p2 p3 p4
      obtain ⟨p', r1, r2, r3⟩ := hin.pm.mem p p1 p2
      have r4 := hin.pm.out q (by omega)
      simp only at r3 r4
      rw [r3, r4, hsame q (by omega)]
      by_cases e : p' = i
      · subst e; rw [hsame _ (Nat.le_refl _)]; exact hinc _ _ r1 (by omega) p4
      · have := hlow p' q r1 (by omega) (by omega) p4
        rwa [hsame q (by omega)] at this
  by_cases hgt : a < j
  case neg =>
    have hj : j = a := by omega
    simp only [kont_nil, kont_n, kont_e, kont_bn, kont_be, k_skip, k_exit, k_seq, k_block, k_cond, k_reg, r_nil, r_v, r_vg, r_pick, r_st, r_callg, stE, callT, lpQ_n, lpQ_e, gok, gvb, eget, lk, lkv, oks, AS.put, AS.keep, evk, Opk.opds, aload, isI, isInt, toI, isB, toB, sel, mk, icmp, iarith, nT, hget_hset, AVal.cells, List.filterMap, List.map_cons, List.map_nil, List.nil_append, List.cons_append, Option.map_some, reduceCtorEq, and_true, true_and, forall_const, Nat.reduceEqDiff, ↓reduceIte, Bool.false_eq_true, List.drop, Int.reduceEq, Nat.le_refl, isDiv, false_implies, implies_true, Nat.zero_add, imp_self, beq_true, ne_eq, not_false_eq_true, impA1, and_self, Nat.add_zero, decide_false, Bool.and_false, cond_false, Int.ofNat_lt, hgt, ei]
    exact .mk ⟨i + 1, g2⟩ rfl (fin (.inl hj)) (by simp only []; omega)
  have ej : IntKind.wrap .i64 ((j : Int) - 1) = ((j - 1 : Nat) : Int) := by rw [w64_in (by omega) (by omega)]; omega
  have l1 : j < N := by omega
  have l2 : j - 1 < N := by omega
  have g1' := hgl2 j l1
  have g2' := hgl2 (j - 1) l2
  by_cases hk : kd l (g2 j) < kd l (g2 (j - 1))
  · have hk' : kd l (g2 j) - kd l (g2 (j - 1)) < 0 := by omega
    simp only [kont_nil, kont_n, kont_e, kont_bn, kont_be, k_skip, k_exit, k_seq, k_block, k_cond, k_reg, r_nil, r_v, r_vg, r_pick, r_st, r_callg, stE, callT, lpQ_n, lpQ_e, gok, gvb, eget, lk, lkv, oks, AS.put, AS.keep, evk, Opk.opds, aload, isI, isInt, toI, isB, toB, sel, mk, icmp, iarith, nT, hget_hset, AVal.cells, Tok.esz, List.length_cons, List.length_nil, List.filterMap, List.map_cons, List.map_nil, List.nil_append, List.cons_append, Option.map_some, reduceCtorEq, and_true, true_and, forall_const, Nat.reduceEqDiff, ↓reduceIte, Bool.false_eq_true, List.drop, List.take, List.take_succ_cons, Int.reduceEq, Nat.le_refl, List.headD_cons, Bool.and_true, beq_self_eq_true, isDiv, false_implies, implies_true, Nat.zero_add, ne_eq, not_false_eq_true, and_self, Nat.add_zero, decide_true, cond_true, Int.ofNat_lt, hgt, ej, l1, l2, Int.natCast_nonneg, Int.toNat_natCast, arrF_len, arrF_get l1, arrF_get l2, Option.getD_some, T6_31, s31, ne, hlb, encd_map, decB_map, hK, List.length_map, g1', g2', hk', arrF_set, hset_hset]
    exact .mk ⟨j - 1, swp g2 j (j - 1)⟩ rfl (hin.step (by omega) hgt hk) (by simp only []; omega)
  · have hk' : ¬ kd l (g2 j) - kd l (g2 (j - 1)) < 0 := by omega
    simp only [kont_nil, kont_n, kont_e, kont_bn, kont_be, k_skip, k_exit, k_seq, k_block, k_cond, k_reg, r_nil, r_v, r_vg, r_pick, r_st, r_callg, stE, callT, lpQ_n, lpQ_e, gok, gvb, eget, lk, lkv, oks, AS.put, AS.keep, evk, Opk.opds, aload, isI, isInt, toI, isB, toB, sel, mk, icmp, iarith, nT, hget_hset, AVal.cells, Tok.esz, List.length_cons, List.length_nil, List.filterMap, List.map_cons, List.map_nil, List.nil_append, List.cons_append, Option.map_some, reduceCtorEq, and_true, true_and, forall_const, Nat.reduceEqDiff, ↓reduceIte, Bool.false_eq_true, List.drop, List.take, List.take_succ_cons, Int.reduceEq, Nat.le_refl, List.headD_cons, Bool.and_true, beq_self_eq_true, isDiv, false_implies, implies_true, Nat.zero_add, ne_eq, not_false_eq_true, and_self, Nat.add_zero, decide_true, decide_false, cond_true, Int.ofNat_lt, hgt, ej, l1, l2, Int.natCast_nonneg, Int.toNat_natCast, arrF_len, arrF_get l1, arrF_get l2, Option.getD_some, T6_31, s31, ne, hlb, encd_map, decB_map, hK, List.length_map, g1', g2', hk', ei]
    exact .mk ⟨i + 1, g2⟩ rfl (fin (.inr hk)) (by simp only []; omega)

end Go.AM
end

/- Booklets: sorting, part 2: rotate, and what a merge needs. Conditions: none. -/
section
set_option maxRecDepth 10000
set_option linter.unusedSimpArgs false
set_option linter.unusedVariables false
set_option maxHeartbeats 1000000
set_option linter.unusedVariables false
set_option linter.unusedSimpArgs false
namespace Go.AM
open Go.Proofs

/-- The blocks [x, m) and [m, y) change places. -/
def rot (h : Nat → Nat) (x m y : Nat) : Nat → Nat := fun k => if x ≤ k ∧ k < x + (y - m) then h (m + (k - x)) else if x + (y - m) ≤ k ∧ k < y then h (x + (k - (x + (y - m)))) else h k
theorem rot_gt {h : Nat → Nat} {m i j : Nat} (hi : i ≤ m) (hj : 0 < j) (hij : j < i) (k : Nat) : rot (swr h (m - i) m j) (m - (i - j)) m (m + j) k = rot h (m - i) m (m + j) k := by
  have sg := fun k => swr_get (a := m - i) (b := m) (m := j) (g := h) (by omega) k
  simp only [rot, sg]
  repeat' split
  all_goals first | rfl | (exfalso; omega) | (congr 1; omega)
theorem rot_lt {h : Nat → Nat} {m i j : Nat} (hi : i ≤ m) (hi0 : 0 < i) (hij : i < j) (k : Nat) : rot (swr h (m - i) (m + j - i) i) (m - i) m (m + (j - i)) k = rot h (m - i) m (m + j) k := by
  have sg := fun k => swr_get (a := m - i) (b := m + j - i) (m := i) (g := h) (by omega) k
  simp only [rot, sg]
  repeat' split
  all_goals first | rfl | (exfalso; omega) | (congr 1; omega)
theorem rot_eq {h : Nat → Nat} {m i : Nat} (hi : i ≤ m) (k : Nat) : swr h (m - i) m i k = rot h (m - i) m (m + i) k := by
  rw [swr_get (by omega)]
  simp only [rot]
  repeat' split
  all_goals first | rfl | (exfalso; omega) | (congr 1; omega)
theorem swr_pm {N a b x y : Nat} {g : Nat → Nat} (hb : b ≤ N) : ∀ {m : Nat}, a ≤ x → x + m ≤ b → a ≤ y → y + m ≤ b → Pm N a b g (swr g x y m)
  | 0, _, _, _, _ => .refl
  | m + 1, h1, h2, h3, h4 => (swr_pm hb h1 (by omega) h3 (by omega)).trans (Pm.swp hb ⟨by omega, by omega⟩ ⟨by omega, by omega⟩ _)

structure V51 where
  i : Nat
  j : Nat
  g : Nat → Nat
theorem p51 (H : AHeap) (n id N : Nat) (g : Nat → Nat) (a m b : Nat) (cv : AVal) (h1 : a < m) (h2 : m < b) (hb : b ≤ N) (hN : N ≤ 1000) :
    ACalls Tryd.prog 51 [.ref id 1 0 N N, .int .i64 a, .int .i64 m, .int .i64 b, cv] (Sx H id N g) n (fun o H' n' => o = .ret (.tup []) ∧ n' = n ∧ ∃ g', H' = Sx H id N g' ∧ Pm N a b g g' ∧ ∀ k, g' k = rot g a m b k) := by
  have e1 : IntKind.wrap .i64 ((m : Int) - a) = ((m - a : Nat) : Int) := by rw [w64_in (by omega) (by omega)]; omega
  have e2 : IntKind.wrap .i64 ((b : Int) - m) = ((b - m : Nat) : Int) := by rw [w64_in (by omega) (by omega)]; omega
  refine a51 (ev_awp T6_ok (ev_evK ?_))
  simp only [kont_n, k_seq, k_block, k_reg, r_nil, r_v, penv, eget, lk, lkv, oks, AS.put, AS.keep, evk, Opk.opds, isI, toI, iarith, List.filterMap, Option.map_some, reduceCtorEq, true_and, Nat.reduceEqDiff, ↓reduceIte, Bool.false_eq_true, Nat.reduceAdd, isDiv, false_implies, Nat.zero_add, ne_eq, and_self, Nat.add_zero, c51, e1, e2]
  refine k_loop (fun v : V51 => ⟨[(0, true, .ref id 1 0 N N), (2, true, .int .i64 m), (4, true, cv), (10, true, .int .i64 v.i), (11, true, .int .i64 v.j)], Sx H id N v.g, n⟩)
    (fun v => 0 < v.i ∧ 0 < v.j ∧ v.i ≤ m - a ∧ v.j ≤ b - m ∧ Pm N a b g v.g ∧ ∀ k, rot v.g (m - v.i) m (m + v.j) k = rot g a m b k) (fun v => v.i + v.j) ⟨m - a, b - m, g⟩ rfl
    ⟨by simp only []; omega, by simp only []; omega, Nat.le_refl _, Nat.le_refl _, .refl, fun k => by simp only []; rw [show m - (m - a) = a by omega, show m + (b - m) = b by omega]⟩ ?_
  rintro ⟨i, j, h⟩ ⟨hi, hj, him, hjb, pm, hr⟩
  simp only at hi hj him hjb pm hr
  have f1 : IntKind.wrap .i64 ((m : Int) - i) = ((m - i : Nat) : Int) := by rw [w64_in (by omega) (by omega)]; omega
  by_cases hij : i = j
  · subst hij
    simp only [kont_nil, kont_n, kont_e, kont_be, k_skip, k_exit, k_seq, k_block, k_cond, k_reg, r_nil, r_v, r_calli, callI, lpQ_e, eget, lk, lkv, oks, AS.put, AS.keep, evk, Opk.opds, isI, toI, isB, toB, icmp, iarith, List.filterMap, List.map_cons, List.map_nil, List.append_nil, List.nil_append, Option.map_some, reduceCtorEq, true_and, forall_const, Nat.reduceEqDiff, ↓reduceIte, Bool.false_eq_true, isDiv, false_implies, Bool.not_eq_true', Bool.not_eq_false', decide_eq_true_eq, decide_eq_false_iff_not, ne_eq, and_self, Nat.add_zero, decide_true, f1]
    refine (p57 H n id N h (m - i) m i cv (by omega) (by omega) hN).mono ?_
    rintro o H' n' ⟨rfl, rfl, rfl⟩
    simp only [kont_nil, r_nil, postC, rcs, rvS, AS.put, AS.keep, List.filterMap, true_and, retK]
    refine ⟨_, rfl, pm.trans (swr_pm hb (by omega) (by omega) (by omega) (by omega)), fun k => ?_⟩
    rw [rot_eq (by omega), hr]
  have hij' : ((i : Int) = j) = False := by simp; omega
  by_cases hgt : j < i
  · have f2 : IntKind.wrap .i64 ((i : Int) - j) = ((i - j : Nat) : Int) := by rw [w64_in (by omega) (by omega)]; omega
    simp only [kont_nil, kont_n, kont_e, kont_be, k_skip, k_exit, k_seq, k_block, k_cond, k_reg, r_nil, r_v, r_calli, callI, lpQ_e, eget, lk, lkv, oks, AS.put, AS.keep, evk, Opk.opds, isI, toI, isB, toB, icmp, iarith, List.filterMap, List.map_cons, List.map_nil, List.append_nil, List.nil_append, Option.map_some, reduceCtorEq, and_true, true_and, forall_const, Nat.reduceEqDiff, ↓reduceIte, Bool.false_eq_true, isDiv, false_implies, Bool.not_eq_true', Bool.not_eq_false', ne_eq, and_self, Nat.add_zero, decide_true, decide_false, hij', Int.ofNat_lt, hgt, f1]
    refine (p57 H n id N h (m - i) m j cv (by omega) (by omega) hN).mono ?_
    rintro o H' n' ⟨rfl, rfl, rfl⟩
    simp only [kont_nil, kont_n, kont_bn, k_reg, r_nil, r_v, lpQ_n, eget, lk, lkv, oks, AS.put, AS.keep, evk, Opk.opds, isI, toI, iarith, List.filterMap, Option.map_some, reduceCtorEq, true_and, Nat.reduceEqDiff, ↓reduceIte, Bool.false_eq_true, isDiv, false_implies, ne_eq, and_self, Nat.add_zero, retK, f2]
    refine .mk ⟨i - j, j, _⟩ rfl ⟨by simp only []; omega, hj, by simp only []; omega, hjb, pm.trans (swr_pm hb (by omega) (by omega) (by omega) (by omega)), fun k => ?_⟩ (by simp only []; omega)
    simp only []
    rw [rot_gt (by omega) hj hgt, hr]
  · have f2 : IntKind.wrap .i64 ((j : Int) - i) = ((j - i : Nat) : Int) := by rw [w64_in (by omega) (by omega)]; omega
    have f3 : IntKind.wrap .i64 ((m : Int) + j) = ((m + j : Nat) : Int) := by rw [w64_in (by omega) (by omega)]; omega
    have f4 : IntKind.wrap .i64 (((m + j : Nat) : Int) - i) = ((m + j - i : Nat) : Int) := by rw [w64_in (by omega) (by omega)]; omega
    simp only [kont_nil, kont_n, kont_e, kont_be, k_skip, k_exit, k_seq, k_block, k_cond, k_reg, r_nil, r_v, r_calli, callI, lpQ_e, eget, lk, lkv, oks, AS.put, AS.keep, evk, Opk.opds, isI, toI, isB, toB, icmp, iarith, List.filterMap, List.map_cons, List.map_nil, List.append_nil, List.nil_append, Option.map_some, reduceCtorEq, and_true, true_and, forall_const, Nat.reduceEqDiff, ↓reduceIte, Bool.false_eq_true, isDiv, false_implies, Bool.not_eq_true', Bool.not_eq_false', ne_eq, and_self, Nat.add_zero, decide_false, hij', Int.ofNat_lt, hgt, f1, f3, f4]
    refine (p57 H n id N h (m - i) (m + j - i) i cv (by omega) (by omega) hN).mono ?_
    rintro o H' n' ⟨rfl, rfl, rfl⟩
    simp only [kont_nil, kont_n, kont_bn, k_reg, r_nil, r_v, lpQ_n, eget, lk, lkv, oks, AS.put, AS.keep, evk, Opk.opds, isI, toI, iarith, List.filterMap, Option.map_some, reduceCtorEq, true_and, Nat.reduceEqDiff, ↓reduceIte, Bool.false_eq_true, isDiv, false_implies, ne_eq, and_self, Nat.add_zero, retK, f2]
    refine .mk ⟨i, j - i, _⟩ rfl ⟨hi, by simp only []; omega, him, by simp only []; omega, pm.trans (swr_pm hb (by omega) (by omega) (by omega) (by omega)), fun k => ?_⟩ (by simp only []; omega)
    simp only []
    rw [rot_lt (by omega) hi (by omega), hr]

/-! ### Merging, in plain words -/
structure MPre (l : List Blk) (a m b : Nat) (g : Nat → Nat) : Prop where
  so1 : Srt l a m g
  so2 : Srt l m b g
  ix : ∀ p q, a ≤ p → p < m → m ≤ q → q < b → g p < g q
structure Cut (l : List Blk) (a m b s e : Nat) (g : Nat → Nat) : Prop where
  sa : a ≤ s
  sm : s ≤ m
  me : m ≤ e
  eb : e ≤ b
  l1 : ∀ p q, a ≤ p → p < s → e ≤ q → q < b → lexlt l (g p) (g q)
  l2 : ∀ p q, m ≤ p → p < e → s ≤ q → q < m → lexlt l (g p) (g q)
theorem rot_1 {g : Nat → Nat} {s m e k : Nat} (h : k < s ∨ e ≤ k) (h2 : s ≤ m) (h3 : m ≤ e) : rot g s m e k = g k := by unfold rot; rw [if_neg (by omega), if_neg (by omega)]
theorem rot_2 {g : Nat → Nat} {s m e k : Nat} (h : s ≤ k) (h2 : k < s + (e - m)) : rot g s m e k = g (m + (k - s)) := by unfold rot; rw [if_pos (by omega)]
theorem rot_3 {g : Nat → Nat} {s m e k : Nat} (h : s + (e - m) ≤ k) (h2 : k < e) : rot g s m e k = g (s + (k - (s + (e - m)))) := by unfold rot; rw [if_neg (by omega), if_pos (by omega)]
theorem MPre.left {l : List Blk} {a m b s e : Nat} {g g1 : Nat → Nat} (h : MPre l a m b g) (c : Cut l a m b s e g) (hg : ∀ k, g1 k = rot g s m e k) : MPre l a s (s + (e - m)) g1 := by
  obtain ⟨c1, c2, c3, c4, c5, c6⟩ := c
  refine ⟨fun i j h1 h2 h3 => ?_, fun i j h1 h2 h3 => ?_, fun p q h1 h2 h3 h4 => ?_⟩
  · rw [hg, hg, rot_1 (.inl (by omega)) c2 c3, rot_1 (.inl (by omega)) c2 c3]; exact h.so1 i j h1 h2 (by omega)
  · rw [hg, hg, rot_2 (by omega) (by omega), rot_2 (by omega) (by omega)]; exact h.so2 _ _ (by omega) (by omega) (by omega)
  · rw [hg, hg, rot_1 (.inl (by omega)) c2 c3, rot_2 (by omega) (by omega)]; exact h.ix _ _ (by omega) (by omega) (by omega) (by omega)
theorem MPre.right {l : List Blk} {N a m b s e : Nat} {g g1 g2 : Nat → Nat} (h : MPre l a m b g) (c : Cut l a m b s e g) (hg : ∀ k, g1 k = rot g s m e k) (pm : Pm N a (s + (e - m)) g1 g2) : MPre l (s + (e - m)) e b g2 := by
  obtain ⟨c1, c2, c3, c4, c5, c6⟩ := c
  have e2 : ∀ k, s + (e - m) ≤ k → g2 k = rot g s m e k := fun k hk => by rw [pm.out k (by omega), hg]
  refine ⟨fun i j h1 h2 h3 => ?_, fun i j h1 h2 h3 => ?_, fun p q h1 h2 h3 h4 => ?_⟩
  · rw [e2 i h1, e2 j (by omega), rot_3 (by omega) (by omega), rot_3 (by omega) (by omega)]; exact h.so1 _ _ (by omega) (by omega) (by omega)
  · rw [e2 i (by omega), e2 j (by omega), rot_1 (.inr (by omega)) c2 c3, rot_1 (.inr (by omega)) c2 c3]; exact h.so2 _ _ (by omega) (by omega) (by omega)
  · rw [e2 p h1, e2 q (by omega), rot_3 (by omega) (by omega), rot_1 (.inr (by omega)) c2 c3]; exact h.ix _ _ (by omega) (by omega) (by omega) (by omega)
theorem MPre.join {l : List Blk} {N a m b s e : Nat} {g g1 g2 g3 : Nat → Nat} (h : MPre l a m b g) (c : Cut l a m b s e g) (hg : ∀ k, g1 k = rot g s m e k) (p1 : Pm N a (s + (e - m)) g1 g2) (p2 : Pm N (s + (e - m)) b g2 g3)
    (s1 : Srt l a (s + (e - m)) g2) (s2 : Srt l (s + (e - m)) b g3) : Srt l a b g3 := by
  obtain ⟨c1, c2, c3, c4, c5, c6⟩ := c
  have cross : ∀ p q, a ≤ p → p < s + (e - m) → s + (e - m) ≤ q → q < b → lexlt l (rot g s m e p) (rot g s m e q) := by
    intro p q h1 h2 h3 h4
    by_cases x1 : p < s <;> by_cases x2 : q < e
    · rw [rot_1 (.inl x1) c2 c3, rot_3 h3 x2]; exact h.so1 _ _ h1 (by omega) (by omega)
    · rw [rot_1 (.inl x1) c2 c3, rot_1 (.inr (by omega)) c2 c3]; exact c5 _ _ h1 x1 (by omega) h4
    · rw [rot_2 (by omega) h2, rot_3 h3 x2]; exact c6 _ _ (by omega) (by omega) (by omega) (by omega)
    · rw [rot_2 (by omega) h2, rot_1 (.inr (by omega)) c2 c3]; exact h.so2 _ _ (by omega) (by omega) (by omega)
  intro i j h1 h2 h3
  by_cases x1 : j < s + (e - m)
  · rw [p2.out i (by omega), p2.out j (by omega)]; exact s1 i j h1 h2 x1
  by_cases x2 : i < s + (e - m)
  · rw [p2.out i (by omega)]
    obtain ⟨i', i1, i2, i3⟩ := p1.mem i h1 x2
    obtain ⟨j', j1, j2, j3⟩ := p2.mem j (by omega) h3
    rw [i3, j3, p1.out j' (by omega), hg, hg]
    exact cross _ _ i1 i2 j1 j2
  · exact s2 i j (by omega) h2 h3

/-- One element is taken to the right. -/
def shl (g : Nat → Nat) (a k : Nat) : Nat → Nat := fun x => if a ≤ x ∧ x < k then g (x + 1) else if x = k then g a else g x
theorem shl_0 {g : Nat → Nat} {a : Nat} : shl g a a = g := by
  funext x; unfold shl
  repeat' split
  all_goals first | rfl | (exfalso; omega) | (congr 1; omega)
theorem shl_s {g : Nat → Nat} {a k : Nat} (h : a ≤ k) : swp (shl g a k) k (k + 1) = shl g a (k + 1) := by
  funext x; unfold swp upd shl
  repeat' split
  all_goals first | rfl | (exfalso; omega) | (congr 1; omega)
/-- One element is taken to the left. -/
def shr (g : Nat → Nat) (m k : Nat) : Nat → Nat := fun x => if k < x ∧ x ≤ m then g (x - 1) else if x = k then g m else g x
theorem shr_0 {g : Nat → Nat} {a : Nat} : shr g a a = g := by
  funext x; unfold shr
  repeat' split
  all_goals first | rfl | (exfalso; omega) | (congr 1; omega)
theorem shr_s {g : Nat → Nat} {m k : Nat} (h : k < m) : swp (shr g m (k + 1)) (k + 1) k = shr g m k := by
  funext x; unfold swp upd shr
  repeat' split
  all_goals first | rfl | (exfalso; omega) | (congr 1; omega)
theorem shl_srt {l : List Blk} {a b i : Nat} {g : Nat → Nat} (h : MPre l a (a + 1) b g) (hi : a + 1 ≤ i) (hib : i ≤ b) (h1 : ∀ k, a + 1 ≤ k → k < i → lexlt l (g k) (g a)) (h2 : ∀ k, i ≤ k → k < b → lexlt l (g a) (g k)) : Srt l a b (shl g a (i - 1)) := by
  intro p q p1 p2 p3
  unfold shl
  repeat' split
  all_goals first | (exfalso; omega) | exact h.so2 _ _ (by omega) (by omega) (by omega) | exact h1 _ (by omega) (by omega) | exact h2 _ (by omega) (by omega)
theorem shr_srt {l : List Blk} {a m i : Nat} {g : Nat → Nat} (h : MPre l a m (m + 1) g) (hi : a ≤ i) (him : i ≤ m) (h1 : ∀ k, a ≤ k → k < i → lexlt l (g k) (g m)) (h2 : ∀ k, i ≤ k → k < m → lexlt l (g m) (g k)) : Srt l a (m + 1) (shr g m i) := by
  intro p q p1 p2 p3
  unfold shr
  repeat' split
  all_goals first | (exfalso; omega) | exact h.so1 _ _ (by omega) (by omega) (by omega) | exact h1 _ (by omega) (by omega) | exact h2 _ (by omega) (by omega)

theorem half_eq {i j : Nat} (hi : i ≤ 1000000) (hj : j ≤ 1000000) : IntKind.wrap .i64 (ishift .shr .u64 (IntKind.wrap .u64 (IntKind.wrap .i64 ((i : Int) + j))) 1) = (((i + j) / 2 : Nat) : Int) := by
  rw [w64_in (x := (i : Int) + j) (by omega) (by omega)]
  have e : IntKind.wrap .u64 ((i : Int) + j) = i + j := by
    unfold IntKind.wrap
    simp [IntKind.bits, IntKind.signed]
    omega
  rw [e]
  have e2 : ishift .shr .u64 ((i : Int) + j) 1 = ((i : Int) + j) / 2 := by
    show ((i : Int) + j).fdiv 2 = _
    rw [Int.fdiv_eq_ediv_of_nonneg _ (by omega)]
  rw [e2, w64_in (by omega) (by omega)]
  omega

end Go.AM
end

/- Booklets: sorting, part 3: symMerge. Conditions: none. -/
section
set_option maxRecDepth 10000
set_option linter.unusedSimpArgs false
set_option linter.unusedVariables false
set_option maxHeartbeats 1000000
set_option linter.unusedVariables false
set_option linter.unusedSimpArgs false
namespace Go.AM
open Go.Proofs

def sndA : ACode → ACode
  | .seq _ y => y
  | c => c
def sndN : Nat → ACode → ACode
  | 0, c => c
  | k + 1, c => sndN k (sndA c)

theorem Srt.lt {l : List Blk} {a b i j : Nat} {g : Nat → Nat} (h : Srt l a b g) (h1 : a ≤ i) (h2 : i < j) (h3 : j < b) : lexlt l (g i) (g j) := h i j h1 h2 h3
/-- The cut that the search finds. -/
theorem cut_of {l : List Blk} {a m b mid s0 r0 s : Nat} {g : Nat → Nat} (h : MPre l a m b g) (hm : mid = (a + b) / 2) (ham : a < m) (hmb : m < b)
    (hc : (mid < m ∧ s0 = mid + m - b ∧ r0 = mid) ∨ (m ≤ mid ∧ s0 = a ∧ r0 = m)) (h1 : s0 ≤ s) (h2 : s ≤ r0)
    (i1 : ∀ c, s0 ≤ c → c < s → lexlt l (g c) (g (mid + m - 1 - c))) (i2 : ∀ c, s ≤ c → c < r0 → lexlt l (g (mid + m - 1 - c)) (g c)) : Cut l a m b s (mid + m - s) g := by
  refine ⟨by omega, by omega, by omega, by omega, ?_, ?_⟩
  · intro p q p1 p2 q1 q2
    have hs : s0 < s := by omega
    have := i1 (s - 1) (by omega) (by omega)
    rw [show mid + m - 1 - (s - 1) = mid + m - s by omega] at this
    have k1 : p = s - 1 ∨ lexlt l (g p) (g (s - 1)) := by
      by_cases e : p = s - 1
      · exact .inl e
      · exact .inr (h.so1 _ _ p1 (by omega) (by omega))
    have k2 : q = mid + m - s ∨ lexlt l (g (mid + m - s)) (g q) := by
      by_cases e : q = mid + m - s
      · exact .inl e
      · exact .inr (h.so2 _ _ (by omega) (by omega) (by omega))
    rcases k1 with rfl | k1 <;> rcases k2 with rfl | k2
    · exact this
    · exact this.trans k2
    · exact k1.trans this
    · exact (k1.trans this).trans k2
  · intro p q p1 p2 q1 q2
    have hs : s < r0 := by omega
    have := i2 s (by omega) (by omega)
    have k1 : p = mid + m - 1 - s ∨ lexlt l (g p) (g (mid + m - 1 - s)) := by
      by_cases e : p = mid + m - 1 - s
      · exact .inl e
      · exact .inr (h.so2 _ _ p1 (by omega) (by omega))
    have k2 : q = s ∨ lexlt l (g s) (g q) := by
      by_cases e : q = s
      · exact .inl e
      · exact .inr (h.so1 _ _ (by omega) (by omega) (by omega))
    rcases k1 with rfl | k1 <;> rcases k2 with rfl | k2
    · exact this
    · exact this.trans k2
    · exact k1.trans this
    · exact (k1.trans this).trans k2

theorem Pm.rng {N a b L : Nat} {g g' : Nat → Nat} (h : Pm N a b g g') (hb : b ≤ N) (hg : ∀ k < N, g k < L) : ∀ k < N, g' k < L := by
  intro k hk
  by_cases q : a ≤ k ∧ k < b
  · obtain ⟨k', q1, q2, q3⟩ := h.mem k q.1 q.2; rw [q3]; exact hg _ (by omega)
  · rw [h.out k q]; exact hg k hk

structure VIJ where
  i : Nat
  j : Nat

section
variable {H : AHeap} {id lb N : Nat} {l : List Blk}

/-- One element on the left. -/
theorem p46a (cx : Cx H id lb N l) (n a b : Nat) (g : Nat → Nat) (hab : a + 1 < b) (hb : b ≤ N) (hg : ∀ k < N, g k < l.length) (h : MPre l a (a + 1) b g) :
    ACalls Tryd.prog 46 [.ref id 1 0 N N, .int .i64 a, .int .i64 ((a + 1 : Nat) : Int), .int .i64 b, cmpA lb] (Sx H id N g) n (SrtPost H n id N a b l g) := by
  obtain ⟨hlb, ne, hK, hN⟩ := cx
  have e1 : IntKind.wrap .i64 (((a + 1 : Nat) : Int) - a) = 1 := by rw [w64_in (by omega) (by omega)]; omega
  refine a46 (ev_awp T6_ok (ev_evK ?_))
  simp only [kont_n, k_skip, k_seq, k_block, k_cond, k_reg, r_nil, r_v, penv, eget, lk, lkv, oks, AS.put, AS.keep, evk, Opk.opds, isI, isInt, toI, isB, toB, icmp, iarith, List.filterMap, Option.map_some, reduceCtorEq, and_true, true_and, forall_const, Nat.reduceEqDiff, ↓reduceIte, Bool.false_eq_true, Nat.reduceAdd, Int.reduceEq, Int.reduceLE, isDiv, false_implies, implies_true, Nat.zero_add, decide_eq_true_eq, decide_eq_false_iff_not, ne_eq, not_false_eq_true, and_self, Nat.add_zero, decide_true, c46, e1]
  refine k_loop (fun v : VIJ => ⟨[(0, true, .ref id 1 0 N N), (1, true, .int .i64 a), (4, true, cmpA lb), (10, true, .int .i64 v.i), (11, true, .int .i64 v.j)], Sx H id N g, n⟩)
    (fun v => a + 1 ≤ v.i ∧ v.i ≤ v.j ∧ v.j ≤ b ∧ (∀ k, a + 1 ≤ k → k < v.i → lexlt l (g k) (g a)) ∧ ∀ k, v.j ≤ k → k < b → lexlt l (g a) (g k)) (fun v => v.j - v.i) ⟨a + 1, b⟩ rfl
    ⟨Nat.le_refl _, by simp only []; omega, Nat.le_refl _, fun k h1 h2 => by simp only [] at h2; omega, fun k h1 h2 => by simp only [] at h1; omega⟩ ?_
  rintro ⟨i, j⟩ ⟨hi, hij, hj, i1, i2⟩
  simp only at hi hij hj i1 i2
  by_cases hlt : i < j
  case pos =>
    have eh := half_eq (i := i) (j := j) (by omega) (by omega)
    have eh1 := w64_succ (k := (i + j) / 2) (by omega)
    generalize hh : (i + j) / 2 = c at eh eh1
    have l1 : c < N := by omega
    have l2 : a < N := by omega
    have g1 := hg c l1
    have g2 := hg a l2
    have hx := h.ix a c (Nat.le_refl _) (by omega) (by omega) (by omega)
    by_cases hk : kd l (g c) < kd l (g a)
    · have hk' : kd l (g c) - kd l (g a) < 0 := by omega
      simp only [kont_nil, kont_n, kont_e, kont_bn, kont_be, k_skip, k_exit, k_seq, k_block, k_cond, k_reg, r_nil, r_v, r_call, callT, lpQ_n, lpQ_e, eget, lk, lkv, oks, AS.put, AS.keep, evk, Opk.opds, aload, isI, isInt, toI, isB, toB, mk, icmp, iarith, hget_hset, AVal.cells, Tok.esz, List.filterMap, List.map_cons, List.map_nil, List.nil_append, List.cons_append, Option.map_some, reduceCtorEq, and_true, true_and, forall_const, Nat.reduceEqDiff, ↓reduceIte, Bool.false_eq_true, List.drop, List.take, List.take_succ_cons, Int.reduceEq, Int.reduceLE, Nat.le_refl, List.headD_cons, isDiv, false_implies, implies_true, Nat.zero_add, ne_eq, not_false_eq_true, and_self, Nat.add_zero, decide_true, Int.ofNat_lt, hlt, eh, eh1, l1, l2, Int.natCast_nonneg, Int.toNat_natCast, arrF_len, arrF_get l1, arrF_get l2, Option.getD_some, T6_31, s31, ne, hlb, encd_map, decB_map, hK, List.length_map, g1, g2, hk']
      refine .mk ⟨c + 1, j⟩ rfl ⟨by simp only []; omega, by simp only []; omega, hj, fun k k1 k2 => ?_, i2⟩ (by simp only []; omega)
      simp only at k2
      by_cases e : k = c
      · subst e; exact .inl hk
      · exact (h.so2 k c k1 (by omega) (by omega)).trans (.inl hk)
    · have hk' : ¬ kd l (g c) - kd l (g a) < 0 := by omega
      have hlx : lexlt l (g a) (g c) := by unfold lexlt; omega
      simp only [kont_nil, kont_n, kont_e, kont_bn, kont_be, k_skip, k_exit, k_seq, k_block, k_cond, k_reg, r_nil, r_v, r_call, callT, lpQ_n, lpQ_e, eget, lk, lkv, oks, AS.put, AS.keep, evk, Opk.opds, aload, isI, isInt, toI, isB, toB, mk, icmp, iarith, hget_hset, AVal.cells, Tok.esz, List.filterMap, List.map_cons, List.map_nil, List.nil_append, List.cons_append, Option.map_some, reduceCtorEq, and_true, true_and, forall_const, Nat.reduceEqDiff, ↓reduceIte, Bool.false_eq_true, List.drop, List.take, List.take_succ_cons, Int.reduceEq, Int.reduceLE, Nat.le_refl, List.headD_cons, isDiv, false_implies, implies_true, Nat.zero_add, ne_eq, not_false_eq_true, and_self, Nat.add_zero, decide_true, decide_false, Int.ofNat_lt, hlt, eh, eh1, l1, l2, Int.natCast_nonneg, Int.toNat_natCast, arrF_len, arrF_get l1, arrF_get l2, Option.getD_some, T6_31, s31, ne, hlb, encd_map, decB_map, hK, List.length_map, g1, g2, hk']
      refine .mk ⟨i, c⟩ rfl ⟨hi, by simp only []; omega, by simp only []; omega, i1, fun k k1 k2 => ?_⟩ (by simp only []; omega)
      simp only at k1
      by_cases e : k = c
      · subst e; exact hlx
      · exact hlx.trans (h.so2 c k (by omega) (by omega) k2)
  have hij' : i = j := by omega
  subst hij'
  have f1 : IntKind.wrap .i64 ((i : Int) - 1) = ((i - 1 : Nat) : Int) := by rw [w64_in (by omega) (by omega)]; omega
  simp only [kont_nil, kont_n, kont_e, kont_bn, kont_be, k_skip, k_exit, k_seq, k_block, k_cond, k_reg, r_nil, r_v, r_call, callT, lpQ_n, lpQ_e, eget, lk, lkv, oks, AS.put, AS.keep, evk, Opk.opds, aload, isI, isInt, toI, isB, toB, mk, icmp, iarith, hget_hset, AVal.cells, List.filterMap, List.map_cons, List.map_nil, List.nil_append, List.cons_append, Option.map_some, reduceCtorEq, and_true, true_and, forall_const, Nat.reduceEqDiff, ↓reduceIte, Bool.false_eq_true, List.drop, Int.reduceEq, Int.reduceLE, Nat.le_refl, isDiv, false_implies, implies_true, Nat.zero_add, decide_eq_true_eq, decide_eq_false_iff_not, ne_eq, not_false_eq_true, and_self, Nat.add_zero, decide_false, Int.ofNat_lt, hlt]
  refine k_loop (fun k : Nat => ⟨[(0, true, .ref id 1 0 N N), (10, true, .int .i64 i), (13, true, .int .i64 k)], Sx H id N (shl g a k), n⟩)
    (fun k => a ≤ k ∧ k ≤ i - 1 ∧ Pm N a b g (shl g a k)) (fun k => i - k) a (by rw [shl_0]) ⟨Nat.le_refl _, by omega, by rw [shl_0]; exact .refl⟩ ?_
  rintro k ⟨hk, hki, pm⟩
  by_cases hlt2 : k < i - 1
  case neg =>
    have : k = i - 1 := by omega
    subst this
    simp only [kont_nil, kont_n, kont_e, kont_r, kont_bn, kont_be, k_skip, k_exit, k_ret, k_seq, k_block, k_cond, k_reg, r_nil, r_v, r_st, stE, lpQ_n, lpQ_e, postC, rcs, rvS, eget, lk, lkv, oks, AS.put, AS.keep, evk, Opk.opds, aload, isI, isInt, toI, isB, toB, mk, icmp, iarith, nT, hget_hset, AVal.cells, List.filterMap, Option.map_some, reduceCtorEq, and_true, true_and, forall_const, Nat.reduceEqDiff, ↓reduceIte, Bool.false_eq_true, List.drop, Int.reduceEq, Nat.le_refl, isDiv, false_implies, implies_true, Nat.zero_add, ne_eq, not_false_eq_true, and_self, Nat.add_zero, decide_false, Int.ofNat_lt, hlt2, f1]
    exact ⟨rfl, rfl, _, rfl, pm, shl_srt h hi hj i1 i2⟩
  have e2 := w64_succ (k := k) (by omega)
  have l1 : k < N := by omega
  have l2 : k + 1 < N := by omega
  simp only [kont_nil, kont_n, kont_e, kont_r, kont_bn, kont_be, k_skip, k_exit, k_ret, k_seq, k_block, k_cond, k_reg, r_nil, r_v, r_st, stE, lpQ_n, lpQ_e, postC, rcs, rvS, eget, lk, lkv, oks, AS.put, AS.keep, evk, Opk.opds, aload, isI, isInt, toI, isB, toB, mk, icmp, iarith, nT, hget_hset, AVal.cells, List.length_cons, List.length_nil, List.filterMap, Option.map_some, reduceCtorEq, and_true, true_and, forall_const, Nat.reduceEqDiff, ↓reduceIte, Bool.false_eq_true, List.drop, List.take, List.take_succ_cons, Int.reduceEq, Nat.le_refl, List.headD_cons, isDiv, false_implies, implies_true, Nat.zero_add, ne_eq, not_false_eq_true, and_self, Nat.add_zero, decide_true, Int.ofNat_lt, hlt2, f1, e2, l1, l2, Int.natCast_nonneg, Int.toNat_natCast, arrF_len, arrF_get l1, arrF_get l2, Option.getD_some, arrF_set, hset_hset]
  refine .mk (k + 1) ?_ ⟨by omega, by omega, ?_⟩ (by omega)
  · rw [← shl_s hk]; rfl
  · rw [← shl_s hk]; exact pm.trans (Pm.swp hb ⟨by omega, by omega⟩ ⟨by omega, by omega⟩ _)

/-- One element on the right. -/
theorem p46b (cx : Cx H id lb N l) (n a m : Nat) (g : Nat → Nat) (ham : a + 1 < m) (hb : m + 1 ≤ N) (hg : ∀ k < N, g k < l.length) (h : MPre l a m (m + 1) g) :
    ACalls Tryd.prog 46 [.ref id 1 0 N N, .int .i64 a, .int .i64 m, .int .i64 ((m + 1 : Nat) : Int), cmpA lb] (Sx H id N g) n (SrtPost H n id N a (m + 1) l g) := by
  obtain ⟨hlb, ne, hK, hN⟩ := cx
  have e0 : (IntKind.wrap .i64 ((m : Int) - a) = 1) = False := by rw [w64_in (by omega) (by omega)]; simp; omega
  have e1 : IntKind.wrap .i64 (((m + 1 : Nat) : Int) - m) = 1 := by rw [w64_in (by omega) (by omega)]; omega
  refine a46 (ev_awp T6_ok (ev_evK ?_))
  simp only [kont_n, k_skip, k_seq, k_block, k_cond, k_reg, r_nil, r_v, penv, eget, lk, lkv, oks, AS.put, AS.keep, evk, Opk.opds, isI, isInt, toI, isB, toB, icmp, iarith, List.filterMap, Option.map_some, reduceCtorEq, and_true, true_and, forall_const, Nat.reduceEqDiff, ↓reduceIte, Bool.false_eq_true, Nat.reduceAdd, Int.reduceEq, Int.reduceLE, isDiv, false_implies, implies_true, Nat.zero_add, decide_eq_true_eq, decide_eq_false_iff_not, ne_eq, not_false_eq_true, and_self, Nat.add_zero, decide_true, decide_false, c46, e0, e1]
  refine k_loop (fun v : VIJ => ⟨[(0, true, .ref id 1 0 N N), (2, true, .int .i64 m), (4, true, cmpA lb), (14, true, .int .i64 v.i), (15, true, .int .i64 v.j)], Sx H id N g, n⟩)
    (fun v => a ≤ v.i ∧ v.i ≤ v.j ∧ v.j ≤ m ∧ (∀ k, a ≤ k → k < v.i → lexlt l (g k) (g m)) ∧ ∀ k, v.j ≤ k → k < m → lexlt l (g m) (g k)) (fun v => v.j - v.i) ⟨a, m⟩ rfl
    ⟨Nat.le_refl _, by simp only []; omega, Nat.le_refl _, fun k h1 h2 => by simp only [] at h2; omega, fun k h1 h2 => by simp only [] at h1; omega⟩ ?_
  rintro ⟨i, j⟩ ⟨hi, hij, hj, i1, i2⟩
  simp only at hi hij hj i1 i2
  by_cases hlt : i < j
  case pos =>
    have eh := half_eq (i := i) (j := j) (by omega) (by omega)
    have eh1 := w64_succ (k := (i + j) / 2) (by omega)
    generalize hh : (i + j) / 2 = c at eh eh1
    have l1 : c < N := by omega
    have l2 : m < N := by omega
    have g1 := hg c l1
    have g2 := hg m l2
    have hx := h.ix c m (by omega) (by omega) (Nat.le_refl _) (by omega)
    by_cases hk : kd l (g m) < kd l (g c)
    · have hk' : kd l (g m) - kd l (g c) < 0 := by omega
      simp only [kont_nil, kont_n, kont_e, kont_bn, kont_be, k_skip, k_exit, k_seq, k_block, k_cond, k_reg, r_nil, r_v, r_call, callT, lpQ_n, lpQ_e, eget, lk, lkv, oks, AS.put, AS.keep, evk, Opk.opds, aload, isI, isInt, toI, isB, toB, mk, icmp, iarith, hget_hset, AVal.cells, Tok.esz, List.filterMap, List.map_cons, List.map_nil, List.nil_append, List.cons_append, Option.map_some, reduceCtorEq, and_true, true_and, forall_const, Nat.reduceEqDiff, ↓reduceIte, Bool.false_eq_true, List.drop, List.take, List.take_succ_cons, Int.reduceEq, Int.reduceLE, Nat.le_refl, List.headD_cons, isDiv, false_implies, implies_true, Nat.zero_add, Bool.not_eq_true', Bool.not_eq_false', ne_eq, not_false_eq_true, and_self, Nat.add_zero, decide_true, Int.ofNat_lt, hlt, eh, eh1, l1, l2, Int.natCast_nonneg, Int.toNat_natCast, arrF_len, arrF_get l1, arrF_get l2, Option.getD_some, T6_31, s31, ne, hlb, encd_map, decB_map, hK, List.length_map, g1, g2, hk']
      refine .mk ⟨i, c⟩ rfl ⟨hi, by simp only []; omega, by simp only []; omega, i1, fun k k1 k2 => ?_⟩ (by simp only []; omega)
      simp only at k1
      by_cases e : k = c
      · subst e; exact .inl hk
      · exact lexlt.trans (.inl hk) (h.so1 c k (by omega) (by omega) k2)
    · have hk' : ¬ kd l (g m) - kd l (g c) < 0 := by omega
      have hlx : lexlt l (g c) (g m) := by unfold lexlt; omega
      simp only [kont_nil, kont_n, kont_e, kont_bn, kont_be, k_skip, k_exit, k_seq, k_block, k_cond, k_reg, r_nil, r_v, r_call, callT, lpQ_n, lpQ_e, eget, lk, lkv, oks, AS.put, AS.keep, evk, Opk.opds, aload, isI, isInt, toI, isB, toB, mk, icmp, iarith, hget_hset, AVal.cells, Tok.esz, List.filterMap, List.map_cons, List.map_nil, List.nil_append, List.cons_append, Option.map_some, reduceCtorEq, and_true, true_and, forall_const, Nat.reduceEqDiff, ↓reduceIte, Bool.false_eq_true, List.drop, List.take, List.take_succ_cons, Int.reduceEq, Int.reduceLE, Nat.le_refl, List.headD_cons, isDiv, false_implies, implies_true, Nat.zero_add, Bool.not_eq_true', Bool.not_eq_false', ne_eq, not_false_eq_true, and_self, Nat.add_zero, decide_true, decide_false, Int.ofNat_lt, hlt, eh, eh1, l1, l2, Int.natCast_nonneg, Int.toNat_natCast, arrF_len, arrF_get l1, arrF_get l2, Option.getD_some, T6_31, s31, ne, hlb, encd_map, decB_map, hK, List.length_map, g1, g2, hk']
      refine .mk ⟨c + 1, j⟩ rfl ⟨by simp only []; omega, by simp only []; omega, hj, fun k k1 k2 => ?_, i2⟩ (by simp only []; omega)
      simp only at k2
      by_cases e : k = c
      · subst e; exact hlx
      · exact (h.so1 k c k1 (by omega) (by omega)).trans hlx
  have hij' : i = j := by omega
  subst hij'
  simp only [kont_nil, kont_n, kont_e, kont_bn, kont_be, k_skip, k_exit, k_seq, k_block, k_cond, k_reg, r_nil, r_v, r_call, callT, lpQ_n, lpQ_e, eget, lk, lkv, oks, AS.put, AS.keep, evk, Opk.opds, aload, isI, isInt, toI, isB, toB, mk, icmp, iarith, hget_hset, AVal.cells, List.filterMap, List.map_cons, List.map_nil, List.nil_append, List.cons_append, Option.map_some, reduceCtorEq, and_true, true_and, forall_const, Nat.reduceEqDiff, ↓reduceIte, Bool.false_eq_true, List.drop, Int.reduceEq, Int.reduceLE, Nat.le_refl, isDiv, false_implies, implies_true, Nat.zero_add, Bool.not_eq_true', Bool.not_eq_false', decide_eq_true_eq, decide_eq_false_iff_not, ne_eq, not_false_eq_true, and_self, Nat.add_zero, decide_false, Int.ofNat_lt, hlt]
  refine k_loop (fun k : Nat => ⟨[(0, true, .ref id 1 0 N N), (14, true, .int .i64 i), (17, true, .int .i64 k)], Sx H id N (shr g m k), n⟩)
    (fun k => i ≤ k ∧ k ≤ m ∧ Pm N a (m + 1) g (shr g m k)) (fun k => k) m (by rw [shr_0]) ⟨hj, Nat.le_refl _, by rw [shr_0]; exact .refl⟩ ?_
  rintro k ⟨hk, hki, pm⟩
  by_cases hlt2 : i < k
  case neg =>
    have : k = i := by omega
    subst this
    simp only [kont_nil, kont_n, kont_e, kont_r, kont_bn, kont_be, k_skip, k_exit, k_ret, k_seq, k_block, k_cond, k_reg, r_nil, r_v, r_st, stE, lpQ_n, lpQ_e, postC, rcs, rvS, eget, lk, lkv, oks, AS.put, AS.keep, evk, Opk.opds, aload, isI, isInt, toI, isB, toB, mk, icmp, iarith, nT, hget_hset, AVal.cells, List.filterMap, Option.map_some, reduceCtorEq, and_true, true_and, forall_const, Nat.reduceEqDiff, ↓reduceIte, Bool.false_eq_true, List.drop, Int.reduceEq, Nat.le_refl, isDiv, false_implies, implies_true, Nat.zero_add, ne_eq, not_false_eq_true, and_self, Nat.add_zero, decide_false, Int.ofNat_lt, hlt2]
    exact ⟨rfl, rfl, _, rfl, pm, shr_srt h hi hj i1 i2⟩
  obtain ⟨k, rfl⟩ : ∃ k', k = k' + 1 := ⟨k - 1, by omega⟩
  have e2 : IntKind.wrap .i64 (((k + 1 : Nat) : Int) - 1) = (k : Int) := by rw [w64_in (by omega) (by omega)]; omega
  have l1 : k < N := by omega
  have l2 : k + 1 < N := by omega
  simp only [kont_nil, kont_n, kont_e, kont_r, kont_bn, kont_be, k_skip, k_exit, k_ret, k_seq, k_block, k_cond, k_reg, r_nil, r_v, r_st, stE, lpQ_n, lpQ_e, postC, rcs, rvS, eget, lk, lkv, oks, AS.put, AS.keep, evk, Opk.opds, aload, isI, isInt, toI, isB, toB, mk, icmp, iarith, nT, hget_hset, AVal.cells, List.length_cons, List.length_nil, List.filterMap, Option.map_some, reduceCtorEq, and_true, true_and, forall_const, Nat.reduceEqDiff, ↓reduceIte, Bool.false_eq_true, List.drop, List.take, List.take_succ_cons, Int.reduceEq, Nat.le_refl, List.headD_cons, isDiv, false_implies, implies_true, Nat.zero_add, ne_eq, not_false_eq_true, and_self, Nat.add_zero, decide_true, Int.ofNat_lt, hlt2, e2, l1, l2, Int.natCast_nonneg, Int.toNat_natCast, arrF_len, arrF_get l1, arrF_get l2, Option.getD_some, arrF_set, hset_hset]
  refine .mk k ?_ ⟨by omega, by omega, ?_⟩ (by omega)
  · rw [← shr_s (g := g) (m := m) (k := k) (by omega)]; rfl
  · rw [← shr_s (g := g) (m := m) (k := k) (by omega)]; exact pm.trans (Pm.swp hb ⟨by omega, by omega⟩ ⟨by omega, by omega⟩ _)
end

end Go.AM
end

/- Booklets: sorting, part 4: symMerge in general, the stable sort. Conditions: none. -/
section
set_option maxRecDepth 10000
set_option linter.unusedSimpArgs false
set_option linter.unusedVariables false
set_option maxHeartbeats 1000000
set_option linter.unusedVariables false
set_option linter.unusedSimpArgs false
namespace Go.AM
open Go.Proofs

section
variable {H : AHeap} {id lb N : Nat} {l : List Blk}
theorem p46 (cx : Cx H id lb N l) : ∀ (d n a m b : Nat) (g : Nat → Nat), b - a ≤ d → a < m → m < b → b ≤ N → (∀ k < N, g k < l.length) → MPre l a m b g →
    ACalls Tryd.prog 46 [.ref id 1 0 N N, .int .i64 a, .int .i64 m, .int .i64 b, cmpA lb] (Sx H id N g) n (SrtPost H n id N a b l g)
  | 0, n, a, m, b, g, hd, ham, hmb, hb, hg, h => by omega
  | d + 1, n, a, m, b, g, hd, ham, hmb, hb, hg, h => by
    by_cases hA : m - a = 1
    · obtain rfl : m = a + 1 := by omega
      exact p46a cx n a b g hmb hb hg h
    by_cases hB : b - m = 1
    · obtain rfl : b = m + 1 := by omega
      exact p46b cx n a m g (by omega) hb hg h
    have ih := p46 cx d n
    obtain ⟨hlb, ne, hK, hN⟩ := cx
    have e0 : (IntKind.wrap .i64 ((m : Int) - a) = 1) = False := by rw [w64_in (by omega) (by omega)]; simp; omega
    have e1 : (IntKind.wrap .i64 ((b : Int) - m) = 1) = False := by rw [w64_in (by omega) (by omega)]; simp; omega
    have eh := half_eq (i := a) (j := b) (by omega) (by omega)
    generalize hmid : (a + b) / 2 = mid at eh
    have en : IntKind.wrap .i64 ((mid : Int) + m) = ((mid + m : Nat) : Int) := by rw [w64_in (by omega) (by omega)]; omega
    refine a46 (ev_awp T6_ok (ev_evK ?_))
    -- behind the second call
    have R2 : ∀ (s e : Nat) (g1 g2 : Nat → Nat), Cut l a m b s e g → e = mid + m - s → Pm N a b g g1 → (∀ k, g1 k = rot g s m e k) → Pm N a (s + (e - m)) g1 g2 → Srt l a (s + (e - m)) g2 →
        kont Tryd.prog T6 (postC [] (SrtPost H n id N a b l g)) [.c (sndN 11 c46)] .normal ⟨[(0, true, .ref id 1 0 N N), (3, true, .int .i64 b), (4, true, cmpA lb), (18, true, .int .i64 mid), (24, true, .int .i64 e)], Sx H id N g2, n⟩ := by
      intro s e g1 g2 c he p1 hr p2 s1
      have hcs := c
      obtain ⟨c1, c2, c3, c4, c5, c6⟩ := c
      have hmd : s + (e - m) = mid := by omega
      have hpm : Pm N a b g g2 := p1.trans (p2.wide (Nat.le_refl _) (by omega))
      have hright := h.right hcs hr p2
      rw [hmd] at hright p2 s1
      by_cases x1 : mid < e
      · by_cases x2 : e < b
        · simp only [kont_nil, kont_n, k_skip, k_seq, k_cond, k_reg, r_nil, r_v, r_vg, r_pick, r_calli, callI, postC, rcs, rvS, gok, gvb, eget, lk, lkv, oks, AS.put, AS.keep, evk, Opk.opds, isI, toI, isB, toB, sel, icmp, List.filterMap, List.map_cons, List.map_nil, List.append_nil, List.nil_append, Option.map_some, reduceCtorEq, and_true, true_and, forall_const, Nat.reduceEqDiff, ↓reduceIte, Bool.and_true, beq_self_eq_true, false_implies, implies_true, and_self, Nat.add_zero, decide_true, cond_true, c46, sndN, sndA, Int.ofNat_lt, x1, x2]
          refine (ih mid e b g2 (by omega) x1 x2 hb (hpm.rng hb hg) hright).mono ?_
          rintro o H' n' ⟨rfl, rfl, g3, rfl, p3, s3⟩
          simp only [kont_nil, r_nil, postC, rcs, rvS, AS.put, AS.keep, List.filterMap, true_and, retK]
          exact ⟨rfl, rfl, g3, rfl, hpm.trans (p3.wide (by omega) (Nat.le_refl _)), h.join hcs hr (by rw [hmd]; exact p2) (by rw [hmd]; exact p3) (by rw [hmd]; exact s1) (by rw [hmd]; exact s3)⟩
        · simp only [kont_nil, kont_n, k_skip, k_seq, k_cond, k_reg, r_nil, r_v, r_vg, r_pick, r_calli, callI, postC, rcs, rvS, gok, gvb, eget, lk, lkv, oks, AS.put, AS.keep, evk, Opk.opds, isI, toI, isB, toB, sel, icmp, List.filterMap, List.map_cons, List.map_nil, List.append_nil, List.nil_append, Option.map_some, reduceCtorEq, true_and, forall_const, Nat.reduceEqDiff, ↓reduceIte, Bool.false_eq_true, Bool.and_true, beq_self_eq_true, false_implies, implies_true, and_self, Nat.add_zero, decide_true, decide_false, cond_true, c46, sndN, sndA, Int.ofNat_lt, x1, x2]
          refine ⟨rfl, rfl, g2, rfl, hpm, h.join hcs hr (by rw [hmd]; exact p2) (by rw [hmd]; exact .refl) (by rw [hmd]; exact s1) ?_⟩
          rw [hmd]; intro p q q1 q2 q3; exact hright.so1 p q q1 q2 (by omega)
      · simp only [kont_nil, kont_n, k_skip, k_seq, k_cond, k_reg, r_nil, r_v, r_vg, r_pick, r_calli, callI, postC, rcs, rvS, gok, gvb, eget, lk, lkv, oks, AS.put, AS.keep, evk, Opk.opds, isI, toI, isB, toB, sel, icmp, List.filterMap, List.map_cons, List.map_nil, List.append_nil, List.nil_append, Option.map_some, reduceCtorEq, and_true, true_and, forall_const, Nat.reduceEqDiff, ↓reduceIte, Bool.false_eq_true, false_implies, implies_true, imp_self, beq_true, and_self, Nat.add_zero, decide_false, Bool.and_false, cond_false, c46, sndN, sndA, Int.ofNat_lt, x1]
        refine ⟨rfl, rfl, g2, rfl, hpm, h.join hcs hr (by rw [hmd]; exact p2) (by rw [hmd]; exact .refl) (by rw [hmd]; exact s1) ?_⟩
        rw [hmd]; intro p q q1 q2 q3; exact hright.so2 p q (by omega) q2 q3
    -- behind the rotation
    have R1 : ∀ (s e : Nat) (g1 : Nat → Nat), Cut l a m b s e g → e = mid + m - s → Pm N a b g g1 → (∀ k, g1 k = rot g s m e k) →
        kont Tryd.prog T6 (postC [] (SrtPost H n id N a b l g)) [.c (sndN 10 c46)] .normal ⟨[(0, true, .ref id 1 0 N N), (1, true, .int .i64 a), (3, true, .int .i64 b), (4, true, cmpA lb), (18, true, .int .i64 mid), (20, true, .int .i64 s), (24, true, .int .i64 e)], Sx H id N g1, n⟩ := by
      intro s e g1 c he p1 hr
      have hcs := c
      obtain ⟨c1, c2, c3, c4, c5, c6⟩ := c
      have hmd : s + (e - m) = mid := by omega
      have hleft := h.left hcs hr
      rw [hmd] at hleft
      rw [kont_n]
      by_cases x1 : a < s
      · by_cases x2 : s < mid
        · simp only [k_seq, k_reg, r_nil, r_v, r_vg, r_pick, gok, gvb, eget, lk, lkv, oks, AS.put, AS.keep, evk, Opk.opds, isI, toI, isB, toB, sel, icmp, List.filterMap, Option.map_some, reduceCtorEq, true_and, forall_const, Nat.reduceEqDiff, ↓reduceIte, Bool.and_true, beq_self_eq_true, implies_true, and_self, Nat.add_zero, decide_true, cond_true, c46, sndN, sndA, Int.ofNat_lt, x1, x2]
          rw [kont_n]
          simp only [k_skip, k_cond, k_reg, r_v, r_calli, callI, eget, lk, lkv, oks, AS.put, evk, Opk.opds, isB, toB, List.map_cons, List.map_nil, List.append_nil, List.nil_append, reduceCtorEq, and_true, true_and, forall_const, Nat.reduceEqDiff, ↓reduceIte, false_implies, and_self, Nat.add_zero]
          refine (ih a s mid g1 (by omega) x1 x2 (by omega) (p1.rng hb hg) hleft).mono ?_
          rintro o H' n' ⟨rfl, rfl, g2, rfl, p2, s2⟩
          simp only [r_nil, eget, AS.put, AS.keep, List.filterMap, Option.map_some, reduceCtorEq, Nat.reduceEqDiff, ↓reduceIte, retK]
          exact R2 s e g1 g2 hcs he p1 hr (by rw [hmd]; exact p2) (by rw [hmd]; exact s2)
        · simp only [k_seq, k_reg, r_nil, r_v, r_vg, r_pick, gok, gvb, eget, lk, lkv, oks, AS.put, AS.keep, evk, Opk.opds, isI, toI, isB, toB, sel, icmp, List.filterMap, Option.map_some, reduceCtorEq, true_and, forall_const, Nat.reduceEqDiff, ↓reduceIte, Bool.and_true, beq_self_eq_true, implies_true, and_self, Nat.add_zero, decide_true, decide_false, cond_true, c46, sndN, sndA, Int.ofNat_lt, x1, x2]
          rw [kont_n]
          simp only [k_skip, k_cond, k_reg, r_v, r_calli, callI, eget, lk, lkv, oks, AS.put, evk, Opk.opds, isB, toB, List.map_cons, List.map_nil, List.append_nil, List.nil_append, reduceCtorEq, true_and, forall_const, Nat.reduceEqDiff, ↓reduceIte, Bool.false_eq_true, false_implies, and_self, Nat.add_zero]
          refine R2 s e g1 g1 hcs he p1 hr .refl ?_
          rw [hmd]; intro p q q1 q2 q3; exact hleft.so1 p q q1 q2 (by omega)
      · simp only [k_seq, k_reg, r_nil, r_v, r_vg, r_pick, gok, gvb, eget, lk, lkv, oks, AS.put, AS.keep, evk, Opk.opds, isI, toI, isB, toB, sel, icmp, List.filterMap, Option.map_some, reduceCtorEq, and_true, true_and, forall_const, Nat.reduceEqDiff, ↓reduceIte, Bool.false_eq_true, implies_true, imp_self, beq_true, and_self, Nat.add_zero, decide_false, Bool.and_false, cond_false, c46, sndN, sndA, Int.ofNat_lt, x1]
        rw [kont_n]
        simp only [k_skip, k_cond, k_reg, r_v, r_calli, callI, eget, lk, lkv, oks, AS.put, evk, Opk.opds, isB, toB, List.map_cons, List.map_nil, List.append_nil, List.nil_append, reduceCtorEq, true_and, forall_const, Nat.reduceEqDiff, ↓reduceIte, Bool.false_eq_true, false_implies, and_self, Nat.add_zero]
        refine R2 s e g1 g1 hcs he p1 hr .refl ?_
        rw [hmd]; intro p q q1 q2 q3; exact hleft.so2 p q (by omega) q2 q3
    -- the search
    have R0 : ∀ (s0 r0 : Nat), (mid < m ∧ s0 = mid + m - b ∧ r0 = mid) ∨ (m ≤ mid ∧ s0 = a ∧ r0 = m) →
        kont Tryd.prog T6 (postC [] (SrtPost H n id N a b l g)) [.c (sndN 6 c46)] .normal ⟨[(0, true, .ref id 1 0 N N), (1, true, .int .i64 a), (2, true, .int .i64 m), (3, true, .int .i64 b), (4, true, cmpA lb), (18, true, .int .i64 mid), (19, true, .int .i64 ((mid + m : Nat) : Int)), (20, true, .int .i64 s0), (21, true, .int .i64 r0)], Sx H id N g, n⟩ := by
      intro s0 r0 hc
      have ep : IntKind.wrap .i64 (((mid + m : Nat) : Int) - 1) = ((mid + m - 1 : Nat) : Int) := by rw [w64_in (by omega) (by omega)]; omega
      rw [kont_n]
      simp only [k_seq, k_reg, r_nil, r_v, eget, lk, lkv, oks, AS.put, AS.keep, evk, Opk.opds, isI, toI, iarith, List.filterMap, Option.map_some, reduceCtorEq, true_and, Nat.reduceEqDiff, ↓reduceIte, Bool.false_eq_true, Int.reduceEq, isDiv, implies_true, ne_eq, not_false_eq_true, and_self, Nat.add_zero, c46, sndN, sndA, ep]
      rw [kont_n]
      simp only [k_seq, k_block]
      refine k_loop (fun v : VIJ => ⟨[(0, true, .ref id 1 0 N N), (1, true, .int .i64 a), (2, true, .int .i64 m), (3, true, .int .i64 b), (4, true, cmpA lb), (18, true, .int .i64 mid), (19, true, .int .i64 ((mid + m : Nat) : Int)), (20, true, .int .i64 v.i), (21, true, .int .i64 v.j), (22, true, .int .i64 ((mid + m - 1 : Nat) : Int))], Sx H id N g, n⟩)
        (fun v => s0 ≤ v.i ∧ v.i ≤ v.j ∧ v.j ≤ r0 ∧ (∀ c, s0 ≤ c → c < v.i → lexlt l (g c) (g (mid + m - 1 - c))) ∧ ∀ c, v.j ≤ c → c < r0 → lexlt l (g (mid + m - 1 - c)) (g c)) (fun v => v.j - v.i) ⟨s0, r0⟩ rfl
        ⟨Nat.le_refl _, by simp only []; omega, Nat.le_refl _, fun c h1 h2 => by simp only [] at h2; omega, fun c h1 h2 => by simp only [] at h1; omega⟩ ?_
      rintro ⟨i, j⟩ ⟨hi, hij, hj, i1, i2⟩
      simp only at hi hij hj i1 i2
      by_cases hlt : i < j
      case pos =>
        have eh := half_eq (i := i) (j := j) (by omega) (by omega)
        have eh1 := w64_succ (k := (i + j) / 2) (by omega)
        generalize hh : (i + j) / 2 = c at eh eh1
        have ec : IntKind.wrap .i64 (((mid + m - 1 : Nat) : Int) - c) = ((mid + m - 1 - c : Nat) : Int) := by rw [w64_in (by omega) (by omega)]; omega
        have l1 : mid + m - 1 - c < N := by omega
        have l2 : c < N := by omega
        have g1 := hg _ l1
        have g2 := hg c l2
        have hx := h.ix c (mid + m - 1 - c) (by omega) (by omega) (by omega) (by omega)
        by_cases hk : kd l (g (mid + m - 1 - c)) < kd l (g c)
        · have hk' : kd l (g (mid + m - 1 - c)) - kd l (g c) < 0 := by omega
          simp only [kont_nil, kont_n, kont_e, kont_bn, kont_be, k_skip, k_exit, k_seq, k_block, k_cond, k_reg, r_nil, r_v, r_vg, r_pick, r_call, r_calli, callT, callI, lpQ_n, lpQ_e, postC, rcs, rvS, gok, gvb, eget, lk, lkv, oks, AS.put, AS.keep, evk, Opk.opds, aload, isI, isInt, toI, isB, toB, sel, mk, icmp, iarith, hget_hset, AVal.cells, Tok.esz, List.filterMap, List.map_cons, List.map_nil, List.append_nil, List.nil_append, List.cons_append, Option.map_some, reduceCtorEq, and_true, true_and, forall_const, Nat.reduceEqDiff, ↓reduceIte, Bool.false_eq_true, List.drop, List.take, List.take_succ_cons, Int.reduceEq, Int.reduceLE, Nat.le_refl, List.headD_cons, Bool.true_and, isDiv, false_implies, implies_true, Nat.zero_add, Bool.cond_false_right, imp_self, beq_true, Bool.not_eq_true', Bool.not_eq_false', Bool.and_eq_true, decide_eq_true_eq, decide_eq_false_iff_not, ne_eq, not_false_eq_true, and_self, Nat.add_zero, decide_true, Int.ofNat_lt, hlt, eh, eh1, ec, l1, l2, Int.natCast_nonneg, Int.toNat_natCast, arrF_len, arrF_get l1, arrF_get l2, Option.getD_some, T6_31, s31, ne, hlb, encd_map, decB_map, hK, List.length_map, g1, g2, hk']
          refine .mk ⟨i, c⟩ rfl ⟨hi, by simp only []; omega, by simp only []; omega, i1, fun k k1 k2 => ?_⟩ (by simp only []; omega)
          simp only at k1
          by_cases e : k = c
          · subst e; exact .inl hk
          · exact ((h.so2 (mid + m - 1 - k) (mid + m - 1 - c) (by omega) (by omega) (by omega)).trans (.inl hk)).trans (h.so1 c k (by omega) (by omega) (by omega))
        · have hk' : ¬ kd l (g (mid + m - 1 - c)) - kd l (g c) < 0 := by omega
          have hlx : lexlt l (g c) (g (mid + m - 1 - c)) := by unfold lexlt; omega
          simp only [kont_nil, kont_n, kont_e, kont_bn, kont_be, k_skip, k_exit, k_seq, k_block, k_cond, k_reg, r_nil, r_v, r_vg, r_pick, r_call, r_calli, callT, callI, lpQ_n, lpQ_e, postC, rcs, rvS, gok, gvb, eget, lk, lkv, oks, AS.put, AS.keep, evk, Opk.opds, aload, isI, isInt, toI, isB, toB, sel, mk, icmp, iarith, hget_hset, AVal.cells, Tok.esz, List.filterMap, List.map_cons, List.map_nil, List.append_nil, List.nil_append, List.cons_append, Option.map_some, reduceCtorEq, and_true, true_and, forall_const, Nat.reduceEqDiff, ↓reduceIte, Bool.false_eq_true, List.drop, List.take, List.take_succ_cons, Int.reduceEq, Int.reduceLE, Nat.le_refl, List.headD_cons, Bool.true_and, isDiv, false_implies, implies_true, Nat.zero_add, Bool.cond_false_right, imp_self, beq_true, Bool.not_eq_true', Bool.not_eq_false', Bool.and_eq_true, decide_eq_true_eq, decide_eq_false_iff_not, ne_eq, not_false_eq_true, and_self, Nat.add_zero, decide_true, decide_false, Int.ofNat_lt, hlt, eh, eh1, ec, l1, l2, Int.natCast_nonneg, Int.toNat_natCast, arrF_len, arrF_get l1, arrF_get l2, Option.getD_some, T6_31, s31, ne, hlb, encd_map, decB_map, hK, List.length_map, g1, g2, hk']
          refine .mk ⟨c + 1, j⟩ rfl ⟨by simp only []; omega, by simp only []; omega, hj, fun k k1 k2 => ?_, i2⟩ (by simp only []; omega)
          simp only at k2
          by_cases e : k = c
          · subst e; exact hlx
          · exact ((h.so1 k c (by omega) (by omega) (by omega)).trans hlx).trans (h.so2 (mid + m - 1 - c) (mid + m - 1 - k) (by omega) (by omega) (by omega))
      have hij' : i = j := by omega
      subst hij'
      have cut := cut_of h hmid.symm ham hmb hc hi hj i1 i2
      have ee : IntKind.wrap .i64 (((mid + m : Nat) : Int) - i) = ((mid + m - i : Nat) : Int) := by rw [w64_in (by omega) (by omega)]; omega
      have b1 := cut.me
      have b2 := cut.eb
      generalize he : mid + m - i = e at cut ee b1 b2
      simp only [k_seq, k_reg, r_nil, r_v, eget, lk, lkv, oks, AS.put, AS.keep, evk, Opk.opds, isI, toI, icmp, List.filterMap, Option.map_some, reduceCtorEq, true_and, Nat.reduceEqDiff, ↓reduceIte, and_self, Nat.add_zero, decide_false, Int.ofNat_lt, hlt]
      rw [kont_n]
      simp only [kont_nil, kont_e, kont_be, k_skip, k_exit, k_cond, lpQ_e, eget, lk, lkv, isB, toB, reduceCtorEq, true_and, forall_const, Nat.reduceEqDiff, ↓reduceIte, Bool.false_eq_true, false_implies]
      rw [kont_n]
      simp only [k_seq, k_reg, r_nil, r_v, eget, lk, lkv, oks, AS.put, AS.keep, evk, Opk.opds, isI, toI, iarith, List.filterMap, Option.map_some, reduceCtorEq, true_and, Nat.reduceEqDiff, ↓reduceIte, Bool.false_eq_true, isDiv, false_implies, ne_eq, and_self, Nat.add_zero, ee]
      rw [kont_n]
      by_cases x1 : i < m
      · by_cases x2 : m < e
        · simp only [k_seq, k_reg, r_nil, r_v, r_vg, r_pick, gok, gvb, eget, lk, lkv, oks, AS.put, AS.keep, evk, Opk.opds, isI, toI, isB, toB, sel, icmp, List.filterMap, Option.map_some, reduceCtorEq, true_and, forall_const, Nat.reduceEqDiff, ↓reduceIte, Bool.and_true, beq_self_eq_true, implies_true, and_self, Nat.add_zero, decide_true, cond_true, Int.ofNat_lt, x1, x2]
          rw [kont_n]
          simp only [k_skip, k_cond, k_reg, r_v, r_calli, callI, eget, lk, lkv, oks, AS.put, evk, Opk.opds, isB, toB, List.map_cons, List.map_nil, List.append_nil, List.nil_append, reduceCtorEq, and_true, true_and, forall_const, Nat.reduceEqDiff, ↓reduceIte, false_implies, and_self, Nat.add_zero]
          refine (p51 H n id N g i m e (cmpA lb) x1 x2 (by omega) hN).mono ?_
          rintro o H' n' ⟨rfl, rfl, g1, rfl, p1, hr⟩
          simp only [r_nil, eget, AS.put, AS.keep, List.filterMap, Option.map_some, reduceCtorEq, Nat.reduceEqDiff, ↓reduceIte, retK]
          exact R1 i e g1 cut he.symm (p1.wide (by have := cut.sa; omega) b2) hr
        · simp only [k_seq, k_reg, r_nil, r_v, r_vg, r_pick, gok, gvb, eget, lk, lkv, oks, AS.put, AS.keep, evk, Opk.opds, isI, toI, isB, toB, sel, icmp, List.filterMap, Option.map_some, reduceCtorEq, true_and, forall_const, Nat.reduceEqDiff, ↓reduceIte, Bool.and_true, beq_self_eq_true, implies_true, and_self, Nat.add_zero, decide_true, decide_false, cond_true, Int.ofNat_lt, x1, x2]
          rw [kont_n]
          simp only [k_skip, k_cond, k_reg, r_v, r_calli, callI, eget, lk, lkv, oks, AS.put, evk, Opk.opds, isB, toB, List.map_cons, List.map_nil, List.append_nil, List.nil_append, reduceCtorEq, true_and, forall_const, Nat.reduceEqDiff, ↓reduceIte, Bool.false_eq_true, false_implies, and_self, Nat.add_zero]
          refine R1 i e g cut he.symm .refl fun k => ?_
          obtain rfl : e = m := by omega
          unfold rot
          repeat' split
          all_goals first | rfl | (exfalso; omega) | (congr 1; omega)
      · simp only [k_seq, k_reg, r_nil, r_v, r_vg, r_pick, gok, gvb, eget, lk, lkv, oks, AS.put, AS.keep, evk, Opk.opds, isI, toI, isB, toB, sel, icmp, List.filterMap, Option.map_some, reduceCtorEq, and_true, true_and, forall_const, Nat.reduceEqDiff, ↓reduceIte, Bool.false_eq_true, implies_true, imp_self, beq_true, and_self, Nat.add_zero, decide_false, Bool.and_false, cond_false, Int.ofNat_lt, x1]
        rw [kont_n]
        simp only [k_skip, k_cond, k_reg, r_v, r_calli, callI, eget, lk, lkv, oks, AS.put, evk, Opk.opds, isB, toB, List.map_cons, List.map_nil, List.append_nil, List.nil_append, reduceCtorEq, true_and, forall_const, Nat.reduceEqDiff, ↓reduceIte, Bool.false_eq_true, false_implies, and_self, Nat.add_zero]
        refine R1 i e g cut he.symm .refl fun k => ?_
        have := cut.sm
        obtain rfl : i = m := by omega
        unfold rot
        repeat' split
        all_goals first | rfl | (exfalso; omega) | (congr 1; omega)
    by_cases hm : mid < m
    · have es : IntKind.wrap .i64 (((mid + m : Nat) : Int) - b) = ((mid + m - b : Nat) : Int) := by rw [w64_in (by omega) (by omega)]; omega
      simp only [k_seq, k_reg, r_nil, r_v, penv, eget, lk, lkv, oks, AS.put, AS.keep, evk, Opk.opds, isI, toI, icmp, iarith, List.filterMap, Option.map_some, reduceCtorEq, true_and, Nat.reduceEqDiff, ↓reduceIte, Bool.false_eq_true, Nat.reduceAdd, isDiv, false_implies, Nat.zero_add, ne_eq, and_self, Nat.add_zero, decide_false, c46, e0]
      repeat (first | exact R0 (mid + m - b) mid (.inl ⟨hm, rfl, rfl⟩) | (rw [kont_n]; simp only [k_skip, k_seq, k_cond, k_reg, r_nil, r_v, eget, lk, lkv, oks, AS.put, AS.keep, evk, Opk.opds, isI, isInt, toI, isB, toB, icmp, iarith, List.filterMap, Option.map_some, reduceCtorEq, and_true, true_and, forall_const, Nat.reduceEqDiff, ↓reduceIte, Bool.false_eq_true, Int.reduceLE, isDiv, false_implies, ne_eq, and_self, Nat.add_zero, decide_true, decide_false, e1, eh, en, es, Int.ofNat_lt, hm]))
    · simp only [k_seq, k_reg, r_nil, r_v, penv, eget, lk, lkv, oks, AS.put, AS.keep, evk, Opk.opds, isI, toI, icmp, iarith, List.filterMap, Option.map_some, reduceCtorEq, true_and, Nat.reduceEqDiff, ↓reduceIte, Bool.false_eq_true, Nat.reduceAdd, isDiv, false_implies, Nat.zero_add, ne_eq, and_self, Nat.add_zero, decide_false, c46, e0]
      repeat (first | exact R0 a m (.inr ⟨by omega, rfl, rfl⟩) | (rw [kont_n]; simp only [k_skip, k_seq, k_cond, k_reg, r_nil, r_v, eget, lk, lkv, oks, AS.put, AS.keep, evk, Opk.opds, isI, isInt, toI, isB, toB, icmp, iarith, List.filterMap, Option.map_some, reduceCtorEq, true_and, forall_const, Nat.reduceEqDiff, ↓reduceIte, Bool.false_eq_true, Int.reduceLE, isDiv, false_implies, ne_eq, and_self, Nat.add_zero, decide_false, e1, eh, en, Int.ofNat_lt, hm]))
end

end Go.AM
end

/- Booklets: sorting, part 5: the stable sort. Conditions: none. -/
section
set_option maxRecDepth 10000
set_option linter.unusedSimpArgs false
set_option linter.unusedVariables false
set_option maxHeartbeats 1000000
set_option linter.unusedVariables false
set_option linter.unusedSimpArgs false
namespace Go.AM
open Go.Proofs

/-- Blocks of 20 are sorted below a; from a on nothing is changed. -/
structure S1 (l : List Blk) (N a : Nat) (g h : Nat → Nat) : Prop where
  pm : Pm N 0 N g h
  lo : ∀ i j, i < j → j < N → j < a → i / 20 = j / 20 → lexlt l (h i) (h j)
  hi : ∀ k, a ≤ k → h k = g k
  oo : ∀ i j, i < j → j < N → i / 20 < j / 20 → h i < h j
theorem S1.step {l : List Blk} {N a c : Nat} {g h h' : Nat → Nat} (s : S1 l N a g h) (ha : a % 20 = 0) (hc : c = a + 20 ∨ (c = N ∧ N < a + 20)) (hac : a ≤ c) (hcN : c ≤ N) (pm : Pm N a c h h') (so : Srt l a c h') : S1 l N (a + 20) g h' ∨ (c = N ∧ S1 l N (a + 20) g h') := by
  left
  refine ⟨s.pm.trans (pm.wide (Nat.zero_le _) hcN), fun i j h1 h2 h3 h4 => ?_, fun k hk => ?_, fun i j h1 h2 h3 => ?_⟩
  · by_cases q : j < a
    · rw [pm.out i (by omega), pm.out j (by omega)]; exact s.lo i j h1 h2 q h4
    · exact so i j (by omega) h1 (by omega)
  · rw [pm.out k (by omega)]; exact s.hi k (by omega)
  · have key : ∀ k, k < N → ∃ k', k' < N ∧ k' / 20 = k / 20 ∧ h' k = h k' := by
      intro k hk
      by_cases q : a ≤ k ∧ k < c
      · obtain ⟨k', q1, q2, q3⟩ := pm.mem k q.1 q.2; exact ⟨k', by omega, by omega, q3⟩
      · exact ⟨k, hk, rfl, pm.out k q⟩
    obtain ⟨i', i1, i2, i3⟩ := key i (by omega)
    obtain ⟨j', j1, j2, j3⟩ := key j h2
    rw [i3, j3]; exact s.oo i' j' (by omega) j1 (by omega)

/-- Blocks of 2 bs are sorted below a, of bs from a on. -/
structure St (l : List Blk) (N bs a : Nat) (g h : Nat → Nat) : Prop where
  pm : Pm N 0 N g h
  lo : ∀ i j, i < j → j < N → j < a → i / (2 * bs) = j / (2 * bs) → lexlt l (h i) (h j)
  hi : ∀ i j, i < j → j < N → a ≤ i → i / bs = j / bs → lexlt l (h i) (h j)
  oh : ∀ i j, i < j → j < N → a ≤ i → i / bs < j / bs → h i < h j
  oo : ∀ i j, i < j → j < N → i / (2 * bs) < j / (2 * bs) → h i < h j
theorem St.step {l : List Blk} {N bs a c : Nat} {g h h' : Nat → Nat} (s : St l N bs a g h) (hbs : bs = 20 ∨ bs = 40) (ha : a % (2 * bs) = 0) (hc : c = a + 2 * bs ∨ (c = N ∧ N < a + 2 * bs)) (hac : a ≤ c) (hcN : c ≤ N) (pm : Pm N a c h h') (so : Srt l a c h') : St l N bs (a + 2 * bs) g h' := by
  have key : ∀ k, k < N → ∃ k', k' < N ∧ k' / (2 * bs) = k / (2 * bs) ∧ h' k = h k' := by
    intro k hk
    by_cases q : a ≤ k ∧ k < c
    · obtain ⟨k', q1, q2, q3⟩ := pm.mem k q.1 q.2
      refine ⟨k', by omega, ?_, q3⟩
      rcases hbs with rfl | rfl <;> omega
    · exact ⟨k, hk, rfl, pm.out k q⟩
  rcases hbs with rfl | rfl
  all_goals
    refine ⟨s.pm.trans (pm.wide (Nat.zero_le _) hcN), fun i j h1 h2 h3 h4 => ?_, fun i j h1 h2 h3 h4 => ?_, fun i j h1 h2 h3 h4 => ?_, fun i j h1 h2 h3 => ?_⟩
    · by_cases q : j < a
      · rw [pm.out i (by omega), pm.out j (by omega)]; exact s.lo i j h1 h2 q h4
      · exact so i j (by omega) h1 (by omega)
    · rw [pm.out i (by omega), pm.out j (by omega)]; exact s.hi i j h1 h2 (by omega) h4
    · rw [pm.out i (by omega), pm.out j (by omega)]; exact s.oh i j h1 h2 (by omega) h4
    · obtain ⟨i', i1, i2, i3⟩ := key i (by omega)
      obtain ⟨j', j1, j2, j3⟩ := key j h2
      rw [i3, j3]; exact s.oo i' j' (by omega) j1 (by omega)
theorem St.pre {l : List Blk} {N bs a c : Nat} {g h : Nat → Nat} (s : St l N bs a g h) (hbs : bs = 20 ∨ bs = 40) (ha : a % (2 * bs) = 0) (hc : c ≤ a + 2 * bs) (hcN : c ≤ N) (hm : a + bs < c) : MPre l a (a + bs) c h := by
  rcases hbs with rfl | rfl
  all_goals exact ⟨fun i j h1 h2 h3 => s.hi i j h2 (by omega) h1 (by omega), fun i j h1 h2 h3 => s.hi i j h2 (by omega) (by omega) (by omega), fun p q h1 h2 h3 h4 => s.oh p q (by omega) (by omega) h1 (by omega)⟩
theorem St.last {l : List Blk} {N bs a : Nat} {g h : Nat → Nat} (s : St l N bs a g h) (hbs : bs = 20 ∨ bs = 40) (ha : a % (2 * bs) = 0) (hm : N ≤ a + bs) : Srt l a N h := by
  rcases hbs with rfl | rfl
  all_goals exact fun i j h1 h2 h3 => s.hi i j h2 h3 h1 (by omega)
theorem St.next {l : List Blk} {N bs a : Nat} {g h : Nat → Nat} (s : St l N bs a g h) (hbs : bs = 20 ∨ bs = 40) (ha : N ≤ a) : St l N (2 * bs) 0 g h := by
  rcases hbs with rfl | rfl
  all_goals exact ⟨s.pm, fun i j h1 h2 h3 => by omega, fun i j h1 h2 h3 h4 => s.lo i j h1 h2 (by omega) h4, fun i j h1 h2 h3 h4 => s.oo i j h1 h2 h4, fun i j h1 h2 h3 => s.oo i j h1 h2 (by omega)⟩
theorem S1.next {l : List Blk} {N a : Nat} {g h : Nat → Nat} (s : S1 l N a g h) (ha : N ≤ a) : St l N 20 0 g h :=
  ⟨s.pm, fun i j h1 h2 h3 => by omega, fun i j h1 h2 h3 h4 => s.lo i j h1 h2 (by omega) h4, fun i j h1 h2 h3 h4 => s.oo i j h1 h2 h4, fun i j h1 h2 h3 => s.oo i j h1 h2 (by omega)⟩
theorem St.done {l : List Blk} {N bs : Nat} {g h : Nat → Nat} (s : St l N bs 0 g h) (hbs : bs = 20 ∨ bs = 40 ∨ bs = 80) (hN : N ≤ bs) : Srt l 0 N h := by
  rcases hbs with rfl | rfl | rfl
  all_goals exact fun i j h1 h2 h3 => s.hi i j h2 h3 h1 (by omega)

structure V42 where
  a : Nat
  g : Nat → Nat
theorem p42 {H : AHeap} {id lb N : Nat} {l : List Blk} (cx : Cx H id lb N l) (n : Nat) (g : Nat → Nat) (hN64 : N ≤ 64) (hg : ∀ k < N, g k < l.length) (hinc : ∀ p q, p < q → q < N → g p < g q) :
    ACalls Tryd.prog 42 [.ref id 1 0 N N, .int .i64 N, cmpA lb] (Sx H id N g) n (SrtPost H n id N 0 N l g) := by
  refine a42 (ev_awp T6_ok (ev_evK ?_))
  simp only [kont_n, k_seq, k_block, k_reg, r_nil, r_v, penv, eget, lk, lkv, oks, AS.put, AS.keep, evk, Opk.opds, List.filterMap, Option.map_some, reduceCtorEq, true_and, Nat.reduceEqDiff, ↓reduceIte, Nat.reduceAdd, Nat.zero_add, and_self, Nat.add_zero, c42]
  refine k_loop (fun v : V42 => ⟨[(0, true, .ref id 1 0 N N), (1, true, .int .i64 N), (2, true, cmpA lb), (6, true, .int .i64 20), (7, true, .int .i64 v.a), (8, true, .int .i64 ((v.a + 20 : Nat) : Int))], Sx H id N v.g, n⟩)
    (fun v => v.a % 20 = 0 ∧ v.a ≤ N ∧ S1 l N v.a g v.g) (fun v => N - v.a) ⟨0, g⟩ rfl
    ⟨rfl, Nat.zero_le _, .refl, fun i j h1 h2 h3 => by simp only [] at h3; omega, fun _ _ => rfl, fun i j h1 h2 h3 => hinc i j h1 h2⟩ ?_
  rintro ⟨a, h⟩ ⟨ha, haN, s1⟩
  simp only at ha haN s1
  have hgh := s1.pm.rng (Nat.le_refl N) hg
  have inc : ∀ p q, a ≤ p → p < q → q < N → h p < h q := fun p q h1 h2 h3 => by rw [s1.hi p h1, s1.hi q (by omega)]; exact hinc p q h2 h3
  by_cases hlt : a + 20 ≤ N
  · have e1 : IntKind.wrap .i64 (((a + 20 : Nat) : Int) + 20) = ((a + 20 + 20 : Nat) : Int) := by rw [w64_in (by omega) (by omega)]; omega
    simp only [kont_nil, kont_n, kont_e, kont_be, k_skip, k_exit, k_seq, k_block, k_cond, k_reg, r_nil, r_v, r_calli, callI, lpQ_e, eget, lk, lkv, oks, AS.put, AS.keep, evk, Opk.opds, isI, toI, isB, toB, icmp, List.filterMap, List.map_cons, List.map_nil, List.append_nil, List.nil_append, Option.map_some, reduceCtorEq, and_true, true_and, forall_const, Nat.reduceEqDiff, ↓reduceIte, false_implies, and_self, Nat.add_zero, decide_true, Int.ofNat_le, hlt]
    refine (p45 cx h a (a + 20) (by omega) hlt hgh (fun p q h1 h2 h3 => inc p q h1 h2 (by omega))).mono ?_
    rintro o H' n' ⟨rfl, rfl, h', rfl, p1, so⟩
    simp only [kont_nil, kont_n, kont_bn, k_seq, k_reg, r_nil, r_v, lpQ_n, eget, lk, lkv, oks, AS.put, AS.keep, evk, Opk.opds, isI, toI, iarith, List.filterMap, Option.map_some, reduceCtorEq, true_and, Nat.reduceEqDiff, ↓reduceIte, Bool.false_eq_true, Nat.reduceAdd, Int.reduceEq, isDiv, implies_true, ne_eq, not_false_eq_true, and_self, Nat.add_zero, Nat.add_assoc, retK, e1]
    refine .mk ⟨a + 20, h'⟩ rfl ⟨by simp only []; omega, hlt, ?_⟩ (by simp only []; omega)
    rcases s1.step ha (.inl rfl) (by omega) hlt p1 so with q | q
    · exact q
    · exact q.2
  simp only [kont_nil, kont_n, kont_e, kont_be, k_skip, k_exit, k_seq, k_block, k_cond, k_reg, r_nil, r_v, r_calli, callI, lpQ_e, eget, lk, lkv, oks, AS.put, AS.keep, evk, Opk.opds, isI, toI, isB, toB, icmp, List.filterMap, List.map_cons, List.map_nil, List.append_nil, List.nil_append, Option.map_some, reduceCtorEq, true_and, forall_const, Nat.reduceEqDiff, ↓reduceIte, Bool.false_eq_true, false_implies, and_self, Nat.add_zero, decide_false, Int.ofNat_le, hlt]
  refine (p45 cx h a N haN (Nat.le_refl _) hgh inc).mono ?_
  rintro o H' n' ⟨rfl, hn, h', rfl, p1, so⟩
  obtain rfl := hn.symm
  have st0 : St l N 20 0 g h' := by
    rcases s1.step ha (.inr ⟨rfl, by omega⟩) haN (Nat.le_refl _) p1 so with q | q
    · exact q.next (by omega)
    · exact q.2.next (by omega)
  simp only [kont_n, k_block, r_nil, eget, AS.put, AS.keep, List.filterMap, Option.map_some, reduceCtorEq, Nat.reduceEqDiff, ↓reduceIte, retK]
  refine k_loop (fun v : V42 => ⟨[(0, true, .ref id 1 0 N N), (1, true, .int .i64 N), (2, true, cmpA lb), (6, true, .int .i64 v.a)], Sx H id N v.g, n⟩)
    (fun v => (v.a = 20 ∨ v.a = 40 ∨ v.a = 80) ∧ St l N v.a 0 g v.g) (fun v => 80 - v.a) ⟨20, h'⟩ rfl ⟨.inl rfl, st0⟩ ?_
  clear st0 so p1 inc hgh s1
  rintro ⟨bs, h⟩ ⟨hbs, st⟩
  simp only at hbs st
  by_cases hlt : bs < N
  case neg =>
    simp only [kont_nil, kont_n, kont_e, kont_be, k_skip, k_exit, k_seq, k_block, k_cond, k_reg, r_nil, r_v, lpQ_e, postC, rcs, rvS, eget, lk, lkv, oks, AS.put, AS.keep, evk, Opk.opds, isI, toI, isB, toB, icmp, iarith, List.filterMap, Option.map_some, reduceCtorEq, true_and, forall_const, Nat.reduceEqDiff, ↓reduceIte, Bool.false_eq_true, isDiv, false_implies, ne_eq, and_self, Nat.add_zero, decide_false, Int.ofNat_lt, hlt]
    exact ⟨rfl, rfl, h, rfl, st.pm, st.done hbs (by omega)⟩
  have hbs' : bs = 20 ∨ bs = 40 := by omega
  have e1 : IntKind.wrap .i64 (2 * (bs : Int)) = ((2 * bs : Nat) : Int) := by rw [w64_in (by omega) (by omega)]; omega
  have e1' : IntKind.wrap .i64 ((bs : Int) * 2) = ((2 * bs : Nat) : Int) := by rw [w64_in (by omega) (by omega)]; omega
  simp only [kont_nil, kont_n, kont_e, kont_be, k_skip, k_exit, k_seq, k_block, k_cond, k_reg, r_nil, r_v, lpQ_e, postC, rcs, rvS, eget, lk, lkv, oks, AS.put, AS.keep, evk, Opk.opds, isI, toI, isB, toB, icmp, iarith, List.filterMap, Option.map_some, reduceCtorEq, and_true, true_and, forall_const, Nat.reduceEqDiff, ↓reduceIte, Bool.false_eq_true, isDiv, false_implies, ne_eq, and_self, Nat.add_zero, decide_true, Int.ofNat_lt, hlt, e1]
  refine k_loop (fun v : V42 => ⟨[(0, true, .ref id 1 0 N N), (1, true, .int .i64 N), (2, true, cmpA lb), (6, true, .int .i64 bs), (7, true, .int .i64 v.a), (8, true, .int .i64 ((v.a + 2 * bs : Nat) : Int))], Sx H id N v.g, n⟩)
    (fun v => v.a % (2 * bs) = 0 ∧ v.a ≤ N ∧ St l N bs v.a g v.g) (fun v => N - v.a) ⟨0, h⟩ (by simp) ⟨Nat.zero_mod _, Nat.zero_le _, st⟩ ?_
  clear st
  rintro ⟨a, h⟩ ⟨ha, haN, st⟩
  simp only at ha haN st
  have hgh := st.pm.rng (Nat.le_refl N) hg
  have e2 : IntKind.wrap .i64 ((a : Int) + bs) = ((a + bs : Nat) : Int) := by rw [w64_in (by omega) (by omega)]; omega
  have e3 : IntKind.wrap .i64 (((a + 2 * bs : Nat) : Int) + ((2 * bs : Nat) : Int)) = ((a + 2 * bs + 2 * bs : Nat) : Int) := by rw [w64_in (by omega) (by omega)]; omega
  by_cases hle : a + 2 * bs ≤ N
  · simp only [kont_nil, kont_n, kont_e, kont_bn, kont_be, k_skip, k_exit, k_seq, k_block, k_cond, k_reg, r_nil, r_v, r_calli, callI, lpQ_n, lpQ_e, eget, lk, lkv, oks, AS.put, AS.keep, evk, Opk.opds, isI, toI, isB, toB, icmp, iarith, List.filterMap, List.map_cons, List.map_nil, List.append_nil, List.nil_append, Option.map_some, reduceCtorEq, and_true, true_and, forall_const, Nat.reduceEqDiff, ↓reduceIte, Bool.false_eq_true, Int.reduceEq, isDiv, false_implies, implies_true, decide_eq_true_eq, decide_eq_false_iff_not, ne_eq, not_false_eq_true, and_self, Nat.add_zero, decide_true, Int.ofNat_le, hle, e2]
    refine (p46 cx _ n a (a + bs) (a + 2 * bs) h (Nat.le_refl _) (by omega) (by omega) hle hgh (st.pre hbs' ha (Nat.le_refl _) hle (by omega))).mono ?_
    rintro o H' n' ⟨rfl, hn, h', rfl, p1, so⟩
    obtain rfl := hn.symm
    simp only [kont_nil, kont_n, kont_bn, k_seq, k_reg, r_nil, r_v, lpQ_n, eget, lk, lkv, oks, AS.put, AS.keep, evk, Opk.opds, isI, toI, iarith, List.filterMap, Option.map_some, reduceCtorEq, true_and, Nat.reduceEqDiff, ↓reduceIte, Bool.false_eq_true, isDiv, false_implies, ne_eq, and_self, Nat.add_zero, Nat.add_assoc, retK, e1, e3]
    refine .mk ⟨a + 2 * bs, h'⟩ (by simp only [Nat.add_assoc]) ⟨?_, hle, st.step hbs' ha (.inl rfl) (by omega) hle p1 so⟩ (by simp only []; omega)
    rcases hbs' with rfl | rfl <;> (simp only []; omega)
  by_cases hm : a + bs < N
  · simp only [kont_nil, kont_n, kont_e, kont_bn, kont_be, k_skip, k_exit, k_seq, k_block, k_cond, k_reg, r_nil, r_v, r_calli, callI, lpQ_n, lpQ_e, eget, lk, lkv, oks, AS.put, AS.keep, evk, Opk.opds, isI, toI, isB, toB, icmp, iarith, List.filterMap, List.map_cons, List.map_nil, List.append_nil, List.nil_append, Option.map_some, reduceCtorEq, and_true, true_and, forall_const, Nat.reduceEqDiff, ↓reduceIte, Bool.false_eq_true, Int.reduceEq, isDiv, false_implies, implies_true, ne_eq, not_false_eq_true, and_self, Nat.add_zero, decide_true, decide_false, Int.ofNat_le, Int.ofNat_lt, hle, hm, e2]
    refine (p46 cx _ n a (a + bs) N h (Nat.le_refl _) (by omega) hm (Nat.le_refl _) hgh (st.pre hbs' ha (by omega) (Nat.le_refl _) hm)).mono ?_
    rintro o H' n' ⟨rfl, rfl, h', rfl, p1, so⟩
    simp only [kont_nil, kont_n, kont_bn, k_reg, r_nil, r_v, lpQ_n, eget, lk, lkv, oks, AS.put, AS.keep, evk, Opk.opds, isI, toI, iarith, List.filterMap, Option.map_some, reduceCtorEq, true_and, Nat.reduceEqDiff, ↓reduceIte, Bool.false_eq_true, Int.reduceEq, isDiv, implies_true, ne_eq, not_false_eq_true, and_self, Nat.add_zero, retK, e1']
    exact .mk ⟨2 * bs, h'⟩ rfl ⟨by simp only []; omega, (st.step hbs' ha (.inr ⟨rfl, by omega⟩) haN (Nat.le_refl _) p1 so).next hbs' (by omega)⟩ (by simp only []; omega)
  · simp only [kont_nil, kont_n, kont_e, kont_bn, kont_be, k_skip, k_exit, k_seq, k_block, k_cond, k_reg, r_nil, r_v, r_calli, callI, lpQ_n, lpQ_e, eget, lk, lkv, oks, AS.put, AS.keep, evk, Opk.opds, isI, toI, isB, toB, icmp, iarith, List.filterMap, List.map_cons, List.map_nil, List.append_nil, List.nil_append, Option.map_some, reduceCtorEq, true_and, forall_const, Nat.reduceEqDiff, ↓reduceIte, Bool.false_eq_true, Int.reduceEq, isDiv, false_implies, implies_true, ne_eq, not_false_eq_true, and_self, Nat.add_zero, decide_false, Int.ofNat_le, Int.ofNat_lt, hle, hm, e2, e1']
    exact .mk ⟨2 * bs, h⟩ rfl ⟨by simp only []; omega, (st.step hbs' ha (.inr ⟨rfl, by omega⟩) haN (Nat.le_refl _) .refl (st.last hbs' ha (by omega))).next hbs' (by omega)⟩ (by simp only []; omega)

/-! ### What comes out -/
def ordS (l : List Blk) : List Nat := (List.range l.length).filter (fun i => kd l i = 1) ++ ((List.range l.length).filter (fun i => kd l i = 2) ++ (List.range l.length).filter (fun i => kd l i = 3))
theorem three_perm {l : List Blk} : ∀ (L : List Nat), (∀ i ∈ L, kd l i = 1 ∨ kd l i = 2 ∨ kd l i = 3) → (L.filter (fun i => kd l i = 1) ++ (L.filter (fun i => kd l i = 2) ++ L.filter (fun i => kd l i = 3))).Perm L
  | [], _ => .refl _
  | x :: L, h => by
    have ih := three_perm L fun i hi => h i (by simp [hi])
    rcases h x (by simp) with e | e | e
    · simp only [List.filter_cons, e]; simpa using ih
    · simp only [List.filter_cons, e]
      simp only [Int.reduceEq, decide_false, decide_true, Bool.false_eq_true, ↓reduceIte, List.cons_append]
      exact List.perm_middle.trans (ih.cons x)
    · simp only [List.filter_cons, e]
      simp only [Int.reduceEq, decide_false, decide_true, Bool.false_eq_true, ↓reduceIte]
      rw [← List.append_assoc] at ih ⊢
      exact List.perm_middle.trans (ih.cons x)
theorem kd_ok {l : List Blk} (hK : okK l) {i : Nat} (hi : i < l.length) : kd l i = 1 ∨ kd l i = 2 ∨ kd l i = 3 := by
  have := hK _ (List.getElem_mem hi)
  simp only [kd, List.getElem?_eq_getElem hi]; omega
theorem range_pw (N : Nat) : (List.range N).Pairwise (· < ·) := List.pairwise_lt_range
theorem ordS_pw (l : List Blk) : (ordS l).Pairwise (lexlt l) := by
  have key : ∀ c : Int, ((List.range l.length).filter (fun i => kd l i = c)).Pairwise (lexlt l) := by
    intro c
    refine List.Pairwise.imp_of_mem ?_ ((range_pw l.length).filter _)
    intro a b h1 h2 h3
    simp at h1 h2
    unfold lexlt; omega
  unfold ordS
  rw [List.pairwise_append, List.pairwise_append]
  refine ⟨key 1, ⟨key 2, key 3, ?_⟩, ?_⟩
  · intro a h1 b h2
    simp at h1 h2
    unfold lexlt; omega
  · intro a h1 b h2
    simp at h1 h2
    unfold lexlt; omega
theorem srt_eq {l : List Blk} {g : Nat → Nat} (hK : okK l) (pm : Pm l.length 0 l.length (fun k => k) g) (so : Srt l 0 l.length g) : lst l.length g = ordS l := by
  have p1 : (lst l.length g).Perm (ordS l) := by
    have h1 : (lst l.length fun k => k) = List.range l.length := by simp [lst]
    have := pm.perm
    rw [h1] at this
    exact this.trans (three_perm _ fun i hi => kd_ok hK (by simpa using hi)).symm
  have p2 : (lst l.length g).Pairwise (lexlt l) := by
    unfold lst
    rw [List.pairwise_map]
    refine List.Pairwise.imp_of_mem ?_ (range_pw _)
    intro a b h1 h2 h3
    exact so a b (Nat.zero_le _) h3 (by simpa using h2)
  refine List.Perm.eq_of_pairwise ?_ p2 (ordS_pw l) p1
  intro a b _ _ h1 h2
  unfold lexlt at h1 h2; omega

theorem p30 {H : AHeap} {id lb : Nat} {l : List Blk} (cx : Cx H id lb l.length l) (n : Nat) (h64 : l.length ≤ 64) :
    ACalls Tryd.prog 30 [.ref id 1 0 l.length l.length, cmpA lb] (Sx H id l.length fun k => k) n (fun o H' n' => o = .ret (.tup []) ∧ n' = n ∧ H' = hset H id (.arr 1 ((ordS l).map fun i => .int .i64 (i : Nat)))) := by
  refine a30 (ev_awp T6_ok (ev_evK ?_))
  simp only [k_reg, r_v, r_calli, callI, penv, eget, lk, lkv, oks, AS.put, evk, Opk.opds, List.map_cons, List.map_nil, List.append_nil, List.nil_append, reduceCtorEq, true_and, Nat.reduceEqDiff, ↓reduceIte, Nat.zero_add, and_self, Nat.add_zero, c30]
  refine (p42 cx n (fun k => k) h64 (fun k hk => hk) (fun p q h1 h2 => h1)).mono ?_
  rintro o H' n' ⟨rfl, rfl, g, rfl, pm, so⟩
  simp only [kont_nil, r_nil, postC, rcs, rvS, AS.put, AS.keep, List.filterMap, true_and, retK]
  have := srt_eq cx.hK pm so
  rw [← this]
  simp only [Sx, arrF, lst, List.map_map]
  rfl

end Go.AM
end
