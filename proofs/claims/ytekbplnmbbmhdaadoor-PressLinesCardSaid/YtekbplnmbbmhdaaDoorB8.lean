/-
  Booklets: laying out, part 1: what is computed, and the closure that puts a block in its place · Booklets: laying out, part 2: the candidates, one after the other · Booklets: laying out, part 3: Layout · Booklets: laying out, part 4: the reference's Layout · Booklets: decimal numbers, part 1: small numbers, and how many digits · Booklets: decimal numbers, part 2: formatBase10 · Booklets: decimal numbers, part 3: AppendInt, the closure that writes numbers, digits · Booklets: printing, part 1: what is printed; press · Booklets: printing, part 2: the reference's Print · Booklets: the laws, part 1: the table of all functions; a guarded append · Booklets: the laws, part 2: sane · Booklets: the laws, part 3: the three that compare with the reference.
  Conditions: none beyond those of its parts.
-/
import Derived.Test.YtekbplnmbbmhdaaDoorB7
import Derived.Test.YtekbplnmbbmhdaaDoorB6
import Derived.Test.YtekbplnmbbmhdaaDoorB5
import Derived.Lib.ItoaNum

/- Booklets: laying out, part 1: what is computed, and the closure that puts a block in its place. Conditions: none. -/
section
set_option maxRecDepth 10000
set_option linter.unusedSimpArgs false
set_option linter.unusedVariables false
set_option maxHeartbeats 1000000
set_option linter.unusedVariables false
set_option linter.unusedSimpArgs false
namespace Go.AM
open Go.Proofs

structure LSt where
  out : List Plc
  pg : Int
  top : Int
  nx : Int
  tall : Int
  sol : Bool
def blkN (l : List Blk) (i : Nat) : Blk := l[i]?.getD ⟨0, 0, 0, 0⟩
def layX (p : Pap) (b : Blk) (i : Nat) (s : LSt) : Plc :=
  if s.out.length = 0 then ⟨i, 0, p.M, p.M⟩
  else if b.K = 2 ∧ s.sol = false then ⟨i, 2 * spS s.pg + 1, p.M, p.M⟩
  else if s.nx + b.W * p.C ≤ p.W - p.M ∧ s.top + b.H * p.C ≤ p.H - p.M then ⟨i, s.pg, s.nx, s.top⟩
  else if s.top + s.tall + p.S + b.H * p.C ≤ p.H - p.M then ⟨i, s.pg, p.M, s.top + s.tall + p.S⟩
  else ⟨i, s.pg + 1, p.M, p.M⟩
def putS (p : Pap) (b : Blk) (x : Plc) (s : LSt) : LSt :=
  ⟨s.out ++ [x], x.P, x.Y, x.X + b.W * p.C + p.S, max (if x.X = p.M then 0 else s.tall) (b.H * p.C), s.sol || decide (b.K = 2)⟩
def lay1 (p : Pap) (l : List Blk) (s : LSt) (i : Nat) : LSt := putS p (blkN l i) (layX p (blkN l i) i s) s
def lay0 : LSt := ⟨[], 0, 0, 0, 0, false⟩
def layS (p : Pap) (l : List Blk) : List Plc × Int := if checkS p l = 0 then (((ordS l).foldl (lay1 p l) lay0).out, 0) else ([], checkS p l)

structure LOK (p : Pap) (s : LSt) : Prop where
  p0 : 0 ≤ s.pg
  p1 : s.pg ≤ 2 * s.out.length
  t0 : 0 ≤ s.top
  t1 : s.top ≤ 8192
  n0 : 0 ≤ s.nx
  n1 : s.nx ≤ 16384
  h0 : 0 ≤ s.tall
  h1 : s.tall ≤ 8192
  e0 : s.out.length = 0 → s.pg = 0
theorem LOK.zero (p : Pap) : LOK p lay0 := ⟨by simp [lay0], by simp [lay0], by simp [lay0], by simp [lay0], by simp [lay0], by simp [lay0], by simp [lay0], by simp [lay0], by simp [lay0]⟩
/-- What a paper and a block that fits have. -/
structure FB (p : Pap) (b : Blk) : Prop where
  c : 1 ≤ p.C ∧ p.C ≤ 16
  w : 1 ≤ p.W ∧ p.W ≤ 4096
  h : 1 ≤ p.H ∧ p.H ≤ 4096
  m : 0 ≤ p.M ∧ p.M ≤ 4096
  s : 0 ≤ p.S ∧ p.S ≤ 4096
  k : 1 ≤ b.K ∧ b.K ≤ 3
  n : 0 ≤ b.N ∧ b.N ≤ 65536
  w1 : 1 ≤ b.W * p.C ∧ b.W * p.C ≤ 65536
  h1 : 1 ≤ b.H * p.C ∧ b.H * p.C ≤ 65536
  w2 : b.W * p.C ≤ p.W - 2 * p.M
  h2 : b.H * p.C ≤ p.H - 2 * p.M
theorem FB.of {p : Pap} {b : Blk} (hg : goodS p = true) (hf : fitsS p b = true) : FB p b := by
  rw [good_iff] at hg
  rw [fits_iff] at hf
  have m1 := mul_bd (a := b.W) (c := p.C) (by omega) (by omega) (by omega) (by omega)
  have m2 := mul_bd (a := b.H) (c := p.C) (by omega) (by omega) (by omega) (by omega)
  exact ⟨by omega, by omega, by omega, by omega, by omega, by omega, by omega, m1, m2, by omega, by omega⟩
/-- A place that may be taken. -/
structure XOK (p : Pap) (b : Blk) (s : LSt) (x : Plc) : Prop where
  p0 : 0 ≤ x.P
  p1 : x.P ≤ s.pg + 2
  z : s.out.length = 0 → x.P = 0
  x0 : 0 ≤ x.X
  x1 : x.X + b.W * p.C ≤ p.W
  y0 : 0 ≤ x.Y
  y1 : x.Y + b.H * p.C ≤ p.H
theorem spS_bd {a : Int} (h : 0 ≤ a) : 2 * spS a + 1 ≤ a + 2 ∧ 0 ≤ spS a := by unfold spS; omega
theorem layX_ok {p : Pap} {b : Blk} {s : LSt} {i : Nat} (hb : FB p b) (hs : LOK p s) : XOK p b s (layX p b i s) := by
  obtain ⟨c, w, h, m, q, k, n, w1, h1, w2, h2⟩ := hb
  obtain ⟨a1, a2, a3, a4, a5, a6, a7, a8, a9⟩ := hs
  have sp := spS_bd a1
  unfold layX
  repeat' split
  all_goals refine ⟨?_, ?_, ?_, ?_, ?_, ?_, ?_⟩ <;> (try simp only []) <;> (try intro hz) <;> first | trivial | omega
theorem putS_ok {p : Pap} {b : Blk} {s : LSt} {x : Plc} (hb : FB p b) (hs : LOK p s) (hx : XOK p b s x) : LOK p (putS p b x s) := by
  obtain ⟨c, w, h, m, q, k, n, w1, h1, w2, h2⟩ := hb
  obtain ⟨a1, a2, a3, a4, a5, a6, a7, a8, a9⟩ := hs
  obtain ⟨x1, x2, x3, x4, x5, x6, x7⟩ := hx
  refine ⟨?_, ?_, ?_, ?_, ?_, ?_, ?_, ?_, ?_⟩ <;> simp only [putS, List.length_append, List.length_cons, List.length_nil] <;> (try split) <;> omega
theorem lay1_ok {p : Pap} {l : List Blk} {s : LSt} {i : Nat} (hb : FB p (blkN l i)) (hs : LOK p s) : LOK p (lay1 p l s i) := putS_ok hb hs (layX_ok hb hs)

abbrev boxP (p : Pap) : AObj := .box [.int .i64 p.W, .int .i64 p.H, .int .i64 p.M, .int .i64 p.S, .int .i64 p.C]
abbrev boxA (s : LSt) : AObj := .box [.int .i64 s.pg, .int .i64 s.top, .int .i64 s.nx, .int .i64 s.tall]
def tok4 (H : AHeap) (tok : Tok) (out : List Plc) : Prop := (tok = .nil ∧ out = []) ∨ ∃ id, tok = .own id 4 ∧ hget H id = some .tok
def Frame (H H' : AHeap) : Prop := ∀ id ob, hget H id = some ob → id ≠ 2 → id ≠ 8 → ob ≠ .tok → hget H' id = some ob
def PutPost (p : Pap) (s' : LSt) (H : AHeap) (n : Nat) : AOut → AHeap → Nat → Prop := fun o H' n' =>
  o = .ret (.tup []) ∧ n ≤ n' ∧ ∃ tk, hget H' 2 = some (.box [.sl tk (s'.out.map encX)]) ∧ hget H' 8 = some (boxA s') ∧ tok4 H' tk s'.out ∧ Fresh H' n' ∧ Frame H H'

theorem p32 (p : Pap) (b : Blk) (x : Plc) (s : LSt) (i bi bw bh : Nat) (H : AHeap) (n : Nat) (tok : Tok) (hb : FB p b) (hs : LOK p s) (hx : XOK p b s x) (h64 : s.out.length ≤ 64)
    (g0 : hget H 0 = some (boxP p)) (g2 : hget H 2 = some (.box [.sl tok (s.out.map encX)])) (g8 : hget H 8 = some (boxA s)) (gi : hget H bi = some (.box [.int .i64 i])) (gw : hget H bw = some (.box [.int .i64 (b.W * p.C)])) (gh : hget H bh = some (.box [.int .i64 (b.H * p.C)]))
    (hbi : 8 < bi) (hbw : 8 < bw) (hbh : 8 < bh) (htok : tok4 H tok s.out) (hfr : Fresh H n) :
    ACalls Tryd.prog 32 [encX x, .ptr bi 0, .ptr 2 0, .ptr 0 0, .ptr 8 0, .ptr bw 0, .ptr bh 0] H n (PutPost p (putS p b { x with B := i } s) H n) := by
  have hfr' : ∀ id, n ≤ id → hget H id = none := hfr
  have ni := hfr.lt gi
  have nw := hfr.lt gw
  have nh := hfr.lt gh
  have n8 := hfr.lt g8
  obtain ⟨c, w, h, m, q, k, nn, w1, h1, w2, h2⟩ := hb
  obtain ⟨a1, a2, a3, a4, a5, a6, a7, a8, a9⟩ := hs
  obtain ⟨x1, x2, x3, x4, x5, x6, x7⟩ := hx
  have f0 : (n = 0) = False := eq_false (by omega)
  have f1 : (0 = n) = False := eq_false (by omega)
  have f2 : (n + 4 = 0) = False := eq_false (by omega)
  have f3 : (0 = n + 4) = False := eq_false (by omega)
  have f4 : (n = 2) = False := eq_false (by omega)
  have f5 : (2 = n) = False := eq_false (by omega)
  have f6 : (n + 4 = 2) = False := eq_false (by omega)
  have f7 : (2 = n + 4) = False := eq_false (by omega)
  have f8 : (n = 8) = False := eq_false (by omega)
  have f9 : (8 = n) = False := eq_false (by omega)
  have f10 : (n + 4 = 8) = False := eq_false (by omega)
  have f11 : (8 = n + 4) = False := eq_false (by omega)
  have f12 : (n = bi) = False := eq_false (by omega)
  have f13 : (bi = n) = False := eq_false (by omega)
  have f14 : (n + 4 = bi) = False := eq_false (by omega)
  have f15 : (bi = n + 4) = False := eq_false (by omega)
  have f16 : (n = bw) = False := eq_false (by omega)
  have f17 : (bw = n) = False := eq_false (by omega)
  have f18 : (n + 4 = bw) = False := eq_false (by omega)
  have f19 : (bw = n + 4) = False := eq_false (by omega)
  have f20 : (n = bh) = False := eq_false (by omega)
  have f21 : (bh = n) = False := eq_false (by omega)
  have f22 : (n + 4 = bh) = False := eq_false (by omega)
  have f23 : (bh = n + 4) = False := eq_false (by omega)
  have f24 : (n = 4) = False := eq_false (by omega)
  have f25 : (4 = n) = False := eq_false (by omega)
  have f26 : (2 = bi) = False := eq_false (by omega)
  have f27 : (2 = bw) = False := eq_false (by omega)
  have f28 : (2 = bh) = False := eq_false (by omega)
  have f29 : (8 = bi) = False := eq_false (by omega)
  have f30 : (8 = bw) = False := eq_false (by omega)
  have f31 : (8 = bh) = False := eq_false (by omega)
  have f32 : (bi = 2) = False := eq_false (by omega)
  have f33 : (bw = 2) = False := eq_false (by omega)
  have f34 : (bh = 2) = False := eq_false (by omega)
  have f35 : (bi = 8) = False := eq_false (by omega)
  have f36 : (bw = 8) = False := eq_false (by omega)
  have f37 : (bh = 8) = False := eq_false (by omega)
  have e1 := w64_in (x := x.X + b.W * p.C) (by omega) (by omega)
  have e2 := w64_in (x := x.X + b.W * p.C + p.S) (by omega) (by omega)
  refine a32 (ev_awp T6_ok (ev_evK ?_))
  rcases htok with ⟨rfl, ho⟩ | ⟨id, rfl, hid⟩ <;> by_cases hX : x.X = p.M
  · rw [hX] at e1 e2
    simp only [kont_nil, kont_n, k_skip, k_seq, k_cond, k_reg, r_nil, r_v, r_box, r_st, r_app, stE, appE, penv, postC, rcs, rvS, eget, lk, lkv, oks, AS.put, AS.keep, evk, evMM_cons, allI, foldMM, evB_eq, allB, fillB, evS_eq, allS, fillS, splice, Opk.opds, aload, isI, toI, isB, toB, mk, icmp, iarith, nT, hget_hset, AVal.cells, Tok.esz, List.length_cons, List.length_nil, List.filterMap, List.map_cons, List.map_nil, List.append_nil, List.nil_append, List.cons_append, Option.map_some, reduceCtorEq, and_true, true_and, forall_const, Nat.reduceEqDiff, ↓reduceIte, Bool.false_eq_true, Nat.reduceAdd, List.drop, List.take, List.drop_succ_cons, List.take_succ_cons, Nat.reduceLeDiff, Nat.reduceMul, Nat.reduceLT, List.set_cons_zero, List.replicate_succ, List.replicate_zero, Nat.le_refl, List.headD_cons, isDiv, false_implies, Nat.zero_add, ne_eq, natE1, natE2, and_self, or_false, Nat.add_zero, Nat.add_assoc, Nat.le_add_right, killTok, appOK, srcOf, decide_true, c32, hfr', g0, g2, g8, gi, gw, gh, f0, f2, f4, f5, f6, f8, f9, f10, f12, f16, f18, f20, f22, f27, f28, f30, f31, e1, e2, hX, small, List.length_map]
    have hid := ho
    refine ⟨⟨by omega, by omega⟩, rfl, by omega, .own (n + 4) 4, ?_, ?_, .inr ⟨n + 4, rfl, ?_⟩, ?_, ?_⟩
    · simp [hget_hset, putS, List.map_append, eq_comm]
    · simp [hget_hset, putS]
    · simp only [hget_hset]; repeat rw [if_neg (by omega)]
      exact if_pos trivial
    · intro m hm; simp only [hget_hset]; repeat rw [if_neg (by omega)]
      exact hfr m (by omega)
    · intro id' ob ho' h2' h8' ht'
      have := hfr.lt ho'
      simp only [hget_hset]; repeat rw [if_neg (by first | omega | (rintro rfl; rw [hid] at ho'; cases ho'; exact ht' rfl))]
      exact ho'
  · simp only [kont_nil, kont_n, k_skip, k_seq, k_cond, k_reg, r_nil, r_v, r_box, r_st, r_app, stE, appE, penv, postC, rcs, rvS, eget, lk, lkv, oks, AS.put, AS.keep, evk, evMM_cons, allI, foldMM, evB_eq, allB, fillB, evS_eq, allS, fillS, splice, Opk.opds, aload, isI, toI, isB, toB, mk, icmp, iarith, nT, hget_hset, AVal.cells, Tok.esz, List.length_cons, List.length_nil, List.filterMap, List.map_cons, List.map_nil, List.append_nil, List.nil_append, List.cons_append, Option.map_some, reduceCtorEq, and_true, true_and, forall_const, Nat.reduceEqDiff, ↓reduceIte, Bool.false_eq_true, Nat.reduceAdd, List.drop, List.take, List.drop_succ_cons, List.take_succ_cons, Nat.reduceLeDiff, Nat.reduceMul, Nat.reduceLT, List.set_cons_zero, List.replicate_succ, List.replicate_zero, Nat.le_refl, List.headD_cons, isDiv, false_implies, Nat.zero_add, ne_eq, natE1, natE2, and_self, or_false, Nat.add_zero, Nat.add_assoc, Nat.le_add_right, killTok, appOK, srcOf, decide_false, c32, hfr', g0, g2, g8, gi, gw, gh, f0, f2, f4, f5, f6, f8, f9, f10, f12, f16, f18, f20, f22, f27, f28, f30, f31, e1, e2, hX, small, List.length_map]
    have hid := ho
    refine ⟨⟨by omega, by omega⟩, rfl, by omega, .own (n + 4) 4, ?_, ?_, .inr ⟨n + 4, rfl, ?_⟩, ?_, ?_⟩
    · simp [hget_hset, putS, List.map_append, hX, eq_comm]
    · simp [hget_hset, putS, hX]
    · simp only [hget_hset]; repeat rw [if_neg (by omega)]
      exact if_pos trivial
    · intro m hm; simp only [hget_hset]; repeat rw [if_neg (by omega)]
      exact hfr m (by omega)
    · intro id' ob ho' h2' h8' ht'
      have := hfr.lt ho'
      simp only [hget_hset]; repeat rw [if_neg (by first | omega | (rintro rfl; rw [hid] at ho'; cases ho'; exact ht' rfl))]
      exact ho'
  · rw [hX] at e1 e2
    have d0 : id ≠ 0 := by rintro rfl; rw [g0] at hid; cases hid
    have d1 : id ≠ 2 := by rintro rfl; rw [g2] at hid; cases hid
    have d2 : id ≠ 8 := by rintro rfl; rw [g8] at hid; cases hid
    have d3 : id ≠ bi := by rintro rfl; rw [gi] at hid; cases hid
    have d4 : id ≠ bw := by rintro rfl; rw [gw] at hid; cases hid
    have d5 : id ≠ bh := by rintro rfl; rw [gh] at hid; cases hid
    have nid := hfr.lt hid
    have k0 : (id = 0) = False := eq_false (by omega)
    have k1 : (0 = id) = False := eq_false (by omega)
    have k2 : (id = 2) = False := eq_false (by omega)
    have k3 : (2 = id) = False := eq_false (by omega)
    have k4 : (id = 8) = False := eq_false (by omega)
    have k5 : (8 = id) = False := eq_false (by omega)
    have k6 : (id = bi) = False := eq_false (by omega)
    have k7 : (bi = id) = False := eq_false (by omega)
    have k8 : (id = bw) = False := eq_false (by omega)
    have k9 : (bw = id) = False := eq_false (by omega)
    have k10 : (id = bh) = False := eq_false (by omega)
    have k11 : (bh = id) = False := eq_false (by omega)
    have k12 : (id = n) = False := eq_false (by omega)
    have k13 : (n = id) = False := eq_false (by omega)
    have k14 : (id = n + 4) = False := eq_false (by omega)
    have k15 : (n + 4 = id) = False := eq_false (by omega)
    simp only [kont_nil, kont_n, k_skip, k_seq, k_cond, k_reg, r_nil, r_v, r_box, r_st, r_app, stE, appE, penv, postC, rcs, rvS, eget, lk, lkv, oks, AS.put, AS.keep, evk, evMM_cons, allI, foldMM, evB_eq, allB, fillB, evS_eq, allS, fillS, splice, Opk.opds, aload, isI, toI, isB, toB, mk, icmp, iarith, nT, hget_hset, AVal.cells, Tok.esz, List.length_cons, List.length_nil, List.filterMap, List.map_cons, List.map_nil, List.append_nil, List.nil_append, List.cons_append, Option.map_some, reduceCtorEq, and_true, true_and, forall_const, Nat.reduceEqDiff, ↓reduceIte, Bool.false_eq_true, Nat.reduceAdd, List.drop, List.take, List.drop_succ_cons, List.take_succ_cons, Nat.reduceLeDiff, Nat.reduceMul, Nat.reduceLT, List.set_cons_zero, List.replicate_succ, List.replicate_zero, Nat.le_refl, List.headD_cons, isDiv, false_implies, Nat.zero_add, ne_eq, natE1, natE2, and_self, or_false, Nat.add_zero, Nat.add_assoc, Nat.le_add_right, killTok, appOK, srcOf, decide_true, c32, hfr', g0, g2, g8, gi, gw, gh, f0, f2, f4, f5, f6, f8, f9, f10, f12, f16, f18, f20, f22, f27, f28, f30, f31, k0, k2, k4, k8, k10, k12, k13, e1, e2, hX, hid, small, List.length_map]
    refine ⟨⟨by omega, by omega⟩, rfl, by omega, .own (n + 4) 4, ?_, ?_, .inr ⟨n + 4, rfl, ?_⟩, ?_, ?_⟩
    · simp [hget_hset, putS, List.map_append, eq_comm]
    · simp [hget_hset, putS]
    · simp only [hget_hset]; repeat rw [if_neg (by omega)]
      exact if_pos trivial
    · intro m hm; simp only [hget_hset]; repeat rw [if_neg (by omega)]
      exact hfr m (by omega)
    · intro id' ob ho' h2' h8' ht'
      have := hfr.lt ho'
      simp only [hget_hset]; repeat rw [if_neg (by first | omega | (rintro rfl; rw [hid] at ho'; cases ho'; exact ht' rfl))]
      exact ho'
  · skip
    have d0 : id ≠ 0 := by rintro rfl; rw [g0] at hid; cases hid
    have d1 : id ≠ 2 := by rintro rfl; rw [g2] at hid; cases hid
    have d2 : id ≠ 8 := by rintro rfl; rw [g8] at hid; cases hid
    have d3 : id ≠ bi := by rintro rfl; rw [gi] at hid; cases hid
    have d4 : id ≠ bw := by rintro rfl; rw [gw] at hid; cases hid
    have d5 : id ≠ bh := by rintro rfl; rw [gh] at hid; cases hid
    have nid := hfr.lt hid
    have k0 : (id = 0) = False := eq_false (by omega)
    have k1 : (0 = id) = False := eq_false (by omega)
    have k2 : (id = 2) = False := eq_false (by omega)
    have k3 : (2 = id) = False := eq_false (by omega)
    have k4 : (id = 8) = False := eq_false (by omega)
    have k5 : (8 = id) = False := eq_false (by omega)
    have k6 : (id = bi) = False := eq_false (by omega)
    have k7 : (bi = id) = False := eq_false (by omega)
    have k8 : (id = bw) = False := eq_false (by omega)
    have k9 : (bw = id) = False := eq_false (by omega)
    have k10 : (id = bh) = False := eq_false (by omega)
    have k11 : (bh = id) = False := eq_false (by omega)
    have k12 : (id = n) = False := eq_false (by omega)
    have k13 : (n = id) = False := eq_false (by omega)
    have k14 : (id = n + 4) = False := eq_false (by omega)
    have k15 : (n + 4 = id) = False := eq_false (by omega)
    simp only [kont_nil, kont_n, k_skip, k_seq, k_cond, k_reg, r_nil, r_v, r_box, r_st, r_app, stE, appE, penv, postC, rcs, rvS, eget, lk, lkv, oks, AS.put, AS.keep, evk, evMM_cons, allI, foldMM, evB_eq, allB, fillB, evS_eq, allS, fillS, splice, Opk.opds, aload, isI, toI, isB, toB, mk, icmp, iarith, nT, hget_hset, AVal.cells, Tok.esz, List.length_cons, List.length_nil, List.filterMap, List.map_cons, List.map_nil, List.append_nil, List.nil_append, List.cons_append, Option.map_some, reduceCtorEq, and_true, true_and, forall_const, Nat.reduceEqDiff, ↓reduceIte, Bool.false_eq_true, Nat.reduceAdd, List.drop, List.take, List.drop_succ_cons, List.take_succ_cons, Nat.reduceLeDiff, Nat.reduceMul, Nat.reduceLT, List.set_cons_zero, List.replicate_succ, List.replicate_zero, Nat.le_refl, List.headD_cons, isDiv, false_implies, Nat.zero_add, ne_eq, natE1, natE2, and_self, or_false, Nat.add_zero, Nat.add_assoc, Nat.le_add_right, killTok, appOK, srcOf, decide_false, c32, hfr', g0, g2, g8, gi, gw, gh, f0, f2, f4, f5, f6, f8, f9, f10, f12, f16, f18, f20, f22, f27, f28, f30, f31, k0, k2, k4, k8, k10, k12, k13, e1, e2, hX, hid, small, List.length_map]
    refine ⟨⟨by omega, by omega⟩, rfl, by omega, .own (n + 4) 4, ?_, ?_, .inr ⟨n + 4, rfl, ?_⟩, ?_, ?_⟩
    · simp [hget_hset, putS, List.map_append, hX, eq_comm]
    · simp [hget_hset, putS, hX]
    · simp only [hget_hset]; repeat rw [if_neg (by omega)]
      exact if_pos trivial
    · intro m hm; simp only [hget_hset]; repeat rw [if_neg (by omega)]
      exact hfr m (by omega)
    · intro id' ob ho' h2' h8' ht'
      have := hfr.lt ho'
      simp only [hget_hset]; repeat rw [if_neg (by first | omega | (rintro rfl; rw [hid] at ho'; cases ho'; exact ht' rfl))]
      exact ho'

end Go.AM
end

/- Booklets: laying out, part 2: the candidates, one after the other. Conditions: none. -/
section
set_option maxRecDepth 10000
set_option linter.unusedSimpArgs false
set_option linter.unusedVariables false
set_option maxHeartbeats 1000000
set_option linter.unusedVariables false
set_option linter.unusedSimpArgs false
namespace Go.AM
open Go.Proofs

abbrev e15 (n i N m : Nat) (sl : Bool) : List (Nat × Bool × AVal) :=
  [(2, true, .ptr 0 0), (3, true, .ptr 1 0), (4, true, .ptr 2 0), (5, true, .int .i64 0), (9, true, .ptr 8 0), (10, true, .bool sl), (13, true, .ptr (n + 20) 0), (14, true, .ptr (n + 21) 0), (15, true, .ptr (n + 25) 0),
    (40, true, .ref 6 1 0 N N), (41, true, .int .i64 N), (42, true, .int .i64 i), (102, true, .fn (.func 43) [] [.ptr (m + 1) 0, .ptr m 0])]
abbrev clo (n : Nat) : AObj := .box [.fn (.func 32) [] [.ptr (n + 2) 0, .ptr 2 0, .ptr 0 0, .ptr 8 0, .ptr (n + 20) 0, .ptr (n + 21) 0]]
structure YF (p : Pap) (b : Blk) (s : LSt) (o : Nat) (tok : Tok) (n L l' : Nat) (env : List (Nat × Bool × AVal)) (H : AHeap) (m : Nat) : Prop where
  q0 : hget H 0 = some (boxP p)
  q2 : hget H 2 = some (.box [.sl tok (s.out.map encX)])
  q8 : hget H 8 = some (boxA s)
  qi : hget H (n + 2) = some (.box [.int .i64 o])
  qw : hget H (n + 20) = some (.box [.int .i64 (b.W * p.C)])
  qh : hget H (n + 21) = some (.box [.int .i64 (b.H * p.C)])
  qc : hget H (n + 25) = some (clo n)
  ql : hget H L = some (.lp ⟨l', .ready, none, 131, env, #[103], ra15_0, rb15_0⟩)
  fr : Fresh H m
  tk : tok4 H tok s.out
  nL : n + 25 < L
  n9 : 9 ≤ n
def YDone (s' : LSt) (H : AHeap) (m L : Nat) (H' : AHeap) (n' : Nat) : Prop :=
  m ≤ n' ∧ ∃ tk x', hget H' 2 = some (.box [.sl tk (s'.out.map encX)]) ∧ hget H' 8 = some (boxA s') ∧ tok4 H' tk s'.out ∧ Fresh H' n' ∧ hget H' L = some (.lp x') ∧ x'.st = .done ∧ x'.pend = some (.exit 3) ∧
    ∀ id ob, hget H id = some ob → id ≠ 2 → id ≠ 8 → id ≠ L → ob ≠ .tok → hget H' id = some ob
def YNext (H : AHeap) (m L : Nat) (x : LoopA) (H' : AHeap) (n' : Nat) : Prop :=
  m ≤ n' ∧ hget H' L = some (.lp x) ∧ Fresh H' n' ∧ ∀ id ob, hget H id = some ob → id ≠ L → hget H' id = some ob

theorem p15y {p : Pap} {b : Blk} {s : LSt} {o : Nat} {tok : Tok} {n i N m0 L l' m : Nat} {sl : Bool} {H : AHeap} (hb : FB p b) (hs : LOK p s) (h64 : s.out.length ≤ 64) (x : Plc) (hx1 : 0 ≤ x.X ∧ x.X ≤ 40000) (hx2 : 0 ≤ x.Y ∧ x.Y ≤ 40000)
    (F : YF p b s o tok n L l' (e15 n i N m0 sl) H m) (hxo : x.X + b.W * p.C ≤ p.W - p.M → x.Y + b.H * p.C ≤ p.H - p.M → XOK p b s x) {R : Bool → AHeap → Nat → Prop}
    (h1 : x.X + b.W * p.C ≤ p.W - p.M → x.Y + b.H * p.C ≤ p.H - p.M → ∀ H' n', YDone (putS p b { x with B := o } s) H m L H' n' → R false H' n')
    (h2 : ¬ (x.X + b.W * p.C ≤ p.W - p.M ∧ x.Y + b.H * p.C ≤ p.H - p.M) → ∀ H' n', YNext H m L ⟨l', .ready, none, 131, e15 n i N m0 sl, #[103], ra15_0, rb15_0⟩ H' n' → R true H' n') :
    AYield Tryd.prog l' [encX x] H m R := by
  obtain ⟨q0, q2, q8, qi, qw, qh, qc, ql, fr, tk, nL, n9⟩ := F
  have hL := fr.lt ql
  have fr' : ∀ id, m ≤ id → hget H id = none := fr
  have hb' := hb
  obtain ⟨c, w, h, mm, q, k, nn, w1, hh1, w2, hh2⟩ := hb'
  refine y15_0 ql rfl (ev_awp T6_ok (ev_evK ?_))
  simp only [kont_nil, k_reg, r_nil, r_alloc, r_st, stE, eget, lk, lkv, AS.put, AS.keep, splice, nT, hget_hset, AVal.cells, List.length_cons, List.length_nil, List.filterMap, List.append_nil, List.nil_append, Option.map_some, true_and, Nat.reduceEqDiff, ↓reduceIte, Nat.reduceAdd, List.drop, List.take, List.drop_succ_cons, Nat.le_refl, Nat.zero_add, Nat.add_zero, c15_0a, renv, List.zip_cons_cons, List.zip_nil_left, List.foldl_cons, List.foldl_nil, fr']
  have d1 : (m = L) = False := eq_false (by omega)
  have d2 : (L = m) = False := eq_false (by omega)
  refine ⟨⟨l', .ready, none, 131, e15 n i N m0 sl, #[103], ra15_0, rb15_0⟩, by simp only [hget_hset, d1, if_false, ql], rfl, ev_awp T6_ok (ev_evK ?_)⟩
  generalize hHb : hset (hset (hset H m _) m _) L _ = Hb
  have g : ∀ (a : Nat) (ob : AObj), a ≠ L → hget H a = some ob → hget Hb a = some ob := by
    intro a ob h1 h2
    have := fr.lt h2
    subst hHb
    simp only [hget_hset]; repeat rw [if_neg (by omega)]
    exact h2
  have frb : Fresh Hb (m + 2) := by
    intro j hj
    subst hHb
    simp only [hget_hset]; repeat rw [if_neg (by omega)]
    exact fr j (by omega)
  have r0 := g _ _ (by have := fr.lt q0; omega) q0
  have r2 := g _ _ (by have := fr.lt q0; omega) q2
  have r8 := g _ _ (by have := fr.lt q0; omega) q8
  have ri := g _ _ (by have := fr.lt q0; omega) qi
  have rw' := g _ _ (by have := fr.lt q0; omega) qw
  have rh := g _ _ (by have := fr.lt q0; omega) qh
  have rc := g _ _ (by have := fr.lt q0; omega) qc
  have rl : hget Hb L = some (.lp ⟨l', .busy, none, 131, e15 n i N m0 sl, #[103], ra15_0, rb15_0⟩) := by subst hHb; simp [hget_hset]
  have rm : hget Hb m = some (.box [.int .i64 x.B, .int .i64 x.P, .int .i64 x.X, .int .i64 x.Y]) := by subst hHb; simp [hget_hset, d2]
  have rtk : tok4 Hb tok s.out := by
    rcases tk with h | ⟨id, z1, z2⟩
    · exact .inl h
    · refine .inr ⟨id, z1, g _ _ (fun e => ?_) z2⟩
      rw [e, ql] at z2; cases z2
  clear hHb
  have e1 := w64_in (x := x.X + b.W * p.C) (by omega) (by omega)
  have e2 := w64_in (x := x.Y + b.H * p.C) (by omega) (by omega)
  have e3 := w64_in (x := p.W - p.M) (by omega) (by omega)
  have e4 := w64_in (x := p.H - p.M) (by omega) (by omega)
  simp only [kont_nil, kont_n, kont_bn, k_skip, k_seq, k_block, k_cond, k_reg, r_nil, r_v, r_vg, r_pick, r_calli, callI, gok, gvb, eget, lk, lkv, oks, AS.put, AS.keep, evk, Opk.opds, aload, isI, toI, isB, toB, sel, mk, icmp, iarith, List.length_cons, List.length_nil, List.filterMap, List.map_cons, List.map_nil, List.nil_append, List.cons_append, Option.map_some, and_true, true_and, forall_const, Nat.reduceEqDiff, ↓reduceIte, Bool.false_eq_true, Nat.reduceAdd, List.drop, List.take, List.take_succ_cons, Nat.reduceLeDiff, Nat.le_refl, List.headD_cons, Bool.true_and, isDiv, false_implies, implies_true, Nat.zero_add, Bool.cond_false_right, imp_self, beq_true, Bool.and_eq_true, decide_eq_true_eq, decide_eq_false_iff_not, ne_eq, and_self, Nat.add_zero, c15_0b, r0, rw', rh, rc, rm, e1, e2, e3, e4]
  refine ⟨fun hf => (p32 p b x s o (n + 2) (n + 20) (n + 21) Hb (m + 2) tok hb hs (hxo hf.1 hf.2) h64 r0 r2 r8 ri rw' rh (by omega) (by omega) (by omega) rtk frb).mono ?_, fun hf => ?_⟩
  · rintro o' H' n' ⟨rfl, hn, tk', k2, k8, ktk, kfr, kF⟩
    have kl := kF L _ rl (by omega) (by omega) (by simp)
    simp only [kont_nil, kont_n, kont_be, k_exit, r_nil, AS.put, AS.keep, List.filterMap, Nat.reduceEqDiff, ↓reduceIte, retK]
    refine ⟨_, kl, h1 hf.1 hf.2 _ _ ⟨(by show m ≤ n'; omega), tk', _, ?_, ?_, ?_, ?_, hget_hset_eq .., rfl, rfl, ?_⟩⟩
    · rw [hget_hset_ne _ _ _ _ (by omega)]; exact k2
    · rw [hget_hset_ne _ _ _ _ (by omega)]; exact k8
    · rcases ktk with h | ⟨id, h1, h2⟩
      · exact .inl h
      · refine .inr ⟨id, h1, ?_⟩
        rw [hget_hset_ne]; exact h2
        rintro rfl; rw [kl] at h2; cases h2
    · intro j hj
      have := kfr.lt kl
      have hj' : n' ≤ j := hj
      rw [hget_hset_ne _ _ _ _ (by omega)]; exact kfr j hj
    · intro id ob h1 h2 h3 h4 h5
      rw [hget_hset_ne _ _ _ _ (fun e => h4 e.symm)]
      exact kF id ob (g id ob h4 h1) h2 h3 h5
  · refine ⟨_, rl, h2 ?_ _ _ ⟨by simp only []; omega, hget_hset_eq .., ?_, ?_⟩⟩
    · rintro ⟨q1, q2⟩; simp [q1, q2] at hf
    · intro j hj
      have hj' : m + 2 ≤ j := hj
      rw [hget_hset_ne _ _ _ _ (by omega)]; exact frb j hj
    · intro id ob h1 h2
      rw [hget_hset_ne _ _ _ _ (fun e => h2 e.symm)]
      exact g id ob h2 h1

theorem p34 (p : Pap) (s : LSt) (H : AHeap) (m : Nat) (hf : Fresh H m) : ACalls Tryd.prog 34 [encP p, .agg [.int .i64 s.pg, .int .i64 s.top, .int .i64 s.nx, .int .i64 s.tall]] H m (fun o H' n' => o = .ret (.fn (.func 43) [] [.ptr (m + 1) 0, .ptr m 0]) ∧ H' = hset (hset H m (boxP p)) (m + 1) (boxA s) ∧ n' = m + 3) := by
  have hf' : ∀ id, m ≤ id → hget H id = none := hf
  refine a34 (ev_awp T6_ok (ev_evK ?_))
  simp only [kont_nil, kont_n, k_ret, k_seq, k_reg, r_nil, r_v, r_box, penv, postC, rcs, rc1, rvS, eget, lk, lkv, oks, AS.put, AS.keep, evk, Opk.opds, nT, hget_hset, AVal.cells, List.length_cons, List.length_nil, List.filterMap, List.map_cons, List.map_nil, List.nil_append, Option.map_some, reduceCtorEq, Nat.reduceEqDiff, ↓reduceIte, Nat.reduceAdd, Nat.le_refl, Nat.zero_add, natE1, and_self, Nat.add_zero, Nat.le_add_right, c34, hf']

/-- How the candidates end: with a block in its place. -/
def RDone (s' : LSt) (H : AHeap) (m L : Nat) : AOut → AHeap → Nat → Prop := fun o H' n' => o = .ret (.tup []) ∧ YDone s' H m L H' n'
theorem YF.next {p : Pap} {b : Blk} {s : LSt} {o : Nat} {tok : Tok} {n L l' m n' : Nat} {env : List (Nat × Bool × AVal)} {H H' : AHeap} (F : YF p b s o tok n L l' env H m) (h : YNext H m L ⟨l', .ready, none, 131, env, #[103], ra15_0, rb15_0⟩ H' n') : YF p b s o tok n L l' env H' n' := by
  obtain ⟨q0, q2, q8, qi, qw, qh, qc, ql, fr, tk, nL, n9⟩ := F
  obtain ⟨h1, h2, h3, h4⟩ := h
  refine ⟨h4 _ _ q0 (by omega), h4 _ _ q2 (by omega), h4 _ _ q8 (by omega), h4 _ _ qi (by omega), h4 _ _ qw (by omega), h4 _ _ qh (by omega), h4 _ _ qc (by omega), h2, h3, ?_, nL, n9⟩
  rcases tk with h | ⟨id, k1, k2⟩
  · exact .inl h
  · refine .inr ⟨id, k1, h4 _ _ k2 ?_⟩
    rintro rfl; rw [ql] at k2; cases k2
theorem YDone.back {s' : LSt} {H H' H'' : AHeap} {m n' n'' L : Nat} {x : LoopA} (h : YNext H m L x H' n') (k : YDone s' H' n' L H'' n'') : YDone s' H m L H'' n'' := by
  obtain ⟨h1, h2, h3, h4⟩ := h
  obtain ⟨k1, tk, x', k2, k3, k4, k5, k6, k7, k8, k9⟩ := k
  exact ⟨by omega, tk, x', k2, k3, k4, k5, k6, k7, k8, fun id ob q1 q2 q3 q4 q5 => k9 id ob (h4 id ob q1 q4) q2 q3 q4 q5⟩

theorem p43 {p : Pap} {b : Blk} {s : LSt} {o : Nat} {tok : Tok} {n i N m0 L l' m : Nat} {sl : Bool} {H : AHeap} (hb : FB p b) (hs : LOK p s) (h64 : s.out.length ≤ 64)
    (F : YF p b s o tok n L l' (e15 n i N m0 sl) H m) (hA : hget H (m0 + 1) = some (boxA s)) (hP : hget H m0 = some (boxP p)) (hm : m0 + 1 < L) (h0 : s.out.length ≠ 0) (hbeg : ¬ (b.K = 2 ∧ s.sol = false)) :
    ACalls Tryd.prog 43 [.fn (.yield l') [] [], .ptr (m0 + 1) 0, .ptr m0 0] H m (RDone (putS p b (layX p b o s) s) H m L) := by
  have hX := layX_ok (i := o) hb hs
  have hb' := hb
  obtain ⟨c, w, h, mm, q, k, nn, w1, hh1, w2, hh2⟩ := hb'
  obtain ⟨a1, a2, a3, a4, a5, a6, a7, a8, a9⟩ := hs
  have hs : LOK p s := ⟨a1, a2, a3, a4, a5, a6, a7, a8, a9⟩
  have e1 := w64_in (x := s.top + s.tall) (by omega) (by omega)
  have e2 := w64_in (x := s.top + s.tall + p.S) (by omega) (by omega)
  have e3 := w64_in (x := s.pg + 1) (by omega) (by omega)
  refine a43 (ev_awp T6_ok (ev_evK ?_))
  simp only [k_reg, r_v, r_calli, callI, penv, eget, lk, lkv, oks, AS.put, evk, evB_eq, allB, fillB, splice, Opk.opds, aload, mk, nT, AVal.cells, List.length_cons, List.length_nil, List.map_cons, List.map_nil, List.append_nil, List.nil_append, List.cons_append, reduceCtorEq, true_and, Nat.reduceEqDiff, ↓reduceIte, Bool.false_eq_true, Nat.reduceAdd, List.drop, List.take, List.drop_succ_cons, List.take_succ_cons, Nat.reduceLeDiff, Nat.le_refl, List.headD_cons, Nat.zero_add, and_self, Nat.add_zero, c43, hA]
  refine p15y hb hs h64 ⟨0, s.pg, s.nx, s.top⟩ (by simp only []; omega) (by simp only []; omega) F ?_ ?_ ?_
  · intro q1 q2
    have : layX p b o s = ⟨o, s.pg, s.nx, s.top⟩ := by unfold layX; rw [if_neg h0, if_neg hbeg, if_pos ⟨q1, q2⟩]
    rw [this] at hX
    exact ⟨hX.p0, hX.p1, hX.z, hX.x0, hX.x1, hX.y0, hX.y1⟩
  · intro q1 q2 H' n' hd
    have : layX p b o s = ⟨o, s.pg, s.nx, s.top⟩ := by unfold layX; rw [if_neg h0, if_neg hbeg, if_pos ⟨q1, q2⟩]
    simp only [kont_nil, r_nil, r_v, r_vg, r_pick, r_callgi, callI, postC, rcs, rvS, gok, gvb, eget, lk, lkv, oks, AS.put, AS.keep, evk, evB_eq, allB, fillB, splice, Opk.opds, aload, isI, toI, isB, toB, sel, mk, iarith, nT, AVal.cells, List.length_cons, List.length_nil, List.filterMap, List.map_cons, List.map_nil, List.nil_append, List.cons_append, reduceCtorEq, and_true, true_and, forall_const, Nat.reduceEqDiff, ↓reduceIte, Bool.false_eq_true, Nat.reduceAdd, List.drop, List.take, List.drop_succ_cons, List.take_succ_cons, Nat.reduceLeDiff, Int.reduceEq, Nat.le_refl, isDiv, false_implies, implies_true, Nat.zero_add, imp_self, beq_true, ne_eq, not_false_eq_true, impA1, and_self, Nat.add_zero, Bool.and_false, cond_false, yldK]
    rw [this]
    exact ⟨rfl, hd⟩
  intro hn1 H1 n1 hd1
  have F1 := F.next hd1
  have hA1 := hd1.2.2.2 _ _ hA (by omega)
  have hP1 := hd1.2.2.2 _ _ hP (by omega)
  simp only at hn1
  simp only [kont_nil, r_nil, r_v, r_vg, r_pick, r_callgi, callI, postC, rcs, rvS, gok, gvb, eget, lk, lkv, oks, AS.put, AS.keep, evk, evB_eq, allB, fillB, splice, Opk.opds, aload, isI, toI, isB, toB, sel, mk, iarith, nT, AVal.cells, List.length_cons, List.length_nil, List.filterMap, List.map_cons, List.map_nil, List.append_nil, List.nil_append, List.cons_append, reduceCtorEq, and_true, true_and, forall_const, Nat.reduceEqDiff, ↓reduceIte, Bool.false_eq_true, Nat.reduceAdd, List.drop, List.take, List.drop_succ_cons, List.take_succ_cons, Nat.reduceLeDiff, Int.reduceEq, Nat.le_refl, List.headD_cons, Bool.and_true, beq_self_eq_true, isDiv, false_implies, implies_true, Nat.zero_add, imp_self, beq_true, ne_eq, not_false_eq_true, impA1, and_self, Nat.add_zero, Bool.and_false, cond_true, cond_false, yldK, hA1, hP1, e1, e2, e3]
  refine p15y hb hs h64 ⟨0, s.pg, p.M, s.top + s.tall + p.S⟩ (by simp only []; omega) (by simp only []; omega) F1 ?_ ?_ ?_
  · intro q1 q2
    simp only at q1 q2
    have : layX p b o s = ⟨o, s.pg, p.M, s.top + s.tall + p.S⟩ := by unfold layX; rw [if_neg h0, if_neg hbeg, if_neg hn1, if_pos q2]
    rw [this] at hX
    exact ⟨hX.p0, hX.p1, hX.z, hX.x0, hX.x1, hX.y0, hX.y1⟩
  · intro q1 q2 H' n' hd
    simp only at q1 q2
    have : layX p b o s = ⟨o, s.pg, p.M, s.top + s.tall + p.S⟩ := by unfold layX; rw [if_neg h0, if_neg hbeg, if_neg hn1, if_pos q2]
    simp only [kont_nil, r_nil, r_v, r_vg, r_pick, r_callgi, callI, postC, rcs, rvS, gok, gvb, eget, lk, lkv, oks, AS.put, AS.keep, evk, evB_eq, allB, fillB, splice, Opk.opds, aload, isI, toI, isB, toB, sel, mk, iarith, nT, AVal.cells, List.length_cons, List.length_nil, List.filterMap, List.map_cons, List.map_nil, List.nil_append, List.cons_append, reduceCtorEq, and_true, true_and, forall_const, Nat.reduceEqDiff, ↓reduceIte, Bool.false_eq_true, Nat.reduceAdd, List.drop, List.take, List.drop_succ_cons, List.take_succ_cons, Nat.reduceLeDiff, Int.reduceEq, Nat.le_refl, isDiv, false_implies, implies_true, Nat.zero_add, imp_self, beq_true, ne_eq, not_false_eq_true, impA1, and_self, Nat.add_zero, Bool.and_false, cond_true, cond_false, yldK]
    rw [this]
    exact ⟨rfl, hd.back hd1⟩
  intro hn2 H2 n2 hd2
  have F2 := F1.next hd2
  have hA2 := hd2.2.2.2 _ _ hA1 (by omega)
  have hP2 := hd2.2.2.2 _ _ hP1 (by omega)
  simp only at hn2
  have hn2' : ¬ (s.top + s.tall + p.S + b.H * p.C ≤ p.H - p.M) := fun q => hn2 ⟨by omega, q⟩
  have hXe : layX p b o s = ⟨o, s.pg + 1, p.M, p.M⟩ := by unfold layX; rw [if_neg h0, if_neg hbeg, if_neg hn1, if_neg hn2']
  simp only [kont_nil, r_nil, r_v, r_vg, r_pick, r_callgi, callI, postC, rcs, rvS, gok, gvb, eget, lk, lkv, oks, AS.put, AS.keep, evk, evB_eq, allB, fillB, splice, Opk.opds, aload, isI, toI, isB, toB, sel, mk, iarith, nT, AVal.cells, List.length_cons, List.length_nil, List.filterMap, List.map_cons, List.map_nil, List.append_nil, List.nil_append, List.cons_append, reduceCtorEq, and_true, true_and, forall_const, Nat.reduceEqDiff, ↓reduceIte, Bool.false_eq_true, Nat.reduceAdd, List.drop, List.take, List.drop_succ_cons, List.take_succ_cons, Nat.reduceLeDiff, Int.reduceEq, Nat.le_refl, List.headD_cons, Bool.and_true, beq_self_eq_true, isDiv, false_implies, implies_true, Nat.zero_add, ne_eq, not_false_eq_true, impA1, and_self, Nat.add_zero, cond_true, yldK, hA2, hP2, e3]
  refine p15y hb hs h64 ⟨0, s.pg + 1, p.M, p.M⟩ (by simp only []; omega) (by simp only []; omega) F2 ?_ ?_ ?_
  · intro q1 q2
    rw [hXe] at hX
    exact ⟨hX.p0, hX.p1, hX.z, hX.x0, hX.x1, hX.y0, hX.y1⟩
  · intro q1 q2 H' n' hd
    simp only [kont_nil, r_nil, r_pick, postC, rcs, rvS, eget, lk, lkv, AS.put, AS.keep, isB, toB, sel, List.filterMap, reduceCtorEq, true_and, forall_const, Nat.reduceEqDiff, ↓reduceIte, implies_true, cond_true, yldK]
    rw [hXe]
    exact ⟨rfl, (hd.back hd2).back hd1⟩
  · intro hn3
    exact absurd ⟨by simp only []; omega, by simp only []; omega⟩ hn3

end Go.AM
end

/- Booklets: laying out, part 3: Layout. Conditions: none. -/
section
set_option maxRecDepth 10000
set_option linter.unusedSimpArgs false
set_option linter.unusedVariables false
set_option maxHeartbeats 1000000
set_option linter.unusedVariables false
set_option linter.unusedSimpArgs false
namespace Go.AM
open Go.Proofs

theorem T6_13 (a : List AVal) (H : AHeap) : T6 13 a H = s13 a H := rfl
theorem T6_14 (a : List AVal) (H : AHeap) : T6 14 a H = s13 a H := rfl
theorem T6_33 (a : List AVal) (H : AHeap) : T6 33 a H = s33 a H := rfl
theorem T6_35 (a : List AVal) (H : AHeap) : T6 35 a H = s35 a H := rfl

theorem ordS_len {l : List Blk} (hK : okK l) : (ordS l).length = l.length := by
  have := (three_perm (l := l) (List.range l.length) fun i hi => kd_ok hK (by simpa using hi)).length_eq
  simpa [ordS] using this
theorem ordS_lt {l : List Blk} {i : Nat} (h : i < (ordS l).length) : (ordS l)[i] < l.length := by
  have hm : (ordS l)[i] ∈ ordS l := List.getElem_mem h
  generalize (ordS l)[i] = o at hm
  simp only [ordS, List.mem_append, List.mem_filter, List.mem_range] at hm
  rcases hm with hm | hm | hm <;> exact hm.1
theorem blkN_get {l : List Blk} {i : Nat} (h : i < l.length) : blkN l i = l[i] := by simp [blkN, h]

abbrev H3 (p : Pap) (l : List Blk) : AHeap := hset (hset (hset hnil 0 (boxP p)) 1 (.box [.sl (.none 4) (l.map encB)])) 2 (.box [.sl .nil []])
abbrev arrO (l : List Blk) : List AVal := (ordS l).map fun i => .int .i64 (i : Nat)

structure V15 where
  i : Nat
  H : AHeap
  n : Nat
  tok : Tok
  s : LSt
structure I15 (p : Pap) (l : List Blk) (v : V15) : Prop where
  il : v.i ≤ l.length
  se : v.s = ((ordS l).take v.i).foldl (lay1 p l) lay0
  ol : v.s.out.length = v.i
  ok : LOK p v.s
  g0 : hget v.H 0 = some (boxP p)
  g1 : hget v.H 1 = some (.box [.sl (.none 4) (l.map encB)])
  g2 : hget v.H 2 = some (.box [.sl v.tok (v.s.out.map encX)])
  g6 : hget v.H 6 = some (.arr 1 (arrO l))
  g8 : hget v.H 8 = some (boxA v.s)
  tk : tok4 v.H v.tok v.s.out
  fr : Fresh v.H v.n
  n9 : 9 ≤ v.n
def st15 (l : List Blk) (v : V15) : AS :=
  ⟨[(2, true, .ptr 0 0), (3, true, .ptr 1 0), (4, true, .ptr 2 0), (5, true, .int .i64 0), (9, true, .ptr 8 0), (10, true, .bool v.s.sol), (40, true, .ref 6 1 0 l.length l.length), (41, true, .int .i64 l.length), (42, true, .int .i64 v.i)], v.H, v.n⟩

theorem p15 (p : Pap) (l : List Blk) : Pur Tryd.prog 15 [encP p, .sl (.none 4) (l.map encB)] (.tup [.sl (.none 4) ((layS p l).1.map encX), .int .i64 (layS p l).2]) := by
  refine .mk ⟨by simp [unders, AVal.under], ⟨trivial, encB_under 0 l⟩, trivial⟩ ⟨⟨trivial, encX_under 0 _⟩, trivial, trivial⟩ (a15 (ev_awp T6_ok (ev_evK ?_)))
  by_cases hc : checkS p l = 0
  case neg =>
    simp only [kont_nil, kont_n, kont_r, k_skip, k_ret, k_seq, k_block, k_cond, k_reg, r_nil, r_v, r_alloc, r_box, r_st, r_call, r_mks, stE, mksE, callT, penv, postC, rcs, rc1, rvS, eget, lk, lkv, oks, AS.put, AS.keep, evk, splice, Opk.opds, aload, isI, isInt, toI, isB, toB, mk, icmp, nT, hget_hset, hget_nil, AVal.cells, Tok.esz, List.length_cons, List.length_nil, List.filterMap, List.map_cons, List.map_nil, List.append_nil, List.nil_append, Option.map_some, reduceCtorEq, and_true, true_and, forall_const, Nat.reduceEqDiff, ↓reduceIte, Bool.false_eq_true, Nat.reduceAdd, List.drop, List.take, List.drop_succ_cons, List.take_succ_cons, Nat.le_refl, List.headD_cons, false_implies, Nat.zero_add, Bool.not_eq_true', Bool.not_eq_false', and_self, true_or, ret_eq, Nat.add_zero, decide_false, c15, T6_13, s13, List.length_map, pap_eta, encd_map, decB_map, hc, rcell]
    have : layS p l = ([], checkS p l) := by unfold layS; rw [if_neg hc]
    rw [this]
    exact Wk.tup2 (Wk.sl (.inr rfl)) (Wk.refl _)
  obtain ⟨hl, hg, hfit⟩ := check_ok hc
  have hb : ∀ i < l.length, FB p (blkN l i) := fun i hi => by rw [blkN_get hi]; exact FB.of hg (hfit i hi)
  have hK : okK l := fun b hb' => by
    obtain ⟨i, hi, rfl⟩ := List.getElem_of_mem hb'
    have := (hb i hi).k; rwa [blkN_get hi] at this
  have hol := ordS_len hK
  simp only [kont_nil, kont_n, kont_r, k_skip, k_ret, k_seq, k_block, k_cond, k_reg, r_nil, r_v, r_alloc, r_box, r_st, r_call, r_mks, stE, mksE, callT, penv, postC, rcs, rc1, rvS, eget, lk, lkv, oks, AS.put, AS.keep, evk, splice, Opk.opds, aload, isI, isInt, toI, isB, toB, mk, icmp, nT, hget_hset, hget_nil, AVal.cells, Tok.esz, List.length_cons, List.length_nil, List.filterMap, List.map_cons, List.map_nil, List.append_nil, List.nil_append, Option.map_some, reduceCtorEq, and_true, true_and, forall_const, Nat.reduceEqDiff, ↓reduceIte, Bool.false_eq_true, Nat.reduceAdd, List.drop, List.take, List.drop_succ_cons, List.take_succ_cons, Nat.le_refl, List.headD_cons, false_implies, Nat.zero_add, Bool.not_eq_true', Bool.not_eq_false', and_self, true_or, ret_eq, Nat.add_zero, decide_true, c15, T6_13, s13, List.length_map, pap_eta, encd_map, decB_map, hc, small, Int.toNat_natCast]
  refine ⟨by omega, ?_⟩
  refine k_loop (fun i : Nat => ⟨[(2, true, .ptr 0 0), (3, true, .ptr 1 0), (4, true, .ptr 2 0), (5, true, .int .i64 0), (7, true, .ref 6 1 0 l.length l.length), (28, true, .int .i64 l.length), (29, true, .int .i64 i)], Sx (H3 p l) 6 l.length (fun k => if k < i then k else 0), 8⟩)
    (fun i => i ≤ l.length) (fun i => l.length - i) 0 ?_ (Nat.zero_le _) ?_
  · simp only [Nat.not_lt_zero, if_false]
    have : arrF l.length (fun _ => 0) = List.replicate l.length (.int .i64 0) := by
      refine List.ext_getElem (by simp [arrF]) fun k h1 h2 => ?_
      simp [arrF]
    simp only [Sx, this]
    rfl
  intro i hi
  by_cases hlt : i < l.length
  · have e := w64_succ (k := i) (by omega)
    simp only [kont_nil, kont_n, kont_e, kont_bn, kont_be, k_skip, k_exit, k_seq, k_block, k_cond, k_reg, r_nil, r_v, r_st, r_calli, stE, callI, lpQ_n, lpQ_e, eget, lk, lkv, oks, AS.put, AS.keep, evk, Opk.opds, isI, isInt, toI, isB, toB, icmp, iarith, nT, hget_hset, AVal.cells, List.length_cons, List.length_nil, List.filterMap, List.map_cons, List.map_nil, List.append_nil, List.nil_append, Option.map_some, reduceCtorEq, and_true, true_and, forall_const, Nat.reduceEqDiff, ↓reduceIte, Bool.false_eq_true, Int.reduceEq, isDiv, false_implies, implies_true, Nat.zero_add, ne_eq, not_false_eq_true, and_self, Nat.add_zero, decide_true, Int.ofNat_lt, hlt, Int.natCast_nonneg, Int.toNat_natCast, arrF_len, arrF_set, hset_hset, e]
    refine .mk (i + 1) ?_ hlt (by omega)
    have : upd (fun k => if k < i then k else 0) i i = fun k => if k < i + 1 then k else 0 := by
      funext k
      simp only [upd]
      repeat' split
      all_goals first | rfl | (exfalso; omega) | omega
    rw [this]
  have hi' : i = l.length := by omega
  subst hi'
  have ehs : Sx (H3 p l) 6 l.length (fun k => if k < l.length then k else 0) = Sx (H3 p l) 6 l.length fun k => k := by
    have : arrF l.length (fun k => if k < l.length then k else 0) = arrF l.length fun k => k := by
      refine List.ext_getElem (by simp [arrF]) fun k h1 h2 => ?_
      have : k < l.length := by simpa [arrF] using h1
      simp [arrF, this]
    simp only [Sx, this]
  rw [ehs]
  simp only [kont_nil, kont_n, kont_e, kont_bn, kont_be, k_skip, k_exit, k_seq, k_block, k_cond, k_reg, r_nil, r_v, r_st, r_calli, stE, callI, lpQ_n, lpQ_e, eget, lk, lkv, oks, AS.put, AS.keep, evk, Opk.opds, isI, isInt, toI, isB, toB, icmp, iarith, nT, hget_hset, AVal.cells, List.length_cons, List.length_nil, List.filterMap, List.map_cons, List.map_nil, List.append_nil, List.nil_append, Option.map_some, and_true, true_and, forall_const, Nat.reduceEqDiff, ↓reduceIte, Bool.false_eq_true, Int.reduceEq, isDiv, false_implies, implies_true, Nat.zero_add, ne_eq, not_false_eq_true, and_self, Nat.add_zero, decide_false, Int.ofNat_lt, hlt]
  refine (p30 (H := H3 p l) (id := 6) (lb := 1) ⟨by simp [hget_hset], by simp, hK, by omega⟩ 8 hl).mono ?_
  rintro o H' n' ⟨rfl, rfl, rfl⟩
  simp only [kont_n, k_skip, k_seq, k_block, k_reg, r_nil, r_v, r_alloc, eget, lk, lkv, oks, AS.put, AS.keep, evk, Opk.opds, hget_hset, hget_nil, List.filterMap, Option.map_some, reduceCtorEq, true_and, Nat.reduceEqDiff, ↓reduceIte, Nat.reduceAdd, and_self, Nat.add_zero, retK]
  refine k_loop (st15 l) (I15 p l) (fun v => l.length - v.i) ⟨0, hset (hset (H3 p l) 6 (.arr 1 (arrO l))) 8 (boxA lay0), 9, .nil, lay0⟩ rfl
    ⟨Nat.zero_le _, rfl, rfl, LOK.zero p, rfl, rfl, rfl, rfl, rfl, .inl ⟨rfl, rfl⟩, ?_, Nat.le_refl _⟩ ?_
  · intro m hm
    simp only [] at hm
    simp only [hget_hset, hget_nil]
    repeat rw [if_neg (by omega)]
  rintro ⟨i, H, n, tok, s⟩ ⟨il, se, ol, ok, g0, g1, g2, g6, g8, tk, fr, n9⟩
  simp only at il se ol ok g0 g1 g2 g6 g8 tk fr n9
  by_cases hlt : i < l.length
  case neg =>
    have hi : i = l.length := by omega
    simp only [kont_nil, kont_n, kont_e, kont_be, k_skip, k_exit, k_ret, k_seq, k_block, k_cond, k_reg, k_regx, r_nil, rx_nil, r_v, r_vg, r_pick, r_alloc, r_st, r_call, r_calli, rx_v, rx_v1, rx_st2, rx_alloc, stE, callT, callI, lpQ_e, postC, rcs, rc1, rvS, gok, gvb, eget, lk, lkv, oks, AS.put, AS.keep, evk, evB_eq, allB, fillB, splice, Opk.opds, aload, isI, isInt, toI, isB, toB, sel, mk, icmp, iarith, nT, below, above, hget_hset, AVal.cells, Tok.esz, List.length_cons, List.length_nil, List.filterMap, List.map_cons, List.map_nil, List.append_nil, List.nil_append, List.cons_append, Option.map_some, reduceCtorEq, and_true, true_and, forall_const, Nat.reduceEqDiff, ↓reduceIte, Bool.false_eq_true, Nat.reduceAdd, List.drop, List.take, List.drop_succ_cons, List.take_succ_cons, Nat.reduceLeDiff, Int.reduceEq, Nat.le_refl, List.headD_cons, Bool.true_and, isDiv, false_implies, implies_true, Nat.zero_add, Bool.cond_true_left, Bool.cond_false_right, imp_self, beq_true, beq_false, Bool.not_eq_true', Bool.and_eq_true, decide_eq_true_eq, decide_eq_false_iff_not, ne_eq, not_false_eq_true, natE1, natE2, and_self, ret_eq, Nat.add_zero, Nat.add_assoc, Nat.le_add_right, decide_false, st15, Int.ofNat_lt, hlt, g2, rcell]
    have e : layS p l = (s.out, 0) := by
      unfold layS
      rw [if_pos hc, se, hi, ← hol, List.take_length]
    rw [e]
    refine Wk.tup2 (Wk.sl ?_) (Wk.refl _)
    rcases tk with ⟨h1, h2⟩ | ⟨id, h1, h2⟩
    · exact .inr (by rw [h2]; rfl)
    · exact .inl (by rw [h1]; rfl)
  have hlo : i < (ordS l).length := by omega
  have hoi := ordS_lt hlo
  generalize hoo : (ordS l)[i] = o at hoi
  have hbo := hb o hoi
  rw [blkN_get hoi] at hbo
  have hfr' : ∀ id, n ≤ id → hget H id = none := fr
  have hgo : (arrO l)[i]? = some (.int .i64 o) := by simp [arrO, hlo, hoo]
  have hla : (arrO l).length = l.length := by simp [arrO, hol]
  have a1 : (1 = n + 2) = False := eq_false (by omega)
  have a2 : (0 = n + 2) = False := eq_false (by omega)
  have a3 : (6 = n + 2) = False := eq_false (by omega)
  have a4 : (8 = n + 2) = False := eq_false (by omega)
  have b1 : (n + 2 = 1) = False := eq_false (by omega)
  have b2 : (n + 2 = 0) = False := eq_false (by omega)
  have b3 : (n + 2 = 6) = False := eq_false (by omega)
  have b4 : (n + 2 = 8) = False := eq_false (by omega)
  have b5 : (n = 4) = False := eq_false (by omega)
  have b6 : (n = 6) = False := eq_false (by omega)
  have w1 := w64_in (x := (l[o]).W * p.C) (by have := hbo.w1; omega) (by have := hbo.w1; omega)
  have w2 := w64_in (x := (l[o]).H * p.C) (by have := hbo.h1; omega) (by have := hbo.h1; omega)
  simp only [k_seq, k_reg, r_nil, r_v, eget, lk, lkv, oks, AS.put, AS.keep, evk, Opk.opds, isI, toI, icmp, List.filterMap, Option.map_some, true_and, Nat.reduceEqDiff, ↓reduceIte, and_self, Nat.add_zero, decide_true, st15, Int.ofNat_lt, hlt]
  rw [kont_n]
  simp only [kont_nil, kont_e, kont_be, k_skip, k_exit, k_seq, k_cond, lpQ_e, eget, lk, lkv, isB, toB, reduceCtorEq, and_true, true_and, forall_const, Nat.reduceEqDiff, ↓reduceIte, false_implies]
  rw [kont_n]
  simp only [k_seq, k_block, k_reg, r_nil, r_v, r_alloc, r_st, stE, eget, lk, lkv, oks, AS.put, AS.keep, evk, splice, Opk.opds, aload, isInt, toI, mk, nT, hget_hset, AVal.cells, List.length_cons, List.length_nil, List.filterMap, List.nil_append, Option.map_some, and_true, true_and, Nat.reduceEqDiff, ↓reduceIte, Bool.false_eq_true, List.drop, List.take, Nat.le_refl, Nat.zero_add, and_self, Int.ofNat_lt, hlt]
  rw [kont_n]
  simp only [k_seq, k_regx, rx_nil, rx_v, rx_v1, rx_st2, rx_alloc, stE, eget, lk, lkv, oks, AS.put, AS.keep, evk, splice, Opk.opds, aload, isI, isInt, toI, mk, iarith, nT, below, above, hget_hset, AVal.cells, Tok.esz, List.length_cons, List.length_nil, List.filterMap, List.append_nil, List.nil_append, Option.map_some, reduceCtorEq, and_true, true_and, Nat.reduceEqDiff, ↓reduceIte, Bool.false_eq_true, Nat.reduceAdd, List.drop, List.take, List.drop_succ_cons, List.take_succ_cons, Nat.reduceLeDiff, Nat.le_refl, List.headD_cons, isDiv, false_implies, Nat.zero_add, ne_eq, natE1, natE2, and_self, Nat.add_assoc, Nat.le_add_right, Int.ofNat_lt, hlt, Int.natCast_nonneg, Int.toNat_natCast, g6, hla, hgo, Option.getD_some, hfr']
  rw [kont_n]
  simp only [k_seq, k_reg, r_nil, r_v, r_alloc, r_st, stE, eget, lk, lkv, oks, AS.put, AS.keep, evk, splice, Opk.opds, nT, hget_hset, AVal.cells, List.length_cons, List.length_nil, List.filterMap, List.map_cons, List.map_nil, List.append_nil, List.nil_append, Option.map_some, reduceCtorEq, true_and, Nat.reduceEqDiff, ↓reduceIte, Nat.reduceAdd, List.drop, List.take, List.drop_succ_cons, List.take_succ_cons, Nat.reduceLeDiff, Nat.le_refl, List.headD_cons, Nat.zero_add, natE1, and_self, Nat.add_assoc, Nat.le_add_right, hoi, g0, g1, List.length_map, List.getElem?_map, List.getElem?_eq_getElem hoi, Option.getD_some, hfr', w1, w2]
  refine ⟨by omega, by omega, by omega, by omega, by omega, by omega, ?_⟩
  generalize hH2 : hset (hset (hset (hset (hset (hset (hset (hset H (n + 2) _) (n + 2) _) (n + 20) _) (n + 21) _) (n + 20) _) (n + 21) _) (n + 25) _) (n + 25) _ = H2
  have gold : ∀ id ob, hget H id = some ob → hget H2 id = some ob := by
    intro id ob ho
    have := fr.lt ho
    subst hH2
    simp only [hget_hset]; repeat rw [if_neg (by omega)]
    exact ho
  have qi : hget H2 (n + 2) = some (.box [.int .i64 o]) := by subst hH2; simp [hget_hset]
  have qw : hget H2 (n + 20) = some (.box [.int .i64 ((l[o]).W * p.C)]) := by subst hH2; simp [hget_hset]
  have qh : hget H2 (n + 21) = some (.box [.int .i64 ((l[o]).H * p.C)]) := by subst hH2; simp [hget_hset]
  have qc : hget H2 (n + 25) = some (.box [.fn (.func 32) [] [.ptr (n + 2) 0, .ptr 2 0, .ptr 0 0, .ptr 8 0, .ptr (n + 20) 0, .ptr (n + 21) 0]]) := by subst hH2; simp [hget_hset]
  have q0 := gold _ _ g0
  have q1 := gold _ _ g1
  have q2 := gold _ _ g2
  have q6 := gold _ _ g6
  have q8 := gold _ _ g8
  have tk2 : tok4 H2 tok s.out := tk.imp id fun ⟨id, h1, h2⟩ => ⟨id, h1, gold _ _ h2⟩
  have fr2 : Fresh H2 (n + 27) := by
    intro m hm
    subst hH2
    simp only [hget_hset]; repeat rw [if_neg (by omega)]
    exact fr m (by omega)
  clear hH2 gold
  rw [kont_n]
  simp only [k_seq, k_reg, r_nil, r_v, r_vg, r_pick, gok, gvb, eget, lk, lkv, oks, AS.put, AS.keep, evk, Opk.opds, aload, isI, isInt, toI, isB, toB, sel, mk, icmp, AVal.cells, Tok.esz, List.length_cons, List.length_nil, List.filterMap, Option.map_some, and_true, true_and, forall_const, Nat.reduceEqDiff, ↓reduceIte, Bool.false_eq_true, Nat.reduceAdd, List.drop, List.take, List.take_succ_cons, Nat.reduceLeDiff, Nat.le_refl, List.headD_cons, Bool.true_and, implies_true, Nat.zero_add, Bool.cond_false_right, imp_self, beq_true, decide_eq_true_eq, decide_eq_false_iff_not, and_self, Nat.add_zero, q1, qi, Int.ofNat_lt, hoi, Int.natCast_nonneg, Int.toNat_natCast, List.length_map, List.getElem?_map, List.getElem?_eq_getElem hoi, Option.getD_some]
  rw [kont_n]
  simp only [k_seq, k_reg, r_nil, r_v, r_vg, r_pick, gok, gvb, eget, lk, lkv, oks, AS.put, AS.keep, evk, Opk.opds, isB, toB, sel, List.filterMap, Option.map_some, true_and, forall_const, Nat.reduceEqDiff, ↓reduceIte, Bool.true_and, implies_true, Bool.cond_true_left, imp_self, beq_false, Bool.not_eq_true', and_self, Nat.add_zero]
  rw [kont_n]
  simp only [k_seq, k_reg, r_nil, r_v, eget, lk, lkv, oks, AS.put, AS.keep, evk, Opk.opds, aload, isI, toI, mk, icmp, List.length_cons, List.length_nil, List.filterMap, Option.map_some, true_and, Nat.reduceEqDiff, ↓reduceIte, Bool.false_eq_true, List.drop, List.take, List.take_succ_cons, Nat.le_refl, List.headD_cons, Nat.zero_add, and_self, Nat.add_zero, q2, List.length_map]
  have hsol : (s.sol || decide ((l[o]).K = 2) && !s.sol) = (s.sol || decide ((l[o]).K = 2)) := by cases s.sol <;> simp
  rw [hsol]
  have hX := layX_ok (i := o) hbo ok
  have hlay : lay1 p l s o = putS p l[o] (layX p l[o] o s) s := by unfold lay1; rw [blkN_get hoi]
  have ei := w64_succ (k := i) (by omega)
  have fin : ∀ tk' H' n', n ≤ n' → hget H' 0 = some (boxP p) → hget H' 1 = some (.box [.sl (.none 4) (l.map encB)]) → hget H' 6 = some (.arr 1 (arrO l)) →
      hget H' 2 = some (.box [.sl tk' ((putS p l[o] (layX p l[o] o s) s).out.map encX)]) → hget H' 8 = some (boxA (putS p l[o] (layX p l[o] o s) s)) → tok4 H' tk' (putS p l[o] (layX p l[o] o s) s).out → Fresh H' n' →
      I15 p l ⟨i + 1, H', n', tk', putS p l[o] (layX p l[o] o s) s⟩ := by
    intro tk' H' n' h1 h2 h3 h4 h5 h6 h7 h8
    refine ⟨hlt, ?_, ?_, putS_ok hbo ok hX, h2, h3, h5, h4, h6, h7, h8, by simp only []; omega⟩
    · simp only []
      rw [List.take_succ_eq_append_getElem hlo, List.foldl_append, ← se, hoo]
      exact hlay.symm
    · simp only [putS, List.length_append, List.length_cons, List.length_nil]; omega
  have h64 : s.out.length ≤ 64 := by omega
  by_cases hz : s.out.length = 0
  · have hz' : ((s.out.length : Int) = 0) = True := eq_true (by omega)
    have hXe : layX p l[o] o s = ⟨o, 0, p.M, p.M⟩ := by unfold layX; rw [if_pos hz]
    rw [kont_n]
    simp only [k_skip, k_seq, k_cond, k_reg, r_v, r_calli, callI, eget, lk, lkv, oks, AS.put, evk, evB_eq, allB, fillB, splice, Opk.opds, aload, isB, toB, mk, nT, AVal.cells, List.length_cons, List.length_nil, List.map_cons, List.map_nil, List.append_nil, List.nil_append, List.cons_append, reduceCtorEq, and_true, true_and, forall_const, Nat.reduceEqDiff, ↓reduceIte, Bool.false_eq_true, Nat.reduceAdd, List.drop, List.take, List.drop_succ_cons, List.take_succ_cons, Nat.reduceLeDiff, Nat.le_refl, List.headD_cons, false_implies, Nat.zero_add, and_self, Nat.add_zero, decide_true, hz', qc, q0]
    rw [hXe] at hX
    refine (p32 p l[o] ⟨0, 0, p.M, p.M⟩ s o (n + 2) (n + 20) (n + 21) H2 (n + 27) tok hbo ok ⟨hX.p0, hX.p1, hX.z, hX.x0, hX.x1, hX.y0, hX.y1⟩ h64 q0 q2 q8 qi qw qh (by omega) (by omega) (by omega) tk2 fr2).mono ?_
    rintro o' H' n' ⟨rfl, hn, tk', k2, k8, ktk, kfr, kF⟩
    have e : putS p l[o] ⟨o, 0, p.M, p.M⟩ s = putS p l[o] (layX p l[o] o s) s := by rw [hXe]
    simp only [e] at k2 k8 ktk
    simp only [kont_nil, kont_n, kont_e, kont_be, k_exit, k_reg, r_nil, r_v, lpQ_n, eget, lk, lkv, oks, AS.put, AS.keep, evk, Opk.opds, isI, toI, iarith, List.filterMap, Option.map_some, true_and, Nat.reduceEqDiff, ↓reduceIte, Bool.false_eq_true, Int.reduceEq, isDiv, implies_true, ne_eq, not_false_eq_true, and_self, Nat.add_zero, retK, ei]
    exact .mk ⟨i + 1, H', n', tk', putS p l[o] (layX p l[o] o s) s⟩ rfl (fin tk' H' n' (by omega) (kF _ _ q0 (by omega) (by omega) (by simp)) (kF _ _ q1 (by omega) (by omega) (by simp)) (kF _ _ q6 (by omega) (by omega) (by simp)) k2 k8 ktk kfr) (by simp only []; omega)
  have hz' : ((s.out.length : Int) = 0) = False := eq_false (by omega)
  by_cases hbeg : (l[o]).K = 2 ∧ s.sol = false
  · have hXe : layX p l[o] o s = ⟨o, 2 * spS s.pg + 1, p.M, p.M⟩ := by unfold layX; rw [if_neg hz, if_pos hbeg]
    have hb1 : (decide ((l[o]).K = 2) && !s.sol) = true := by simp [hbeg]
    have sp := spS_bd ok.p0
    have p1 := ok.p1
    have p0 := ok.p0
    have es : IntKind.wrap .i64 ((IntKind.wrap .i64 (s.pg + 1)).tdiv 2) = spS s.pg := by
      rw [w64_in (x := s.pg + 1) (by omega) (by omega), Int.tdiv_eq_ediv_of_nonneg (by omega), w64_in (by omega) (by omega)]
      unfold spS; omega
    have es2 := w64_in (x := 2 * spS s.pg) (by omega) (by omega)
    have es3 := w64_in (x := 2 * spS s.pg + 1) (by omega) (by omega)
    rw [hb1]
    rw [kont_n]
    simp only [k_skip, k_seq, k_cond, k_reg, r_v, r_calli, callI, eget, lk, lkv, oks, AS.put, evk, evB_eq, allB, fillB, splice, Opk.opds, aload, isB, toB, mk, nT, AVal.cells, List.length_cons, List.length_nil, List.map_cons, List.map_nil, List.append_nil, List.nil_append, List.cons_append, true_and, forall_const, Nat.reduceEqDiff, ↓reduceIte, Bool.false_eq_true, Nat.reduceAdd, List.drop, List.take, List.drop_succ_cons, List.take_succ_cons, Nat.reduceLeDiff, Nat.le_refl, List.headD_cons, false_implies, Nat.zero_add, and_self, Nat.add_zero, decide_false, hz', qc, q0]
    rw [kont_n]
    simp only [k_seq, k_reg, r_nil, r_v, eget, lk, lkv, oks, AS.put, AS.keep, evk, Opk.opds, List.filterMap, Option.map_some, true_and, Nat.reduceEqDiff, ↓reduceIte, and_self, Nat.add_zero]
    rw [kont_n]
    simp only [k_skip, k_seq, k_cond, k_reg, r_v, r_call, r_calli, callT, callI, eget, lk, lkv, oks, AS.put, evk, evB_eq, allB, fillB, splice, Opk.opds, aload, isI, toI, isB, toB, mk, iarith, nT, AVal.cells, List.length_cons, List.length_nil, List.map_cons, List.map_nil, List.append_nil, List.nil_append, List.cons_append, reduceCtorEq, and_true, true_and, forall_const, Nat.reduceEqDiff, ↓reduceIte, Bool.false_eq_true, Nat.reduceAdd, List.drop, List.take, List.drop_succ_cons, List.take_succ_cons, Nat.reduceLeDiff, Int.reduceEq, Nat.le_refl, List.headD_cons, isDiv, false_implies, implies_true, Nat.zero_add, ne_eq, not_false_eq_true, and_self, Nat.add_zero, qc, q0, q8, T6_33, s33, es, es2, es3]
    rw [hXe] at hX
    refine (p32 p l[o] ⟨0, 2 * spS s.pg + 1, p.M, p.M⟩ s o (n + 2) (n + 20) (n + 21) H2 (n + 27) tok hbo ok ⟨hX.p0, hX.p1, hX.z, hX.x0, hX.x1, hX.y0, hX.y1⟩ h64 q0 q2 q8 qi qw qh (by omega) (by omega) (by omega) tk2 fr2).mono ?_
    rintro o' H' n' ⟨rfl, hn, tk', k2, k8, ktk, kfr, kF⟩
    have e : putS p l[o] ⟨o, 2 * spS s.pg + 1, p.M, p.M⟩ s = putS p l[o] (layX p l[o] o s) s := by rw [hXe]
    simp only [e] at k2 k8 ktk
    simp only [kont_nil, kont_n, kont_e, kont_be, k_exit, k_reg, r_nil, r_v, lpQ_n, eget, lk, lkv, oks, AS.put, AS.keep, evk, Opk.opds, isI, toI, iarith, List.filterMap, Option.map_some, true_and, Nat.reduceEqDiff, ↓reduceIte, Bool.false_eq_true, Int.reduceEq, isDiv, implies_true, ne_eq, not_false_eq_true, and_self, Nat.add_zero, retK, ei]
    exact .mk ⟨i + 1, H', n', tk', putS p l[o] (layX p l[o] o s) s⟩ rfl (fin tk' H' n' (by omega) (kF _ _ q0 (by omega) (by omega) (by simp)) (kF _ _ q1 (by omega) (by omega) (by simp)) (kF _ _ q6 (by omega) (by omega) (by simp)) k2 k8 ktk kfr) (by simp only []; omega)
  have hb1 : (decide ((l[o]).K = 2) && !s.sol) = false := by
    cases hq : s.sol <;> simp [hq] at hbeg ⊢
    exact hbeg
  rw [hb1]
  rw [kont_n]
  simp only [k_skip, k_seq, k_cond, k_reg, r_v, r_calli, callI, eget, lk, lkv, oks, AS.put, evk, evB_eq, allB, fillB, splice, Opk.opds, aload, isB, toB, mk, nT, AVal.cells, List.length_cons, List.length_nil, List.map_cons, List.map_nil, List.append_nil, List.nil_append, List.cons_append, true_and, forall_const, Nat.reduceEqDiff, ↓reduceIte, Bool.false_eq_true, Nat.reduceAdd, List.drop, List.take, List.drop_succ_cons, List.take_succ_cons, Nat.reduceLeDiff, Nat.le_refl, List.headD_cons, false_implies, Nat.zero_add, and_self, Nat.add_zero, decide_false, hz', qc, q0]
  rw [kont_n]
  simp only [k_seq, k_reg, r_nil, r_v, eget, lk, lkv, oks, AS.put, AS.keep, evk, Opk.opds, List.filterMap, Option.map_some, true_and, Nat.reduceEqDiff, ↓reduceIte, and_self, Nat.add_zero]
  rw [kont_n]
  simp only [k_skip, k_seq, k_cond, k_reg, r_v, r_call, r_calli, callT, callI, eget, lk, lkv, oks, AS.put, evk, evB_eq, allB, fillB, splice, Opk.opds, aload, isI, toI, isB, toB, mk, iarith, nT, AVal.cells, List.length_cons, List.length_nil, List.map_cons, List.map_nil, List.append_nil, List.nil_append, List.cons_append, and_true, true_and, forall_const, Nat.reduceEqDiff, ↓reduceIte, Bool.false_eq_true, Nat.reduceAdd, List.drop, List.take, List.drop_succ_cons, List.take_succ_cons, Nat.reduceLeDiff, Int.reduceEq, Nat.le_refl, List.headD_cons, isDiv, false_implies, implies_true, Nat.zero_add, ne_eq, not_false_eq_true, and_self, Nat.add_zero, qc, q0]
  rw [kont_n]
  simp only [k_seq, k_reg, r_v, r_calli, callI, eget, lk, lkv, oks, AS.put, evk, Opk.opds, aload, mk, List.length_cons, List.length_nil, List.map_cons, List.map_nil, List.append_nil, List.nil_append, true_and, Nat.reduceEqDiff, ↓reduceIte, Nat.reduceAdd, List.drop, List.take, List.take_succ_cons, Nat.le_refl, Nat.zero_add, and_self, Nat.add_zero, q0, q8]
  refine (p34 p s H2 (n + 27) fr2).mono ?_
  rintro o' H' n' ⟨rfl, rfl, rfl⟩
  simp only [r_nil, eget, AS.put, AS.keep, List.filterMap, Option.map_some, Nat.reduceEqDiff, ↓reduceIte, Nat.reduceAdd, Nat.add_assoc, retK]
  rw [kont_n]
  simp only [k_block, k_rfun, eget, lk, lkv, List.nil_append, List.cons_append, true_and, Nat.reduceEqDiff, ↓reduceIte, Nat.reduceAdd, Nat.add_assoc, rfunA]
  intro l'
  generalize hHc : hset (hset (hset H2 (n + 27) (boxP p)) (n + 28) (boxA s)) (n + 30) _ = Hc
  have gc : ∀ id ob, hget H2 id = some ob → hget Hc id = some ob := by
    intro id ob ho
    have := fr2.lt ho
    subst hHc
    simp only [hget_hset]; repeat rw [if_neg (by omega)]
    exact ho
  have F : YF p l[o] s o tok n (n + 30) l' (e15 n i l.length (n + 27) (s.sol || decide ((l[o]).K = 2))) Hc (n + 31) := by
    refine ⟨gc _ _ q0, gc _ _ q2, gc _ _ q8, gc _ _ qi, gc _ _ qw, gc _ _ qh, gc _ _ qc, ?_, ?_, tk2.imp (fun h => h) fun ⟨id, h1, h2⟩ => ⟨id, h1, gc _ _ h2⟩, by omega, n9⟩
    · subst hHc; exact hget_hset_eq ..
    · intro m hm
      subst hHc
      simp only [hget_hset]; repeat rw [if_neg (by omega)]
      exact fr2 m (by omega)
  have hA : hget Hc (n + 27 + 1) = some (boxA s) := by subst hHc; simp [hget_hset]
  have hP : hget Hc (n + 27) = some (boxP p) := by subst hHc; simp [hget_hset]
  have c1 := gc _ _ q1
  have c6 := gc _ _ q6
  have c0 := gc _ _ q0
  clear hHc gc
  refine (p43 hbo ok h64 F hA hP (by omega) hz hbeg).mono ?_
  rintro o' H' n' ⟨rfl, hn, tk', x', k2, k8, ktk, kfr, kl, kst, kpd, kF⟩
  have kn := kfr.lt kl
  simp only [rfunK, kl, kst, kpd]
  refine ⟨by simp, ?_⟩
  simp only [kont_nil, kont_n, kont_be, k_reg, r_nil, r_v, lpQ_n, eget, lk, lkv, oks, AS.put, AS.keep, evk, Opk.opds, isI, toI, iarith, List.filterMap, Option.map_some, true_and, Nat.reduceEqDiff, ↓reduceIte, Bool.false_eq_true, Int.reduceEq, isDiv, implies_true, ne_eq, not_false_eq_true, and_self, Nat.add_zero, ei]
  refine .mk ⟨i + 1, hset H' (n + 30) .dead, n', tk', putS p l[o] (layX p l[o] o s) s⟩ rfl (fin tk' _ n' (by omega) ?_ ?_ ?_ ?_ ?_ ?_ ?_) (by simp only []; omega)
  · rw [hget_hset_ne _ _ _ _ (by omega)]; exact kF _ _ c0 (by omega) (by omega) (by omega) (by simp)
  · rw [hget_hset_ne _ _ _ _ (by omega)]; exact kF _ _ c1 (by omega) (by omega) (by omega) (by simp)
  · rw [hget_hset_ne _ _ _ _ (by omega)]; exact kF _ _ c6 (by omega) (by omega) (by omega) (by simp)
  · rw [hget_hset_ne _ _ _ _ (by omega)]; exact k2
  · rw [hget_hset_ne _ _ _ _ (by omega)]; exact k8
  · rcases ktk with h | ⟨id, z1, z2⟩
    · exact .inl h
    · refine .inr ⟨id, z1, ?_⟩
      rw [hget_hset_ne]
      · exact z2
      · intro e; rw [← e, kl] at z2; cases z2
  · intro j hj
    rw [hget_hset_ne _ _ _ _ (by omega)]; exact kfr j hj

end Go.AM
end

/- Booklets: laying out, part 4: the reference's Layout. Conditions: none. -/
section
set_option maxRecDepth 10000
set_option linter.unusedSimpArgs false
set_option linter.unusedVariables false
set_option maxHeartbeats 1000000
set_option linter.unusedVariables false
set_option linter.unusedSimpArgs false
namespace Go.AM
open Go.Proofs

def fl (l : List Blk) (k : Nat) (m : Nat) : List Nat := (List.range m).filter fun i => kd l i = k
def preL (l : List Blk) : Nat → List Nat
  | 0 => []
  | 1 => []
  | k + 2 => preL l (k + 1) ++ fl l (k + 1) l.length
theorem preL_4 (l : List Blk) : preL l 4 = ordS l := by
  simp [preL, ordS, fl]
theorem fl_hit {l : List Blk} {k i : Nat} (h : kd l i = k) : fl l k (i + 1) = fl l k i ++ [i] := by simp [fl, List.range_succ, List.filter_append, h]
theorem fl_miss {l : List Blk} {k i : Nat} (h : kd l i ≠ k) : fl l k (i + 1) = fl l k i := by simp [fl, List.range_succ, List.filter_append, h]

structure V16 where
  i : Nat
  H : AHeap
  n : Nat
  tok : Tok
  s : LSt
structure I16 (p : Pap) (l : List Blk) (K : Nat) (v : V16) : Prop where
  il : v.i ≤ l.length
  se : v.s = (preL l K ++ fl l K v.i).foldl (lay1 p l) lay0
  ol : v.s.out.length ≤ 64 * K + v.i
  ok : LOK p v.s
  sl : K = 1 → v.s.sol = false
  g0 : hget v.H 0 = some (boxP p)
  tk : tok4 v.H v.tok v.s.out
  fr : Fresh v.H v.n
  n3 : 3 ≤ v.n
abbrev en16 (l : List Blk) (v : V16) : List (Nat × Bool × AVal) :=
  [(1, true, .sl (.none 4) (l.map encB)), (2, true, .ptr 0 0), (7, true, .sl v.tok (v.s.out.map encX)), (8, true, .int .i64 v.s.pg), (9, true, .int .i64 v.s.nx), (10, true, .int .i64 v.s.top), (11, true, .int .i64 v.s.tall)]
structure U16 where
  K : Nat
  v : V16
structure O16 (p : Pap) (l : List Blk) (u : U16) : Prop where
  k1 : 1 ≤ u.K
  k4 : u.K ≤ 4
  i0 : u.v.i = 0
  iv : I16 p l u.K u.v
  sl : u.K ≤ 2 → u.v.s.sol = false

set_option maxHeartbeats 2000000 in
theorem p16 (p : Pap) (l : List Blk) : Pur Tryd.prog 16 [encP p, .sl (.none 4) (l.map encB)] (.tup [.sl (.none 4) ((layS p l).1.map encX), .int .i64 (layS p l).2]) := by
  refine .mk ⟨by simp [unders, AVal.under], ⟨trivial, encB_under 0 l⟩, trivial⟩ ⟨⟨trivial, encX_under 0 _⟩, trivial, trivial⟩ (a16 (ev_awp T6_ok (ev_evK ?_)))
  by_cases hc : checkS p l = 0
  case neg =>
    simp only [kont_nil, kont_n, kont_r, k_skip, k_ret, k_seq, k_block, k_cond, k_reg, r_nil, r_v, r_box, r_call, callT, penv, postC, rcs, rc1, rvS, eget, lk, lkv, oks, AS.put, AS.keep, evk, Opk.opds, aload, isI, toI, isB, toB, mk, icmp, nT, hget_hset, hget_nil, AVal.cells, Tok.esz, List.length_cons, List.length_nil, List.filterMap, List.map_cons, List.map_nil, List.append_nil, List.nil_append, Option.map_some, reduceCtorEq, and_true, true_and, forall_const, Nat.reduceEqDiff, ↓reduceIte, Bool.false_eq_true, Nat.reduceAdd, List.drop, List.take, List.take_succ_cons, Nat.le_refl, false_implies, Nat.zero_add, Bool.not_eq_true', Bool.not_eq_false', and_self, true_or, ret_eq, Nat.add_zero, decide_false, c16, T6_14, s13, pap_eta, encd_map, decB_map, hc]
    have : layS p l = ([], checkS p l) := by unfold layS; rw [if_neg hc]
    rw [this]
    exact Wk.tup2 (Wk.sl (.inr rfl)) (Wk.refl _)
  obtain ⟨hl, hg, hfit⟩ := check_ok hc
  have hb : ∀ i < l.length, FB p (blkN l i) := fun i hi => by rw [blkN_get hi]; exact FB.of hg (hfit i hi)
  simp only [kont_nil, kont_n, kont_r, k_skip, k_ret, k_seq, k_block, k_cond, k_reg, r_nil, r_v, r_box, r_call, callT, penv, postC, rcs, rc1, rvS, eget, lk, lkv, oks, AS.put, AS.keep, evk, Opk.opds, aload, isI, toI, isB, toB, mk, icmp, nT, hget_hset, hget_nil, AVal.cells, Tok.esz, List.length_cons, List.length_nil, List.filterMap, List.map_cons, List.map_nil, List.append_nil, List.nil_append, Option.map_some, reduceCtorEq, true_and, forall_const, Nat.reduceEqDiff, ↓reduceIte, Nat.reduceAdd, List.drop, List.take, List.take_succ_cons, Nat.le_refl, false_implies, Nat.zero_add, Bool.not_eq_true', Bool.not_eq_false', and_self, true_or, ret_eq, Nat.add_zero, decide_true, c16, T6_14, s13, pap_eta, encd_map, decB_map, hc]
  refine k_loop (fun u : U16 => ⟨en16 l u.v ++ [(12, true, .int .i64 u.K)], u.v.H, u.v.n⟩) (O16 p l) (fun u => 4 - u.K) ⟨1, ⟨0, hset hnil 0 (boxP p), 3, .nil, lay0⟩⟩ rfl
    ⟨Nat.le_refl _, by simp, rfl, ⟨Nat.zero_le _, rfl, by simp [lay0], LOK.zero p, fun _ => rfl, rfl, .inl ⟨rfl, rfl⟩, fresh5 p, Nat.le_refl _⟩, fun _ => rfl⟩ ?_
  rintro ⟨K, v0⟩ ⟨k1, k4, i0, iv0, sl0⟩
  simp only at k1 k4 i0 iv0 sl0
  by_cases hK : K ≤ 3
  case neg =>
    have hK4 : K = 4 := by omega
    have hK' : ((K : Int) ≤ 3) = False := eq_false (by omega)
    simp only [kont_nil, kont_n, kont_e, kont_be, k_skip, k_exit, k_ret, k_seq, k_block, k_cond, k_reg, r_nil, r_v, lpQ_e, postC, rcs, rc1, rvS, eget, lk, lkv, oks, AS.put, AS.keep, evk, Opk.opds, isI, toI, isB, toB, icmp, List.filterMap, List.nil_append, List.cons_append, Option.map_some, true_and, forall_const, Nat.reduceEqDiff, ↓reduceIte, Bool.false_eq_true, false_implies, and_self, ret_eq, Nat.add_zero, decide_false, hK']
    subst hK4
    have e : layS p l = (v0.s.out, 0) := by
      unfold layS
      rw [if_pos hc, iv0.se, i0]
      simp [preL_4, fl]
    rw [e]
    refine Wk.tup2 (Wk.sl ?_) (Wk.refl _)
    rcases iv0.tk with ⟨h1, h2⟩ | ⟨id, h1, h2⟩
    · exact .inr (by rw [h2]; rfl)
    · exact .inl (by rw [h1]; rfl)
  have hK' : ((K : Int) ≤ 3) = True := eq_true (by omega)
  have eK := w64_succ (k := K) (by omega)
  simp only [kont_nil, kont_n, kont_e, kont_be, k_skip, k_exit, k_ret, k_seq, k_block, k_cond, k_reg, r_nil, r_v, lpQ_e, postC, rcs, rc1, rvS, eget, lk, lkv, oks, AS.put, AS.keep, evk, Opk.opds, isI, toI, isB, toB, icmp, List.filterMap, List.nil_append, List.cons_append, Option.map_some, reduceCtorEq, and_true, true_and, forall_const, Nat.reduceEqDiff, ↓reduceIte, false_implies, and_self, ret_eq, Nat.add_zero, decide_true, hK']
  refine k_loop (fun v : V16 => ⟨en16 l v ++ [(12, true, .int .i64 K), (13, true, .bool (decide ((K : Int) = 2) && !v.s.sol)), (14, true, .int .i64 v.i)], v.H, v.n⟩) (I16 p l K) (fun v => l.length - v.i) v0 ?_ iv0 ?_
  · rw [i0]
    have : (decide ((K : Int) = 2) && !v0.s.sol) = decide ((K : Int) = 2) := by
      by_cases h2 : (K : Int) = 2
      · simp [sl0 (by omega)]
      · simp [h2]
    rw [this]; rfl
  rintro ⟨i, H, n, tok, s⟩ ⟨il, se, ol, ok, sl, g0, tk, fr, n3⟩
  simp only at il se ol ok sl g0 tk fr n3
  by_cases hlt : i < l.length
  case neg =>
    have hi : i = l.length := by omega
    simp only [kont_nil, kont_n, kont_e, kont_bn, kont_be, k_skip, k_exit, k_seq, k_block, k_cond, k_reg, r_nil, r_v, r_vg, r_pick, r_alloc, r_st, r_call, r_app, stE, appE, callT, lpQ_n, lpQ_e, gok, gvb, eget, lk, lkv, oks, AS.put, AS.keep, evk, evMM_cons, allI, foldMM, evB_eq, allB, fillB, evS_eq, allS, fillS, splice, Opk.opds, aload, isI, isInt, toI, isB, toB, sel, mk, icmp, iarith, nT, hget_hset, AVal.cells, Tok.esz, List.length_cons, List.length_nil, List.filterMap, List.map_cons, List.map_nil, List.append_nil, List.nil_append, List.cons_append, Option.map_some, reduceCtorEq, and_true, true_and, forall_const, Nat.reduceEqDiff, ↓reduceIte, Bool.false_eq_true, Nat.reduceAdd, List.drop, List.take, List.drop_succ_cons, List.take_succ_cons, Nat.reduceLeDiff, Nat.reduceMul, Nat.reduceLT, Int.reduceEq, List.set_cons_zero, List.replicate_succ, List.replicate_zero, Nat.le_refl, List.headD_cons, Bool.true_and, isDiv, false_implies, implies_true, Nat.zero_add, Bool.cond_false_right, imp_self, beq_true, Bool.not_eq_true', Bool.not_eq_false', Bool.and_eq_true, decide_eq_true_eq, decide_eq_false_iff_not, ne_eq, not_false_eq_true, natE1, impA1, and_self, or_false, Nat.add_zero, Nat.add_assoc, killTok, appOK, srcOf, decide_false, Int.ofNat_lt, hlt, List.length_map, eK]
    refine .mk ⟨K + 1, ⟨0, H, n, tok, s⟩⟩ rfl ⟨by simp only []; omega, by simp only []; omega, rfl, ⟨Nat.zero_le _, ?_, by simp only []; omega, ok, fun q => by simp only [] at q; omega, g0, tk, fr, n3⟩, fun q => sl (by simp only [] at q; omega)⟩ (by simp only []; omega)
    simp only []
    rw [se, hi]
    obtain ⟨k, rfl⟩ : ∃ k, K = k + 1 := ⟨K - 1, by omega⟩
    simp [preL, fl]
  have hbo := hb i hlt
  rw [blkN_get hlt] at hbo
  have hkd : kd l i = (l[i]).K := by simp [kd, hlt]
  have ei := w64_succ (k := i) (by omega)
  by_cases hkk : (l[i]).K = K
  case neg =>
    have hkk' : ((l[i]).K = (K : Int)) = False := eq_false hkk
    simp only [kont_nil, kont_n, kont_e, kont_bn, kont_be, k_skip, k_exit, k_seq, k_block, k_cond, k_reg, r_nil, r_v, r_vg, r_pick, r_alloc, r_st, r_call, r_app, stE, appE, callT, lpQ_n, lpQ_e, gok, gvb, eget, lk, lkv, oks, AS.put, AS.keep, evk, evMM_cons, allI, foldMM, evB_eq, allB, fillB, evS_eq, allS, fillS, splice, Opk.opds, aload, isI, isInt, toI, isB, toB, sel, mk, icmp, iarith, nT, hget_hset, AVal.cells, Tok.esz, List.length_cons, List.length_nil, List.filterMap, List.map_cons, List.map_nil, List.append_nil, List.nil_append, List.cons_append, Option.map_some, reduceCtorEq, and_true, true_and, forall_const, Nat.reduceEqDiff, ↓reduceIte, Bool.false_eq_true, Nat.reduceAdd, List.drop, List.take, List.drop_succ_cons, List.take_succ_cons, Nat.reduceLeDiff, Nat.reduceMul, Nat.reduceLT, Int.reduceEq, List.set_cons_zero, List.replicate_succ, List.replicate_zero, Nat.le_refl, List.headD_cons, Bool.true_and, isDiv, false_implies, implies_true, Nat.zero_add, Bool.cond_false_right, imp_self, beq_true, Bool.not_eq_true', Bool.not_eq_false', Bool.and_eq_true, decide_eq_true_eq, decide_eq_false_iff_not, ne_eq, not_false_eq_true, natE1, impA1, and_self, or_false, Nat.add_zero, Nat.add_assoc, killTok, appOK, srcOf, decide_true, decide_false, Int.ofNat_lt, hlt, List.length_map, List.getElem?_map, List.getElem?_eq_getElem hlt, Int.toNat_natCast, Option.getD_some, Int.natCast_nonneg, hkk', ei]
    exact .mk ⟨i + 1, H, n, tok, s⟩ rfl ⟨hlt, by simp only []; rw [fl_miss (by rw [hkd]; exact hkk)]; exact se, by simp only []; omega, ok, sl, g0, tk, fr, n3⟩ (by simp only []; omega)
  have hX := layX_ok (i := i) hbo ok
  have hlay : lay1 p l s i = putS p l[i] (layX p l[i] i s) s := by unfold lay1; rw [blkN_get hlt]
  have fr' : ∀ id, n ≤ id → hget H id = none := fr
  have fin : ∀ H', hget H' 0 = some (boxP p) → hget H' (n + 12) = some .tok → Fresh H' (n + 14) → I16 p l K ⟨i + 1, H', n + 14, .own (n + 12) 4, putS p l[i] (layX p l[i] i s) s⟩ := by
    intro H' h1 h2 h3
    refine ⟨hlt, ?_, ?_, putS_ok hbo ok hX, fun q => ?_, h1, .inr ⟨n + 12, rfl, h2⟩, h3, by simp only []; omega⟩
    · simp only []
      rw [fl_hit (by rw [hkd]; exact hkk), ← List.append_assoc, List.foldl_append, ← se]
      exact hlay.symm
    · simp only [putS, List.length_append, List.length_cons, List.length_nil]; omega
    · simp only [putS, sl q, Bool.false_or, decide_eq_false_iff_not]; omega
  have hX0 := hX
  obtain ⟨c, w, h, m, q, kk, nn, b1, b2, b3, b4⟩ := hbo
  obtain ⟨a1, a2, a3, a4, a5, a6, a7, a8, a9⟩ := ok
  have sp := spS_bd a1
  have w1 := w64_in (x := (l[i]).W * p.C) (by omega) (by omega)
  have w2 := w64_in (x := (l[i]).H * p.C) (by omega) (by omega)
  have x0 := w64_in (x := s.nx + (l[i]).W * p.C) (by omega) (by omega)
  have x1 := w64_in (x := p.W - p.M) (by omega) (by omega)
  have x2 := w64_in (x := s.top + (l[i]).H * p.C) (by omega) (by omega)
  have x3 := w64_in (x := p.H - p.M) (by omega) (by omega)
  have x4 := w64_in (x := s.top + s.tall) (by omega) (by omega)
  have x5 := w64_in (x := s.top + s.tall + p.S) (by omega) (by omega)
  have x6 := w64_in (x := s.top + s.tall + p.S + (l[i]).H * p.C) (by omega) (by omega)
  have x7 := w64_in (x := s.pg + 1) (by omega) (by omega)
  have x8 := w64_in (x := 2 * spS s.pg) (by omega) (by omega)
  have x9 := w64_in (x := 2 * spS s.pg + 1) (by omega) (by omega)
  have x10 := sp_ref (a := s.pg) (by omega) (by omega)
  have x11 := w64_in (x := p.M + (l[i]).W * p.C) (by omega) (by omega)
  have x12 := w64_in (x := p.M + (l[i]).W * p.C + p.S) (by omega) (by omega)
  have x13 := w64_in (x := s.nx + (l[i]).W * p.C + p.S) (by omega) (by omega)
  have f0 : (n + 7 = 0) = False := eq_false (by omega)
  have f1 : (0 = n + 7) = False := eq_false (by omega)
  have f2 : (n + 12 = 0) = False := eq_false (by omega)
  have f3 : (0 = n + 12) = False := eq_false (by omega)
  have f4 : (n = 0) = False := eq_false (by omega)
  have f5 : (0 = n) = False := eq_false (by omega)
  have hb13 : (decide ((K : Int) = 2) && !(s.sol || decide ((K : Int) = 2))) = false := by cases s.sol <;> cases decide ((K : Int) = 2) <;> rfl
  by_cases hz : s.out.length = 0
  · have hz' : ((s.out.length : Int) = 0) = True := eq_true (by omega)
    have hXe : layX p l[i] i s = ⟨i, 0, p.M, p.M⟩ := by unfold layX; rw [if_pos hz]
    have hpg := a9 hz
    rcases tk with ⟨rfl, ho⟩ | ⟨id, rfl, hid⟩
    · simp only [kont_nil, kont_n, kont_e, kont_bn, kont_be, k_skip, k_exit, k_seq, k_block, k_cond, k_reg, r_nil, r_v, r_vg, r_pick, r_alloc, r_st, r_call, r_app, stE, appE, callT, lpQ_n, lpQ_e, gok, gvb, eget, lk, lkv, oks, AS.put, AS.keep, evk, evMM_cons, allI, foldMM, evB_eq, allB, fillB, evS_eq, allS, fillS, splice, Opk.opds, aload, isI, isInt, toI, isB, toB, sel, mk, icmp, iarith, nT, hget_hset, AVal.cells, Tok.esz, List.length_cons, List.length_nil, List.filterMap, List.map_cons, List.map_nil, List.append_nil, List.nil_append, List.cons_append, Option.map_some, reduceCtorEq, and_true, true_and, forall_const, Nat.reduceEqDiff, ↓reduceIte, Bool.false_eq_true, Nat.reduceAdd, List.drop, List.take, List.drop_succ_cons, List.take_succ_cons, Nat.reduceLeDiff, Nat.reduceMul, Nat.reduceLT, Int.reduceEq, List.set_cons_zero, List.replicate_succ, List.replicate_zero, Nat.le_refl, List.headD_cons, Bool.true_and, isDiv, false_implies, implies_true, Nat.zero_add, Bool.cond_false_right, imp_self, beq_true, Bool.not_eq_true', Bool.not_eq_false', Bool.and_eq_true, decide_eq_true_eq, decide_eq_false_iff_not, ne_eq, not_false_eq_true, natE1, and_self, or_false, Nat.add_zero, Nat.add_assoc, Nat.le_add_right, killTok, appOK, srcOf, decide_true, hz', Int.ofNat_lt, hlt, List.length_map, List.getElem?_map, List.getElem?_eq_getElem hlt, Int.toNat_natCast, Option.getD_some, Int.natCast_nonneg, hkk, g0, fr', small, T6_35, s35, ei, w1, w2, x0, x1, x2, x3, x4, x5, x6, x7, x8, x9, x10, x11, x12, x13, f0]
      refine ⟨⟨by omega, by omega⟩, ?_⟩
      generalize hHH : hset _ (n + 12) AObj.tok = HH
      refine .mk ⟨i + 1, HH, n + 14, .own (n + 12) 4, putS p l[i] (layX p l[i] i s) s⟩ ?_ (fin HH ?_ ?_ ?_) (by simp only []; omega)
      · simp [putS, hXe, hkk, hpg]
        exact fun hh _ => hh
      · subst hHH; simp only [hget_hset]; repeat rw [if_neg (by omega)]
        exact g0
      · subst hHH; exact hget_hset_eq ..
      · intro j hj
        subst hHH; simp only [hget_hset]; repeat rw [if_neg (by omega)]
        exact fr j (by omega)
    · skip
      have d0 : id ≠ 0 := by rintro rfl; rw [g0] at hid; cases hid
      have nid := fr.lt hid
      have k0 : (id = 0) = False := eq_false (by omega)
      have k1 : (0 = id) = False := eq_false (by omega)
      have k2 : (id = n + 7) = False := eq_false (by omega)
      have k3 : (n + 7 = id) = False := eq_false (by omega)
      have k4 : (id = n + 12) = False := eq_false (by omega)
      have k5 : (n + 12 = id) = False := eq_false (by omega)
      simp only [kont_nil, kont_n, kont_e, kont_bn, kont_be, k_skip, k_exit, k_seq, k_block, k_cond, k_reg, r_nil, r_v, r_vg, r_pick, r_alloc, r_st, r_call, r_app, stE, appE, callT, lpQ_n, lpQ_e, gok, gvb, eget, lk, lkv, oks, AS.put, AS.keep, evk, evMM_cons, allI, foldMM, evB_eq, allB, fillB, evS_eq, allS, fillS, splice, Opk.opds, aload, isI, isInt, toI, isB, toB, sel, mk, icmp, iarith, nT, hget_hset, AVal.cells, Tok.esz, List.length_cons, List.length_nil, List.filterMap, List.map_cons, List.map_nil, List.append_nil, List.nil_append, List.cons_append, Option.map_some, reduceCtorEq, and_true, true_and, forall_const, Nat.reduceEqDiff, ↓reduceIte, Bool.false_eq_true, Nat.reduceAdd, List.drop, List.take, List.drop_succ_cons, List.take_succ_cons, Nat.reduceLeDiff, Nat.reduceMul, Nat.reduceLT, Int.reduceEq, List.set_cons_zero, List.replicate_succ, List.replicate_zero, Nat.le_refl, List.headD_cons, Bool.true_and, isDiv, false_implies, implies_true, Nat.zero_add, Bool.cond_false_right, imp_self, beq_true, Bool.not_eq_true', Bool.not_eq_false', Bool.and_eq_true, decide_eq_true_eq, decide_eq_false_iff_not, ne_eq, not_false_eq_true, natE1, and_self, or_false, Nat.add_zero, Nat.add_assoc, Nat.le_add_right, killTok, appOK, srcOf, decide_true, hz', hid, k3, Int.ofNat_lt, hlt, List.length_map, List.getElem?_map, List.getElem?_eq_getElem hlt, Int.toNat_natCast, Option.getD_some, Int.natCast_nonneg, hkk, g0, fr', small, T6_35, s35, ei, w1, w2, x0, x1, x2, x3, x4, x5, x6, x7, x8, x9, x10, x11, x12, x13, f0]
      refine ⟨⟨by omega, by omega⟩, ?_⟩
      generalize hHH : hset _ (n + 12) AObj.tok = HH
      refine .mk ⟨i + 1, HH, n + 14, .own (n + 12) 4, putS p l[i] (layX p l[i] i s) s⟩ ?_ (fin HH ?_ ?_ ?_) (by simp only []; omega)
      · simp [putS, hXe, hkk, hpg]
        exact fun hh _ => hh
      · subst hHH; simp only [hget_hset]; repeat rw [if_neg (by omega)]
        exact g0
      · subst hHH; exact hget_hset_eq ..
      · intro j hj
        subst hHH; simp only [hget_hset]; repeat rw [if_neg (by omega)]
        exact fr j (by omega)
  have hz' : ((s.out.length : Int) = 0) = False := eq_false (by omega)
  obtain ⟨id, rfl, hid⟩ : ∃ id, tok = .own id 4 ∧ hget H id = some .tok := by
    rcases tk with ⟨h1, h2⟩ | h
    · rw [h2] at hz; exact absurd rfl hz
    · exact h
  have d0 : id ≠ 0 := by rintro rfl; rw [g0] at hid; cases hid
  have nid := fr.lt hid
  have k0 : (id = 0) = False := eq_false (by omega)
  have k1 : (0 = id) = False := eq_false (by omega)
  have k2 : (id = n + 7) = False := eq_false (by omega)
  have k3 : (n + 7 = id) = False := eq_false (by omega)
  have k4 : (id = n + 12) = False := eq_false (by omega)
  have k5 : (n + 12 = id) = False := eq_false (by omega)
  by_cases hbeg : (l[i]).K = 2 ∧ s.sol = false
  · have hXe : layX p l[i] i s = ⟨i, 2 * spS s.pg + 1, p.M, p.M⟩ := by unfold layX; rw [if_neg hz, if_pos hbeg]
    have hb1 : (decide ((K : Int) = 2) && !s.sol) = true := by rw [← hkk]; simp [hbeg]
    simp only [kont_nil, kont_n, kont_e, kont_bn, kont_be, k_skip, k_exit, k_seq, k_block, k_cond, k_reg, r_nil, r_v, r_vg, r_pick, r_alloc, r_st, r_call, r_app, stE, appE, callT, lpQ_n, lpQ_e, gok, gvb, eget, lk, lkv, oks, AS.put, AS.keep, evk, evMM_cons, allI, foldMM, evB_eq, allB, fillB, evS_eq, allS, fillS, splice, Opk.opds, aload, isI, isInt, toI, isB, toB, sel, mk, icmp, iarith, nT, hget_hset, AVal.cells, Tok.esz, List.length_cons, List.length_nil, List.filterMap, List.map_cons, List.map_nil, List.append_nil, List.nil_append, List.cons_append, Option.map_some, reduceCtorEq, and_true, true_and, forall_const, Nat.reduceEqDiff, ↓reduceIte, Bool.false_eq_true, Nat.reduceAdd, List.drop, List.take, List.drop_succ_cons, List.take_succ_cons, Nat.reduceLeDiff, Nat.reduceMul, Nat.reduceLT, Int.reduceEq, List.set_cons_zero, List.replicate_succ, List.replicate_zero, Nat.le_refl, List.headD_cons, Bool.true_and, isDiv, false_implies, implies_true, Nat.zero_add, Bool.cond_false_right, imp_self, beq_true, Bool.not_eq_true', Bool.not_eq_false', Bool.and_eq_true, decide_eq_true_eq, decide_eq_false_iff_not, ne_eq, not_false_eq_true, natE1, and_self, or_false, Nat.add_zero, Nat.add_assoc, Nat.le_add_right, killTok, appOK, srcOf, decide_true, decide_false, hz', hb1, hid, k3, Int.ofNat_lt, hlt, List.length_map, List.getElem?_map, List.getElem?_eq_getElem hlt, Int.toNat_natCast, Option.getD_some, Int.natCast_nonneg, hkk, g0, fr', small, T6_35, s35, ei, w1, w2, x0, x1, x2, x3, x4, x5, x6, x7, x8, x9, x10, x11, x12, x13, f0]
    refine ⟨⟨by omega, by omega⟩, ?_⟩
    generalize hHH : hset _ (n + 12) AObj.tok = HH
    refine .mk ⟨i + 1, HH, n + 14, .own (n + 12) 4, putS p l[i] (layX p l[i] i s) s⟩ ?_ (fin HH ?_ ?_ ?_) (by simp only []; omega)
    · simp [putS, hXe, hkk]
      exact fun hh _ => hh
    · subst hHH; simp only [hget_hset]; repeat rw [if_neg (by omega)]
      exact g0
    · subst hHH; exact hget_hset_eq ..
    · intro j hj
      subst hHH; simp only [hget_hset]; repeat rw [if_neg (by omega)]
      exact fr j (by omega)
  have hb1 : (decide ((K : Int) = 2) && !s.sol) = false := by
    rw [← hkk]
    cases hq : s.sol <;> simp [hq] at hbeg ⊢
    exact hbeg
  simp only [kont_nil, kont_n, kont_e, kont_bn, kont_be, k_skip, k_exit, k_seq, k_block, k_cond, k_reg, r_nil, r_v, r_vg, r_pick, r_alloc, r_st, r_call, r_app, stE, appE, callT, lpQ_n, lpQ_e, gok, gvb, eget, lk, lkv, oks, AS.put, AS.keep, evk, evMM_cons, allI, foldMM, evB_eq, allB, fillB, evS_eq, allS, fillS, splice, Opk.opds, aload, isI, isInt, toI, isB, toB, sel, mk, icmp, iarith, nT, hget_hset, AVal.cells, Tok.esz, List.length_cons, List.length_nil, List.filterMap, List.map_cons, List.map_nil, List.append_nil, List.nil_append, List.cons_append, Option.map_some, reduceCtorEq, and_true, true_and, forall_const, Nat.reduceEqDiff, ↓reduceIte, Bool.false_eq_true, Nat.reduceAdd, List.drop, List.take, List.drop_succ_cons, List.take_succ_cons, Nat.reduceLeDiff, Nat.reduceMul, Nat.reduceLT, Int.reduceEq, List.set_cons_zero, List.replicate_succ, List.replicate_zero, Nat.le_refl, List.headD_cons, Bool.true_and, isDiv, false_implies, implies_true, Nat.zero_add, Bool.cond_false_right, imp_self, beq_true, Bool.not_eq_true', Bool.not_eq_false', Bool.and_eq_true, decide_eq_true_eq, decide_eq_false_iff_not, ne_eq, not_false_eq_true, natE1, and_self, or_false, Nat.add_zero, Nat.add_assoc, Nat.le_add_right, killTok, appOK, srcOf, decide_true, decide_false, hz', hb1, hid, k3, Int.ofNat_lt, hlt, List.length_map, List.getElem?_map, List.getElem?_eq_getElem hlt, Int.toNat_natCast, Option.getD_some, Int.natCast_nonneg, hkk, g0, fr', small, T6_35, s35, ei, w1, w2, x0, x1, x2, x3, x4, x5, x6, x7, x8, x9, x10, x11, x12, x13, f0]
  refine ⟨fun hq => ⟨fun hm => ?_, fun hm => ?_⟩, fun hq => ⟨fun hq3 => ?_, fun hq3 => ?_⟩⟩
  · have hXe : layX p l[i] i s = ⟨i, s.pg, s.nx, s.top⟩ := by unfold layX; rw [if_neg hz, if_neg hbeg, if_pos hq]
    refine ⟨⟨by omega, by omega⟩, ?_⟩
    generalize hHH : hset _ (n + 12) AObj.tok = HH
    refine .mk ⟨i + 1, HH, n + 14, .own (n + 12) 4, putS p l[i] (layX p l[i] i s) s⟩ ?_ (fin HH ?_ ?_ ?_) (by simp only []; omega)
    · simp [putS, hXe, hkk, hm]
      exact fun hh _ => hh
    · subst hHH; simp only [hget_hset]; repeat rw [if_neg (by omega)]
      exact g0
    · subst hHH; exact hget_hset_eq ..
    · intro j hj
      subst hHH; simp only [hget_hset]; repeat rw [if_neg (by omega)]
      exact fr j (by omega)
  · have hXe : layX p l[i] i s = ⟨i, s.pg, s.nx, s.top⟩ := by unfold layX; rw [if_neg hz, if_neg hbeg, if_pos hq]
    refine ⟨⟨by omega, by omega⟩, ?_⟩
    generalize hHH : hset _ (n + 12) AObj.tok = HH
    refine .mk ⟨i + 1, HH, n + 14, .own (n + 12) 4, putS p l[i] (layX p l[i] i s) s⟩ ?_ (fin HH ?_ ?_ ?_) (by simp only []; omega)
    · simp [putS, hXe, hkk, hm]
      exact fun hh _ => hh
    · subst hHH; simp only [hget_hset]; repeat rw [if_neg (by omega)]
      exact g0
    · subst hHH; exact hget_hset_eq ..
    · intro j hj
      subst hHH; simp only [hget_hset]; repeat rw [if_neg (by omega)]
      exact fr j (by omega)
  · have hq' : ¬ (s.nx + (l[i]).W * p.C ≤ p.W - p.M ∧ s.top + (l[i]).H * p.C ≤ p.H - p.M) := by rintro ⟨z1, z2⟩; simp [z1, z2] at hq
    have hXe : layX p l[i] i s = ⟨i, s.pg, p.M, s.top + s.tall + p.S⟩ := by unfold layX; rw [if_neg hz, if_neg hbeg, if_neg hq', if_pos hq3]
    refine ⟨⟨by omega, by omega⟩, ?_⟩
    generalize hHH : hset _ (n + 12) AObj.tok = HH
    refine .mk ⟨i + 1, HH, n + 14, .own (n + 12) 4, putS p l[i] (layX p l[i] i s) s⟩ ?_ (fin HH ?_ ?_ ?_) (by simp only []; omega)
    · simp [putS, hXe, hkk]
      exact fun hh _ => hh
    · subst hHH; simp only [hget_hset]; repeat rw [if_neg (by omega)]
      exact g0
    · subst hHH; exact hget_hset_eq ..
    · intro j hj
      subst hHH; simp only [hget_hset]; repeat rw [if_neg (by omega)]
      exact fr j (by omega)
  · have hq' : ¬ (s.nx + (l[i]).W * p.C ≤ p.W - p.M ∧ s.top + (l[i]).H * p.C ≤ p.H - p.M) := by rintro ⟨z1, z2⟩; simp [z1, z2] at hq
    have hXe : layX p l[i] i s = ⟨i, s.pg + 1, p.M, p.M⟩ := by unfold layX; rw [if_neg hz, if_neg hbeg, if_neg hq', if_neg hq3]
    refine ⟨⟨by omega, by omega⟩, ?_⟩
    generalize hHH : hset _ (n + 12) AObj.tok = HH
    refine .mk ⟨i + 1, HH, n + 14, .own (n + 12) 4, putS p l[i] (layX p l[i] i s) s⟩ ?_ (fin HH ?_ ?_ ?_) (by simp only []; omega)
    · simp [putS, hXe, hkk]
      exact fun hh _ => hh
    · subst hHH; simp only [hget_hset]; repeat rw [if_neg (by omega)]
      exact g0
    · subst hHH; exact hget_hset_eq ..
    · intro j hj
      subst hHH; simp only [hget_hset]; repeat rw [if_neg (by omega)]
      exact fr j (by omega)

end Go.AM
end

/- Booklets: decimal numbers, part 1: small numbers, and how many digits. Conditions: none. -/
section
set_option maxRecDepth 10000
set_option linter.unusedSimpArgs false
set_option linter.unusedVariables false
set_option maxHeartbeats 1000000
set_option linter.unusedVariables false
set_option linter.unusedSimpArgs false
namespace Go.AM
open Go.Proofs Go.Lib

theorem wu8 {n : Nat} (h : n < 256) : IntKind.wrap .u8 (n : Int) = n := by
  unfold IntKind.wrap; simp [IntKind.bits, IntKind.signed]; omega
theorem wu32 {n : Nat} (h : n < 4294967296) : IntKind.wrap .u32 (n : Int) = n := by
  unfold IntKind.wrap; simp [IntKind.bits, IntKind.signed]; omega
theorem wu64 {n : Nat} (h : n < 18446744073709551616) : IntKind.wrap .u64 (n : Int) = n := by
  unfold IntKind.wrap; simp [IntKind.bits, IntKind.signed]; omega
abbrev len8L : List UInt8 := [0, 1, 2, 2, 3, 3, 3, 3, 4, 4, 4, 4, 4, 4, 4, 4, 5, 5, 5, 5, 5, 5, 5, 5, 5, 5, 5, 5, 5, 5, 5, 5, 6, 6, 6, 6, 6, 6, 6, 6, 6, 6, 6, 6, 6, 6, 6, 6, 6, 6, 6, 6, 6, 6, 6, 6, 6, 6, 6, 6, 6, 6, 6, 6, 7, 7, 7, 7, 7, 7, 7, 7, 7, 7, 7, 7, 7, 7, 7, 7, 7, 7, 7, 7, 7, 7, 7, 7, 7, 7, 7, 7, 7, 7, 7, 7, 7, 7, 7, 7, 7, 7, 7, 7, 7, 7, 7, 7, 7, 7, 7, 7, 7, 7, 7, 7, 7, 7, 7, 7, 7, 7, 7, 7, 7, 7, 7, 7, 8, 8, 8, 8, 8, 8, 8, 8, 8, 8, 8, 8, 8, 8, 8, 8, 8, 8, 8, 8, 8, 8, 8, 8, 8, 8, 8, 8, 8, 8, 8, 8, 8, 8, 8, 8, 8, 8, 8, 8, 8, 8, 8, 8, 8, 8, 8, 8, 8, 8, 8, 8, 8, 8, 8, 8, 8, 8, 8, 8, 8, 8, 8, 8, 8, 8, 8, 8, 8, 8, 8, 8, 8, 8, 8, 8, 8, 8, 8, 8, 8, 8, 8, 8, 8, 8, 8, 8, 8, 8, 8, 8, 8, 8, 8, 8, 8, 8, 8, 8, 8, 8, 8, 8, 8, 8, 8, 8, 8, 8, 8, 8, 8, 8, 8, 8, 8, 8, 8, 8, 8, 8, 8, 8, 8, 8, 8, 8]
abbrev smL : List UInt8 := [48, 48, 48, 49, 48, 50, 48, 51, 48, 52, 48, 53, 48, 54, 48, 55, 48, 56, 48, 57, 49, 48, 49, 49, 49, 50, 49, 51, 49, 52, 49, 53, 49, 54, 49, 55, 49, 56, 49, 57, 50, 48, 50, 49, 50, 50, 50, 51, 50, 52, 50, 53, 50, 54, 50, 55, 50, 56, 50, 57, 51, 48, 51, 49, 51, 50, 51, 51, 51, 52, 51, 53, 51, 54, 51, 55, 51, 56, 51, 57, 52, 48, 52, 49, 52, 50, 52, 51, 52, 52, 52, 53, 52, 54, 52, 55, 52, 56, 52, 57, 53, 48, 53, 49, 53, 50, 53, 51, 53, 52, 53, 53, 53, 54, 53, 55, 53, 56, 53, 57, 54, 48, 54, 49, 54, 50, 54, 51, 54, 52, 54, 53, 54, 54, 54, 55, 54, 56, 54, 57, 55, 48, 55, 49, 55, 50, 55, 51, 55, 52, 55, 53, 55, 54, 55, 55, 55, 56, 55, 57, 56, 48, 56, 49, 56, 50, 56, 51, 56, 52, 56, 53, 56, 54, 56, 55, 56, 56, 56, 57, 57, 48, 57, 49, 57, 50, 57, 51, 57, 52, 57, 53, 57, 54, 57, 55, 57, 56, 57, 57]
abbrev d36L : List UInt8 := [48, 49, 50, 51, 52, 53, 54, 55, 56, 57, 97, 98, 99, 100, 101, 102, 103, 104, 105, 106, 107, 108, 109, 110, 111, 112, 113, 114, 115, 116, 117, 118, 119, 120, 121, 122]
theorem len8_fin : ∀ x : Fin 256, x.val ≠ 0 → (len8L[x.val]?.getD 0).toNat = x.val.log2 + 1 := by decide +kernel
theorem len8_at {x : Nat} (h : x < 256) (h0 : x ≠ 0) : (len8L[x]?.getD 0).toNat = x.log2 + 1 := len8_fin ⟨x, h⟩ h0
theorem sm_fin : ∀ p : Fin 100, (smL[p.val * 2]?.getD 0).toNat = 48 + p.val / 10 ∧ (smL[p.val * 2 + 1]?.getD 0).toNat = 48 + p.val % 10 := by decide +kernel
theorem d36_fin : ∀ p : Fin 10, (d36L.take (p.val + 1)).drop p.val = [UInt8.ofNat (48 + p.val)] := by decide +kernel
theorem sm2_fin : ∀ p : Fin 100, (smL.take (p.val * 2 + 2)).drop (p.val * 2) = [UInt8.ofNat (48 + p.val / 10), UInt8.ofNat (48 + p.val % 10)] := by decide +kernel

def s54 : List AVal → AHeap → Prop × AVal := fun a H => match a with
  | [.bool b] => (True, .int .i64 (if b then 1 else 0))
  | _ => (False, .tup [])
theorem q54 : ∀ args H n, (s54 args H).1 → Quiet Tryd.prog 54 args H n (s54 args H).2 := by
  intro args H n h
  unfold s54 at h ⊢
  split at h
  · rename_i b
    refine Quiet.of l54 trivial fun hf => a54 (ev_awp TabOK.tnil (ev_evK ?_))
    cases b
    · simp only [kont_nil, kont_n, kont_r, k_skip, k_ret, k_seq, k_cond, k_reg, r_nil, r_v, penv, postC, rcs, rc1, rvS, eget, lk, lkv, oks, AS.put, AS.keep, evk, Opk.opds, isB, toB, List.filterMap, Option.map_some, reduceCtorEq, and_true, true_and, forall_const, ↓reduceIte, Bool.false_eq_true, Int.reduceEq, imp_self, and_self, qret_eq, Nat.add_zero, wk_int, c54, Keeps.refl]
    · simp only [kont_nil, kont_n, kont_r, k_skip, k_ret, k_seq, k_cond, k_reg, r_nil, r_v, penv, postC, rcs, rc1, rvS, eget, lk, lkv, oks, AS.put, AS.keep, evk, Opk.opds, isB, toB, List.filterMap, Option.map_some, reduceCtorEq, and_true, true_and, forall_const, ↓reduceIte, Int.reduceEq, imp_self, and_self, qret_eq, Nat.add_zero, wk_int, c54, Keeps.refl]
  · exact h.elim

def s52 : List AVal → AHeap → Prop × AVal := fun a H => match a with
  | [.int .i64 x] => (0 ≤ x ∧ x ≤ 64, .int .i64 (x * 78913 / 262144))
  | _ => (False, .tup [])
theorem q52 : ∀ args H n, (s52 args H).1 → Quiet Tryd.prog 52 args H n (s52 args H).2 := by
  intro args H n h
  unfold s52 at h ⊢
  split at h
  · rename_i x
    refine Quiet.of l52 trivial fun hf => a52 (ev_awp TabOK.tnil (ev_evK ?_))
    simp only at h
    have e1 := w64_in (x := x * 78913) (by omega) (by omega)
    have e2 : ishift .shr .i64 (x * 78913) 18 = x * 78913 / 262144 := by
      show (x * 78913).fdiv 262144 = _
      rw [Int.fdiv_eq_ediv_of_nonneg _ (by omega)]
    simp only [kont_nil, kont_n, k_ret, k_seq, k_reg, r_nil, r_v, penv, postC, rcs, rc1, rvS, eget, lk, lkv, oks, AS.put, AS.keep, evk, Opk.opds, isI, toI, iarith, List.filterMap, Option.map_some, reduceCtorEq, ↓reduceIte, Bool.false_eq_true, Int.reduceEq, Int.reduceLE, isDiv, implies_true, ne_eq, not_false_eq_true, and_self, qret_eq, Nat.add_zero, wk_int, c52, e1, e2, Keeps.refl]
  · exact h.elim

theorem log2_shift {n k : Nat} (h : 2 ^ k ≤ n) : (n / 2 ^ k).log2 + k = n.log2 := by
  have h1 : n / 2 ^ k ≠ 0 := by
    have := Nat.div_pos h (Nat.two_pow_pos k); omega
  have h2 : n ≠ 0 := by have := Nat.two_pow_pos k; omega
  symm
  rw [Nat.log2_eq_iff h2]
  have a1 := Nat.log2_self_le h1
  have a2 := @Nat.lt_log2_self (n / 2 ^ k)
  constructor
  · rw [Nat.pow_add]
    calc 2 ^ (n / 2 ^ k).log2 * 2 ^ k ≤ n / 2 ^ k * 2 ^ k := Nat.mul_le_mul_right _ a1
      _ ≤ n := Nat.div_mul_le_self ..
  · rw [show (n / 2 ^ k).log2 + k + 1 = ((n / 2 ^ k).log2 + 1) + k by omega, Nat.pow_add]
    exact (Nat.div_lt_iff_lt_mul (Nat.two_pow_pos k)).1 a2

def s53 : List AVal → AHeap → Prop × AVal := fun a H => match a with
  | [.int .u64 x] => (1 ≤ x ∧ x < 100000, .int .i64 (x.toNat.log2 + 1 : Nat))
  | _ => (False, .tup [])
theorem q53 : ∀ args H n, (s53 args H).1 → Quiet Tryd.prog 53 args H n (s53 args H).2 := by
  intro args H n h
  unfold s53 at h ⊢
  split at h
  · rename_i x
    simp only at h
    obtain ⟨u, rfl⟩ : ∃ u : Nat, x = u := ⟨x.toNat, by omega⟩
    refine Quiet.of l53 trivial fun hf => a53 (ev_awp TabOK.tnil (ev_evK ?_))
    have c1 : ((4294967296 : Int) ≤ u) = False := eq_false (by omega)
    have hb : u.log2 ≤ 17 := by have := (Nat.log2_lt (n := u) (k := 17) (by omega)).2 (by omega); omega
    have e6 := fun k : Nat => fun hk : k ≤ 64 => w64_in (x := (k : Int)) (by omega) (by omega)
    by_cases h1 : 65536 ≤ u
    · have c2 : ((65536 : Int) ≤ u) = True := eq_true (by omega)
      have e2 : ishift .shr .u64 (u : Int) 16 = ((u / 65536 : Nat) : Int) := by
        show (u : Int).fdiv 65536 = _
        rw [Int.fdiv_eq_ediv_of_nonneg _ (by omega)]; omega
      have c3 : ((256 : Int) ≤ (u / 65536 : Nat)) = False := eq_false (by omega)
      have e3 := wu8 (n := u / 65536) (by omega)
      have hl : (u / 65536).log2 + 16 = u.log2 := log2_shift (k := 16) h1
      have e4 := len8_at (x := u / 65536) (by omega) (by omega)
      have e5 := e6 ((u / 65536).log2 + 1) (by omega)
      have e6' : IntKind.wrap .i64 (16 + (((u / 65536).log2 + 1 : Nat) : Int)) = ((u.log2 + 1 : Nat) : Int) := by rw [w64_in (by omega) (by omega)]; omega
      have e7 : IntKind.wrap .i64 (0 + 16) = 16 := by decide
      have e8 : ((u / 65536 : Nat) : Int) < ((256 : Nat) : Int) := by omega
      simp only [kont_nil, kont_n, k_skip, k_ret, k_seq, k_cond, k_reg, r_nil, r_v, penv, postC, rcs, rc1, rvS, eget, lk, lkv, oks, AS.put, AS.keep, evk, Opk.opds, isI, isInt, toI, isB, toB, isS, toS, icmp, iarith, List.length_cons, List.length_nil, List.filterMap, Option.map_some, reduceCtorEq, and_true, true_and, forall_const, Nat.reduceEqDiff, ↓reduceIte, Bool.false_eq_true, Nat.reduceAdd, Int.reduceEq, Int.reduceLE, isDiv, false_implies, implies_true, Nat.zero_add, decide_eq_true_eq, decide_eq_false_iff_not, ne_eq, not_false_eq_true, and_self, qret_eq, Nat.add_zero, wk_int, decide_true, decide_false, c53, c1, c2, e2, c3, e3, Int.toNat_natCast, Int.natCast_nonneg, e4, e5, e6', e7, e8, Keeps.refl]
    have c2 : ((65536 : Int) ≤ u) = False := eq_false (by omega)
    by_cases h2 : 256 ≤ u
    · have c3 : ((256 : Int) ≤ u) = True := eq_true (by omega)
      have e2 : ishift .shr .u64 (u : Int) 8 = ((u / 256 : Nat) : Int) := by
        show (u : Int).fdiv 256 = _
        rw [Int.fdiv_eq_ediv_of_nonneg _ (by omega)]; omega
      have e3 := wu8 (n := u / 256) (by omega)
      have hl : (u / 256).log2 + 8 = u.log2 := log2_shift (k := 8) h2
      have e4 := len8_at (x := u / 256) (by omega) (by omega)
      have e5 := e6 ((u / 256).log2 + 1) (by omega)
      have e6' : IntKind.wrap .i64 (8 + (((u / 256).log2 + 1 : Nat) : Int)) = ((u.log2 + 1 : Nat) : Int) := by rw [w64_in (by omega) (by omega)]; omega
      have e7 : IntKind.wrap .i64 (0 + 8) = 8 := by decide
      have e8 : ((u / 256 : Nat) : Int) < ((256 : Nat) : Int) := by omega
      simp only [kont_nil, kont_n, k_skip, k_ret, k_seq, k_cond, k_reg, r_nil, r_v, penv, postC, rcs, rc1, rvS, eget, lk, lkv, oks, AS.put, AS.keep, evk, Opk.opds, isI, isInt, toI, isB, toB, isS, toS, icmp, iarith, List.length_cons, List.length_nil, List.filterMap, Option.map_some, reduceCtorEq, and_true, true_and, forall_const, Nat.reduceEqDiff, ↓reduceIte, Bool.false_eq_true, Nat.reduceAdd, Int.reduceEq, Int.reduceLE, isDiv, false_implies, implies_true, Nat.zero_add, decide_eq_true_eq, decide_eq_false_iff_not, ne_eq, not_false_eq_true, and_self, qret_eq, Nat.add_zero, wk_int, decide_true, decide_false, c53, c1, c2, e2, c3, e3, Int.toNat_natCast, Int.natCast_nonneg, e4, e5, e6', e7, e8, Keeps.refl]
    · have c3 : ((256 : Int) ≤ u) = False := eq_false (by omega)
      have e3 := wu8 (n := u) (by omega)
      have e4 := len8_at (x := u) (by omega) (by omega)
      have e5 := e6 (u.log2 + 1) (by omega)
      have e6' : IntKind.wrap .i64 (0 + ((u.log2 + 1 : Nat) : Int)) = ((u.log2 + 1 : Nat) : Int) := by rw [w64_in (by omega) (by omega)]; omega
      have e8 : (u : Int) < ((256 : Nat) : Int) := by omega
      simp only [kont_nil, kont_n, k_skip, k_ret, k_seq, k_cond, k_reg, r_nil, r_v, penv, postC, rcs, rc1, rvS, eget, lk, lkv, oks, AS.put, AS.keep, evk, Opk.opds, isI, isInt, toI, isB, toB, isS, toS, icmp, iarith, List.length_cons, List.length_nil, List.filterMap, Option.map_some, reduceCtorEq, and_true, true_and, forall_const, Nat.reduceEqDiff, ↓reduceIte, Bool.false_eq_true, Nat.reduceAdd, Int.reduceEq, Int.reduceLE, isDiv, false_implies, implies_true, Nat.zero_add, decide_eq_true_eq, decide_eq_false_iff_not, ne_eq, not_false_eq_true, and_self, qret_eq, Nat.add_zero, wk_int, decide_false, c53, c1, c2, c3, e3, Int.toNat_natCast, Int.natCast_nonneg, e4, e5, e6', e8, Keeps.refl]
  · exact h.elim

def T13 : Tab := tadd 53 s53 (tadd 52 s52 (tadd 54 s54 tnil))
theorem T13_ok : TabOK Tryd.prog T13 := ((TabOK.tnil.add q54).add q52).add q53
theorem T13_53 (a : List AVal) (H : AHeap) : T13 53 a H = s53 a H := rfl
theorem T13_52 (a : List AVal) (H : AHeap) : T13 52 a H = s52 a H := rfl
theorem T13_54 (a : List AVal) (H : AHeap) : T13 54 a H = s54 a H := rfl

/-! numDigits, from 100 to 99999 -/
def nd (u : Nat) : Nat := if u < 1000 then 3 else if u < 10000 then 4 else 5
def s48 : List AVal → AHeap → Prop × AVal := fun a H => match a with
  | [.int .u64 x] => (100 ≤ x ∧ x < 100000, .int .i64 (nd x.toNat))
  | _ => (False, .tup [])
abbrev p10L : List AVal := [.int .u64 1, .int .u64 10, .int .u64 100, .int .u64 1000, .int .u64 10000, .int .u64 100000, .int .u64 1000000, .int .u64 10000000, .int .u64 100000000, .int .u64 1000000000, .int .u64 10000000000, .int .u64 100000000000, .int .u64 1000000000000, .int .u64 10000000000000, .int .u64 100000000000000, .int .u64 1000000000000000, .int .u64 10000000000000000, .int .u64 100000000000000000, .int .u64 1000000000000000000, .int .u64 10000000000000000000]
theorem q48 : ∀ args H n, (s48 args H).1 → Quiet Tryd.prog 48 args H n (s48 args H).2 := by
  intro args H n h
  unfold s48 at h ⊢
  split at h
  · rename_i x
    simp only at h
    obtain ⟨u, rfl⟩ : ∃ u : Nat, x = u := ⟨x.toNat, by omega⟩
    refine Quiet.of l48 trivial fun hf => a48 (ev_awp T13_ok (ev_evK ?_))
    have hu0 : u ≠ 0 := by omega
    have b1 := Nat.log2_self_le hu0
    have b2 := @Nat.lt_log2_self u
    have hb : u.log2 ≤ 16 := by have := (Nat.log2_lt (n := u) (k := 17) hu0).2 (by omega); omega
    have hb' : 6 ≤ u.log2 := by
      rcases Nat.lt_or_ge u.log2 6 with q | q
      · have := (Nat.log2_lt (n := u) (k := 6) hu0).1 q; omega
      · exact q
    have c1 : (1 : Int) ≤ u := by omega
    have c2 : (u : Int) < 100000 := by omega
    have c3 : (0 : Int) ≤ ((u.log2 + 1 : Nat) : Int) := by omega
    have c4 : ((u.log2 + 1 : Nat) : Int) ≤ 64 := by omega
    obtain ⟨k, hk, hk2⟩ : ∃ k : Nat, (((u.log2 + 1 : Nat) : Int) * 78913 / 262144 = k) ∧ ((k = 2 ∧ 64 ≤ u ∧ u < 512) ∨ (k = 3 ∧ 512 ≤ u ∧ u < 8192) ∨ (k = 4 ∧ 8192 ≤ u ∧ u < 65536) ∨ (k = 5 ∧ 65536 ≤ u ∧ u < 131072)) := by
      generalize u.log2 = L at *
      have : L = 6 ∨ L = 7 ∨ L = 8 ∨ L = 9 ∨ L = 10 ∨ L = 11 ∨ L = 12 ∨ L = 13 ∨ L = 14 ∨ L = 15 ∨ L = 16 := by omega
      rcases this with rfl | rfl | rfl | rfl | rfl | rfl | rfl | rfl | rfl | rfl | rfl
      all_goals first
        | exact ⟨2, by decide, by omega⟩
        | exact ⟨3, by decide, by omega⟩
        | exact ⟨4, by decide, by omega⟩
        | exact ⟨5, by decide, by omega⟩
    rcases hk2 with ⟨rfl, r1, r2⟩ | ⟨rfl, r1, r2⟩ | ⟨rfl, r1, r2⟩ | ⟨rfl, r1, r2⟩
    · have hk' : (((u.log2 + 1 : Nat) : Int) * 78913 / 262144) = 2 := hk
      simp only [kont_nil, kont_n, k_ret, k_seq, k_reg, r_nil, r_v, r_call, callT, penv, postC, rcs, rc1, rvS, eget, lk, lkv, oks, AS.put, AS.keep, evk, Opk.opds, aload, isI, isInt, toI, mk, icmp, iarith, List.length_cons, List.length_nil, List.filterMap, List.map_cons, List.map_nil, List.append_nil, List.nil_append, Option.map_some, reduceCtorEq, and_true, true_and, Nat.reduceEqDiff, ↓reduceIte, Bool.false_eq_true, Nat.reduceAdd, List.drop, List.take, List.drop_succ_cons, Nat.reduceLeDiff, Nat.reduceMul, Int.reduceLE, Int.reduceToNat, List.headD_cons, isDiv, false_implies, Nat.zero_add, decide_eq_true_eq, ne_eq, and_self, qret_eq, Nat.add_zero, wk_int, c48, T13_53, T13_52, T13_54, s53, s52, s54, c1, c2, c3, c4, hk', Int.toNat_natCast, Keeps.refl]
      refine ⟨by omega, ?_⟩
      unfold nd
      rw [w64_in (by split <;> omega) (by split <;> omega)]
      repeat' split
      all_goals omega
    · have hk' : (((u.log2 + 1 : Nat) : Int) * 78913 / 262144) = 3 := hk
      simp only [kont_nil, kont_n, k_ret, k_seq, k_reg, r_nil, r_v, r_call, callT, penv, postC, rcs, rc1, rvS, eget, lk, lkv, oks, AS.put, AS.keep, evk, Opk.opds, aload, isI, isInt, toI, mk, icmp, iarith, List.length_cons, List.length_nil, List.filterMap, List.map_cons, List.map_nil, List.append_nil, List.nil_append, Option.map_some, reduceCtorEq, and_true, true_and, Nat.reduceEqDiff, ↓reduceIte, Bool.false_eq_true, Nat.reduceAdd, List.drop, List.take, List.drop_succ_cons, Nat.reduceLeDiff, Nat.reduceMul, Int.reduceLE, Int.reduceToNat, List.headD_cons, isDiv, false_implies, Nat.zero_add, decide_eq_true_eq, ne_eq, and_self, qret_eq, Nat.add_zero, wk_int, c48, T13_53, T13_52, T13_54, s53, s52, s54, c1, c2, c3, c4, hk', Int.toNat_natCast, Keeps.refl]
      refine ⟨by omega, ?_⟩
      unfold nd
      rw [w64_in (by split <;> omega) (by split <;> omega)]
      repeat' split
      all_goals omega
    · have hk' : (((u.log2 + 1 : Nat) : Int) * 78913 / 262144) = 4 := hk
      simp only [kont_nil, kont_n, k_ret, k_seq, k_reg, r_nil, r_v, r_call, callT, penv, postC, rcs, rc1, rvS, eget, lk, lkv, oks, AS.put, AS.keep, evk, Opk.opds, aload, isI, isInt, toI, mk, icmp, iarith, List.length_cons, List.length_nil, List.filterMap, List.map_cons, List.map_nil, List.append_nil, List.nil_append, Option.map_some, reduceCtorEq, and_true, true_and, Nat.reduceEqDiff, ↓reduceIte, Bool.false_eq_true, Nat.reduceAdd, List.drop, List.take, List.drop_succ_cons, Nat.reduceLeDiff, Nat.reduceMul, Int.reduceLE, Int.reduceToNat, List.headD_cons, isDiv, false_implies, Nat.zero_add, decide_eq_true_eq, ne_eq, and_self, qret_eq, Nat.add_zero, wk_int, c48, T13_53, T13_52, T13_54, s53, s52, s54, c1, c2, c3, c4, hk', Int.toNat_natCast, Keeps.refl]
      refine ⟨by omega, ?_⟩
      unfold nd
      rw [w64_in (by split <;> omega) (by split <;> omega)]
      repeat' split
      all_goals omega
    · have hk' : (((u.log2 + 1 : Nat) : Int) * 78913 / 262144) = 5 := hk
      simp only [kont_nil, kont_n, k_ret, k_seq, k_reg, r_nil, r_v, r_call, callT, penv, postC, rcs, rc1, rvS, eget, lk, lkv, oks, AS.put, AS.keep, evk, Opk.opds, aload, isI, isInt, toI, mk, icmp, iarith, List.length_cons, List.length_nil, List.filterMap, List.map_cons, List.map_nil, List.append_nil, List.nil_append, Option.map_some, reduceCtorEq, and_true, true_and, Nat.reduceEqDiff, ↓reduceIte, Bool.false_eq_true, Nat.reduceAdd, List.drop, List.take, List.drop_succ_cons, Nat.reduceLeDiff, Nat.reduceMul, Int.reduceLE, Int.reduceToNat, List.headD_cons, isDiv, false_implies, Nat.zero_add, decide_eq_true_eq, ne_eq, and_self, qret_eq, Nat.add_zero, wk_int, c48, T13_53, T13_52, T13_54, s53, s52, s54, c1, c2, c3, c4, hk', Int.toNat_natCast, Keeps.refl]
      refine ⟨by omega, ?_⟩
      unfold nd
      rw [w64_in (by split <;> omega) (by split <;> omega)]
      repeat' split
      all_goals omega
  · exact h.elim

/-! small -/
def s47 : List AVal → AHeap → Prop × AVal := fun a H => match a with
  | [.int .i64 x] => (0 ≤ x ∧ x < 100, .str (decDigits x.toNat))
  | _ => (False, .tup [])
theorem q47 : ∀ args H n, (s47 args H).1 → Quiet Tryd.prog 47 args H n (s47 args H).2 := by
  intro args H n h
  unfold s47 at h ⊢
  split at h
  · rename_i x
    simp only at h
    obtain ⟨u, rfl⟩ : ∃ u : Nat, x = u := ⟨x.toNat, by omega⟩
    refine Quiet.of l47 trivial fun hf => a47 (ev_awp TabOK.tnil (ev_evK ?_))
    by_cases h1 : u < 10
    · have c1 : ((u : Int) < 10) = True := eq_true (by omega)
      have e1 := w64_succ (k := u) (by omega)
      have e2 : (d36L.take (u + 1)).drop u = decDigits u := by rw [decDigits_one h1]; exact d36_fin ⟨u, h1⟩
      simp only [kont_nil, kont_n, kont_r, k_skip, k_ret, k_seq, k_cond, k_reg, r_nil, r_v, penv, postC, rcs, rc1, rvS, eget, lk, lkv, oks, AS.put, AS.keep, evk, Opk.opds, isI, isInt, toI, isB, toB, isS, toS, icmp, iarith, bnd, bndI, Option.toList, List.length_cons, List.length_nil, List.filterMap, List.nil_append, List.cons_append, Option.map_some, reduceCtorEq, and_true, true_and, forall_const, Nat.reduceEqDiff, ↓reduceIte, Bool.false_eq_true, Nat.reduceAdd, List.take_succ_cons, Int.reduceEq, isDiv, false_implies, implies_true, Nat.zero_add, ne_eq, not_false_eq_true, and_self, qret_eq, Nat.add_zero, wk_str, decide_true, c47, c1, e1, Int.toNat_natCast, Int.natCast_nonneg, Keeps.refl]
      exact ⟨⟨by omega, by omega⟩, e2⟩
    · have c1 : ((u : Int) < 10) = False := eq_false (by omega)
      have e1 : IntKind.wrap .i64 ((u : Int) * 2) = ((u * 2 : Nat) : Int) := by rw [w64_in (by omega) (by omega)]; omega
      have e3 : IntKind.wrap .i64 (((u * 2 : Nat) : Int) + 2) = ((u * 2 + 2 : Nat) : Int) := by rw [w64_in (by omega) (by omega)]; omega
      have e2 : (smL.take (u * 2 + 2)).drop (u * 2) = decDigits u := by rw [decDigits_two h1 (by omega)]; exact sm2_fin ⟨u, by omega⟩
      simp only [kont_nil, kont_n, kont_r, k_skip, k_ret, k_seq, k_cond, k_reg, r_nil, r_v, penv, postC, rcs, rc1, rvS, eget, lk, lkv, oks, AS.put, AS.keep, evk, Opk.opds, isI, isInt, toI, isB, toB, isS, toS, icmp, iarith, bnd, bndI, Option.toList, List.length_cons, List.length_nil, List.filterMap, List.nil_append, List.cons_append, Option.map_some, reduceCtorEq, and_true, true_and, forall_const, Nat.reduceEqDiff, ↓reduceIte, Bool.false_eq_true, Nat.reduceAdd, List.take, List.take_succ_cons, Int.reduceEq, isDiv, false_implies, implies_true, Nat.zero_add, ne_eq, not_false_eq_true, and_self, qret_eq, Nat.add_zero, wk_str, decide_false, c47, c1, e1, e3, Int.toNat_natCast, Int.natCast_nonneg, Keeps.refl]
      exact ⟨⟨by omega, by omega⟩, e2⟩
  · exact h.elim

end Go.AM
end

/- Booklets: decimal numbers, part 2: formatBase10. Conditions: none. -/
section
set_option maxRecDepth 10000
set_option linter.unusedSimpArgs false
set_option linter.unusedVariables false
set_option maxHeartbeats 1000000
set_option linter.unusedVariables false
set_option linter.unusedSimpArgs false
namespace Go.AM
open Go.Proofs Go.Lib

def arrB (N : Nat) (g : Nat → Nat) : List AVal := (List.range N).map fun k => .int .u8 (g k)
theorem arrB_len {N : Nat} {g : Nat → Nat} : (arrB N g).length = N := by simp [arrB]
theorem arrB_set {N i v : Nat} {g : Nat → Nat} : (arrB N g).set i (.int .u8 v) = arrB N (upd g i v) := by
  refine List.ext_getElem (by simp [arrB]) fun k h1 h2 => ?_
  rw [List.getElem_set]
  simp only [arrB, List.getElem_map, List.getElem_range, upd]
  by_cases e : i = k
  · subst e; simp
  · rw [if_neg e, if_neg (fun q => e q.symm)]
theorem sm_a {p : Nat} (h : p < 100) : (smL[p * 2]?.getD 0).toNat = 48 + p / 10 := (sm_fin ⟨p, h⟩).1
theorem sm_b {p : Nat} (h : p < 100) : (smL[p * 2 + 1]?.getD 0).toNat = 48 + p % 10 := (sm_fin ⟨p, h⟩).2
abbrev Bx1 (H : AHeap) (id : Nat) (g : Nat → Nat) : AHeap := hset H id (.arr 1 (arrB 24 g))
/-- The digits, written. -/
def fmt (u : Nat) (g : Nat → Nat) : Nat → Nat :=
  if u < 1000 then upd (upd (upd g 2 (48 + u % 100 % 10)) 1 (48 + u % 100 / 10)) 0 (48 + u / 100)
  else if u < 10000 then upd (upd (upd (upd g 3 (48 + u % 10000 % 100 % 10)) 2 (48 + u % 10000 % 100 / 10)) 1 (48 + u % 10000 / 100 % 10)) 0 (48 + u % 10000 / 100 / 10)
  else upd (upd (upd (upd (upd g 4 (48 + u % 10000 % 100 % 10)) 3 (48 + u % 10000 % 100 / 10)) 2 (48 + u % 10000 / 100 % 10)) 1 (48 + u % 10000 / 100 / 10)) 0 (48 + u / 10000)

theorem p49 (H : AHeap) (n id u : Nat) (g : Nat → Nat) (h1 : 100 ≤ u) (h2 : u < 100000) :
    ACalls Tryd.prog 49 [.ref id 1 0 (nd u) 24, .int .u64 u] (Bx1 H id g) n (fun o H' n' => o = .ret (.tup []) ∧ n' = n ∧ H' = Bx1 H id (fmt u g)) := by
  refine a49 (ev_awp T13_ok (ev_evK ?_))
  have e0 := wu32 (n := u) (by omega)
  have m1 : (u : Int).tmod 100 = ((u % 100 : Nat) : Int) := by rw [Int.tmod_eq_emod_of_nonneg (by omega)]; omega
  have d1 : IntKind.wrap .u32 ((u : Int).tdiv 100) = ((u / 100 : Nat) : Int) := by
    rw [Int.tdiv_eq_ediv_of_nonneg (by omega), show (u : Int) / 100 = ((u / 100 : Nat) : Int) by omega]; exact wu32 (by omega)
  have k1 : IntKind.wrap .u32 (((u % 100 : Nat) : Int) * 2) = ((u % 100 * 2 : Nat) : Int) := by
    rw [show ((u % 100 : Nat) : Int) * 2 = ((u % 100 * 2 : Nat) : Int) by omega]; exact wu32 (by omega)
  have k2 : IntKind.wrap .u32 (((u % 100 * 2 : Nat) : Int) + 1) = ((u % 100 * 2 + 1 : Nat) : Int) := by
    rw [show ((u % 100 * 2 : Nat) : Int) + 1 = ((u % 100 * 2 + 1 : Nat) : Int) by omega]; exact wu32 (by omega)
  have s1 := sm_a (p := u % 100) (by omega)
  have s2 := sm_b (p := u % 100) (by omega)
  have l1 : ((u % 100 * 2 : Nat) : Int) < ((200 : Nat) : Int) := by omega
  have l2 : ((u % 100 * 2 + 1 : Nat) : Int) < ((200 : Nat) : Int) := by omega
  have w1 : IntKind.wrap .i64 (3 - 1) = 2 := by decide
  have w2 : IntKind.wrap .i64 (3 - 2) = 1 := by decide
  by_cases c1 : u < 1000
  · have hn : nd u = 3 := by unfold nd; rw [if_pos c1]
    have z1 : IntKind.wrap .u32 (48 + ((u / 100 : Nat) : Int)) = ((48 + u / 100 : Nat) : Int) := by
      rw [show 48 + ((u / 100 : Nat) : Int) = ((48 + u / 100 : Nat) : Int) by omega]; exact wu32 (by omega)
    have z2 := wu8 (n := 48 + u / 100) (by omega)
    have hf : fmt u g = upd (upd (upd g 2 (48 + u % 100 % 10)) 1 (48 + u % 100 / 10)) 0 (48 + u / 100) := by unfold fmt; rw [if_pos c1]
    rw [hn]
    have n3 : ((3 : Nat) : Int) = 3 := rfl
    simp only [kont_n, k_seq, k_block, k_reg, r_nil, r_v, penv, eget, lk, lkv, oks, AS.put, AS.keep, evk, Opk.opds, List.filterMap, Option.map_some, reduceCtorEq, true_and, Nat.reduceEqDiff, ↓reduceIte, Nat.zero_add, and_self, Nat.add_zero, c49, n3]
    refine k_loop (fun _ : Unit => ⟨[(0, true, .ref id 1 0 3 24), (1, true, .int .u64 u), (4, true, .int .i64 3)], Bx1 H id g, n⟩) (fun _ => True) (fun _ => 0) () rfl trivial ?_
    intro _ _
    simp only [kont_nil, kont_n, kont_e, kont_bn, kont_be, k_skip, k_exit, k_seq, k_block, k_cond, k_reg, r_nil, r_v, r_st, stE, lpQ_n, lpQ_e, postC, rcs, rvS, eget, lk, lkv, oks, AS.put, AS.keep, evk, Opk.opds, isI, isInt, toI, isB, toB, isS, toS, icmp, iarith, nT, hget_hset, AVal.cells, List.length_cons, List.length_nil, List.filterMap, Option.map_some, reduceCtorEq, and_true, true_and, forall_const, Nat.reduceEqDiff, ↓reduceIte, Bool.false_eq_true, Nat.reduceAdd, Nat.reduceLT, Int.reduceEq, Int.reduceLE, Int.reduceLT, Int.reduceToNat, isDiv, false_implies, implies_true, Nat.zero_add, decide_eq_true_eq, decide_eq_false_iff_not, ne_eq, not_false_eq_true, and_self, Nat.add_zero, decide_true, decide_false, e0, m1, d1, k1, k2, s1, s2, l1, l2, w1, w2, z1, z2, n3, Int.toNat_natCast, Int.natCast_nonneg, arrB_len, arrB_set, hset_hset]
    rw [hf]
  have mr : (u : Int).tmod 10000 = ((u % 10000 : Nat) : Int) := by rw [Int.tmod_eq_emod_of_nonneg (by omega)]; omega
  have dq : IntKind.wrap .u32 ((u : Int).tdiv 10000) = ((u / 10000 : Nat) : Int) := by
    rw [Int.tdiv_eq_ediv_of_nonneg (by omega), show (u : Int) / 10000 = ((u / 10000 : Nat) : Int) by omega]; exact wu32 (by omega)
  have hfm : fmt u g = if u < 10000 then upd (upd (upd (upd g 3 (48 + u % 10000 % 100 % 10)) 2 (48 + u % 10000 % 100 / 10)) 1 (48 + u % 10000 / 100 % 10)) 0 (48 + u % 10000 / 100 / 10)
      else upd (upd (upd (upd (upd g 4 (48 + u % 10000 % 100 % 10)) 3 (48 + u % 10000 % 100 / 10)) 2 (48 + u % 10000 / 100 % 10)) 1 (48 + u % 10000 / 100 / 10)) 0 (48 + u / 10000) := by unfold fmt; rw [if_neg c1]
  have hr : u % 10000 < 10000 := by omega
  generalize hrr : u % 10000 = r at mr hfm hr
  have m3 : (r : Int).tmod 100 = ((r % 100 : Nat) : Int) := by rw [Int.tmod_eq_emod_of_nonneg (by omega)]; omega
  have d3 : IntKind.wrap .u32 ((r : Int).tdiv 100) = ((r / 100 : Nat) : Int) := by
    rw [Int.tdiv_eq_ediv_of_nonneg (by omega), show (r : Int) / 100 = ((r / 100 : Nat) : Int) by omega]; exact wu32 (by omega)
  have two : ∀ p : Nat, p < 100 → IntKind.wrap .u32 ((p : Int) * 2) = ((p * 2 : Nat) : Int) := fun p hp => by
    rw [show (p : Int) * 2 = ((p * 2 : Nat) : Int) by omega]; exact wu32 (by omega)
  have twp : ∀ p : Nat, p < 100 → IntKind.wrap .u32 (((p * 2 : Nat) : Int) + 1) = ((p * 2 + 1 : Nat) : Int) := fun p hp => by
    rw [show ((p * 2 : Nat) : Int) + 1 = ((p * 2 + 1 : Nat) : Int) by omega]; exact wu32 (by omega)
  have A1 := two (r % 100) (by omega)
  have A2 := two (r / 100) (by omega)
  have A3 := twp (r % 100) (by omega)
  have A4 := twp (r / 100) (by omega)
  have B1 := sm_a (p := r % 100) (by omega)
  have B2 := sm_b (p := r % 100) (by omega)
  have B3 := sm_a (p := r / 100) (by omega)
  have B4 := sm_b (p := r / 100) (by omega)
  have L1 : ((r % 100 * 2 : Nat) : Int) < ((200 : Nat) : Int) := by omega
  have L2 : ((r % 100 * 2 + 1 : Nat) : Int) < ((200 : Nat) : Int) := by omega
  have L3 : ((r / 100 * 2 : Nat) : Int) < ((200 : Nat) : Int) := by omega
  have L4 : ((r / 100 * 2 + 1 : Nat) : Int) < ((200 : Nat) : Int) := by omega
  have v1 : IntKind.wrap .i64 (4 - 1) = 3 := by decide
  have v2 : IntKind.wrap .i64 (4 - 2) = 2 := by decide
  have v3 : IntKind.wrap .i64 (4 - 3) = 1 := by decide
  have v4 : IntKind.wrap .i64 (4 - 4) = 0 := by decide
  have v5 : IntKind.wrap .i64 (5 - 1) = 4 := by decide
  have v6 : IntKind.wrap .i64 (5 - 2) = 3 := by decide
  have v7 : IntKind.wrap .i64 (5 - 3) = 2 := by decide
  have v8 : IntKind.wrap .i64 (5 - 4) = 1 := by decide
  have z1 : IntKind.wrap .u32 (48 + ((u / 10000 : Nat) : Int)) = ((48 + u / 10000 : Nat) : Int) := by
    rw [show 48 + ((u / 10000 : Nat) : Int) = ((48 + u / 10000 : Nat) : Int) by omega]; exact wu32 (by omega)
  have z2 := wu8 (n := 48 + u / 10000) (by omega)
  have n4 : ((4 : Nat) : Int) = 4 := rfl
  have n5 : ((5 : Nat) : Int) = 5 := rfl
  by_cases c2 : u < 10000
  · have hn : nd u = 4 := by unfold nd; rw [if_neg c1, if_pos c2]
    rw [if_pos c2] at hfm
    rw [hn]
    simp only [kont_n, k_seq, k_block, k_reg, r_nil, r_v, penv, eget, lk, lkv, oks, AS.put, AS.keep, evk, Opk.opds, List.filterMap, Option.map_some, reduceCtorEq, true_and, Nat.reduceEqDiff, ↓reduceIte, Nat.zero_add, and_self, Nat.add_zero, c49, n4]
    refine k_loop (fun _ : Unit => ⟨[(0, true, .ref id 1 0 4 24), (1, true, .int .u64 u), (4, true, .int .i64 4)], Bx1 H id g, n⟩) (fun _ => True) (fun _ => 0) () rfl trivial ?_
    intro _ _
    simp only [kont_nil, kont_n, kont_e, kont_bn, kont_be, k_skip, k_exit, k_seq, k_block, k_cond, k_reg, r_nil, r_v, r_st, stE, lpQ_n, lpQ_e, postC, rcs, rvS, eget, lk, lkv, oks, AS.put, AS.keep, evk, Opk.opds, isI, isInt, toI, isB, toB, isS, toS, icmp, iarith, nT, hget_hset, AVal.cells, List.length_cons, List.length_nil, List.filterMap, Option.map_some, reduceCtorEq, and_true, true_and, forall_const, Nat.reduceEqDiff, ↓reduceIte, Bool.false_eq_true, Nat.reduceAdd, Nat.reduceLT, Int.reduceEq, Int.reduceLE, Int.reduceLT, Int.reduceToNat, isDiv, false_implies, implies_true, Nat.zero_add, decide_eq_true_eq, decide_eq_false_iff_not, ne_eq, not_false_eq_true, and_self, Nat.add_zero, decide_true, decide_false, e0, mr, dq, m3, d3, A1, A2, A3, A4, B1, B2, B3, B4, L1, L2, L3, L4, v1, v2, v3, v4, n4, Int.toNat_natCast, Int.natCast_nonneg, arrB_len, arrB_set, hset_hset]
    rw [hfm]
  · have hn : nd u = 5 := by unfold nd; rw [if_neg c1, if_neg c2]
    rw [if_neg c2] at hfm
    rw [hn]
    simp only [kont_n, k_seq, k_block, k_reg, r_nil, r_v, penv, eget, lk, lkv, oks, AS.put, AS.keep, evk, Opk.opds, List.filterMap, Option.map_some, reduceCtorEq, true_and, Nat.reduceEqDiff, ↓reduceIte, Nat.zero_add, and_self, Nat.add_zero, c49, n5]
    refine k_loop (fun _ : Unit => ⟨[(0, true, .ref id 1 0 5 24), (1, true, .int .u64 u), (4, true, .int .i64 5)], Bx1 H id g, n⟩) (fun _ => True) (fun _ => 0) () rfl trivial ?_
    intro _ _
    simp only [kont_nil, kont_n, kont_e, kont_bn, kont_be, k_skip, k_exit, k_seq, k_block, k_cond, k_reg, r_nil, r_v, r_st, stE, lpQ_n, lpQ_e, postC, rcs, rvS, eget, lk, lkv, oks, AS.put, AS.keep, evk, Opk.opds, isI, isInt, toI, isB, toB, isS, toS, icmp, iarith, nT, hget_hset, AVal.cells, List.length_cons, List.length_nil, List.filterMap, Option.map_some, reduceCtorEq, and_true, true_and, forall_const, Nat.reduceEqDiff, ↓reduceIte, Bool.false_eq_true, Nat.reduceAdd, Nat.reduceLT, Int.reduceEq, Int.reduceLE, Int.reduceLT, Int.reduceToNat, isDiv, false_implies, implies_true, Nat.zero_add, decide_eq_true_eq, decide_eq_false_iff_not, ne_eq, not_false_eq_true, and_self, Nat.add_zero, decide_true, decide_false, e0, mr, dq, m3, d3, A1, A2, A3, A4, B1, B2, B3, B4, L1, L2, L3, L4, v5, v6, v7, v8, z1, z2, n5, Int.toNat_natCast, Int.natCast_nonneg, arrB_len, arrB_set, hset_hset]
    rw [hfm]

theorem fmt_digits {u : Nat} (g : Nat → Nat) (h1 : 100 ≤ u) (h2 : u < 100000) : (arrB 24 (fmt u g)).take (nd u) = (decDigits u).map fun b => .int .u8 (b.toNat : Nat) := by
  have one : ∀ k : Nat, k < 10 → (UInt8.ofNat (48 + k)).toNat = 48 + k := fun k hk => by simp; omega
  have e3 : ∀ g : Nat → Nat, (arrB 24 g).take 3 = [.int .u8 (g 0), .int .u8 (g 1), .int .u8 (g 2)] := fun g => rfl
  have e4 : ∀ g : Nat → Nat, (arrB 24 g).take 4 = [.int .u8 (g 0), .int .u8 (g 1), .int .u8 (g 2), .int .u8 (g 3)] := fun g => rfl
  have e5 : ∀ g : Nat → Nat, (arrB 24 g).take 5 = [.int .u8 (g 0), .int .u8 (g 1), .int .u8 (g 2), .int .u8 (g 3), .int .u8 (g 4)] := fun g => rfl
  by_cases c1 : u < 1000
  · have hn : nd u = 3 := by unfold nd; rw [if_pos c1]
    have hd : decDigits u = [UInt8.ofNat (48 + u / 10 / 10), UInt8.ofNat (48 + u / 10 % 10), UInt8.ofNat (48 + u % 10)] := by
      rw [decDigits, dif_neg (by omega), decDigits_two (by omega) (by omega)]; rfl
    rw [hn, hd, e3]
    unfold fmt
    rw [if_pos c1]
    simp only [upd, List.map_cons, List.map_nil, one (u / 10 / 10) (by omega), one (u / 10 % 10) (by omega), one (u % 10) (by omega)]
    simp
    omega
  have h3 : ∀ v : Nat, 100 ≤ v → v < 1000 → decDigits v = [UInt8.ofNat (48 + v / 10 / 10), UInt8.ofNat (48 + v / 10 % 10), UInt8.ofNat (48 + v % 10)] := fun v a b => by
    rw [decDigits, dif_neg (by omega), decDigits_two (by omega) (by omega)]; rfl
  have h4 : ∀ v : Nat, 1000 ≤ v → v < 10000 → decDigits v = [UInt8.ofNat (48 + v / 10 / 10 / 10), UInt8.ofNat (48 + v / 10 / 10 % 10), UInt8.ofNat (48 + v / 10 % 10), UInt8.ofNat (48 + v % 10)] := fun v a b => by
    rw [decDigits, dif_neg (by omega), h3 (v / 10) (by omega) (by omega)]; rfl
  by_cases c2 : u < 10000
  · have hn : nd u = 4 := by unfold nd; rw [if_neg c1, if_pos c2]
    rw [hn, h4 u (by omega) c2, e4]
    unfold fmt
    rw [if_neg c1, if_pos c2]
    simp only [upd, List.map_cons, List.map_nil, one (u / 10 / 10 / 10) (by omega), one (u / 10 / 10 % 10) (by omega), one (u / 10 % 10) (by omega), one (u % 10) (by omega)]
    simp
    omega
  · have hn : nd u = 5 := by unfold nd; rw [if_neg c1, if_neg c2]
    have h5 : decDigits u = [UInt8.ofNat (48 + u / 10 / 10 / 10 / 10), UInt8.ofNat (48 + u / 10 / 10 / 10 % 10), UInt8.ofNat (48 + u / 10 / 10 % 10), UInt8.ofNat (48 + u / 10 % 10), UInt8.ofNat (48 + u % 10)] := by
      rw [decDigits, dif_neg (by omega), h4 (u / 10) (by omega) (by omega)]; rfl
    rw [hn, h5, e5]
    unfold fmt
    rw [if_neg c1, if_neg c2]
    simp only [upd, List.map_cons, List.map_nil, one (u / 10 / 10 / 10 / 10) (by omega), one (u / 10 / 10 / 10 % 10) (by omega), one (u / 10 / 10 % 10) (by omega), one (u / 10 % 10) (by omega), one (u % 10) (by omega)]
    simp
    omega

end Go.AM
end

/- Booklets: decimal numbers, part 3: AppendInt, the closure that writes numbers, digits. Conditions: none. -/
section
set_option maxRecDepth 10000
set_option linter.unusedSimpArgs false
set_option linter.unusedVariables false
set_option maxHeartbeats 1000000
set_option linter.unusedVariables false
set_option linter.unusedSimpArgs false
namespace Go.AM
open Go.Proofs Go.Lib

def T14 : Tab := tadd 48 s48 (tadd 47 s47 tnil)
theorem T14_ok : TabOK Tryd.prog T14 := (TabOK.tnil.add q47).add q48
theorem T14_48 (a : List AVal) (H : AHeap) : T14 48 a H = s48 a H := rfl
theorem T14_47 (a : List AVal) (H : AHeap) : T14 47 a H = s47 a H := rfl
abbrev e8 (b : UInt8) : AVal := .int .u8 (b.toNat : Nat)
theorem dec_len {u : Nat} (h : u < 100000) : 1 ≤ (decDigits u).length ∧ (decDigits u).length ≤ 5 := by
  by_cases h1 : u < 10
  · rw [decDigits_one h1]; simp
  by_cases h2 : u < 100
  · rw [decDigits_two h1 h2]; simp
  have := congrArg List.length (fmt_digits (fun _ => 0) (by omega) h)
  simp [arrB] at this
  have hn : nd u ≤ 5 ∧ 3 ≤ nd u := by unfold nd; repeat' split
                                      all_goals omega
  omega
def tok1 (H : AHeap) (tok : Tok) (L : List AVal) : Prop := (tok = .nil ∧ L = []) ∨ ∃ id, tok = .own id 1 ∧ hget H id = some .tok
def AppPost (H : AHeap) (m : Nat) (L' : List AVal) : AOut → AHeap → Nat → Prop := fun o H' n' =>
  ∃ idn, o = .ret (.sl (.own idn 1) L') ∧ hget H' idn = some .tok ∧ m ≤ idn ∧ m ≤ n' ∧ Fresh H' n' ∧ (∀ id, id < m → hget H id = none → hget H' id = none) ∧ ∀ id ob, hget H id = some ob → ob ≠ .tok → hget H' id = some ob

theorem p44 (H : AHeap) (n u : Nat) (tok : Tok) (L : List AVal) (hu : u < 100000) (hL : L.length ≤ 1000000) (htk : tok1 H tok L) (hfr : Fresh H n) :
    ACalls Tryd.prog 44 [.sl tok L, .int .u64 u, .int .i64 10] H n (AppPost H n (L ++ (decDigits u).map e8)) := by
  have fr' : ∀ id, n ≤ id → hget H id = none := hfr
  have hdl := dec_len hu
  refine a44 (ev_awp T14_ok (ev_evK ?_))
  by_cases h1 : u < 100
  · have c1 : ((u : Int) < 100) = True := eq_true (by omega)
    have e1 := w64_in (x := (u : Int)) (by omega) (by omega)
    rcases htk with ⟨rfl, ho⟩ | ⟨id, rfl, hid⟩
    · have hid := ho
      simp only [kont_nil, kont_n, kont_r, k_skip, k_ret, k_seq, k_cond, k_reg, r_nil, r_v, r_alloc, r_call, r_calli, r_app, r_slA, appE, slAE, callT, callI, penv, postC, rcs, rc1, rvS, eget, lk, lkv, oks, AS.put, AS.keep, evk, Opk.opds, isI, isInt, toI, isB, toB, icmp, bnd, bndI, hget_hset, Option.toList, List.length_cons, List.length_nil, List.filterMap, List.map_cons, List.map_nil, List.append_nil, List.nil_append, Option.map_some, reduceCtorEq, and_true, true_and, forall_const, Nat.reduceEqDiff, ↓reduceIte, Nat.reduceAdd, Nat.reduceLT, Int.reduceLE, Int.reduceToNat, Nat.le_refl, false_implies, Nat.zero_add, and_self, Nat.add_zero, Nat.le_add_right, killTok, appOK, srcOf, decide_true, c44, c1, e1, T14_47, s47, Int.natCast_nonneg, Int.toNat_natCast, fr', small, List.length_map]
      refine ⟨⟨by omega, by omega⟩, n + 4, rfl, hget_hset_eq .., by omega, by omega, ?_, ?_, ?_⟩
      · intro j hj
        simp only [hget_hset]; repeat rw [if_neg (by omega)]
        exact hfr j (by omega)
      · intro j hj hno
        simp only [hget_hset]; repeat rw [if_neg (by first | omega | (rintro rfl; rw [hid] at hno; cases hno))]
        exact hno
      · intro j ob ho2 hne
        have hj := hfr.lt ho2
        simp only [hget_hset]; repeat rw [if_neg (by first | omega | (rintro rfl; rw [hid] at ho2; cases ho2; exact hne rfl))]
        exact ho2
    · have nid := hfr.lt hid
      simp only [kont_nil, kont_n, kont_r, k_skip, k_ret, k_seq, k_cond, k_reg, r_nil, r_v, r_alloc, r_call, r_calli, r_app, r_slA, appE, slAE, callT, callI, penv, postC, rcs, rc1, rvS, eget, lk, lkv, oks, AS.put, AS.keep, evk, Opk.opds, isI, isInt, toI, isB, toB, icmp, bnd, bndI, hget_hset, Option.toList, List.length_cons, List.length_nil, List.filterMap, List.map_cons, List.map_nil, List.append_nil, List.nil_append, Option.map_some, reduceCtorEq, and_true, true_and, forall_const, Nat.reduceEqDiff, ↓reduceIte, Nat.reduceAdd, Nat.reduceLT, Int.reduceLE, Int.reduceToNat, Nat.le_refl, false_implies, Nat.zero_add, and_self, Nat.add_zero, Nat.le_add_right, killTok, appOK, srcOf, decide_true, c44, c1, e1, T14_47, s47, Int.natCast_nonneg, Int.toNat_natCast, fr', hid, small, List.length_map]
      refine ⟨⟨by omega, by omega⟩, n + 4, rfl, hget_hset_eq .., by omega, by omega, ?_, ?_, ?_⟩
      · intro j hj
        simp only [hget_hset]; repeat rw [if_neg (by omega)]
        exact hfr j (by omega)
      · intro j hj hno
        simp only [hget_hset]; repeat rw [if_neg (by first | omega | (rintro rfl; rw [hid] at hno; cases hno))]
        exact hno
      · intro j ob ho2 hne
        have hj := hfr.lt ho2
        simp only [hget_hset]; repeat rw [if_neg (by first | omega | (rintro rfl; rw [hid] at ho2; cases ho2; exact hne rfl))]
        exact ho2
  have c1 : ((u : Int) < 100) = False := eq_false (by omega)
  have c2 : (100 : Int) ≤ u := by omega
  have c3 : (u : Int) < 100000 := by omega
  have hn : nd u ≤ 5 ∧ 3 ≤ nd u := by unfold nd; repeat' split
                                      all_goals omega
  have c4 : ((nd u : Nat) : Int) ≤ ((24 : Nat) : Int) := by omega
  have c5 : (0 : Int) < ((24 : Nat) : Int) := by omega
  have fd := fmt_digits (fun _ => 0) (by omega) hu
  have fl' : ((decDigits u).map e8).length = nd u := by rw [← fd]; simp [arrB]; omega
  have ml : min (nd u) 24 = nd u := by omega
  have nl : nd u ≤ 24 := by omega
  rw [List.length_map] at fl'
  simp only [kont_nil, kont_n, kont_r, k_skip, k_ret, k_seq, k_cond, k_reg, r_nil, r_v, r_alloc, r_call, r_calli, r_app, r_slA, appE, slAE, callT, callI, penv, postC, rcs, rc1, rvS, eget, lk, lkv, oks, AS.put, AS.keep, evk, Opk.opds, isI, isInt, toI, isB, toB, icmp, bnd, bndI, hget_hset, Option.toList, List.length_cons, List.length_nil, List.filterMap, List.map_cons, List.map_nil, List.append_nil, List.nil_append, Option.map_some, reduceCtorEq, and_true, true_and, forall_const, Nat.reduceEqDiff, ↓reduceIte, Bool.false_eq_true, Nat.reduceAdd, Nat.reduceLT, Int.reduceLE, Int.reduceToNat, Nat.le_refl, false_implies, Nat.zero_add, and_self, Nat.add_zero, Nat.le_add_right, killTok, appOK, srcOf, decide_true, decide_false, c44, c1, T14_48, s48, c2, c3, c4, c5, Int.natCast_nonneg, Int.toNat_natCast, fr']
  refine (p49 (hset H n (.box (List.replicate 24 (.int .u8 0)))) (n + 1) n u (fun _ => 0) (by omega) hu).mono ?_
  rintro o H' n' ⟨rfl, rfl, rfl⟩
  rcases htk with ⟨rfl, ho⟩ | ⟨id, rfl, hid⟩
  · have hid := ho
    simp only [kont_nil, kont_n, kont_r, k_ret, k_seq, k_reg, r_nil, r_v, r_app, r_slA, appE, slAE, postC, rcs, rc1, rvS, eget, lk, lkv, oks, AS.put, AS.keep, evk, Opk.opds, isInt, toI, bnd, bndI, hget_hset, Option.toList, List.filterMap, List.nil_append, Option.map_some, reduceCtorEq, and_true, true_and, Nat.reduceEqDiff, ↓reduceIte, Nat.reduceAdd, List.drop, Nat.reduceLT, Int.reduceLE, Int.reduceToNat, List.replicate_succ, List.replicate_zero, Nat.zero_add, natE1, and_self, Nat.add_assoc, Nat.le_add_right, killTok, appOK, srcOf, retK, c4, c5, arrB_len, fr', Int.natCast_nonneg, Int.toNat_natCast, nl, fd, fl', small, List.length_map, Nat.sub_zero]
    refine ⟨⟨by omega, by omega⟩, n + 4, rfl, hget_hset_eq .., by omega, by omega, ?_, ?_, ?_⟩
    · intro j hj
      simp only [hget_hset]; repeat rw [if_neg (by omega)]
      exact hfr j (by omega)
    · intro j hj hno
      simp only [hget_hset]; repeat rw [if_neg (by first | omega | (rintro rfl; rw [hid] at hno; cases hno))]
      exact hno
    · intro j ob ho2 hne
      have hj := hfr.lt ho2
      simp only [hget_hset]; repeat rw [if_neg (by first | omega | (rintro rfl; rw [hid] at ho2; cases ho2; exact hne rfl))]
      exact ho2
  · have nid := hfr.lt hid
    have d1 : (n = id) = False := eq_false (by omega)
    simp only [kont_nil, kont_n, kont_r, k_ret, k_seq, k_reg, r_nil, r_v, r_app, r_slA, appE, slAE, postC, rcs, rc1, rvS, eget, lk, lkv, oks, AS.put, AS.keep, evk, Opk.opds, isInt, toI, bnd, bndI, hget_hset, Option.toList, List.filterMap, List.nil_append, Option.map_some, reduceCtorEq, and_true, true_and, Nat.reduceEqDiff, ↓reduceIte, Nat.reduceAdd, List.drop, Nat.reduceLT, Int.reduceLE, Int.reduceToNat, List.replicate_succ, List.replicate_zero, Nat.zero_add, natE1, and_self, Nat.add_assoc, Nat.le_add_right, killTok, appOK, srcOf, retK, c4, c5, arrB_len, fr', hid, d1, Int.natCast_nonneg, Int.toNat_natCast, nl, fd, fl', small, List.length_map, Nat.sub_zero]
    refine ⟨⟨by omega, by omega⟩, n + 4, rfl, hget_hset_eq .., by omega, by omega, ?_, ?_, ?_⟩
    · intro j hj
      simp only [hget_hset]; repeat rw [if_neg (by omega)]
      exact hfr j (by omega)
    · intro j hj hno
      simp only [hget_hset]; repeat rw [if_neg (by first | omega | (rintro rfl; rw [hid] at hno; cases hno))]
      exact hno
    · intro j ob ho2 hne
      have hj := hfr.lt ho2
      simp only [hget_hset]; repeat rw [if_neg (by first | omega | (rintro rfl; rw [hid] at ho2; cases ho2; exact hne rfl))]
      exact ho2

theorem p40 (H : AHeap) (n u : Nat) (tok : Tok) (L : List AVal) (hu : u < 100000) (hL : L.length ≤ 1000000) (htk : tok1 H tok L) (hfr : Fresh H n) :
    ACalls Tryd.prog 40 [.sl tok L, .int .i64 u, .int .i64 10] H n (AppPost H n (L ++ (decDigits u).map e8)) := by
  refine a40 (ev_awp T14_ok (ev_evK ?_))
  have e1 := wu64 (n := u) (by omega)
  have e2 : ((u : Int) < 0) = False := eq_false (by omega)
  simp only [kont_n, k_skip, k_seq, k_cond, k_reg, r_nil, r_v, r_calli, r_app, appE, callI, penv, eget, lk, lkv, oks, AS.put, AS.keep, evk, evS_eq, allS, fillS, Opk.opds, isI, isInt, toI, isB, toB, icmp, nT, AVal.cells, Tok.esz, List.length_cons, List.length_nil, List.filterMap, List.map_cons, List.map_nil, List.append_nil, List.nil_append, Option.map_some, reduceCtorEq, and_true, true_and, forall_const, Nat.reduceEqDiff, ↓reduceIte, Bool.false_eq_true, Nat.reduceAdd, Nat.reduceLeDiff, Nat.reduceMul, Nat.reduceLT, List.set_cons_zero, List.replicate_succ, List.replicate_zero, false_implies, Nat.zero_add, and_self, or_false, Nat.add_zero, killTok, appOK, srcOf, decide_false, c40, e1, e2]
  refine (p44 H n u tok L hu hL htk hfr).mono ?_
  rintro o H' n' ⟨idn, rfl, k1, k2, k3, k4, k5, k6⟩
  simp only [kont_nil, kont_n, k_ret, r_nil, r_v, postC, rcs, rc1, rvS, eget, lk, lkv, oks, AS.put, AS.keep, evk, Opk.opds, List.filterMap, Option.map_some, true_and, ↓reduceIte, and_self, retK]
  exact ⟨idn, rfl, k1, k2, k3, k4, k5, k6⟩
theorem p23 (H : AHeap) (n u : Nat) (tok : Tok) (L : List AVal) (hu : u < 100000) (hL : L.length ≤ 1000000) (htk : tok1 H tok L) (hfr : Fresh H n) :
    ACalls Tryd.prog 23 [.sl tok L, .int .i64 u, .int .i64 10] H n (AppPost H n (L ++ (decDigits u).map e8)) := by
  refine a23 (ev_awp T14_ok (ev_evK ?_))
  simp only [kont_n, k_seq, k_reg, r_nil, r_v, r_calli, callI, penv, eget, lk, lkv, oks, AS.put, AS.keep, evk, Opk.opds, List.filterMap, List.map_cons, List.map_nil, List.append_nil, List.nil_append, Option.map_some, reduceCtorEq, true_and, Nat.reduceEqDiff, ↓reduceIte, Nat.reduceAdd, Nat.zero_add, and_self, Nat.add_zero, c23]
  refine (p40 H n u tok L hu hL htk hfr).mono ?_
  rintro o H' n' ⟨idn, rfl, k1, k2, k3, k4, k5, k6⟩
  simp only [kont_nil, kont_n, k_ret, r_nil, r_v, postC, rcs, rc1, rvS, eget, lk, lkv, oks, AS.put, AS.keep, evk, Opk.opds, List.filterMap, Option.map_some, true_and, ↓reduceIte, and_self, retK]
  exact ⟨idn, rfl, k1, k2, k3, k4, k5, k6⟩

/-- What the closure in Print does: a number is written, and a byte behind it. -/
def WrPost (H : AHeap) (m bid : Nat) (L' : List AVal) : AOut → AHeap → Nat → Prop := fun o H' n' =>
  o = .ret (.tup []) ∧ ∃ tk, hget H' bid = some (.box [.sl tk L']) ∧ tok1 H' tk L' ∧ m ≤ n' ∧ Fresh H' n' ∧ (∀ id, id < m → hget H id = none → hget H' id = none) ∧ ∀ id ob, hget H id = some ob → id ≠ bid → ob ≠ .tok → hget H' id = some ob
theorem p22 (H : AHeap) (n bid u c : Nat) (tok : Tok) (L : List AVal) (hu : u < 100000) (hL : L.length ≤ 100000) (hb : hget H bid = some (.box [.sl tok L])) (htk : tok1 H tok L) (hfr : Fresh H n) :
    ACalls Tryd.prog 22 [.int .i64 u, .int .u8 c, .ptr bid 0] H n (WrPost H n bid (L ++ (decDigits u).map e8 ++ [.int .u8 c])) := by
  have hdl := dec_len hu
  have nb := hfr.lt hb
  refine a22 (ev_awp T14_ok (ev_evK ?_))
  simp only [k_reg, r_v, r_calli, callI, penv, eget, lk, lkv, oks, AS.put, evk, Opk.opds, aload, mk, List.length_cons, List.length_nil, List.map_cons, List.map_nil, List.append_nil, List.nil_append, reduceCtorEq, true_and, Nat.reduceEqDiff, ↓reduceIte, Bool.false_eq_true, Nat.reduceAdd, List.drop, List.take, List.take_succ_cons, Nat.le_refl, List.headD_cons, Nat.zero_add, and_self, c22, hb]
  refine (p23 H (n + 7) u tok L hu (by omega) htk (fun j hj => hfr j (by omega))).mono ?_
  rintro o H' n' ⟨idn, rfl, k1, k2, k3, k4, k5, k6⟩
  have m1 := k5 (n + 5) (by omega) (hfr _ (by omega))
  have m2 := k6 _ _ hb (by simp)
  have f1 : (n + 5 = bid) = False := eq_false (by omega)
  have f2 : (idn = bid) = False := eq_false (by omega)
  have f3 : (idn = n + 5) = False := eq_false (by omega)
  simp only [kont_nil, r_nil, r_v, r_st, r_app, stE, appE, postC, rcs, rvS, eget, lk, lkv, oks, AS.put, AS.keep, evk, evS_eq, allS, fillS, splice, Opk.opds, nT, hget_hset, AVal.cells, Tok.esz, List.length_cons, List.length_nil, List.filterMap, List.map_cons, List.map_nil, List.append_nil, List.nil_append, reduceCtorEq, and_true, true_and, Nat.reduceEqDiff, ↓reduceIte, List.drop, List.take, List.drop_succ_cons, Nat.reduceLeDiff, Nat.reduceMul, Nat.reduceLT, List.set_cons_zero, List.replicate_succ, List.replicate_zero, Nat.le_refl, Nat.zero_add, and_self, or_false, Nat.add_assoc, killTok, appOK, srcOf, retK, k1, m1, m2, f1, f2, small, List.length_append, List.length_map]
  have kn := k4.lt k1
  refine ⟨⟨by omega, by omega⟩, rfl, .own (n + 5) 1, hget_hset_eq .., .inr ⟨n + 5, rfl, ?_⟩, by omega, ?_, ?_, ?_⟩
  · rw [hget_hset_ne _ _ _ _ (by omega)]; exact hget_hset_eq ..
  · intro j hj
    simp only [hget_hset]; repeat rw [if_neg (by omega)]
    exact k4 j hj
  · intro j hj hno
    have : bid ≠ j := by rintro rfl; rw [hb] at hno; cases hno
    simp only [hget_hset]; repeat rw [if_neg (by omega)]
    exact k5 j (by omega) hno
  · intro j ob ho hne hnt
    have := hfr.lt ho
    simp only [hget_hset]; repeat rw [if_neg (by omega)]
    exact k6 j ob ho hnt

structure V24 where
  v : Nat
  s : List UInt8
theorem p24 (u : Nat) (hu : u < 100000) : Pur Tryd.prog 24 [.int .i64 u] (.str (decDigits u)) := by
  refine .mk ⟨trivial, trivial⟩ trivial (a24 (ev_awp TabOK.tnil (ev_evK ?_)))
  simp only [kont_n, k_seq, k_block, k_reg, r_nil, r_v, penv, eget, lk, lkv, oks, AS.put, AS.keep, evk, Opk.opds, List.filterMap, Option.map_some, reduceCtorEq, true_and, ↓reduceIte, and_self, Nat.add_zero, c24]
  refine k_loop (fun w : V24 => ⟨[(0, true, .int .i64 w.v), (3, true, .str w.s)], hnil, 0⟩) (fun w => w.v < 100000 ∧ decDigits u = decDigits w.v ++ w.s) (fun w => w.v) ⟨u, []⟩ rfl ⟨hu, by simp⟩ ?_
  rintro ⟨v, s⟩ ⟨hv, hd⟩
  simp only at hv hd
  have hls : s.length ≤ 5 := by
    have h := congrArg List.length hd
    rw [List.length_append] at h
    have := (dec_len hu).2
    omega
  have one : ∀ k : Nat, k < 10 → (UInt8.ofNat (48 + k)).toNat = 48 + k := fun k hk => by simp; omega
  by_cases h1 : v < 10
  · have c1 : ((10 : Int) ≤ v) = False := eq_false (by omega)
    have e1 : IntKind.wrap .i64 (48 + (v : Int)) = ((48 + v : Nat) : Int) := by rw [w64_in (by omega) (by omega)]; omega
    have e2 := wu8 (n := 48 + v) (by omega)
    simp only [kont_nil, kont_n, kont_e, kont_bn, kont_be, k_skip, k_exit, k_ret, k_seq, k_block, k_cond, k_reg, r_nil, r_v, lpQ_n, lpQ_e, postC, rcs, rc1, rvS, eget, lk, lkv, oks, AS.put, AS.keep, evk, evS_eq, allS, fillS, Opk.opds, isI, isInt, toI, isB, toB, isS, toS, icmp, iarith, nT, AVal.cells, Tok.esz, List.length_cons, List.length_nil, List.filterMap, List.map_cons, List.map_nil, List.nil_append, List.cons_append, Option.map_some, reduceCtorEq, true_and, forall_const, Nat.reduceEqDiff, ↓reduceIte, Bool.false_eq_true, Nat.reduceLeDiff, Nat.reduceMul, Nat.reduceLT, Int.reduceEq, List.set_cons_zero, List.replicate_succ, List.replicate_zero, isDiv, false_implies, Nat.zero_add, ne_eq, not_false_eq_true, and_self, or_true, ret_eq, Nat.add_zero, wk_str, decide_false, c1, e1, e2, Int.toNat_natCast, small]
    refine ⟨⟨[UInt8.ofNat (48 + v)], by simp only [List.map_cons, List.map_nil, one v h1]⟩, by omega, ?_⟩
    rw [hd, decDigits_one h1]; rfl
  · have c1 : ((10 : Int) ≤ v) = True := eq_true (by omega)
    have e0 : (v : Int).tmod 10 = ((v % 10 : Nat) : Int) := by rw [Int.tmod_eq_emod_of_nonneg (by omega)]; omega
    have e1 : IntKind.wrap .i64 (48 + ((v % 10 : Nat) : Int)) = ((48 + v % 10 : Nat) : Int) := by rw [w64_in (by omega) (by omega)]; omega
    have e2 := wu8 (n := 48 + v % 10) (by omega)
    have e3 : IntKind.wrap .i64 ((v : Int).tdiv 10) = ((v / 10 : Nat) : Int) := by rw [Int.tdiv_eq_ediv_of_nonneg (by omega), w64_in (by omega) (by omega)]; omega
    simp only [kont_nil, kont_n, kont_e, kont_bn, kont_be, k_skip, k_exit, k_ret, k_seq, k_block, k_cond, k_reg, r_nil, r_v, lpQ_n, lpQ_e, postC, rcs, rc1, rvS, eget, lk, lkv, oks, AS.put, AS.keep, evk, evS_eq, allS, fillS, Opk.opds, isI, isInt, toI, isB, toB, isS, toS, icmp, iarith, nT, AVal.cells, Tok.esz, List.length_cons, List.length_nil, List.filterMap, List.map_cons, List.map_nil, List.nil_append, List.cons_append, Option.map_some, reduceCtorEq, and_true, true_and, forall_const, Nat.reduceEqDiff, ↓reduceIte, Bool.false_eq_true, Nat.reduceLeDiff, Nat.reduceMul, Nat.reduceLT, Int.reduceEq, List.set_cons_zero, List.replicate_succ, List.replicate_zero, isDiv, false_implies, Nat.zero_add, ne_eq, not_false_eq_true, and_self, or_true, ret_eq, Nat.add_zero, wk_str, decide_true, c1, e0, e1, e2, e3, Int.toNat_natCast, small]
    have hdv : decDigits v = decDigits (v / 10) ++ [UInt8.ofNat (48 + v % 10)] := by rw [decDigits, dif_neg h1]
    refine ⟨⟨[UInt8.ofNat (48 + v % 10)], by simp only [List.map_cons, List.map_nil, one (v % 10) (by omega)]⟩, by omega, ?_⟩
    exact .mk ⟨v / 10, UInt8.ofNat (48 + v % 10) :: s⟩ rfl ⟨by simp only []; omega, by simp only []; rw [hd, hdv]; simp⟩ (by simp only []; omega)

end Go.AM
end

/- Booklets: printing, part 1: what is printed; press.Print. Conditions: none. -/
section
set_option maxRecDepth 10000
set_option linter.unusedSimpArgs false
set_option linter.unusedVariables false
set_option maxHeartbeats 1000000
set_option linter.unusedVariables false
set_option linter.unusedSimpArgs false
namespace Go.AM
open Go.Proofs Go.Lib

def decI (v : Int) : List UInt8 := decDigits v.toNat
def chrK (k : Int) : UInt8 := if k = 1 then 80 else if k = 2 then 83 else 75
def numsS (p : Pap) (l : List Blk) (x : Plc) : List Int := [x.P, x.X, x.Y, (blkN l x.B.toNat).W * p.C, (blkN l x.B.toNat).H * p.C]
def numS (v : Int) : List UInt8 := decI v ++ [32]
def lineS (p : Pap) (l : List Blk) (x : Plc) : List UInt8 := (numsS p l x).flatMap numS ++ [chrK (blkN l x.B.toNat).K, 32] ++ (decI (blkN l x.B.toNat).N ++ [10])
def headS (p : Pap) : List UInt8 := (decI p.W ++ [32]) ++ (decI p.H ++ [10])
def printS (p : Pap) (l : List Blk) : List UInt8 × Int := if checkS p l = 0 then (headS p ++ (layS p l).1.flatMap (lineS p l), 0) else ([], checkS p l)

/-- A place that Layout returns. -/
structure PG (p : Pap) (l : List Blk) (x : Plc) : Prop where
  b0 : 0 ≤ x.B
  b1 : x.B.toNat < l.length
  p0 : 0 ≤ x.P ∧ x.P < 1000
  x0 : 0 ≤ x.X ∧ x.X ≤ 4096
  y0 : 0 ≤ x.Y ∧ x.Y ≤ 4096
theorem fold_pg {p : Pap} {l : List Blk} (hb : ∀ i < l.length, FB p (blkN l i)) : ∀ (L : List Nat) (s : LSt), (∀ i ∈ L, i < l.length) → LOK p s → s.out.length + L.length ≤ 64 → (∀ x ∈ s.out, PG p l x) → ∀ x ∈ (L.foldl (lay1 p l) s).out, PG p l x
  | [], s, _, _, _, h => h
  | i :: L, s, hi, ok, hm, h => by
    have hbi := hb i (hi i (by simp))
    have hX := layX_ok (i := i) hbi ok
    have hol : (lay1 p l s i).out.length = s.out.length + 1 := by simp [lay1, putS]
    rw [List.length_cons] at hm
    refine fold_pg hb L (lay1 p l s i) (fun j hj => hi j (by simp [hj])) (lay1_ok hbi ok) (by omega) ?_
    intro x hx
    simp only [lay1, putS, List.mem_append, List.mem_singleton] at hx
    rcases hx with hx | rfl
    · exact h x hx
    · have hB : (layX p (blkN l i) i s).B = i := by unfold layX; repeat' split
                                                    all_goals rfl
      have w := hbi.w
      have hh := hbi.h
      have w1 := hbi.w1
      have h1 := hbi.h1
      have p1 := ok.p1
      refine ⟨by rw [hB]; omega, by rw [hB]; simpa using hi i (by simp), ⟨hX.p0, by have := hX.p1; omega⟩, ⟨hX.x0, by have := hX.x1; omega⟩, ⟨hX.y0, by have := hX.y1; omega⟩⟩
theorem layS_pg {p : Pap} {l : List Blk} (hc : checkS p l = 0) : ∀ x ∈ (layS p l).1, PG p l x := by
  obtain ⟨hl, hg, hfit⟩ := check_ok hc
  have hb : ∀ i < l.length, FB p (blkN l i) := fun i hi => by rw [blkN_get hi]; exact FB.of hg (hfit i hi)
  have hK : okK l := fun b hb' => by
    obtain ⟨i, hi, rfl⟩ := List.getElem_of_mem hb'
    have := (hb i hi).k; rwa [blkN_get hi] at this
  unfold layS
  rw [if_pos hc]
  refine fold_pg hb (ordS l) lay0 (fun i hi => ?_) (LOK.zero p) ?_ (by simp [lay0])
  · obtain ⟨j, hj, rfl⟩ := List.getElem_of_mem hi
    exact ordS_lt hj
  · rw [ordS_len hK]; simp [lay0]; omega
theorem lay_len {p : Pap} {l : List Blk} : ∀ (L : List Nat) (s : LSt), (L.foldl (lay1 p l) s).out.length = s.out.length + L.length
  | [], s => by simp
  | i :: L, s => by rw [List.foldl_cons, lay_len L]; simp [lay1, putS]; omega
theorem layS_len {p : Pap} {l : List Blk} (hc : checkS p l = 0) : (layS p l).1.length = l.length := by
  obtain ⟨hl, hg, hfit⟩ := check_ok hc
  have hK : okK l := fun b hb' => by
    obtain ⟨i, hi, rfl⟩ := List.getElem_of_mem hb'
    exact (FB.of hg (hfit i hi)).k
  unfold layS
  rw [if_pos hc]
  simp only [lay_len, ordS_len hK, lay0, List.length_nil]; omega

theorem p22' (H : AHeap) (n bid : Nat) (u : Int) (c : UInt8) (cn : Int) (hcn : cn = (c.toNat : Nat)) (tok : Tok) (bs : List UInt8) (h0 : 0 ≤ u) (hu : u < 100000) (hL : bs.length ≤ 100000) (hb : hget H bid = some (.box [.sl tok (bs.map e8)])) (htk : tok1 H tok (bs.map e8)) (hfr : Fresh H n) :
    ACalls Tryd.prog 22 [.int .i64 u, .int .u8 cn, .ptr bid 0] H n (WrPost H n bid ((bs ++ (decI u ++ [c])).map e8)) := by
  obtain ⟨v, rfl⟩ : ∃ v : Nat, u = v := ⟨u.toNat, by omega⟩
  subst hcn
  have := p22 H n bid v c.toNat tok (bs.map e8) (by omega) (by simpa using hL) hb htk hfr
  rw [List.map_append, List.map_append]
  simpa [decI, List.append_assoc] using this

/-! The Layouts' places in the table -/
def s15 : List AVal → AHeap → Prop × AVal := fun a H => match a with
  | [.agg [.int .i64 a, .int .i64 b, .int .i64 c, .int .i64 d, .int .i64 e], .sl tok L] => (encd L ∧ (tok.esz = 4 ∨ L = []), .tup [.sl (.none 4) ((layS ⟨a, b, c, d, e⟩ (L.map decB)).1.map encX), .int .i64 (layS ⟨a, b, c, d, e⟩ (L.map decB)).2])
  | _ => (False, .tup [])
theorem q15 : ∀ args H n, (s15 args H).1 → Quiet Tryd.prog 15 args H n (s15 args H).2 := by
  intro args H n h
  unfold s15 at h ⊢
  split at h
  · rename_i a b c d e tok L
    refine ACalls.args ((p15 ⟨a, b, c, d, e⟩ (L.map decB)).quiet H n) ?_
    rintro g vs ⟨v, r, rfl, k1, w, r', rfl, k2, k3⟩
    refine ⟨v, _, rfl, k1, w, r', rfl, ?_, k3⟩
    rw [← h.1]; exact Wk.sl h.2 _ _ k2
  · exact h.elim
theorem q16 : ∀ args H n, (s15 args H).1 → Quiet Tryd.prog 16 args H n (s15 args H).2 := by
  intro args H n h
  unfold s15 at h ⊢
  split at h
  · rename_i a b c d e tok L
    refine ACalls.args ((p16 ⟨a, b, c, d, e⟩ (L.map decB)).quiet H n) ?_
    rintro g vs ⟨v, r, rfl, k1, w, r', rfl, k2, k3⟩
    refine ⟨v, _, rfl, k1, w, r', rfl, ?_, k3⟩
    rw [← h.1]; exact Wk.sl h.2 _ _ k2
  · exact h.elim
def T16 : Tab := tadd 15 s15 (tadd 16 s15 T6)
theorem T16_ok : TabOK Tryd.prog T16 := (T6_ok.add q16).add q15
theorem T16_15 (a : List AVal) (H : AHeap) : T16 15 a H = s15 a H := rfl
theorem T16_16 (a : List AVal) (H : AHeap) : T16 16 a H = s15 a H := rfl

theorem decI_len {v : Int} (h : 0 ≤ v) (hu : v < 100000) : (decI v).length ≤ 5 := (dec_len (u := v.toNat) (by omega)).2
structure W11 where
  j : Nat
  H : AHeap
  n : Nat
  tok : Tok
structure V11 where
  i : Nat
  H : AHeap
  n : Nat
  tok : Tok
  bs : List UInt8
structure I11 (p : Pap) (l : List Blk) (v : V11) : Prop where
  il : v.i ≤ (layS p l).1.length
  eb : v.bs = headS p ++ ((layS p l).1.take v.i).flatMap (lineS p l)
  ln : v.bs.length ≤ 20 + 80 * v.i
  g0 : hget v.H 0 = some (boxP p)
  g1 : hget v.H 1 = some (.box [.sl v.tok (v.bs.map e8)])
  tk : tok1 v.H v.tok (v.bs.map e8)
  fr : Fresh v.H v.n
  n3 : 3 ≤ v.n

theorem p11 (p : Pap) (l : List Blk) : Pur Tryd.prog 11 [encP p, .sl (.none 4) (l.map encB)] (.tup [.sl (.none 1) ((printS p l).1.map e8), .int .i64 (printS p l).2]) := by
  refine .mk ⟨by simp [unders, AVal.under], ⟨trivial, encB_under 0 l⟩, trivial⟩ ⟨⟨trivial, unders_map (fun x => by simp [AVal.under]) _⟩, trivial, trivial⟩ (a11 (ev_awp T16_ok (ev_evK ?_)))
  by_cases hc : checkS p l = 0
  case neg =>
    have e1 : layS p l = ([], checkS p l) := by unfold layS; rw [if_neg hc]
    simp only [kont_nil, kont_n, kont_r, k_skip, k_ret, k_seq, k_cond, k_reg, r_nil, r_v, r_alloc, r_box, r_st, r_call, r_calli, stE, callT, callI, penv, postC, rcs, rc1, rvS, eget, lk, lkv, oks, AS.put, AS.keep, evk, splice, Opk.opds, aload, isI, toI, isB, toB, mk, icmp, nT, hget_hset, hget_nil, AVal.cells, Tok.esz, List.length_cons, List.length_nil, List.filterMap, List.map_cons, List.map_nil, List.append_nil, List.nil_append, List.cons_append, Option.map_some, reduceCtorEq, and_true, true_and, forall_const, Nat.reduceEqDiff, ↓reduceIte, Bool.false_eq_true, Nat.reduceAdd, List.drop, List.take, List.drop_succ_cons, List.take_succ_cons, Nat.reduceLeDiff, Nat.reduceLT, Nat.le_refl, List.headD_cons, false_implies, Nat.zero_add, Bool.not_eq_true', Bool.not_eq_false', and_self, true_or, ret_eq, Nat.add_zero, decide_false, c11, T16_15, s15, pap_eta, encd_map, decB_map, e1, hc, rcell, List.getElem?_cons_zero, List.getElem?_cons_succ, Option.getD_some]
    have : printS p l = ([], checkS p l) := by unfold printS; rw [if_neg hc]
    rw [this]
    exact Wk.tup2 (Wk.sl (.inr rfl)) (Wk.refl _)
  obtain ⟨hl, hg, hfit⟩ := check_ok hc
  have hg' := (good_iff p).1 hg
  have e2 : (layS p l).2 = 0 := by unfold layS; rw [if_pos hc]
  have hpg := layS_pg hc
  have hlen := layS_len hc
  simp only [kont_nil, kont_n, kont_r, k_skip, k_ret, k_seq, k_cond, k_reg, r_nil, r_v, r_alloc, r_box, r_st, r_call, r_calli, stE, callT, callI, penv, postC, rcs, rc1, rvS, eget, lk, lkv, oks, AS.put, AS.keep, evk, splice, Opk.opds, aload, isI, toI, isB, toB, mk, icmp, nT, hget_hset, hget_nil, AVal.cells, Tok.esz, List.length_cons, List.length_nil, List.filterMap, List.map_cons, List.map_nil, List.append_nil, List.nil_append, List.cons_append, Option.map_some, reduceCtorEq, and_true, true_and, forall_const, Nat.reduceEqDiff, ↓reduceIte, Bool.false_eq_true, Nat.reduceAdd, List.drop, List.take, List.drop_succ_cons, List.take_succ_cons, Nat.reduceLeDiff, Nat.reduceLT, Nat.le_refl, List.headD_cons, false_implies, Nat.zero_add, Bool.not_eq_true', Bool.not_eq_false', and_self, true_or, ret_eq, Nat.add_zero, decide_true, c11, T16_15, s15, pap_eta, encd_map, decB_map, e2, List.getElem?_cons_zero, List.getElem?_cons_succ, Option.getD_some]
  have fr0 : Fresh (hset (hset hnil 0 (boxP p)) 1 (.box [.sl .nil []])) 3 := (Fresh.nil.hset (n := 0) (m := 3) (by omega) (by omega)).hset (n := 3) (m := 3) (by omega) (by omega)
  refine (p22' (hset (hset hnil 0 (boxP p)) 1 (.box [.sl .nil []])) 3 1 p.W 32 32 (by decide) .nil [] (by omega) (by omega) (by simp) rfl (.inl ⟨rfl, rfl⟩) fr0).mono ?_
  rintro o H1 n1 ⟨rfl, tk1, a1, a2, a3, a4, a5, a6⟩
  have b0 := a6 0 _ rfl (by omega) (by simp)
  simp only [kont_n, k_seq, k_reg, r_nil, r_v, r_calli, callI, eget, lk, lkv, oks, AS.put, AS.keep, evk, Opk.opds, aload, mk, List.length_cons, List.length_nil, List.filterMap, List.map_cons, List.map_nil, List.nil_append, List.cons_append, Option.map_some, true_and, Nat.reduceEqDiff, ↓reduceIte, Bool.false_eq_true, Nat.reduceAdd, List.drop, List.take, List.take_succ_cons, Nat.reduceLeDiff, List.headD_cons, Nat.zero_add, and_self, Nat.add_zero, retK, b0]
  refine (p22' H1 n1 1 p.H 10 10 (by decide) tk1 _ (by omega) (by omega) (by have := decI_len (v := p.W) (by omega) (by omega); simp; omega) a1 a2 a4).mono ?_
  rintro o H2 n2 ⟨rfl, tk2, b1, b2, b3, b4, b5, b6⟩
  have c0 := b6 0 _ b0 (by omega) (by simp)
  simp only [kont_n, k_seq, k_block, k_reg, r_nil, r_v, eget, lk, lkv, oks, AS.put, AS.keep, evk, Opk.opds, List.filterMap, Option.map_some, true_and, Nat.reduceEqDiff, ↓reduceIte, and_self, Nat.add_zero, retK]
  have d1 := decI_len (v := p.W) (by omega) (by omega)
  have d2 := decI_len (v := p.H) (by omega) (by omega)
  refine k_loop (fun v : V11 => ⟨[(1, true, .sl (.none 4) (l.map encB)), (2, true, .ptr 0 0), (4, true, .ptr 1 0), (7, true, .fn (.func 22) [] [.ptr 1 0]), (31, true, .sl (.none 4) ((layS p l).1.map encX)), (32, true, .int .i64 (((layS p l).1.map encX).length : Nat)), (33, true, .int .i64 v.i)], v.H, v.n⟩)
    (I11 p l) (fun v => (layS p l).1.length - v.i) ⟨0, H2, n2, tk2, headS p⟩ rfl ⟨Nat.zero_le _, by simp, by simp [headS]; omega, c0, by simpa [headS] using b1, by simpa [headS] using b2, b4, by simp only []; omega⟩ ?_
  clear b0 b1 b2 b3 b4 b5 b6 a1 a2 a3 a4 a5 a6 c0
  rintro ⟨i, H, n, tok, bs⟩ ⟨il, eb, ln, g0, g1, tk, fr, n3⟩
  simp only at il eb ln g0 g1 tk fr n3
  by_cases hlt : i < (layS p l).1.length
  case neg =>
    have hi : i = (layS p l).1.length := by omega
    simp only [kont_nil, kont_n, kont_e, kont_be, k_skip, k_exit, k_ret, k_seq, k_block, k_cond, k_reg, r_nil, r_v, r_alloc, r_st, stE, lpQ_e, postC, rcs, rc1, rvS, eget, lk, lkv, oks, AS.put, AS.keep, evk, evS_eq, allS, fillS, splice, Opk.opds, aload, isI, isInt, toI, isB, toB, mk, icmp, iarith, nT, hget_hset, AVal.cells, Tok.esz, List.length_cons, List.length_nil, List.filterMap, List.map_cons, List.map_nil, List.append_nil, List.nil_append, Option.map_some, reduceCtorEq, and_true, true_and, forall_const, Nat.reduceEqDiff, ↓reduceIte, Bool.false_eq_true, Nat.reduceAdd, List.drop, List.take, List.drop_succ_cons, List.take_succ_cons, Nat.reduceLeDiff, Nat.reduceMul, Nat.reduceLT, List.set_cons_zero, List.set_cons_succ, List.replicate_succ, List.replicate_zero, Nat.le_refl, List.headD_cons, isDiv, false_implies, Nat.zero_add, ne_eq, natE1, natE2, and_self, ret_eq, Nat.add_zero, Nat.add_assoc, decide_false, List.length_map, Int.ofNat_lt, hlt, g1, rcell]
    have : printS p l = (bs, 0) := by unfold printS; rw [if_pos hc, eb, hi, List.take_length]
    rw [this]
    refine Wk.tup2 (Wk.sl ?_) (Wk.refl _)
    rcases tk with ⟨h1, h2⟩ | ⟨id, h1, h2⟩
    · exact .inr h2
    · exact .inl (by rw [h1]; rfl)
  have hx := hpg _ (List.getElem_mem hlt)
  generalize hxx : (layS p l).1[i] = x at hx
  have hlb := hx.b1
  have hfb : FB p (l[x.B.toNat]) := FB.of hg (hfit _ hlb)
  have hbk : blkN l x.B.toNat = l[x.B.toNat] := blkN_get hlb
  have fr' : ∀ id, n ≤ id → hget H id = none := fr
  have w1 := w64_in (x := (l[x.B.toNat]).W * p.C) (by have := hfb.w1; omega) (by have := hfb.w1; omega)
  have w2 := w64_in (x := (l[x.B.toNat]).H * p.C) (by have := hfb.h1; omega) (by have := hfb.h1; omega)
  have f1 : (n + 2 = 0) = False := eq_false (by omega)
  have f2 : (n + 9 = 0) = False := eq_false (by omega)
  have hB : x.B < ((l.length : Nat) : Int) := by have := hx.b0; omega
  simp only [kont_nil, kont_n, kont_e, kont_be, k_skip, k_exit, k_ret, k_seq, k_block, k_cond, k_reg, r_nil, r_v, r_alloc, r_st, stE, lpQ_e, postC, rcs, rc1, rvS, eget, lk, lkv, oks, AS.put, AS.keep, evk, evS_eq, allS, fillS, splice, Opk.opds, aload, isI, isInt, toI, isB, toB, mk, icmp, iarith, nT, hget_hset, AVal.cells, Tok.esz, List.length_cons, List.length_nil, List.filterMap, List.map_cons, List.map_nil, List.append_nil, List.nil_append, Option.map_some, reduceCtorEq, and_true, true_and, forall_const, Nat.reduceEqDiff, ↓reduceIte, Bool.false_eq_true, Nat.reduceAdd, List.drop, List.take, List.drop_succ_cons, List.take_succ_cons, Nat.reduceLeDiff, Nat.reduceMul, Nat.reduceLT, List.set_cons_zero, List.set_cons_succ, List.replicate_succ, List.replicate_zero, Nat.le_refl, List.headD_cons, isDiv, false_implies, Nat.zero_add, ne_eq, natE1, natE2, and_self, ret_eq, Nat.add_zero, Nat.add_assoc, Nat.le_add_right, decide_true, List.length_map, Int.ofNat_lt, hlt, List.getElem?_map, List.getElem?_eq_getElem hlt, hxx, Int.toNat_natCast, Option.getD_some, Int.natCast_nonneg, fr', List.getElem?_eq_getElem hlb, hx.b0, hB, g0, w1, w2]
  generalize hHc : hset (hset (hset (hset H (n + 2) _) (n + 2) _) (n + 9) _) (n + 9) _ = Hc
  have gc : ∀ id ob, hget H id = some ob → hget Hc id = some ob := by
    intro id ob ho
    have := fr.lt ho
    subst hHc
    simp only [hget_hset]; repeat rw [if_neg (by omega)]
    exact ho
  have gB : hget Hc (n + 9) = some (.box [.int .i64 (l[x.B.toNat]).K, .int .i64 (l[x.B.toNat]).N, .int .i64 (l[x.B.toNat]).W, .int .i64 (l[x.B.toNat]).H]) := by subst hHc; simp [hget_hset]
  have frc : Fresh Hc (n + 11) := by
    intro j hj
    subst hHc
    simp only [hget_hset]; repeat rw [if_neg (by omega)]
    exact fr j (by omega)
  have tkc : tok1 Hc tok (bs.map e8) := tk.imp (fun h => h) fun ⟨id, h1, h2⟩ => ⟨id, h1, gc _ _ h2⟩
  have g0c := gc _ _ g0
  have g1c := gc _ _ g1
  clear hHc gc
  have hnums : ∀ v ∈ numsS p l x, 0 ≤ v ∧ v < 100000 := by
    intro v hv
    simp only [numsS, hbk, List.mem_cons, List.not_mem_nil, or_false] at hv
    have := hx.p0
    have := hx.x0
    have := hx.y0
    have := hfb.w1
    have := hfb.h1
    rcases hv with rfl | rfl | rfl | rfl | rfl <;> omega
  have hnl : (numsS p l x).length = 5 := rfl
  have hne : [AVal.int .i64 x.P, .int .i64 x.X, .int .i64 x.Y, .int .i64 ((l[x.B.toNat]).W * p.C), .int .i64 ((l[x.B.toNat]).H * p.C)] = (numsS p l x).map (AVal.int .i64) := by simp only [numsS, hbk, List.map_cons, List.map_nil]
  rw [hne]
  have hfl : ∀ j : Nat, j ≤ 5 → (((numsS p l x).take j).flatMap numS).length ≤ 6 * j := by
    intro j
    induction j with
    | zero => intro _; simp
    | succ j ih =>
      intro hj
      have hjl : j < (numsS p l x).length := by omega
      have := ih (by omega)
      have h3 := hnums _ (List.getElem_mem hjl)
      have h4 := decI_len h3.1 h3.2
      rw [List.take_succ_eq_append_getElem hjl, List.flatMap_append, List.length_append]
      simp only [List.flatMap_cons, List.flatMap_nil, List.append_nil, numS, List.length_append, List.length_cons, List.length_nil]
      omega
  generalize hnm : numsS p l x = nums at hnums hnl hfl
  refine k_loop (fun w : W11 => ⟨[(1, true, .sl (.none 4) (l.map encB)), (2, true, .ptr 0 0), (4, true, .ptr 1 0), (7, true, .fn (.func 22) [] [.ptr 1 0]), (10, true, .ptr (n + 9) 0), (31, true, .sl (.none 4) ((layS p l).1.map encX)), (32, true, .int .i64 ((layS p l).1.length : Nat)), (33, true, .int .i64 i),
      (58, true, .sl (.exact 1) (nums.map (AVal.int .i64))), (59, true, .int .i64 ((5 : Nat) : Int)), (60, true, .int .i64 w.j)], w.H, w.n⟩)
    (fun w => w.j ≤ 5 ∧ hget w.H 0 = some (boxP p) ∧ hget w.H (n + 9) = some (.box [.int .i64 (l[x.B.toNat]).K, .int .i64 (l[x.B.toNat]).N, .int .i64 (l[x.B.toNat]).W, .int .i64 (l[x.B.toNat]).H]) ∧
      hget w.H 1 = some (.box [.sl w.tok ((bs ++ (nums.take w.j).flatMap numS).map e8)]) ∧ tok1 w.H w.tok ((bs ++ (nums.take w.j).flatMap numS).map e8) ∧ Fresh w.H w.n ∧ n + 11 ≤ w.n) (fun w => 5 - w.j) ⟨0, Hc, n + 11, tok⟩ rfl
    ⟨by simp, g0c, gB, by simpa using g1c, by simpa using tkc, frc, Nat.le_refl _⟩ ?_
  clear g0c g1c gB frc tkc
  rintro ⟨j, Hj, nj, tj⟩ ⟨hj, g0j, gBj, g1j, tkj, frj, njl⟩
  simp only at hj g0j gBj g1j tkj frj njl
  have hfj := hfl j hj
  by_cases hlj : j < 5
  · have hjn : j < nums.length := by omega
    have h3 := hnums _ (List.getElem_mem hjn)
    have ej := w64_succ (k := j) (by omega)
    have nbj := frj.lt gBj
    simp only [kont_nil, kont_n, kont_e, kont_be, k_skip, k_exit, k_seq, k_block, k_cond, k_reg, r_nil, r_v, r_st, r_calli, r_app, stE, appE, callI, lpQ_e, eget, lk, lkv, oks, AS.put, AS.keep, evk, evS_eq, allS, fillS, splice, Opk.opds, aload, isI, isInt, toI, isB, toB, isS, toS, mk, icmp, iarith, nT, AVal.cells, Tok.esz, List.length_cons, List.length_nil, List.filterMap, List.map_cons, List.map_nil, List.nil_append, List.cons_append, Option.map_some, reduceCtorEq, and_true, true_and, forall_const, Nat.reduceEqDiff, ↓reduceIte, Bool.false_eq_true, Nat.reduceAdd, List.drop, List.take, Nat.reduceLeDiff, Nat.reduceMul, Nat.reduceLT, Int.reduceEq, List.set_cons_zero, List.set_cons_succ, List.replicate_succ, List.replicate_zero, Nat.le_refl, List.headD_cons, isDiv, false_implies, implies_true, Nat.zero_add, ne_eq, not_false_eq_true, and_self, or_false, Nat.add_zero, killTok, appOK, srcOf, decide_true, Int.ofNat_lt, hlj, List.length_map, hnl, List.getElem?_map, List.getElem?_eq_getElem hjn, Int.toNat_natCast, Option.getD_some, Int.natCast_nonneg]
    refine (p22' Hj nj 1 (nums[j]) 32 32 (by decide) tj _ h3.1 h3.2 (by rw [List.length_append]; omega) g1j tkj frj).mono ?_
    rintro o H' n' ⟨rfl, tk', a1, a2, a3, a4, a5, a6⟩
    simp only [kont_nil, kont_n, kont_bn, k_reg, r_nil, r_v, lpQ_n, eget, lk, lkv, oks, AS.put, AS.keep, evk, Opk.opds, isI, toI, iarith, List.filterMap, Option.map_some, true_and, Nat.reduceEqDiff, ↓reduceIte, Bool.false_eq_true, Int.reduceEq, isDiv, implies_true, ne_eq, not_false_eq_true, and_self, Nat.add_zero, retK, ej]
    have e : bs ++ (nums.take j).flatMap numS ++ (decI nums[j] ++ [32]) = bs ++ (nums.take (j + 1)).flatMap numS := by
      rw [List.take_succ_eq_append_getElem hjn, List.flatMap_append]
      simp only [List.flatMap_cons, List.flatMap_nil, List.append_nil, numS, List.append_assoc]
    rw [e] at a1 a2
    exact .mk ⟨j + 1, H', n', tk'⟩ rfl ⟨hlj, a6 _ _ g0j (by omega) (by simp), a6 _ _ gBj (by omega) (by simp), a1, a2, a4, by simp only []; omega⟩ (by simp only []; omega)
  have hj5 : j = 5 := by omega
  subst hj5
  have hk1 := hfb.k
  have ek := w64_in (x := (l[x.B.toNat]).K - 1) (by omega) (by omega)
  have c1 : (0 : Int) ≤ (l[x.B.toNat]).K - 1 := by omega
  have c2 : (l[x.B.toNat]).K - 1 < ((3 : Nat) : Int) := by omega
  have hch : ([80, 83, 75] : List UInt8)[((l[x.B.toNat]).K - 1).toNat]?.getD 0 = chrK (l[x.B.toNat]).K := by
    generalize (l[x.B.toNat]).K = k at hk1
    have : k = 1 ∨ k = 2 ∨ k = 3 := by omega
    rcases this with rfl | rfl | rfl <;> rfl
  have frj' : ∀ id, nj ≤ id → hget Hj id = none := frj
  have nbj := frj.lt gBj
  have t1 : (nj + 6 = 1) = False := eq_false (by omega)
  have t2 : (nj + 6 = n + 9) = False := eq_false (by omega)
  have t3 : (1 = n + 9) = False := eq_false (by omega)
  have t4 : (n = nj + 6) = False := eq_false (by omega)
  obtain ⟨id, rfl, hid⟩ : ∃ id, tj = .own id 1 ∧ hget Hj id = some .tok := by
    rcases tkj with ⟨h1, h2⟩ | h
    · exfalso
      have h4 : nums.take 5 = nums := by rw [← hnl]; exact List.take_length
      have := congrArg List.length h2
      rw [h4, ← hnm] at this
      simp [numsS, numS] at this
    · exact h
  have u1 : id ≠ 1 := by rintro rfl; rw [g1j] at hid; cases hid
  have u2 : id ≠ n + 9 := by rintro rfl; rw [gBj] at hid; cases hid
  have u0 : id ≠ 0 := by rintro rfl; rw [g0j] at hid; cases hid
  have u3 := frj.lt hid
  have v1 : (id = 1) = False := eq_false u1
  have v2 : (id = n + 9) = False := eq_false u2
  have v3 : (id = nj + 6) = False := eq_false (by omega)
  simp only [kont_nil, kont_n, kont_e, kont_be, k_skip, k_exit, k_seq, k_block, k_cond, k_reg, r_nil, r_v, r_st, r_calli, r_app, stE, appE, callI, lpQ_e, eget, lk, lkv, oks, AS.put, AS.keep, evk, evS_eq, allS, fillS, splice, Opk.opds, aload, isI, isInt, toI, isB, toB, isS, toS, mk, icmp, iarith, nT, hget_hset, AVal.cells, Tok.esz, List.length_cons, List.length_nil, List.filterMap, List.map_cons, List.map_nil, List.append_nil, List.nil_append, List.cons_append, Option.map_some, reduceCtorEq, and_true, true_and, forall_const, Nat.reduceEqDiff, ↓reduceIte, Bool.false_eq_true, Nat.reduceAdd, List.drop, List.take, List.drop_succ_cons, List.take_succ_cons, Nat.reduceLeDiff, Nat.reduceMul, Nat.reduceLT, Int.reduceEq, List.set_cons_zero, List.set_cons_succ, List.replicate_succ, List.replicate_zero, Nat.le_refl, List.headD_cons, isDiv, false_implies, implies_true, Nat.zero_add, ne_eq, not_false_eq_true, and_self, or_false, Nat.add_zero, Nat.add_assoc, Nat.le_add_right, killTok, appOK, srcOf, decide_false, Int.ofNat_lt, Nat.lt_irrefl, g1j, gBj, ek, c1, c2, hch, frj', hid, t1, t2, t3, v1, v2, small, List.length_map, List.length_append]
  refine ⟨⟨by omega, by omega⟩, ?_⟩
  have eb2 : ∀ (A : List UInt8) (c : UInt8), A.map e8 ++ [.int .u8 (c.toNat : Nat), .int .u8 32] = (A ++ [c, 32]).map e8 := by
    intro A c; rw [List.map_append]; rfl
  rw [eb2]
  have h4 : nums.take 5 = nums := by rw [← hnl]; exact List.take_length
  rw [h4] at g1j hfj ⊢
  generalize hHe : hset (hset (hset Hj id AObj.dead) (nj + 6) AObj.tok) 1 _ = He
  have s0 : hget He 0 = some (boxP p) := by
    subst hHe
    simp only [hget_hset]; repeat rw [if_neg (by omega)]
    exact g0j
  have s1 : hget He 1 = some (.box [.sl (.own (nj + 6) 1) ((bs ++ nums.flatMap numS ++ [chrK (l[x.B.toNat]).K, 32]).map e8)]) := by subst hHe; exact hget_hset_eq ..
  have s2 : hget He (nj + 6) = some .tok := by subst hHe; rw [hget_hset_ne _ _ _ _ (by omega)]; exact hget_hset_eq ..
  have s3 : Fresh He (nj + 8) := by
    intro j hj2
    subst hHe
    simp only [hget_hset]; repeat rw [if_neg (by omega)]
    exact frj j (by omega)
  clear hHe
  have hn := hfb.n
  refine (p22' He (nj + 8) 1 (l[x.B.toNat]).N 10 10 (by decide) (.own (nj + 6) 1) _ hn.1 (by omega) (by simp only [List.length_append, List.length_cons, List.length_nil]; omega) s1 (.inr ⟨_, rfl, s2⟩) s3).mono ?_
  rintro o H' n' ⟨rfl, tk', a1, a2, a3, a4, a5, a6⟩
  have ei := w64_succ (k := i) (by omega)
  simp only [kont_nil, kont_n, kont_bn, k_reg, r_nil, r_v, lpQ_n, eget, lk, lkv, oks, AS.put, AS.keep, evk, Opk.opds, isI, toI, iarith, List.filterMap, Option.map_some, true_and, Nat.reduceEqDiff, ↓reduceIte, Bool.false_eq_true, Int.reduceEq, isDiv, implies_true, ne_eq, not_false_eq_true, and_self, Nat.add_zero, retK, ei]
  have dn := decI_len (v := (l[x.B.toNat]).N) hn.1 (by omega)
  have eL : bs ++ nums.flatMap numS ++ [chrK (l[x.B.toNat]).K, 32] ++ (decI (l[x.B.toNat]).N ++ [10]) = bs ++ lineS p l x := by
    unfold lineS
    rw [hbk, hnm]
    simp only [List.append_assoc]
  rw [eL] at a1 a2
  have hll : (lineS p l x).length ≤ 80 := by
    unfold lineS
    rw [hbk, hnm]
    simp only [List.length_append, List.length_cons, List.length_nil]; omega
  refine .mk ⟨i + 1, H', n', tk', bs ++ lineS p l x⟩ rfl ⟨hlt, ?_, ?_, a6 _ _ s0 (by omega) (by simp), a1, a2, a4, by simp only []; omega⟩ (by simp only []; omega)
  · simp only []
    rw [List.take_succ_eq_append_getElem hlt, List.flatMap_append, hxx, eb]
    simp only [List.flatMap_cons, List.flatMap_nil, List.append_nil, List.append_assoc]
  · simp only [List.length_append]; omega

end Go.AM
end

/- Booklets: printing, part 2: the reference's Print. Conditions: none. -/
section
set_option maxRecDepth 10000
set_option linter.unusedSimpArgs false
set_option linter.unusedVariables false
set_option maxHeartbeats 1000000
set_option linter.unusedVariables false
set_option linter.unusedSimpArgs false
namespace Go.AM
open Go.Proofs Go.Lib

def s24 : List AVal → AHeap → Prop × AVal := fun a H => match a with
  | [.int .i64 x] => (0 ≤ x ∧ x < 100000, .str (decI x))
  | _ => (False, .tup [])
theorem q24 : ∀ args H n, (s24 args H).1 → Quiet Tryd.prog 24 args H n (s24 args H).2 := by
  intro args H n h
  unfold s24 at h ⊢
  split at h
  · rename_i x
    simp only at h
    obtain ⟨u, rfl⟩ : ∃ u : Nat, x = u := ⟨x.toNat, by omega⟩
    exact (p24 u (by omega)).quiet H n
  · exact h.elim
def T17 : Tab := tadd 24 s24 T16
theorem T17_ok : TabOK Tryd.prog T17 := T16_ok.add q24
theorem T17_24 (a : List AVal) (H : AHeap) : T17 24 a H = s24 a H := rfl
theorem T17_16 (a : List AVal) (H : AHeap) : T17 16 a H = s15 a H := rfl
structure V12 where
  i : Nat
  bs : List UInt8

set_option maxHeartbeats 1000000 in
theorem p12 (p : Pap) (l : List Blk) : Pur Tryd.prog 12 [encP p, .sl (.none 4) (l.map encB)] (.tup [.sl (.none 1) ((printS p l).1.map e8), .int .i64 (printS p l).2]) := by
  refine .mk ⟨by simp [unders, AVal.under], ⟨trivial, encB_under 0 l⟩, trivial⟩ ⟨⟨trivial, unders_map (fun x => by simp [AVal.under]) _⟩, trivial, trivial⟩ (a12 (ev_awp T17_ok (ev_evK ?_)))
  by_cases hc : checkS p l = 0
  case neg =>
    have e1 : layS p l = ([], checkS p l) := by unfold layS; rw [if_neg hc]
    simp only [kont_nil, kont_n, kont_r, k_skip, k_ret, k_seq, k_block, k_cond, k_reg, r_nil, r_v, r_box, r_call, callT, penv, postC, rcs, rc1, rvS, eget, lk, lkv, oks, AS.put, AS.keep, evk, Opk.opds, aload, isI, toI, isB, toB, isS, toS, mk, icmp, nT, hget_hset, hget_nil, AVal.cells, Tok.esz, List.length_cons, List.length_nil, List.filterMap, List.map_cons, List.map_nil, List.append_nil, List.nil_append, Option.map_some, reduceCtorEq, and_true, true_and, forall_const, Nat.reduceEqDiff, ↓reduceIte, Bool.false_eq_true, Nat.reduceAdd, List.drop, List.take, List.take_succ_cons, Nat.reduceLeDiff, Nat.reduceLT, Nat.le_refl, List.headD_cons, false_implies, Nat.zero_add, Bool.not_eq_true', Bool.not_eq_false', and_self, true_or, ret_eq, Nat.add_zero, decide_false, c12, T17_16, s15, pap_eta, encd_map, decB_map, e1, hc, List.getElem?_cons_zero, List.getElem?_cons_succ, Option.getD_some]
    have : printS p l = ([], checkS p l) := by unfold printS; rw [if_neg hc]
    rw [this]
    exact Wk.tup2 (Wk.sl (.inr rfl)) (Wk.refl _)
  obtain ⟨hl, hg, hfit⟩ := check_ok hc
  have hg' := (good_iff p).1 hg
  have e2 : (layS p l).2 = 0 := by unfold layS; rw [if_pos hc]
  have hpg := layS_pg hc
  have hlen := layS_len hc
  have d1 := decI_len (v := p.W) (by omega) (by omega)
  have d2 := decI_len (v := p.H) (by omega) (by omega)
  have y1 : (0 : Int) ≤ p.W := by omega
  have y2 : p.W < 100000 := by omega
  have y3 : (0 : Int) ≤ p.H := by omega
  have y4 : p.H < 100000 := by omega
  simp only [kont_nil, kont_n, kont_r, k_skip, k_ret, k_seq, k_block, k_cond, k_reg, r_nil, r_v, r_box, r_call, callT, penv, postC, rcs, rc1, rvS, eget, lk, lkv, oks, AS.put, AS.keep, evk, Opk.opds, aload, isI, toI, isB, toB, isS, toS, mk, icmp, nT, hget_hset, hget_nil, AVal.cells, Tok.esz, List.length_cons, List.length_nil, List.filterMap, List.map_cons, List.map_nil, List.append_nil, List.nil_append, Option.map_some, reduceCtorEq, true_and, forall_const, Nat.reduceEqDiff, ↓reduceIte, Bool.false_eq_true, Nat.reduceAdd, List.drop, List.take, List.take_succ_cons, Nat.reduceLeDiff, Nat.reduceLT, Nat.le_refl, List.headD_cons, false_implies, Nat.zero_add, Bool.not_eq_true', Bool.not_eq_false', and_self, true_or, ret_eq, Nat.add_zero, Nat.add_assoc, decide_true, c12, T17_16, T17_24, s15, s24, pap_eta, encd_map, decB_map, e2, y1, y2, y3, y4, small, List.length_append, List.getElem?_cons_zero, List.getElem?_cons_succ, Option.getD_some]
  repeat' apply And.intro
  rotate_right
  · refine k_loop (fun v : V12 => ⟨[(1, true, .sl (.none 4) (l.map encB)), (2, true, .ptr 0 0), (6, true, .sl (.none 4) ((layS p l).1.map encX)), (8, true, .str v.bs), (9, true, .int .i64 v.i)], H5 p, 3⟩)
      (fun v => v.i ≤ (layS p l).1.length ∧ v.bs = headS p ++ ((layS p l).1.take v.i).flatMap (lineS p l) ∧ v.bs.length ≤ 20 + 80 * v.i) (fun v => (layS p l).1.length - v.i) ⟨0, headS p⟩ ?_ ⟨Nat.zero_le _, by simp, ?_⟩ ?_
    · simp [headS, List.append_assoc]
    · simp only [headS, List.length_append, List.length_cons, List.length_nil]; omega
    rintro ⟨i, bs⟩ ⟨il, eb, ln⟩
    simp only at il eb ln
    by_cases hlt : i < (layS p l).1.length
    case neg =>
      have hi : i = (layS p l).1.length := by omega
      simp only [kont_nil, kont_n, kont_e, kont_bn, kont_be, k_skip, k_exit, k_ret, k_seq, k_block, k_cond, k_reg, r_nil, r_v, r_alloc, r_st, r_call, stE, callT, lpQ_n, lpQ_e, postC, rcs, rc1, rvS, eget, lk, lkv, oks, AS.put, AS.keep, evk, splice, Opk.opds, aload, isI, isInt, toI, isB, toB, isS, toS, mk, icmp, iarith, bnd, bndI, nT, hget_hset, hget_nil, AVal.cells, Tok.esz, Option.toList, List.length_cons, List.length_nil, List.filterMap, List.map_cons, List.map_nil, List.append_nil, List.nil_append, List.cons_append, Option.map_some, reduceCtorEq, and_true, true_and, forall_const, Nat.reduceEqDiff, ↓reduceIte, Bool.false_eq_true, Nat.reduceAdd, List.drop, List.take, List.take_succ_cons, Int.reduceEq, Nat.le_refl, List.headD_cons, isDiv, false_implies, implies_true, Nat.zero_add, ne_eq, not_false_eq_true, and_self, ret_eq, Nat.add_zero, decide_false, List.length_map, Int.ofNat_lt, hlt]
      have : printS p l = (bs, 0) := by unfold printS; rw [if_pos hc, eb, hi, List.take_length]
      rw [this]
      exact Wk.refl _
    have hx := hpg _ (List.getElem_mem hlt)
    generalize hxx : (layS p l).1[i] = x at hx
    have hlb := hx.b1
    have hfb : FB p (l[x.B.toNat]) := FB.of hg (hfit _ hlb)
    have hbk : blkN l x.B.toNat = l[x.B.toNat] := blkN_get hlb
    have w1 := w64_in (x := (l[x.B.toNat]).W * p.C) (by have := hfb.w1; omega) (by have := hfb.w1; omega)
    have w2 := w64_in (x := (l[x.B.toNat]).H * p.C) (by have := hfb.h1; omega) (by have := hfb.h1; omega)
    have hB : x.B < ((l.length : Nat) : Int) := by have := hx.b0; omega
    have hB0 := hx.b0
    have ⟨k1, k2⟩ := hfb.k
    have ek := w64_in (x := (l[x.B.toNat]).K - 1) (by omega) (by omega)
    have c1 : (0 : Int) ≤ (l[x.B.toNat]).K - 1 := by omega
    have c2 : (l[x.B.toNat]).K - 1 ≤ (l[x.B.toNat]).K := by omega
    have c3 : (l[x.B.toNat]).K ≤ ((3 : Nat) : Int) := by omega
    have hch : (([80, 83, 75] : List UInt8).take ((l[x.B.toNat]).K).toNat).drop ((l[x.B.toNat]).K - 1).toNat = [chrK (l[x.B.toNat]).K] := by
      generalize (l[x.B.toNat]).K = k at k1 k2
      have : k = 1 ∨ k = 2 ∨ k = 3 := by omega
      rcases this with rfl | rfl | rfl <;> rfl
    have ⟨p0, p1⟩ := hx.p0
    have ⟨x0, x1⟩ := hx.x0
    have ⟨y0, y1'⟩ := hx.y0
    have ⟨ww0, ww1⟩ := hfb.w1
    have ⟨hh0, hh1⟩ := hfb.h1
    have ⟨n0, n1⟩ := hfb.n
    have r1 : x.P < 100000 := by omega
    have r2 : x.X < 100000 := by omega
    have r3 : x.Y < 100000 := by omega
    have r4 : (l[x.B.toNat]).W * p.C < 100000 := by omega
    have r5 : (l[x.B.toNat]).H * p.C < 100000 := by omega
    have r6 : (l[x.B.toNat]).N < 100000 := by omega
    have r7 : 0 ≤ (l[x.B.toNat]).W * p.C := by omega
    have r8 : 0 ≤ (l[x.B.toNat]).H * p.C := by omega
    have L1 := decI_len p0 r1
    have L2 := decI_len x0 r2
    have L3 := decI_len y0 r3
    have L4 := decI_len r7 r4
    have L5 := decI_len r8 r5
    have L6 := decI_len n0 r6
    have ei := w64_succ (k := i) (by omega)
    simp only [kont_nil, kont_n, kont_e, kont_bn, kont_be, k_skip, k_exit, k_ret, k_seq, k_block, k_cond, k_reg, r_nil, r_v, r_alloc, r_st, r_call, stE, callT, lpQ_n, lpQ_e, postC, rcs, rc1, rvS, eget, lk, lkv, oks, AS.put, AS.keep, evk, splice, Opk.opds, aload, isI, isInt, toI, isB, toB, isS, toS, mk, icmp, iarith, bnd, bndI, nT, hget_hset, hget_nil, AVal.cells, Tok.esz, Option.toList, List.length_cons, List.length_nil, List.filterMap, List.map_cons, List.map_nil, List.append_nil, List.nil_append, List.cons_append, Option.map_some, reduceCtorEq, and_true, true_and, forall_const, Nat.reduceEqDiff, ↓reduceIte, Bool.false_eq_true, Nat.reduceAdd, List.drop, List.take, List.drop_succ_cons, List.take_succ_cons, Nat.reduceLeDiff, Int.reduceEq, Nat.le_refl, List.headD_cons, isDiv, false_implies, implies_true, Nat.zero_add, ne_eq, not_false_eq_true, and_self, ret_eq, Nat.add_zero, Nat.add_assoc, decide_true, T17_24, s24, List.length_map, Int.ofNat_lt, hlt, List.getElem?_map, List.getElem?_eq_getElem hlt, hxx, Int.toNat_natCast, Option.getD_some, Int.natCast_nonneg, List.getElem?_eq_getElem hlb, hB0, hB, w1, w2, ek, c1, c2, c3, hch, p0, x0, y0, n0, r1, r2, r3, r4, r5, r6, r7, r8, small, List.length_append, ei]
    repeat' apply And.intro
    rotate_right
    · refine lpN.drop ⟨i + 1, _⟩ rfl rfl rfl rfl (fresh5 p) ?_ ?_ ⟨hlt, ?_, ?_⟩ (by simp only []; omega)
      · exact .new (fresh5 p) (by omega) (.new (fresh5 p) (by omega) (.refl _))
      · exact ⟨⟨trivial, encB_under _ l⟩, (by show 0 < 3; omega), ⟨trivial, encX_under _ _⟩, trivial, trivial, trivial⟩
      · simp only []
        rw [List.take_succ_eq_append_getElem hlt, List.flatMap_append, hxx, eb]
        simp only [List.flatMap_cons, List.flatMap_nil, List.append_nil, List.append_assoc, lineS, numsS, numS, hbk, List.cons_append, List.nil_append]
      · simp only [List.length_append, List.length_cons, List.length_nil]; omega
    all_goals omega
  all_goals omega

end Go.AM
end

/- Booklets: the laws, part 1: the table of all functions; a guarded append. Conditions: none. -/
section
set_option maxRecDepth 10000
set_option linter.unusedSimpArgs false
set_option linter.unusedVariables false
set_option maxHeartbeats 1000000
set_option linter.unusedVariables false
set_option linter.unusedSimpArgs false
namespace Go.AM
open Go.Proofs Go.Lib

theorem r_appg {P : Program} {T : Tab} {Q : AExit → AS → Prop} {k : List Item} {s : AS} {b : Nat} {kp : List Nat} {r : List AOp} {d : Option Nat} {t : Nat} {w : Bool} {rel esz bytes : Nat} {x y : Opd} {str : Bool} :
    runK P T b (⟨d, some (t, w), .app rel esz bytes x y str⟩ :: r) kp k Q s = (gok s.env (some (t, w)) ∧ (gvb s.env (some (t, w)) = true → runK P T b (⟨d, none, .app rel esz bytes x y str⟩ :: r) kp k Q s) ∧ (gvb s.env (some (t, w)) = false → runK P T b r kp k Q (s.put d false (.tup [])))) := by
  simp [runK, runT, stepT, stepOp, effOp, gok, gvb]

def s11 : List AVal → AHeap → Prop × AVal := fun a H => match a with
  | [.agg [.int .i64 a, .int .i64 b, .int .i64 c, .int .i64 d, .int .i64 e], .sl tok L] => (encd L ∧ (tok.esz = 4 ∨ L = []), .tup [.sl (.none 1) ((printS ⟨a, b, c, d, e⟩ (L.map decB)).1.map e8), .int .i64 (printS ⟨a, b, c, d, e⟩ (L.map decB)).2])
  | _ => (False, .tup [])
theorem q11 : ∀ args H n, (s11 args H).1 → Quiet Tryd.prog 11 args H n (s11 args H).2 := by
  intro args H n h
  unfold s11 at h ⊢
  split at h
  · rename_i a b c d e tok L
    refine ACalls.args ((p11 ⟨a, b, c, d, e⟩ (L.map decB)).quiet H n) ?_
    rintro g vs ⟨v, r, rfl, k1, w, r', rfl, k2, k3⟩
    refine ⟨v, _, rfl, k1, w, r', rfl, ?_, k3⟩
    rw [← h.1]; exact Wk.sl h.2 _ _ k2
  · exact h.elim
theorem q12 : ∀ args H n, (s11 args H).1 → Quiet Tryd.prog 12 args H n (s11 args H).2 := by
  intro args H n h
  unfold s11 at h ⊢
  split at h
  · rename_i a b c d e tok L
    refine ACalls.args ((p12 ⟨a, b, c, d, e⟩ (L.map decB)).quiet H n) ?_
    rintro g vs ⟨v, r, rfl, k1, w, r', rfl, k2, k3⟩
    refine ⟨v, _, rfl, k1, w, r', rfl, ?_, k3⟩
    rw [← h.1]; exact Wk.sl h.2 _ _ k2
  · exact h.elim
def s17 : List AVal → AHeap → Prop × AVal := fun a H => match a with
  | [.sl t1 L1, .sl t2 L2] => (encdX L1 ∧ encdX L2 ∧ (t1.esz = 4 ∨ L1 = []) ∧ (t2.esz = 4 ∨ L2 = []) ∧ L1.length ≤ 1000000, .bool (sameS (L1.map decX) (L2.map decX)))
  | _ => (False, .tup [])
theorem q17 : ∀ args H n, (s17 args H).1 → Quiet Tryd.prog 17 args H n (s17 args H).2 := by
  intro args H n h
  unfold s17 at h ⊢
  split at h
  · rename_i t1 L1 t2 L2
    refine ACalls.args ((p17 (L1.map decX) (L2.map decX) (by rw [List.length_map]; exact h.2.2.2.2)).quiet H n) ?_
    rintro g vs ⟨v, r, rfl, k1, w, r', rfl, k2, k3⟩
    refine ⟨v, _, rfl, ?_, w, r', rfl, ?_, k3⟩
    · rw [← h.1]; exact Wk.sl h.2.2.1 _ _ k1
    · rw [← h.2.1]; exact Wk.sl h.2.2.2.1 _ _ k2
  · exact h.elim
def okP (xs : List Plc) : Prop := ∀ x ∈ xs, x.P ≤ 9223372036854775807
def s18 : List AVal → AHeap → Prop × AVal := fun a H => match a with
  | [.agg [.int .i64 a, .int .i64 b, .int .i64 c, .int .i64 d, .int .i64 e], .sl t1 L1, .sl t2 L2] => (encd L1 ∧ encdX L2 ∧ (t1.esz = 4 ∨ L1 = []) ∧ (t2.esz = 4 ∨ L2 = []) ∧ okP (L2.map decX),
      .tup [.bool (validS ⟨a, b, c, d, e⟩ (L1.map decB) (L2.map decX)).1, .int .i64 (validS ⟨a, b, c, d, e⟩ (L1.map decB) (L2.map decX)).2])
  | _ => (False, .tup [])
theorem q18 : ∀ args H n, (s18 args H).1 → Quiet Tryd.prog 18 args H n (s18 args H).2 := by
  intro args H n h
  unfold s18 at h ⊢
  split at h
  · rename_i a b c d e t1 L1 t2 L2
    refine ACalls.args ((p18 ⟨a, b, c, d, e⟩ (L1.map decB) (L2.map decX) h.2.2.2.2).quiet H n) ?_
    rintro g vs ⟨u, q, rfl, k0, v, r, rfl, k1, w, r', rfl, k2, k3⟩
    refine ⟨u, _, rfl, k0, v, _, rfl, ?_, w, r', rfl, ?_, k3⟩
    · rw [← h.1]; exact Wk.sl h.2.2.1 _ _ k1
    · rw [← h.2.1]; exact Wk.sl h.2.2.2.1 _ _ k2
  · exact h.elim
theorem q19 : ∀ args H n, (s18 args H).1 → Quiet Tryd.prog 19 args H n (s18 args H).2 := by
  intro args H n h
  unfold s18 at h ⊢
  split at h
  · rename_i a b c d e t1 L1 t2 L2
    refine ACalls.args ((p19 ⟨a, b, c, d, e⟩ (L1.map decB) (L2.map decX) h.2.2.2.2).quiet H n) ?_
    rintro g vs ⟨u, q, rfl, k0, v, r, rfl, k1, w, r', rfl, k2, k3⟩
    refine ⟨u, _, rfl, k0, v, _, rfl, ?_, w, r', rfl, ?_, k3⟩
    · rw [← h.1]; exact Wk.sl h.2.2.1 _ _ k1
    · rw [← h.2.1]; exact Wk.sl h.2.2.2.1 _ _ k2
  · exact h.elim
def T18 : Tab := tadd 11 s11 (tadd 12 s11 (tadd 17 s17 (tadd 18 s18 (tadd 19 s18 T17))))
theorem T18_ok : TabOK Tryd.prog T18 := ((((T17_ok.add q19).add q18).add q17).add q12).add q11
theorem T18_11 (a : List AVal) (H : AHeap) : T18 11 a H = s11 a H := rfl
theorem T18_12 (a : List AVal) (H : AHeap) : T18 12 a H = s11 a H := rfl
theorem T18_13 (a : List AVal) (H : AHeap) : T18 13 a H = s13 a H := rfl
theorem T18_14 (a : List AVal) (H : AHeap) : T18 14 a H = s13 a H := rfl
theorem T18_15 (a : List AVal) (H : AHeap) : T18 15 a H = s15 a H := rfl
theorem T18_16 (a : List AVal) (H : AHeap) : T18 16 a H = s15 a H := rfl
theorem T18_17 (a : List AVal) (H : AHeap) : T18 17 a H = s17 a H := rfl
theorem T18_18 (a : List AVal) (H : AHeap) : T18 18 a H = s18 a H := rfl
theorem T18_19 (a : List AVal) (H : AHeap) : T18 19 a H = s18 a H := rfl

end Go.AM
end

/- Booklets: the laws, part 2: sane. Conditions: none. -/
section
set_option maxRecDepth 10000
set_option linter.unusedSimpArgs false
set_option linter.unusedVariables false
set_option maxHeartbeats 1000000
set_option linter.unusedVariables false
set_option linter.unusedSimpArgs false
namespace Go.AM
open Go.Proofs Go.Lib

abbrev P0 : Pap := ⟨10, 10, 1, 1, 1⟩
abbrev four : List Blk := [⟨1, 0, 4, 3⟩, ⟨1, 1, 4, 3⟩, ⟨1, 2, 4, 3⟩, ⟨1, 3, 4, 3⟩]
theorem lay_four : layS P0 four = ([⟨0, 0, 1, 1⟩, ⟨1, 0, 1, 5⟩, ⟨2, 1, 1, 1⟩, ⟨3, 1, 1, 5⟩], 0) := by rfl
theorem lay_both : layS P0 [⟨2, 7, 4, 3⟩, ⟨1, 7, 4, 3⟩] = ([⟨1, 0, 1, 1⟩, ⟨0, 1, 1, 1⟩], 0) := by rfl
theorem lay_one : layS P0 [⟨2, 7, 4, 3⟩] = ([⟨0, 0, 1, 1⟩], 0) := by rfl
theorem lay_seven : layS P0 [⟨1, 7, 4, 3⟩] = ([⟨0, 0, 1, 1⟩], 0) := by rfl
theorem chk_four : checkS P0 four = 0 := by rfl
theorem chk_seven : checkS P0 [⟨1, 7, 4, 3⟩] = 0 := by rfl
theorem chk_none : checkS ⟨0, 0, 0, 0, 0⟩ [] = 570 := by rfl
theorem chk_dup : checkS P0 [⟨1, 7, 4, 3⟩, ⟨1, 7, 4, 3⟩] = 570 := by rfl
theorem chk_wide : checkS P0 [⟨1, 0, 9, 1⟩] = 570 := by rfl
theorem chk_many : checkS P0 (List.replicate 65 ⟨0, 0, 0, 0⟩) = 2 := by rfl
theorem lay_many : layS P0 (List.replicate 65 ⟨0, 0, 0, 0⟩) = ([], 2) := by unfold layS; rw [chk_many]; rfl
theorem valid_0 : validS P0 [] [] = (true, 0) := by rfl
theorem dec_sm {i : Nat} (h : i < 10) : decI (i : Int) = [UInt8.ofNat (48 + i)] := by simp only [decI, Int.toNat_natCast]; exact decDigits_one h
def pb : List UInt8 := [49, 48, 32, 49, 48, 10, 48, 32, 49, 32, 49, 32, 52, 32, 51, 32, 80, 32, 55, 10]
theorem print_seven : printS P0 [⟨1, 7, 4, 3⟩] = (pb, 0) := by
  unfold printS
  rw [if_pos chk_seven, lay_seven]
  have e10 : decI 10 = [49, 48] := decDigits_two (i := 10) (by omega) (by omega)
  have e0 : decI 0 = [48] := dec_sm (i := 0) (by omega)
  have e1 : decI 1 = [49] := dec_sm (i := 1) (by omega)
  have e4 : decI (4 * 1) = [52] := dec_sm (i := 4) (by omega)
  have e3 : decI (3 * 1) = [51] := dec_sm (i := 3) (by omega)
  have e7 : decI 7 = [55] := dec_sm (i := 7) (by omega)
  have eb : blkN [⟨1, 7, 4, 3⟩] (Int.toNat 0) = ⟨1, 7, 4, 3⟩ := rfl
  simp only [headS, lineS, numsS, numS, List.flatMap_cons, List.flatMap_nil, eb, e10, e0, e1, e4, e3, e7, chrK, List.append_nil]
  rfl

theorem dec_4 (a b c d : Int) : decB (.agg [.int .i64 a, .int .i64 b, .int .i64 c, .int .i64 d]) = ⟨a, b, c, d⟩ := rfl
theorem dex_4 (a b c d : Int) : decX (.agg [.int .i64 a, .int .i64 b, .int .i64 c, .int .i64 d]) = ⟨a, b, c, d⟩ := rfl

theorem lay_many' : layS P0 [⟨0, 0, 0, 0⟩, ⟨0, 0, 0, 0⟩, ⟨0, 0, 0, 0⟩, ⟨0, 0, 0, 0⟩, ⟨0, 0, 0, 0⟩, ⟨0, 0, 0, 0⟩, ⟨0, 0, 0, 0⟩, ⟨0, 0, 0, 0⟩, ⟨0, 0, 0, 0⟩, ⟨0, 0, 0, 0⟩, ⟨0, 0, 0, 0⟩, ⟨0, 0, 0, 0⟩, ⟨0, 0, 0, 0⟩, ⟨0, 0, 0, 0⟩, ⟨0, 0, 0, 0⟩, ⟨0, 0, 0, 0⟩, ⟨0, 0, 0, 0⟩, ⟨0, 0, 0, 0⟩, ⟨0, 0, 0, 0⟩, ⟨0, 0, 0, 0⟩, ⟨0, 0, 0, 0⟩, ⟨0, 0, 0, 0⟩, ⟨0, 0, 0, 0⟩, ⟨0, 0, 0, 0⟩, ⟨0, 0, 0, 0⟩, ⟨0, 0, 0, 0⟩, ⟨0, 0, 0, 0⟩, ⟨0, 0, 0, 0⟩, ⟨0, 0, 0, 0⟩, ⟨0, 0, 0, 0⟩, ⟨0, 0, 0, 0⟩, ⟨0, 0, 0, 0⟩, ⟨0, 0, 0, 0⟩, ⟨0, 0, 0, 0⟩, ⟨0, 0, 0, 0⟩, ⟨0, 0, 0, 0⟩, ⟨0, 0, 0, 0⟩, ⟨0, 0, 0, 0⟩, ⟨0, 0, 0, 0⟩, ⟨0, 0, 0, 0⟩, ⟨0, 0, 0, 0⟩, ⟨0, 0, 0, 0⟩, ⟨0, 0, 0, 0⟩, ⟨0, 0, 0, 0⟩, ⟨0, 0, 0, 0⟩, ⟨0, 0, 0, 0⟩, ⟨0, 0, 0, 0⟩, ⟨0, 0, 0, 0⟩, ⟨0, 0, 0, 0⟩, ⟨0, 0, 0, 0⟩, ⟨0, 0, 0, 0⟩, ⟨0, 0, 0, 0⟩, ⟨0, 0, 0, 0⟩, ⟨0, 0, 0, 0⟩, ⟨0, 0, 0, 0⟩, ⟨0, 0, 0, 0⟩, ⟨0, 0, 0, 0⟩, ⟨0, 0, 0, 0⟩, ⟨0, 0, 0, 0⟩, ⟨0, 0, 0, 0⟩, ⟨0, 0, 0, 0⟩, ⟨0, 0, 0, 0⟩, ⟨0, 0, 0, 0⟩, ⟨0, 0, 0, 0⟩, ⟨0, 0, 0, 0⟩] = ([], 2) := lay_many
theorem same_4 : sameS [⟨0, 0, 1, 1⟩, ⟨1, 0, 1, 5⟩, ⟨2, 1, 1, 1⟩, ⟨3, 1, 1, 5⟩] [⟨0, 0, 1, 1⟩, ⟨1, 0, 1, 5⟩, ⟨2, 1, 1, 1⟩, ⟨3, 1, 1, 5⟩] = true := by rfl
theorem same_2 : sameS [⟨1, 0, 1, 1⟩, ⟨0, 1, 1, 1⟩] [⟨1, 0, 1, 1⟩, ⟨0, 1, 1, 1⟩] = true := by rfl
theorem same_1 : sameS [⟨0, 0, 1, 1⟩] [⟨0, 0, 1, 1⟩] = true := by rfl
theorem pb_ex : (∃ bs, List.map e8 pb = List.map (fun b : UInt8 => AVal.int IntKind.u8 (b.toNat : Nat)) bs) = True := eq_true ⟨pb, rfl⟩
theorem pb_str : List.map (fun v => UInt8.ofNat (toI v).toNat) (List.map e8 pb) = [49, 48, 32, 49, 48, 10, 48, 32, 49, 32, 49, 32, 52, 32, 51, 32, 80, 32, 55, 10] := by rfl
structure V10 where
  i : Nat
  H : AHeap
  n : Nat
  tok : Tok
theorem p10 : Pur Tryd.prog 10 [] (.bool true) := by
  refine .mk trivial trivial (a10 (ev_awp T18_ok (ev_evK ?_)))
  simp only [kont_n, k_seq, k_block, k_reg, r_nil, r_v, r_alloc, r_st, stE, penv, eget, lk, lkv, oks, AS.put, AS.keep, evk, evB_eq, allB, fillB, splice, Opk.opds, nT, hget_hset, hget_nil, AVal.cells, List.length_cons, List.length_nil, List.filterMap, List.map_cons, List.map_nil, List.append_nil, List.nil_append, List.cons_append, Option.map_some, true_and, Nat.reduceEqDiff, ↓reduceIte, Nat.reduceAdd, List.drop, List.take, List.drop_succ_cons, List.take_succ_cons, Nat.reduceLeDiff, Nat.le_refl, Nat.zero_add, and_self, Nat.add_zero, c10]
  refine k_loop (fun v : V10 => ⟨[(1, true, .ptr 1 0), (2, true, .sl v.tok ((four.take v.i).map encB)), (21, true, .int .i64 v.i)], v.H, v.n⟩)
    (fun v => v.i ≤ 4 ∧ hget v.H 1 = some (boxP P0) ∧ ((v.tok = .nil ∧ v.i = 0) ∨ ∃ id, v.tok = .own id 4 ∧ hget v.H id = some .tok) ∧ Fresh v.H v.n ∧ 3 ≤ v.n) (fun v => 4 - v.i) ⟨0, hset hnil 1 (boxP P0), 3, .nil⟩ ?_ ⟨by simp, rfl, .inl ⟨rfl, rfl⟩, Fresh.nil.hset (n := 0) (m := 3) (by omega) (by omega), Nat.le_refl _⟩ ?_
  · rw [hset_hset]; rfl
  rintro ⟨i, H, n, tok⟩ ⟨hi, g1, tk, fr, n3⟩
  simp only at hi g1 tk fr n3
  have fr' : ∀ id, n ≤ id → hget H id = none := fr
  have f1 : (n + 4 = 1) = False := eq_false (by omega)
  by_cases hlt : i < 4
  · have hlt' : ((i : Int) < 4) = True := eq_true (by omega)
    have ei := w64_succ (k := i) (by omega)
    have hne : (four.take i).map encB ++ [.agg [.int .i64 1, .int .i64 i, .int .i64 4, .int .i64 3]] = (four.take (i + 1)).map encB := by
      have : i = 0 ∨ i = 1 ∨ i = 2 ∨ i = 3 := by omega
      rcases this with rfl | rfl | rfl | rfl <;> rfl
    have hl4 : (four.take i).length ≤ 4 := by rw [List.length_take]; omega
    generalize htf : four.take i = tf at hne hl4
    rcases tk with ⟨rfl, h0⟩ | ⟨id, rfl, hid⟩
    · simp only [kont_nil, kont_n, kont_e, kont_bn, kont_be, k_skip, k_exit, k_seq, k_block, k_cond, k_reg, r_nil, r_v, r_vg, r_pick, r_call, r_callg, r_app, appE, callT, lpQ_n, lpQ_e, gok, gvb, eget, lk, lkv, oks, AS.put, AS.keep, evk, evB_eq, allB, fillB, evS_eq, allS, fillS, splice, Opk.opds, aload, isI, isInt, toI, isB, toB, isS, toS, sel, mk, icmp, iarith, bnd, bndI, nT, hget_hset, AVal.cells, Tok.esz, Option.toList, List.length_cons, List.length_nil, List.filterMap, List.map_cons, List.map_nil, List.append_nil, List.nil_append, List.cons_append, Option.map_some, Option.map_none, reduceCtorEq, and_true, true_and, forall_const, Nat.reduceEqDiff, ↓reduceIte, Bool.false_eq_true, Nat.reduceAdd, List.drop, List.take, List.drop_zero, List.drop_succ_cons, List.take_succ_cons, Nat.reduceLeDiff, Nat.reduceMul, Nat.reduceLT, Int.reduceEq, Int.reduceLE, Int.reduceToNat, List.set_cons_zero, List.set_cons_succ, List.replicate_succ, List.replicate_zero, Nat.le_refl, Bool.true_and, isDiv, slTok, false_implies, implies_true, Nat.zero_add, Bool.cond_false_right, imp_self, beq_true, Bool.and_eq_true, decide_eq_true_eq, decide_eq_false_iff_not, ne_eq, not_true_eq_false, not_false_eq_true, impA1, and_self, or_true, or_false, Nat.add_zero, Nat.add_assoc, Nat.le_add_right, killTok, appOK, srcOf, decide_true, hlt', ei, fr', small, List.length_map, hne]
      refine ⟨⟨by omega, by omega⟩, .mk ⟨i + 1, _, n + 6, .own (n + 4) 4⟩ rfl ⟨hlt, ?_, .inr ⟨n + 4, rfl, hget_hset_eq ..⟩, ?_, by simp only []; omega⟩ (by simp only []; omega)⟩
      · show hget (hset _ (n + 4) .tok) 1 = _
        simp only [hget_hset]; repeat rw [if_neg (by first | omega | exact hd1)]
        exact g1
      · intro j hj
        have hj' : n + 6 ≤ j := hj
        show hget (hset _ (n + 4) .tok) j = _
        simp only [hget_hset]; repeat rw [if_neg (by omega)]
        exact fr j (by omega)
    · have hd1 : id ≠ 1 := by rintro rfl; rw [g1] at hid; cases hid
      have hid2 := fr.lt hid
      simp only [kont_nil, kont_n, kont_e, kont_bn, kont_be, k_skip, k_exit, k_seq, k_block, k_cond, k_reg, r_nil, r_v, r_vg, r_pick, r_call, r_callg, r_app, appE, callT, lpQ_n, lpQ_e, gok, gvb, eget, lk, lkv, oks, AS.put, AS.keep, evk, evB_eq, allB, fillB, evS_eq, allS, fillS, splice, Opk.opds, aload, isI, isInt, toI, isB, toB, isS, toS, sel, mk, icmp, iarith, bnd, bndI, nT, hget_hset, AVal.cells, Tok.esz, Option.toList, List.length_cons, List.length_nil, List.filterMap, List.map_cons, List.map_nil, List.append_nil, List.nil_append, List.cons_append, Option.map_some, Option.map_none, reduceCtorEq, and_true, true_and, forall_const, Nat.reduceEqDiff, ↓reduceIte, Bool.false_eq_true, Nat.reduceAdd, List.drop, List.take, List.drop_zero, List.drop_succ_cons, List.take_succ_cons, Nat.reduceLeDiff, Nat.reduceMul, Nat.reduceLT, Int.reduceEq, Int.reduceLE, Int.reduceToNat, List.set_cons_zero, List.set_cons_succ, List.replicate_succ, List.replicate_zero, Nat.le_refl, Bool.true_and, isDiv, slTok, false_implies, implies_true, Nat.zero_add, Bool.cond_false_right, imp_self, beq_true, Bool.and_eq_true, decide_eq_true_eq, decide_eq_false_iff_not, ne_eq, not_true_eq_false, not_false_eq_true, impA1, and_self, or_true, or_false, Nat.add_zero, Nat.add_assoc, Nat.le_add_right, killTok, appOK, srcOf, decide_true, hlt', ei, fr', hid, small, List.length_map, hne]
      refine ⟨⟨by omega, by omega⟩, .mk ⟨i + 1, _, n + 6, .own (n + 4) 4⟩ rfl ⟨hlt, ?_, .inr ⟨n + 4, rfl, hget_hset_eq ..⟩, ?_, by simp only []; omega⟩ (by simp only []; omega)⟩
      · show hget (hset _ (n + 4) .tok) 1 = _
        simp only [hget_hset]; repeat rw [if_neg (by first | omega | exact hd1)]
        exact g1
      · intro j hj
        have hj' : n + 6 ≤ j := hj
        show hget (hset _ (n + 4) .tok) j = _
        simp only [hget_hset]; repeat rw [if_neg (by omega)]
        exact fr j (by omega)
  have hi4 : i = 4 := by omega
  subst hi4
  obtain ⟨id, rfl, hid⟩ : ∃ id, tok = .own id 4 ∧ hget H id = some .tok := by
    rcases tk with ⟨h1, h2⟩ | h
    · cases h2
    · exact h
  have hd1 : id ≠ 1 := by rintro rfl; rw [g1] at hid; cases hid
  have hid2 := fr.lt hid
  have k1 : (id = n + 3) = False := eq_false (by omega)
  have k2 : (id = 1) = False := eq_false hd1
  have n4 : ((4 : Nat) : Int) = 4 := rfl
  simp only [kont_nil, kont_n, kont_e, kont_bn, kont_be, k_skip, k_exit, k_ret, k_seq, k_block, k_cond, k_reg, r_nil, r_v, r_vg, r_pick, r_call, r_callg, r_app, appE, callT, lpQ_n, lpQ_e, postC, rcs, rc1, rvS, gok, gvb, eget, lk, lkv, oks, AS.put, AS.keep, evk, evB_eq, allB, fillB, evS_eq, allS, fillS, splice, Opk.opds, aload, isI, isInt, toI, isB, toB, isS, toS, sel, mk, icmp, iarith, bnd, bndI, nT, hget_hset, AVal.cells, Tok.esz, Option.toList, List.length_cons, List.length_nil, List.filterMap, List.map_cons, List.map_nil, List.append_nil, List.nil_append, List.cons_append, Option.map_some, Option.map_none, reduceCtorEq, and_true, true_and, forall_const, Nat.reduceEqDiff, ↓reduceIte, Bool.false_eq_true, Nat.reduceAdd, List.drop, List.take, List.drop_zero, List.drop_succ_cons, List.take_succ_cons, Nat.reduceLeDiff, Nat.reduceMul, Nat.reduceLT, Int.reduceEq, Int.reduceLE, Int.reduceLT, Int.reduceToNat, List.set_cons_zero, List.set_cons_succ, List.replicate_succ, List.replicate_zero, Nat.le_refl, Bool.true_and, Bool.and_true, beq_self_eq_true, isDiv, slTok, false_implies, implies_true, Nat.zero_add, Bool.cond_false_right, imp_self, beq_true, decide_eq_true_eq, decide_eq_false_iff_not, ne_eq, not_true_eq_false, not_false_eq_true, natE1, and_self, or_true, or_false, ret_eq, Nat.add_zero, Nat.add_assoc, Nat.le_add_right, killTok, appOK, srcOf, wk_bool, decide_true, decide_false, Bool.and_false, cond_true, cond_false, n4, g1, fr', hid, encB, T18_11, T18_13, T18_15, T18_17, T18_18, s11, s13, s15, s17, s18, small, dec_4, dex_4, encd, encdX, lay_four, lay_both, lay_one, chk_four, chk_none, chk_dup, chk_wide, valid_0, print_seven, lay_many', same_4, same_2, same_1, pb_ex, r_appg, okP, List.getElem?_cons_zero, List.getElem?_cons_succ, Option.getD_some, scmp]
  exact ⟨by decide, by simp, by decide, rfl⟩

end Go.AM
end

/- Booklets: the laws, part 3: the three that compare with the reference. Conditions: none. -/
section
set_option maxRecDepth 10000
set_option linter.unusedSimpArgs false
set_option linter.unusedVariables false
set_option maxHeartbeats 1000000
set_option linter.unusedVariables false
set_option linter.unusedSimpArgs false
namespace Go.AM
open Go.Proofs Go.Lib

def s10 : List AVal → AHeap → Prop × AVal := fun a _ => match a with
  | [] => (True, .bool true)
  | _ => (False, .tup [])
def T20 : Tab := tadd 10 s10 T18
theorem q10 : ∀ args H n, (s10 args H).1 → Quiet Tryd.prog 10 args H n (s10 args H).2 := by
  intro args H n h
  unfold s10 at h ⊢
  split at h
  · exact p10.quiet H n
  · exact h.elim
theorem T20_ok : TabOK Tryd.prog T20 := T18_ok.add q10
theorem T20_10 (a : List AVal) (H : AHeap) : T20 10 a H = s10 a H := rfl
theorem T20_11 (a : List AVal) (H : AHeap) : T20 11 a H = s11 a H := rfl
theorem T20_12 (a : List AVal) (H : AHeap) : T20 12 a H = s11 a H := rfl
theorem T20_13 (a : List AVal) (H : AHeap) : T20 13 a H = s13 a H := rfl
theorem T20_14 (a : List AVal) (H : AHeap) : T20 14 a H = s13 a H := rfl
theorem T20_15 (a : List AVal) (H : AHeap) : T20 15 a H = s15 a H := rfl
theorem T20_16 (a : List AVal) (H : AHeap) : T20 16 a H = s15 a H := rfl
theorem T20_17 (a : List AVal) (H : AHeap) : T20 17 a H = s17 a H := rfl
theorem T20_18 (a : List AVal) (H : AHeap) : T20 18 a H = s18 a H := rfl
theorem T20_19 (a : List AVal) (H : AHeap) : T20 19 a H = s18 a H := rfl

theorem p3 (p : Pap) (l : List Blk) : Pur Tryd.prog 3 [encP p, .sl (.none 4) (l.map encB)] (.bool true) := by
  refine .mk ⟨by simp [unders, AVal.under], ⟨trivial, encB_under 0 l⟩, trivial⟩ trivial (a3 (ev_awp T20_ok (ev_evK ?_)))
  simp only [kont_nil, kont_n, kont_r, k_skip, k_ret, k_seq, k_cond, k_reg, r_nil, r_v, r_vg, r_pick, r_box, r_call, callT, penv, postC, rcs, rc1, rvS, gok, gvb, eget, lk, lkv, oks, AS.put, AS.keep, evk, Opk.opds, aload, isI, toI, isB, toB, isS, toS, sel, mk, icmp, nT, hget_hset, hget_nil, AVal.cells, Tok.esz, List.length_cons, List.length_nil, List.filterMap, List.map_cons, List.map_nil, List.append_nil, List.nil_append, Option.map_some, reduceCtorEq, and_true, true_and, forall_const, Nat.reduceEqDiff, ↓reduceIte, Bool.false_eq_true, Nat.reduceAdd, List.drop, List.take, List.take_succ_cons, Nat.reduceLT, Nat.le_refl, Bool.and_true, beq_self_eq_true, implies_true, Nat.zero_add, imp_self, Bool.not_eq_true', Bool.not_eq_false', and_self, or_true, true_or, ret_eq, Nat.add_zero, wk_bool, decide_true, cond_true, c3, T20_10, T20_11, T20_12, T20_13, T20_14, s10, s11, s13, pap_eta, encd_map, decB_map, List.getElem?_cons_zero, List.getElem?_cons_succ, Option.getD_some, scmp]
  exact ⟨_, rfl⟩
theorem p4 (p : Pap) (l : List Blk) : Pur Tryd.prog 4 [encP p, .sl (.none 4) (l.map encB)] (.bool true) := by
  refine .mk ⟨by simp [unders, AVal.under], ⟨trivial, encB_under 0 l⟩, trivial⟩ trivial (a4 (ev_awp T20_ok (ev_evK ?_)))
  have hlen : (layS p l).1.length ≤ 1000000 := by
    by_cases hc : checkS p l = 0
    · rw [layS_len hc]; have := (check_ok hc).1; omega
    · unfold layS; rw [if_neg hc]; simp
  have hs : sameS (layS p l).1 (layS p l).1 = true := sameS_iff.2 rfl
  simp only [kont_nil, kont_n, kont_r, k_skip, k_ret, k_seq, k_cond, k_reg, r_nil, r_v, r_vg, r_pick, r_box, r_call, callT, penv, postC, rcs, rc1, rvS, gok, gvb, eget, lk, lkv, oks, AS.put, AS.keep, evk, Opk.opds, aload, isI, toI, isB, toB, sel, mk, icmp, nT, hget_hset, hget_nil, AVal.cells, Tok.esz, List.length_cons, List.length_nil, List.filterMap, List.map_cons, List.map_nil, List.append_nil, List.nil_append, Option.map_some, reduceCtorEq, true_and, forall_const, Nat.reduceEqDiff, ↓reduceIte, Bool.false_eq_true, Nat.reduceAdd, List.drop, List.take, List.take_succ_cons, Nat.reduceLT, Nat.le_refl, Bool.and_true, beq_self_eq_true, implies_true, Nat.zero_add, imp_self, Bool.not_eq_true', Bool.not_eq_false', and_self, true_or, ret_eq, Nat.add_zero, wk_bool, decide_true, cond_true, c4, T20_10, T20_15, T20_16, T20_17, s10, s15, s17, List.length_map, pap_eta, encd_map, decB_map, encdX_map, decX_map, hlen, hs, List.getElem?_cons_zero, List.getElem?_cons_succ, Option.getD_some]
theorem p5 (p : Pap) (l : List Blk) (xs : List Plc) (hx : okP xs) : Pur Tryd.prog 5 [encP p, .sl (.none 4) (l.map encB), .sl (.none 4) (xs.map encX)] (.bool true) := by
  refine .mk ⟨by simp [unders, AVal.under], ⟨trivial, encB_under 0 l⟩, ⟨trivial, encX_under 0 xs⟩, trivial⟩ trivial (a5 (ev_awp T20_ok (ev_evK ?_)))
  simp only [kont_nil, kont_n, kont_r, k_skip, k_ret, k_seq, k_cond, k_reg, r_nil, r_v, r_vg, r_pick, r_box, r_call, callT, penv, postC, rcs, rc1, rvS, gok, gvb, eget, lk, lkv, oks, AS.put, AS.keep, evk, Opk.opds, aload, isI, toI, isB, toB, sel, mk, icmp, nT, hget_hset, hget_nil, AVal.cells, Tok.esz, List.length_cons, List.length_nil, List.filterMap, List.map_cons, List.map_nil, List.append_nil, List.nil_append, Option.map_some, reduceCtorEq, true_and, forall_const, Nat.reduceEqDiff, ↓reduceIte, Bool.false_eq_true, Nat.reduceAdd, List.drop, List.take, List.take_succ_cons, Nat.reduceLT, Nat.le_refl, Bool.and_true, beq_self_eq_true, implies_true, Nat.zero_add, imp_self, Bool.not_eq_true', Bool.not_eq_false', decide_eq_true_eq, decide_eq_false_iff_not, and_self, true_or, ret_eq, Nat.add_zero, wk_bool, decide_true, cond_true, c5, T20_10, T20_18, T20_19, s10, s18, List.length_map, pap_eta, encd_map, decB_map, encdX_map, decX_map, hx, List.getElem?_cons_zero, List.getElem?_cons_succ, Option.getD_some]

end Go.AM
end
