/-
  The abstract code of some functions, written by a program · Booklets: the laws, part 4: PressScale.
  Conditions: none beyond those of its parts.
-/
import Derived.Test.YtekbplnmbbmhdaaDoorProg
import Derived.Test.YtekbplnmbbmhdaaDoorB3
import Derived.Test.YtekbplnmbbmhdaaDoorB6
import Derived.KernelRfl
import Derived.Test.YtekbplnmbbmhdaaDoorB8

/- The abstract code of some functions, written by a program. Conditions: none. -/
section
set_option maxRecDepth 10000
set_option maxRecDepth 20000
set_option linter.unusedVariables false
namespace Go.AM
open Go.Proofs





/-- gridwright/gridwrightlaw57.PressScale -/
def kq8 (r : Nat) : List Nat := match r with
  | 0 => [1, 2]
  | 1 => [1, 2, 18]
  | 2 => [4]
  | 3 => [1, 2, 32]
  | 4 => [4]
  | 5 => [1, 2, 5]
  | 6 => [1, 2, 5, 36, 37, 38]
  | 7 => [1, 2, 5, 36, 37, 38, 39]
  | 8 => [1, 2, 5, 6, 7, 36, 37, 38]
  | 9 => [1, 2, 5, 36, 37, 38]
  | 10 => [1, 2, 5, 36, 37, 38]
  | 11 => [1, 2, 5, 8]
  | 12 => [1, 2, 5, 8]
  | 13 => [1, 2, 5, 8, 9, 10]
  | 14 => [1, 2, 5, 8, 9, 10, 11, 12]
  | 15 => [5, 8, 9, 10, 11, 12, 13, 14]
  | 16 => [9, 10, 11, 12, 13, 14, 15, 16]
  | 17 => [4]
  | _ => []
def d8 : ACode :=
  (.seq
   (.reg 2 [
     ⟨some 2, none, .box 0 5 (.t 0)⟩,
     ⟨some 4, none, .v (.mv (.c (.bool false)))⟩] [1, 2])
   (.seq
    (.seq
     (.reg 0 [
       ⟨some 17, none, .call true (.c (.fn (.func 10) [] [])) []⟩,
       ⟨some 18, none, .v (.not (.t 17))⟩] [1, 2, 18])
     (.cond (.t 18)
      (.seq
       (.reg 0 [
         ⟨some 4, none, .v (.mv (.c (.bool false)))⟩] [4])
       .ret)
      .skip))
    (.seq
     (.seq
      (.reg 0 [
        ⟨some 19, none, .v (.ld 5 true (.t 2))⟩,
        ⟨some 20, none, .v (.mv (.t 1))⟩,
        ⟨some 21, none, .call true (.c (.fn (.func 13) [] [])) [(.t 19), (.t 20)]⟩,
        ⟨some 22, none, .v (.icmp .neq .i64 (.t 21) (.c (.int .i64 0)))⟩,
        ⟨some 23, none, .v (.mv (.t 22))⟩,
        ⟨some 24, some (23, false), .v (.fa 4 (.t 2))⟩,
        ⟨some 25, some (23, false), .v (.ld 1 false (.t 24))⟩,
        ⟨some 26, some (23, false), .v (.icmp .lss .i64 (.t 25) (.c (.int .i64 1)))⟩,
        ⟨some 27, none, .pick (.t 23) (.c (.bool true)) (.t 26)⟩,
        ⟨some 28, none, .v (.mv (.t 27))⟩,
        ⟨some 29, some (28, false), .v (.fa 4 (.t 2))⟩,
        ⟨some 30, some (28, false), .v (.ld 1 false (.t 29))⟩,
        ⟨some 31, some (28, false), .v (.icmp .gtr .i64 (.t 30) (.c (.int .i64 16)))⟩,
        ⟨some 32, none, .pick (.t 28) (.c (.bool true)) (.t 31)⟩] [1, 2, 32])
      (.cond (.t 32)
       (.seq
        (.reg 0 [
          ⟨some 4, none, .v (.mv (.c (.bool true)))⟩] [4])
        .ret)
       .skip))
     (.seq
      (.reg 4 [
        ⟨some 33, none, .v (.mv (.t 1))⟩,
        ⟨some 34, none, .v (.len (.t 33))⟩,
        ⟨some 35, none, .mks 2 4 32 (.agg [(.int .i64 0), (.int .i64 0), (.int .i64 0), (.int .i64 0)]) (.t 34)⟩,
        ⟨some 5, none, .v (.mv (.t 35))⟩] [1, 2, 5])
      (.seq
       (.seq
        (.reg 0 [
          ⟨some 36, none, .v (.mv (.t 1))⟩,
          ⟨some 37, none, .v (.len (.t 36))⟩,
          ⟨some 38, none, .v (.mv (.c (.int .i64 0)))⟩] [1, 2, 5, 36, 37, 38])
        (.block 0
         (.loop
          (.seq
           (.reg 0 [
             ⟨some 39, none, .v (.icmp .lss .i64 (.t 38) (.t 37))⟩] [1, 2, 5, 36, 37, 38, 39])
           (.seq
            (.cond (.t 39)
             .skip
             (.exit 0))
            (.seq
             (.block 1
              (.seq
               (.reg 6 [
                 ⟨some 40, none, .v (.mv (.t 38))⟩,
                 ⟨some 41, none, .v (.ia 4 (.t 36) (.t 38))⟩,
                 ⟨some 42, none, .v (.ld 4 true (.t 41))⟩,
                 ⟨some 7, none, .alloc 3 [(.int .i64 0), (.int .i64 0), (.int .i64 0), (.int .i64 0)]⟩,
                 ⟨some 6, none, .v (.mv (.t 40))⟩,
                 ⟨none, none, .st 4 (.t 7) (.t 42)⟩] [1, 2, 5, 6, 7, 36, 37, 38])
               (.reg 0 [
                 ⟨some 43, none, .v (.mv (.t 5))⟩,
                 ⟨some 44, none, .v (.mv (.t 6))⟩,
                 ⟨some 45, none, .v (.fa 0 (.t 7))⟩,
                 ⟨some 46, none, .v (.ld 1 false (.t 45))⟩,
                 ⟨some 47, none, .v (.fa 1 (.t 7))⟩,
                 ⟨some 48, none, .v (.ld 1 false (.t 47))⟩,
                 ⟨some 49, none, .v (.fa 2 (.t 7))⟩,
                 ⟨some 50, none, .v (.ld 1 false (.t 49))⟩,
                 ⟨some 51, none, .v (.fa 4 (.t 2))⟩,
                 ⟨some 52, none, .v (.ld 1 false (.t 51))⟩,
                 ⟨some 53, none, .v (.arith .mul .i64 (.t 50) (.t 52))⟩,
                 ⟨some 54, none, .v (.fa 3 (.t 7))⟩,
                 ⟨some 55, none, .v (.ld 1 false (.t 54))⟩,
                 ⟨some 56, none, .v (.fa 4 (.t 2))⟩,
                 ⟨some 57, none, .v (.ld 1 false (.t 56))⟩,
                 ⟨some 58, none, .v (.arith .mul .i64 (.t 55) (.t 57))⟩,
                 ⟨some 59, none, .v (.build [(.int .i64 0), (.int .i64 0), (.int .i64 0), (.int .i64 0)] [(0, 1, (.t 46)), (1, 1, (.t 48)), (2, 1, (.t 53)), (3, 1, (.t 58))])⟩,
                 ⟨some 60, none, .v (.ia 4 (.t 43) (.t 44))⟩,
                 ⟨none, none, .st 4 (.t 60) (.t 59)⟩] [1, 2, 5, 36, 37, 38])))
             (.reg 0 [
               ⟨some 61, none, .v (.arith .add .i64 (.t 38) (.c (.int .i64 1)))⟩,
               ⟨some 38, none, .v (.mv (.t 61))⟩] [1, 2, 5, 36, 37, 38])))))))
       (.seq
        (.seq
         (.reg 3 [
           ⟨some 62, none, .v (.ld 5 true (.t 2))⟩,
           ⟨some 8, none, .alloc 1 [(.int .i64 0), (.int .i64 0), (.int .i64 0), (.int .i64 0), (.int .i64 0)]⟩,
           ⟨none, none, .st 5 (.t 8) (.t 62)⟩] [1, 2, 5, 8])
         (.frz 5))
        (.seq
         (.reg 0 [
           ⟨some 63, none, .v (.fa 4 (.t 8))⟩,
           ⟨none, none, .st 1 (.t 63) (.c (.int .i64 1))⟩] [1, 2, 5, 8])
         (.seq
          (.reg 0 [
            ⟨some 65, none, .v (.ld 5 true (.t 2))⟩,
            ⟨some 66, none, .v (.mv (.t 1))⟩,
            ⟨some 67, none, .call true (.c (.fn (.func 15) [] [])) [(.t 65), (.t 66)]⟩,
            ⟨some 64, none, .v (.mv (.t 67))⟩,
            ⟨some 68, none, .v (.ext 0 (.t 64))⟩,
            ⟨some 69, none, .v (.ext 1 (.t 64))⟩,
            ⟨some 9, none, .v (.mv (.t 68))⟩,
            ⟨some 10, none, .v (.mv (.t 69))⟩] [1, 2, 5, 8, 9, 10])
          (.seq
           (.reg 0 [
             ⟨some 71, none, .v (.ld 5 true (.t 8))⟩,
             ⟨some 72, none, .v (.mv (.t 5))⟩,
             ⟨some 73, none, .call true (.c (.fn (.func 15) [] [])) [(.t 71), (.t 72)]⟩,
             ⟨some 70, none, .v (.mv (.t 73))⟩,
             ⟨some 74, none, .v (.ext 0 (.t 70))⟩,
             ⟨some 75, none, .v (.ext 1 (.t 70))⟩,
             ⟨some 11, none, .v (.mv (.t 74))⟩,
             ⟨some 12, none, .v (.mv (.t 75))⟩] [1, 2, 5, 8, 9, 10, 11, 12])
           (.seq
            (.reg 0 [
              ⟨some 77, none, .v (.ld 5 true (.t 2))⟩,
              ⟨some 78, none, .v (.mv (.t 1))⟩,
              ⟨some 79, none, .call true (.c (.fn (.func 11) [] [])) [(.t 77), (.t 78)]⟩,
              ⟨some 76, none, .v (.mv (.t 79))⟩,
              ⟨some 80, none, .v (.ext 0 (.t 76))⟩,
              ⟨some 81, none, .v (.ext 1 (.t 76))⟩,
              ⟨some 13, none, .v (.mv (.t 80))⟩,
              ⟨some 14, none, .v (.mv (.t 81))⟩] [5, 8, 9, 10, 11, 12, 13, 14])
            (.seq
             (.reg 0 [
               ⟨some 83, none, .v (.ld 5 true (.t 8))⟩,
               ⟨some 84, none, .v (.mv (.t 5))⟩,
               ⟨some 85, none, .call true (.c (.fn (.func 11) [] [])) [(.t 83), (.t 84)]⟩,
               ⟨some 82, none, .v (.mv (.t 85))⟩,
               ⟨some 86, none, .v (.ext 0 (.t 82))⟩,
               ⟨some 87, none, .v (.ext 1 (.t 82))⟩,
               ⟨some 15, none, .v (.mv (.t 86))⟩,
               ⟨some 16, none, .v (.mv (.t 87))⟩] [9, 10, 11, 12, 13, 14, 15, 16])
             (.seq
              (.reg 0 [
                ⟨some 88, none, .v (.mv (.t 10))⟩,
                ⟨some 89, none, .v (.icmp .eql .i64 (.t 88) (.c (.int .i64 0)))⟩,
                ⟨some 90, none, .v (.mv (.t 89))⟩,
                ⟨some 91, some (90, true), .v (.mv (.t 12))⟩,
                ⟨some 92, some (90, true), .v (.icmp .eql .i64 (.t 91) (.c (.int .i64 0)))⟩,
                ⟨some 93, none, .pick (.t 90) (.t 92) (.c (.bool false))⟩,
                ⟨some 94, none, .v (.mv (.t 93))⟩,
                ⟨some 95, some (94, true), .v (.mv (.t 9))⟩,
                ⟨some 96, some (94, true), .v (.mv (.t 11))⟩,
                ⟨some 97, some (94, true), .call true (.c (.fn (.func 17) [] [])) [(.t 95), (.t 96)]⟩,
                ⟨some 98, none, .pick (.t 94) (.t 97) (.c (.bool false))⟩,
                ⟨some 99, none, .v (.mv (.t 98))⟩,
                ⟨some 100, some (99, true), .v (.mv (.t 14))⟩,
                ⟨some 101, some (99, true), .v (.icmp .eql .i64 (.t 100) (.c (.int .i64 0)))⟩,
                ⟨some 102, none, .pick (.t 99) (.t 101) (.c (.bool false))⟩,
                ⟨some 103, none, .v (.mv (.t 102))⟩,
                ⟨some 104, some (103, true), .v (.mv (.t 16))⟩,
                ⟨some 105, some (103, true), .v (.icmp .eql .i64 (.t 104) (.c (.int .i64 0)))⟩,
                ⟨some 106, none, .pick (.t 103) (.t 105) (.c (.bool false))⟩,
                ⟨some 107, none, .v (.mv (.t 106))⟩,
                ⟨some 108, some (107, true), .v (.mv (.t 13))⟩,
                ⟨some 109, some (107, true), .v (.b2s (.t 108))⟩,
                ⟨some 110, some (107, true), .v (.mv (.t 15))⟩,
                ⟨some 111, some (107, true), .v (.b2s (.t 110))⟩,
                ⟨some 112, some (107, true), .v (.scmp .eql (.t 109) (.t 111))⟩,
                ⟨some 113, none, .pick (.t 107) (.t 112) (.c (.bool false))⟩,
                ⟨some 4, none, .v (.mv (.t 113))⟩] [4])
              .ret))))))))))))
theorem m8 : Callable Tryd.prog 8 := ⟨Tryd.f8, by kernel_rfl, by kernel_rfl, by kernel_rfl⟩
theorem b8 {args : List AVal} {H : AHeap} {n : Nat} {R : AOut → AHeap → Nat → Prop} (h : awp Tryd.prog d8 (postC [.t 4] R) ⟨penv 0 args, H, n⟩) : ACalls Tryd.prog 8 args H n R :=
  acalls_of_awp' (fn := Tryd.f8) (c := Tryd.f8.body.getD .skip) (ac := d8) (fz := [(11, 1005)]) (im := []) (kp := kq8) (rs := [.t 4]) (by kernel_rfl) (by kernel_rfl) (by kernel_rfl) (by kernel_rfl) (by kernel_rfl) h

end Go.AM
end

/- Booklets: the laws, part 4: PressScale. Conditions: none. -/
section
set_option maxRecDepth 10000
set_option maxHeartbeats 1000000
set_option linter.unusedVariables false
set_option linter.unusedSimpArgs false
namespace Go.AM
open Go.Proofs Go.Lib

/-! the plain law -/
def scB (p : Pap) (b : Blk) : Blk := ⟨b.K, b.N, b.W * p.C, b.H * p.C⟩
def p1 (p : Pap) : Pap := ⟨p.W, p.H, p.M, p.S, 1⟩
theorem blkN_sc (p : Pap) (l : List Blk) (i : Nat) : blkN (l.map (scB p)) i = scB p (blkN l i) := by
  unfold blkN
  rw [List.getElem?_map]
  cases h : l[i]? <;> simp [scB]
theorem kd_sc (p : Pap) (l : List Blk) (i : Nat) : kd (l.map (scB p)) i = kd l i := by
  unfold kd
  rw [List.getElem?_map]
  cases h : l[i]? <;> simp [scB]
theorem ordS_sc (p : Pap) (l : List Blk) : ordS (l.map (scB p)) = ordS l := by
  unfold ordS
  simp only [List.length_map, kd_sc]
theorem layX_sc (p : Pap) (b : Blk) (i : Nat) (s : LSt) : layX (p1 p) (scB p b) i s = layX p b i s := by
  simp only [layX, p1, scB, Int.mul_one]
theorem lay1_sc (p : Pap) (l : List Blk) : lay1 (p1 p) (l.map (scB p)) = lay1 p l := by
  funext s i
  unfold lay1
  rw [blkN_sc, layX_sc]
  simp only [putS, p1, scB, Int.mul_one]
  rfl
theorem dup_sc (p : Pap) (l : List Blk) (b : Blk) : dupB (l.map (scB p)) (scB p b) = dupB l b := by
  unfold dupB
  rw [List.any_map]
  rfl
theorem fits_sc {p : Pap} {b : Blk} (hg : goodS p = true) (h : fitsS p b = true) : fitsS (p1 p) (scB p b) = true := by
  rw [fits_iff] at h ⊢
  rw [good_iff] at hg
  have h1 := mul_bd (a := b.W) (c := p.C) (by omega) (by omega) (by omega) (by omega)
  have h2 := mul_bd (a := b.H) (c := p.C) (by omega) (by omega) (by omega) (by omega)
  simp only [scB, p1, Int.mul_one]
  omega
theorem check_sc {p : Pap} {l : List Blk} (h : checkS p l = 0) : checkS (p1 p) (l.map (scB p)) = 0 := by
  obtain ⟨hl, hg, hf⟩ := check_ok h
  refine check_good (by simpa using hl) ?_ fun i hi => ?_
  · rw [good_iff] at hg ⊢
    simp only [p1]; omega
  · have hi' : i < l.length := by simpa using hi
    have hk : okB p l i = true := by
      unfold checkS at h
      rw [if_neg (by omega), if_neg (by simp [hg])] at h
      split at h
      · rename_i ha
        exact List.all_eq_true.1 ha i (by simpa using hi')
      · cases h
    unfold okB at hk ⊢
    rw [List.getElem?_map, List.getElem?_eq_getElem hi'] at *
    simp only [Option.map_some, Bool.and_eq_true, ← List.map_take, dup_sc] at hk ⊢
    exact ⟨fits_sc hg hk.1, hk.2⟩
theorem lay_sc {p : Pap} {l : List Blk} (h : checkS p l = 0) : layS (p1 p) (l.map (scB p)) = layS p l := by
  unfold layS
  rw [if_pos h, if_pos (check_sc h), ordS_sc, lay1_sc]
theorem print_sc {p : Pap} {l : List Blk} (h : checkS p l = 0) : printS (p1 p) (l.map (scB p)) = printS p l := by
  unfold printS
  rw [if_pos h, if_pos (check_sc h), lay_sc h]
  have e : lineS (p1 p) (l.map (scB p)) = lineS p l := by
    funext x
    unfold lineS numsS
    rw [blkN_sc]
    simp only [p1, scB, Int.mul_one]
  rw [e]
  rfl

/-! the function -/
def lrg (p : Pap) (l : List Blk) (i : Nat) : List AVal := (List.range l.length).map fun k => if k < i then encB (scB p (blkN l k)) else .agg [.int .i64 0, .int .i64 0, .int .i64 0, .int .i64 0]
theorem lrg_len (p : Pap) (l : List Blk) (i : Nat) : (lrg p l i).length = l.length := by simp [lrg]
theorem lrg_0 (p : Pap) (l : List Blk) : List.replicate l.length (.agg [.int .i64 0, .int .i64 0, .int .i64 0, .int .i64 0]) = lrg p l 0 := by
  refine List.ext_getElem (by simp [lrg]) fun k h1 h2 => ?_
  simp [lrg]
theorem lrg_set (p : Pap) (l : List Blk) (i : Nat) (x : AVal) (hx : x = encB (scB p (blkN l i))) : (lrg p l i).set i x = lrg p l (i + 1) := by
  refine List.ext_getElem (by simp [lrg]) fun k h1 h2 => ?_
  rw [List.getElem_set]
  simp only [lrg, List.getElem_map, List.getElem_range]
  by_cases e : i = k
  · subst e; rw [if_pos rfl, if_pos (by omega), hx]
  · rw [if_neg e]
    by_cases q : k < i
    · rw [if_pos q, if_pos (by omega)]
    · rw [if_neg q, if_neg (by omega)]
theorem lrg_all (p : Pap) (l : List Blk) : lrg p l l.length = (l.map (scB p)).map encB := by
  refine List.ext_getElem (by simp [lrg]) fun k h1 h2 => ?_
  have hk : k < l.length := by simpa [lrg] using h1
  simp [lrg, hk, blkN]
structure V8 where
  i : Nat
  H : AHeap
  n : Nat
theorem p8 (p : Pap) (l : List Blk) : Pur Tryd.prog 8 [encP p, .sl (.none 4) (l.map encB)] (.bool true) := by
  refine .mk ⟨by simp [unders, AVal.under], ⟨trivial, encB_under 0 l⟩, trivial⟩ trivial (b8 (ev_awp T20_ok (ev_evK ?_)))
  by_cases hc : checkS p l = 0
  case neg =>
    simp only [kont_nil, kont_n, kont_r, k_skip, k_ret, k_seq, k_block, k_cond, k_reg, r_nil, r_v, r_vg, r_pick, r_box, r_call, r_mks, mksE, callT, penv, postC, rcs, rc1, rvS, gok, gvb, eget, lk, lkv, oks, AS.put, AS.keep, evk, Opk.opds, aload, isI, isInt, toI, isB, toB, sel, mk, icmp, nT, hget_hset, hget_nil, AVal.cells, Tok.esz, List.length_cons, List.length_nil, List.filterMap, List.map_cons, List.map_nil, List.append_nil, List.nil_append, Option.map_some, reduceCtorEq, and_true, true_and, forall_const, Nat.reduceEqDiff, ↓reduceIte, Bool.false_eq_true, Nat.reduceAdd, List.drop, List.take, List.take_succ_cons, Nat.le_refl, List.headD_cons, Bool.true_and, false_implies, implies_true, Nat.zero_add, Bool.cond_true_left, imp_self, beq_false, Bool.not_eq_true', Bool.not_eq_false', Bool.or_eq_true, Bool.or_eq_false_iff, decide_eq_true_eq, decide_eq_false_iff_not, and_self, true_or, ret_eq, Nat.add_zero, wk_bool, decide_false, d8, T20_10, T20_13, s10, s13, List.length_map, pap_eta, encd_map, decB_map, hc, false_and]
  obtain ⟨hl, hg, hfit⟩ := check_ok hc
  have hg' := hg
  rw [good_iff] at hg'
  have c1 : (p.C < 1) = False := eq_false (by omega)
  have c2 : (16 < p.C) = False := eq_false (by omega)
  simp only [kont_nil, kont_n, kont_r, k_skip, k_ret, k_seq, k_block, k_cond, k_reg, r_nil, r_v, r_vg, r_pick, r_box, r_call, r_mks, mksE, callT, penv, postC, rcs, rc1, rvS, gok, gvb, eget, lk, lkv, oks, AS.put, AS.keep, evk, Opk.opds, aload, isI, isInt, toI, isB, toB, sel, mk, icmp, nT, hget_hset, hget_nil, AVal.cells, Tok.esz, List.length_cons, List.length_nil, List.filterMap, List.map_cons, List.map_nil, List.append_nil, List.nil_append, Option.map_some, reduceCtorEq, and_true, true_and, forall_const, Nat.reduceEqDiff, ↓reduceIte, Bool.false_eq_true, Nat.reduceAdd, List.drop, List.take, List.take_succ_cons, Nat.le_refl, List.headD_cons, Bool.true_and, Bool.and_true, implies_true, Nat.zero_add, Bool.cond_false_right, imp_self, beq_false, Bool.not_eq_true', Bool.not_eq_false', and_self, true_or, ret_eq, Nat.add_zero, wk_bool, decide_true, decide_false, d8, T20_10, T20_13, s10, s13, List.length_map, pap_eta, encd_map, decB_map, hc, c1, c2, Int.toNat_natCast, small, lrg_0 p l]
  refine ⟨by omega, ?_⟩
  refine k_loop (fun v : V8 => ⟨[(1, true, .sl (.none 4) (l.map encB)), (2, true, .ptr 0 0), (5, true, .ref 4 4 0 l.length l.length), (36, true, .sl (.none 4) (l.map encB)), (37, true, .int .i64 l.length), (38, true, .int .i64 v.i)], v.H, v.n⟩)
    (fun v => v.i ≤ l.length ∧ hget v.H 0 = some (boxP p) ∧ hget v.H 4 = some (.arr 4 (lrg p l v.i)) ∧ Fresh v.H v.n ∧ 5 ≤ v.n) (fun v => l.length - v.i) ⟨0, _, _⟩ rfl ⟨Nat.zero_le _, rfl, rfl, ?_, by simp⟩ ?_
  · intro m hm
    simp only [] at hm
    show hget (hset (hset hnil 0 _) 4 _) m = none
    simp only [hget_hset, hget_nil]
    repeat rw [if_neg (by omega)]
  rintro ⟨i, H, n⟩ ⟨hi, g0, g4, fr, n5⟩
  simp only at hi g0 g4 fr n5
  have fr' : ∀ id, n ≤ id → hget H id = none := fr
  by_cases hlt : i < l.length
  · have e := w64_succ (k := i) (by omega)
    have hf := hfit i hlt
    have k1 : (n = 1) = False := eq_false (by omega)
    rw [fits_iff] at hf
    simp only [kont_nil, kont_n, kont_e, kont_bn, kont_be, k_skip, k_exit, k_ret, k_seq, k_block, k_cond, k_reg, k_frz, r_nil, r_v, r_vg, r_pick, r_alloc, r_st, r_call, r_callg, stE, frzE, callT, lpQ_n, lpQ_e, postC, rcs, rc1, rvS, gok, gvb, eget, lk, lkv, oks, AS.put, AS.keep, evk, evB_eq, allB, fillB, splice, Opk.opds, aload, isI, isInt, toI, isB, toB, isS, toS, sel, mk, icmp, iarith, nT, hget_hset, AVal.cells, Tok.esz, List.length_cons, List.length_nil, List.filterMap, List.map_cons, List.map_nil, List.append_nil, List.nil_append, List.cons_append, Option.map_some, reduceCtorEq, and_true, true_and, forall_const, Nat.reduceEqDiff, ↓reduceIte, Bool.false_eq_true, Nat.reduceAdd, List.drop, List.take, List.drop_succ_cons, List.take_succ_cons, Nat.reduceLeDiff, Int.reduceEq, Nat.le_refl, List.headD_cons, Bool.true_and, isDiv, false_implies, implies_true, Nat.zero_add, Bool.cond_false_right, imp_self, beq_true, Bool.and_eq_true, decide_eq_true_eq, decide_eq_false_iff_not, ne_eq, not_false_eq_true, impA1, and_self, ret_eq, Nat.add_zero, Nat.le_add_right, wk_bool, decide_true, Int.ofNat_lt, hlt, List.getElem?_eq_getElem hlt, List.getElem?_map, Int.toNat_natCast, Option.getD_some, Int.natCast_nonneg, e, g0, g4, fr', lrg_len, List.length_map, k1]
    refine .mk ⟨i + 1, _, _⟩ rfl ⟨hlt, ?_, ?_, ?_, ?_⟩ (by simp only []; omega)
    · show hget (hset (hset (hset H (n + 3) _) (n + 3) _) 4 _) 0 = _
      simp (disch := omega) only [hget_hset_ne]; exact g0
    · show hget (hset (hset (hset H (n + 3) _) (n + 3) _) 4 _) 4 = _
      rw [hget_hset_eq, lrg_set]
      rw [blkN_get hlt]
      have h1 := mul_bd (a := l[i].W) (c := p.C) (by omega) (by omega) (by omega) (by omega)
      have h2 := mul_bd (a := l[i].H) (c := p.C) (by omega) (by omega) (by omega) (by omega)
      rw [w64_in (by omega) (by omega), w64_in (by omega) (by omega)]
      rfl
    · intro m hm
      simp only [] at hm
      show hget (hset (hset (hset H (n + 3) _) (n + 3) _) 4 _) m = _
      simp (disch := omega) only [hget_hset_ne]
      exact fr m (by omega)
    · simp only []; omega
  have hi' : i = l.length := by omega
  subst hi'
  have k3 : (n = 3) = False := eq_false (by omega)
  have k0 : (n = 0) = False := eq_false (by omega)
  have e2 : layS ⟨p.W, p.H, p.M, p.S, 1⟩ (l.map (scB p)) = layS p l := lay_sc hc
  have e4 : printS ⟨p.W, p.H, p.M, p.S, 1⟩ (l.map (scB p)) = printS p l := print_sc hc
  have hs : sameS (layS p l).1 (layS p l).1 = true := sameS_iff.2 rfl
  have hl2 : (layS p l).2 = 0 := by unfold layS; rw [if_pos hc]
  have hp2 : (printS p l).2 = 0 := by unfold printS; rw [if_pos hc]
  have hlen : (layS p l).1.length ≤ 1000000 := by rw [layS_len hc]; omega
  simp only [kont_nil, kont_n, kont_e, kont_bn, kont_be, k_skip, k_exit, k_ret, k_seq, k_block, k_cond, k_reg, k_frz, r_nil, r_v, r_vg, r_pick, r_alloc, r_st, r_call, r_callg, stE, frzE, callT, lpQ_n, lpQ_e, postC, rcs, rc1, rvS, gok, gvb, eget, lk, lkv, oks, AS.put, AS.keep, evk, evB_eq, allB, fillB, splice, Opk.opds, aload, isI, isInt, toI, isB, toB, isS, toS, sel, mk, icmp, iarith, nT, hget_hset, AVal.cells, Tok.esz, List.length_cons, List.length_nil, List.filterMap, List.map_cons, List.map_nil, List.append_nil, List.nil_append, List.cons_append, Option.map_some, reduceCtorEq, and_true, true_and, forall_const, Nat.reduceEqDiff, ↓reduceIte, Bool.false_eq_true, Nat.reduceAdd, List.drop, List.take, List.drop_succ_cons, Nat.reduceLeDiff, Nat.reduceLT, Int.reduceEq, Nat.le_refl, List.headD_cons, Bool.and_true, beq_self_eq_true, isDiv, false_implies, implies_true, Nat.zero_add, ne_eq, not_false_eq_true, and_self, or_true, true_or, ret_eq, Nat.add_zero, Nat.le_add_right, wk_bool, decide_true, decide_false, cond_true, Int.ofNat_lt, hlt, g0, g4, fr', k3, List.take_of_length_le, lrg_all, T20_11, T20_15, T20_17, s11, s15, s17, List.length_map, encd_map, decB_map, encdX_map, decX_map, pap_eta, e2, e4, hs, hl2, hp2, hlen, List.getElem?_cons_zero, List.getElem?_cons_succ, Option.getD_some, scmp]
  exact ⟨_, rfl⟩

end Go.AM
end
