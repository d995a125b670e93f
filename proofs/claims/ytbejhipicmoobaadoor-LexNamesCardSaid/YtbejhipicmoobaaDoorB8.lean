/-
  Tokens: texts of tokens are lexed as these tokens · Tokens: the laws on names and on errors · Tokens: the law on two sources · Tokens: the law on white space · Tokens: the law on places · Tokens: the law on places, as the code computes it · Tokens: from the rows to the abstract machine.
  Conditions: none beyond those of its parts.
-/
import Derived.Test.YtbejhipicmoobaaDoorB7
import Derived.Test.YtbejhipicmoobaaDoorRows
import Derived.LaidLaws

/- Tokens: texts of tokens are lexed as these tokens. Conditions: none. -/
section
set_option maxRecDepth 10000
set_option linter.unusedSimpArgs false
set_option linter.unusedVariables false
set_option linter.unusedVariables false
set_option linter.unusedSimpArgs false
namespace Go.AM
open Go.Proofs Go.Lib

def bare (t : Tkn) : Int × List UInt8 × Int := (t.K, t.T, t.N)
theorem eqK_bare {x y : Tkn} : eqK x y = true ↔ bare x = bare y := by
  simp [eqK, bare, and_assoc]
theorem sameT_bare {a b : List Tkn} : sameT a b = true ↔ a.map bare = b.map bare := by
  constructor
  · intro h
    simp only [sameT, Bool.and_eq_true, decide_eq_true_eq] at h
    obtain ⟨hl, h2⟩ := h
    apply List.ext_getElem (by simpa using hl)
    intro j h1 h3
    simp only [List.getElem_map]
    have := List.all_eq_true.1 h2 (a[j]'(by simpa using h1), b[j]'(by simpa using h3)) (List.mem_iff_getElem.2 ⟨j, by simp at h1 h3 ⊢; omega, by simp⟩)
    exact eqK_bare.1 this
  · intro h
    have hl : a.length = b.length := by simpa using congrArg List.length h
    refine sameT_good hl fun j h1 h2 => eqK_bare.2 ?_
    have : (a.map bare)[j]? = (b.map bare)[j]? := by rw [h]
    rw [List.getElem?_map, List.getElem?_map, List.getElem?_eq_getElem h1, List.getElem?_eq_getElem h2] at this
    simpa using this
/-- Words, each behind a space. -/
theorem lx_tail : ∀ (l : List Tkn) (a : Nat), l.all validS = true → ∃ us, lx (joinTail [32] (l.map wordS)) a = .ok (a + (joinTail [32] (l.map wordS)).length) us ∧ us.map bare = l.map bare
  | [], a, _ => ⟨[], by simp [joinTail, lx_nil], rfl⟩
  | t :: r, a, h => by
    rw [List.all_cons, Bool.and_eq_true] at h
    have e : joinTail [32] ((t :: r).map wordS) = 32 :: (wordS t ++ joinTail [32] (r.map wordS)) := by simp [joinTail]
    have hm : joinTail [32] (r.map wordS) = [] ∨ ∃ c q, joinTail [32] (r.map wordS) = c :: q ∧ spB c = true := by
      cases r with
      | nil => left; rfl
      | cons t' r' => right; exact ⟨32, wordS t' ++ joinTail [32] (r'.map wordS), by simp [joinTail], by decide⟩
    obtain ⟨h1, h2⟩ := word_st1 h.1 hm
    obtain ⟨us, h3, h4⟩ := lx_tail r (a + 1 + (wordS t).length) h.2
    rw [e, lx_sp (by decide), lx_some h1, List.drop_left, h3]
    refine ⟨⟨t.K, t.T, t.N, ((a + 1 : Nat) : Int)⟩ :: us, ?_, ?_⟩
    · simp only [consR, List.length_cons, List.length_append]
      rw [show a + 1 + (wordS t).length + (joinTail [32] (r.map wordS)).length = a + ((wordS t).length + (joinTail [32] (r.map wordS)).length + 1) by omega]
    · rw [List.map_cons, List.map_cons, h4]; rfl
theorem lx_words (l : List Tkn) (h : l.all validS = true) : ∃ n us, lx (join (l.map wordS) [32]) 0 = .ok n us ∧ us.map bare = l.map bare := by
  cases l with
  | nil => exact ⟨0, [], by rw [List.map_nil, join_nil, lx_nil], rfl⟩
  | cons t r =>
    rw [List.all_cons, Bool.and_eq_true] at h
    have hm : joinTail [32] (r.map wordS) = [] ∨ ∃ c q, joinTail [32] (r.map wordS) = c :: q ∧ spB c = true := by
      cases r with
      | nil => left; rfl
      | cons t' r' => right; exact ⟨32, wordS t' ++ joinTail [32] (r'.map wordS), by simp [joinTail], by decide⟩
    obtain ⟨h1, h2⟩ := word_st1 h.1 hm
    obtain ⟨us, h3, h4⟩ := lx_tail r (0 + (wordS t).length) h.2
    rw [List.map_cons, join_cons, lx_some h1, List.drop_left, h3]
    exact ⟨_, _, rfl, by rw [List.map_cons, List.map_cons, h4]; rfl⟩
theorem tail_sum : ∀ (ws : List (List UInt8)), (joinTail [32] ws).length = (ws.map (·.length)).sum + ws.length
  | [] => rfl
  | w :: r => by
    have := tail_sum r
    simp only [joinTail, List.map_cons, List.flatten_cons, List.length_append, List.length_cons, List.length_nil, List.sum_cons] at this ⊢
    omega
theorem join_sum (ws : List (List UInt8)) : (join ws [32]).length ≤ (ws.map (·.length)).sum + ws.length := by
  cases ws with
  | nil => simp [join_nil]
  | cons w r =>
    rw [join_cons, List.length_append, tail_sum, List.map_cons, List.sum_cons, List.length_cons]; omega
theorem lexV_lx {src : List UInt8} {n : Nat} {ts : List Tkn} (hl : src.length ≤ 65536) (h : lx src 0 = .ok n ts) : lexV src = .tup [.sl (.none 4) (ts.map encK), .int .i64 0, .int .i64 0] :=
  lexV_ok' (by omega) (by rw [lexR_lx]; exact h)
theorem lexV_lxe {src : List UInt8} {e : Nat} (hl : src.length ≤ 65536) (h : lx src 0 = .err e) : lexV src = .tup [.sl (.none 4) [], .int .i64 e, .int .i64 100] :=
  lexV_err' (by omega) (by rw [lexR_lx]; exact h)
theorem textV_cases (l : List Tkn) : (l.all validS = true ∧ textV l = .tup [.str (join (l.map wordS) [32]), .int .i64 0]) ∨ (l.all validS = false ∧ textV l = .tup [.str [], .int .i64 100]) := by
  cases h : l.all validS with
  | true => exact .inl ⟨rfl, by rw [textV, if_pos h]⟩
  | false => exact .inr ⟨rfl, by rw [textV, if_neg (by rw [h]; decide)]⟩
/-- Lex of what Text returns. -/
theorem back1 {l : List Tkn} (h : l.all validS = true) (hl : (join (l.map wordS) [32]).length ≤ 65536) : ∃ us, lexV (join (l.map wordS) [32]) = .tup [.sl (.none 4) (us.map encK), .int .i64 0, .int .i64 0] ∧ sameT l us = true ∧ us.length = l.length := by
  obtain ⟨n, us, h1, h2⟩ := lx_words l h
  exact ⟨us, lexV_lx hl h1, sameT_bare.2 h2.symm, by simpa using congrArg List.length h2⟩
theorem back1_few {l : List Tkn} (h : l.all validS = true) (hl : l.length ≤ 200) : (join (l.map wordS) [32]).length ≤ 65536 := by
  have := join_len (B := 32) (l.map wordS) (fun w hw => by
    obtain ⟨t, ht, rfl⟩ := List.mem_map.1 hw
    exact word_len (List.all_eq_true.1 h t ht))
  rw [List.length_map] at this
  have : l.length * (32 + 1) ≤ 200 * (32 + 1) := Nat.mul_le_mul_right _ hl
  omega
theorem lx_total (l : List UInt8) (a : Nat) : (∃ n ts, lx l a = .ok n ts) ∨ ∃ e, lx l a = .err e := by
  cases lx l a with
  | ok n ts => exact .inl ⟨n, ts, rfl⟩
  | err e => exact .inr ⟨e, rfl⟩
theorem p5 (l : List Tkn) (src : List UInt8) (hl : l.length ≤ 9223372036854775807) : Pur Tryd.prog 5 [.sl (.none 4) (l.map encK), .str src] (.bool true) := by
  refine .mk ⟨⟨trivial, encK_under 0 l⟩, trivial, trivial⟩ trivial (a5 (ev_awp TL_ok (ev_evK ?_)))
  by_cases hfa : fewS l = true
  case neg =>
    have hfa' : fewS l = false := by simpa using hfa
    simp only [kont_nil, kont_n, kont_r, k_skip, k_ret, k_seq, k_cond, k_reg, r_nil, r_v, r_vg, r_pick, r_call, r_callg, callT, penv, postC, rcs, rc1, rvS, gok, gvb, eget, lk, lkv, oks, AS.put, AS.keep, evk, Opk.opds, isI, toI, isB, toB, isS, toS, sel, icmp, Tok.esz, List.filterMap, List.map_cons, List.map_nil, List.append_nil, List.nil_append, Option.map_some, reduceCtorEq, and_true, true_and, forall_const, Nat.reduceEqDiff, ↓reduceIte, Bool.false_eq_true, Bool.true_and, false_implies, implies_true, Nat.zero_add, Bool.cond_true_left, Bool.cond_false_right, imp_self, beq_true, beq_false, Bool.not_eq_true', Bool.not_eq_false', Bool.or_eq_true, Bool.or_eq_false_iff, Bool.and_eq_true, decide_eq_true_eq, decide_eq_false_iff_not, impA1, and_self, true_or, ret_eq, Nat.add_zero, wk_bool, c5, TL_11, s11, TL_15, s1K, encdK_map, decK_map, hl, hfa', false_and, and_false]
  by_cases h7 : 3000 < src.length
  · have c1 : ((3000 : Int) < src.length) = True := eq_true (by omega)
    simp only [kont_nil, kont_n, kont_r, k_skip, k_ret, k_seq, k_cond, k_reg, r_nil, r_v, r_vg, r_pick, r_call, r_callg, callT, penv, postC, rcs, rc1, rvS, gok, gvb, eget, lk, lkv, oks, AS.put, AS.keep, evk, Opk.opds, isI, toI, isB, toB, isS, toS, sel, icmp, Tok.esz, List.filterMap, List.map_cons, List.map_nil, List.append_nil, List.nil_append, Option.map_some, reduceCtorEq, and_true, true_and, forall_const, Nat.reduceEqDiff, ↓reduceIte, Bool.false_eq_true, Bool.true_and, false_implies, implies_true, Nat.zero_add, Bool.cond_true_left, Bool.cond_false_right, imp_self, beq_true, beq_false, Bool.not_eq_true', Bool.not_eq_false', Bool.or_eq_true, Bool.or_eq_false_iff, Bool.and_eq_true, decide_eq_true_eq, decide_eq_false_iff_not, impA1, and_self, true_or, ret_eq, Nat.add_zero, wk_bool, decide_true, Bool.or_true, c5, TL_11, s11, TL_15, s1K, encdK_map, decK_map, hl, hfa, c1, and_false]
  have c1 : ((3000 : Int) < src.length) = False := eq_false (by omega)
  have la := few_len hfa
  have oa : okT l = True := eq_true (by unfold okT; omega)
  have hs9 : (src.length < 1000000000) = True := eq_true (by omega)
  have l1 : (l.length < 1000000000) = True := eq_true (by omega)
  -- the second half: what the source's tokens give
  have second : (∃ e, lexV src = .tup [.sl (.none 4) [], .int .i64 e, .int .i64 100]) ∨ ∃ ts us w, lexV src = .tup [.sl (.none 4) (ts.map encK), .int .i64 0, .int .i64 0] ∧ textV ts = .tup [.str w, .int .i64 0] ∧ lexV w = .tup [.sl (.none 4) (us.map encK), .int .i64 0, .int .i64 0] ∧ sameT ts us = true ∧
      okT ts = True ∧ (w.length < 1000000000) = True ∧ (ts.length < 1000000000) = True ∧ (us.length < 1000000000) = True := by
    rcases lx_total src 0 with ⟨n, ts, h⟩ | ⟨e, h⟩
    · right
      obtain ⟨-, hv, hsum, hlen⟩ := lx_ok _ _ _ _ _ rfl h
      have hj := join_sum (ts.map wordS)
      rw [List.map_map, List.length_map] at hj
      have hj' : (join (ts.map wordS) [32]).length ≤ 65536 := by
        have : (ts.map ((fun x => x.length) ∘ wordS)).sum = (ts.map fun t => (wordS t).length).sum := rfl
        omega
      obtain ⟨us, h1, h2, h3⟩ := back1 hv hj'
      refine ⟨ts, us, _, lexV_lx (by omega) h, ?_, h1, h2, eq_true (by unfold okT; omega), eq_true (by omega), eq_true (by omega), eq_true (by omega)⟩
      rw [textV, if_pos hv]
    · left; exact ⟨e, lexV_lxe (by omega) h⟩
  rcases textV_cases l with ⟨hv, ht⟩ | ⟨hv, ht⟩
  · have hjl := back1_few hv la
    obtain ⟨us, b1, b2, b3⟩ := back1 hv hjl
    have l2 : ((join (l.map wordS) [32]).length < 1000000000) = True := eq_true (by omega)
    have l3 : (us.length < 1000000000) = True := eq_true (by omega)
    rcases second with ⟨e, hs⟩ | ⟨ts, vs, w, hs, hs2, hs3, hs4, hs5, hs6, hs7, hs8⟩
    · simp only [kont_nil, kont_n, kont_r, k_skip, k_ret, k_seq, k_cond, k_reg, r_nil, r_v, r_vg, r_pick, r_call, r_callg, callT, penv, postC, rcs, rc1, rvS, gok, gvb, eget, lk, lkv, oks, AS.put, AS.keep, evk, Opk.opds, isI, toI, isB, toB, isS, toS, sel, icmp, Tok.esz, List.length_cons, List.length_nil, List.filterMap, List.map_cons, List.map_nil, List.append_nil, List.nil_append, Option.map_some, reduceCtorEq, and_true, true_and, forall_const, Nat.reduceEqDiff, ↓reduceIte, Bool.false_eq_true, Nat.reduceAdd, Nat.reduceLT, Int.reduceEq, Bool.true_and, Bool.and_true, false_implies, implies_true, Nat.zero_add, Bool.cond_true_left, Bool.cond_false_right, imp_self, beq_true, beq_false, Bool.not_eq_true', Bool.not_eq_false', Bool.or_eq_true, Bool.or_eq_false_iff, Bool.and_eq_true, decide_eq_true_eq, decide_eq_false_iff_not, impA1, and_self, or_true, true_or, or_false, ret_eq, Nat.add_zero, wk_bool, decide_true, decide_false, c5, TL_11, s11, TL_15, s1K, encdK_map, List.length_map, decK_map, hl, hfa, c1, TL_16, oa, ht, List.getElem?_cons_zero, List.getElem?_cons_succ, Option.getD_some, TL_12, s12, hs9, hs, b1, l2, TL_18, s2K, l1, l3, b2]
      rfl
    · simp only [kont_nil, kont_n, kont_r, k_skip, k_ret, k_seq, k_cond, k_reg, r_nil, r_v, r_vg, r_pick, r_call, r_callg, callT, penv, postC, rcs, rc1, rvS, gok, gvb, eget, lk, lkv, oks, AS.put, AS.keep, evk, Opk.opds, isI, toI, isB, toB, isS, toS, sel, icmp, Tok.esz, List.length_cons, List.length_nil, List.filterMap, List.map_cons, List.map_nil, List.append_nil, List.nil_append, Option.map_some, reduceCtorEq, true_and, forall_const, Nat.reduceEqDiff, ↓reduceIte, Bool.false_eq_true, Nat.reduceAdd, Nat.reduceLT, Bool.true_and, Bool.and_true, beq_self_eq_true, false_implies, implies_true, Nat.zero_add, Bool.cond_true_left, Bool.cond_false_right, imp_self, beq_false, Bool.not_eq_true', Bool.not_eq_false', Bool.or_eq_true, Bool.or_eq_false_iff, decide_eq_true_eq, and_self, true_or, or_false, ret_eq, Nat.add_zero, wk_bool, decide_true, decide_false, cond_true, c5, TL_11, s11, TL_15, s1K, encdK_map, List.length_map, decK_map, hl, hfa, c1, TL_16, oa, ht, List.getElem?_cons_zero, List.getElem?_cons_succ, Option.getD_some, TL_12, s12, hs9, hs, b1, l2, TL_18, s2K, l1, l3, b2, hs2, hs3, hs4, hs5, hs6, hs7, hs8]
  · rcases second with ⟨e, hs⟩ | ⟨ts, vs, w, hs, hs2, hs3, hs4, hs5, hs6, hs7, hs8⟩
    · simp only [kont_nil, kont_n, kont_r, k_skip, k_ret, k_seq, k_cond, k_reg, r_nil, r_v, r_vg, r_pick, r_call, r_callg, callT, penv, postC, rcs, rc1, rvS, gok, gvb, eget, lk, lkv, oks, AS.put, AS.keep, evk, Opk.opds, isI, toI, isB, toB, isS, toS, sel, icmp, Tok.esz, List.length_cons, List.length_nil, List.filterMap, List.map_cons, List.map_nil, List.append_nil, List.nil_append, Option.map_some, reduceCtorEq, and_true, true_and, forall_const, Nat.reduceEqDiff, ↓reduceIte, Bool.false_eq_true, Nat.reduceAdd, Nat.reduceLT, Int.reduceEq, Bool.true_and, Bool.and_true, false_implies, implies_true, Nat.zero_add, Bool.cond_true_left, Bool.cond_false_right, imp_self, beq_true, beq_false, Bool.not_eq_true', Bool.not_eq_false', Bool.or_eq_true, Bool.or_eq_false_iff, Bool.and_eq_true, decide_eq_true_eq, decide_eq_false_iff_not, impA1, and_self, or_true, true_or, ret_eq, Nat.add_zero, wk_bool, decide_false, c5, TL_11, s11, TL_15, s1K, encdK_map, decK_map, hl, hfa, c1, TL_16, oa, ht, List.getElem?_cons_zero, List.getElem?_cons_succ, Option.getD_some, TL_12, s12, hs9, hs, TL_18]
      rfl
    · simp only [kont_nil, kont_n, kont_r, k_skip, k_ret, k_seq, k_cond, k_reg, r_nil, r_v, r_vg, r_pick, r_call, r_callg, callT, penv, postC, rcs, rc1, rvS, gok, gvb, eget, lk, lkv, oks, AS.put, AS.keep, evk, Opk.opds, isI, toI, isB, toB, isS, toS, sel, icmp, Tok.esz, List.length_cons, List.length_nil, List.filterMap, List.map_cons, List.map_nil, List.append_nil, List.nil_append, Option.map_some, reduceCtorEq, and_true, true_and, forall_const, Nat.reduceEqDiff, ↓reduceIte, Bool.false_eq_true, Nat.reduceAdd, Nat.reduceLT, Int.reduceEq, Bool.true_and, Bool.and_true, beq_self_eq_true, false_implies, implies_true, Nat.zero_add, Bool.cond_true_left, Bool.cond_false_right, imp_self, beq_false, Bool.not_eq_true', Bool.not_eq_false', Bool.or_eq_true, Bool.or_eq_false_iff, decide_eq_true_eq, decide_eq_false_iff_not, impA1, and_self, true_or, ret_eq, Nat.add_zero, wk_bool, decide_true, decide_false, cond_true, c5, TL_11, s11, TL_15, s1K, encdK_map, List.length_map, decK_map, hl, hfa, c1, TL_16, oa, ht, List.getElem?_cons_zero, List.getElem?_cons_succ, Option.getD_some, TL_12, s12, hs9, hs, TL_18, s2K, hs2, hs3, hs4, hs5, hs6, hs7, hs8]
end Go.AM
end

/- Tokens: the laws on names and on errors. Conditions: none. -/
section
set_option maxRecDepth 10000
set_option linter.unusedSimpArgs false
set_option linter.unusedVariables false
set_option linter.unusedVariables false
set_option linter.unusedSimpArgs false
namespace Go.AM
open Go.Proofs Go.Lib

theorem lx_name {s : List UInt8} (h : nameS s = true) : lx s 0 = .ok s.length [⟨1, s, 0, 0⟩] := by
  have hv : validS ⟨1, s, 0, 0⟩ = true := by simp [validS, h]
  obtain ⟨h1, h2⟩ := word_st1 hv (m := []) (.inl rfl)
  have hw : wordS ⟨1, s, 0, 0⟩ = s := rfl
  rw [hw, List.append_nil] at h1
  rw [lx_some h1, List.drop_length, lx_nil, Nat.zero_add]; rfl
theorem okT_one (t : Tkn) : okT [t] = True := eq_true (by unfold okT; simp)
theorem p10 (s : List UInt8) : Pur Tryd.prog 10 [.str s] (.bool true) := by
  refine .mk ⟨trivial, trivial⟩ trivial (a10 (ev_awp TL_ok (ev_evK ?_)))
  by_cases h7 : 1000 < s.length
  · have c1 : ((1000 : Int) < s.length) = True := eq_true (by omega)
    simp only [kont_nil, kont_n, kont_r, k_skip, k_ret, k_seq, k_cond, k_reg, r_nil, r_v, r_vg, r_pick, r_call, callT, penv, postC, rcs, rc1, rvS, gok, gvb, eget, lk, lkv, oks, AS.put, AS.keep, evk, evB_eq, allB, fillB, evS_eq, allS, fillS, splice, Opk.opds, aload, isI, isInt, toI, isB, toB, isS, toS, sel, mk, icmp, nT, hget_nil, AVal.cells, Tok.esz, List.length_cons, List.length_nil, List.filterMap, List.map_cons, List.map_nil, List.append_nil, List.nil_append, List.cons_append, Option.map_some, reduceCtorEq, and_true, true_and, forall_const, Nat.reduceEqDiff, ↓reduceIte, Bool.false_eq_true, Nat.reduceAdd, List.drop, List.take, List.drop_succ_cons, List.take_succ_cons, Nat.reduceLeDiff, Nat.reduceMul, Nat.reduceLT, Int.reduceLE, Int.reduceToNat, List.set_cons_zero, List.replicate_succ, List.replicate_zero, Bool.true_and, false_implies, implies_true, Nat.zero_add, Bool.cond_false_right, imp_self, beq_true, Bool.not_eq_true', Bool.not_eq_false', Bool.and_eq_true, decide_eq_true_eq, decide_eq_false_iff_not, impA1, and_self, ret_eq, Nat.add_zero, wk_bool, decide_true, c10, TL_11, s11, c1]
  have c1 : ((1000 : Int) < s.length) = False := eq_false (by omega)
  have hs9 : (s.length < 1000000000) = True := eq_true (by omega)
  have hx : encdK [.agg [.int .i64 1, .str s, .int .i64 0, .int .i64 0]] = True := eq_true rfl
  by_cases hn : nameS s = true
  · have hs := lexV_lx (by omega) (lx_name hn)
    have ht : textV [⟨1, s, 0, 0⟩] = .tup [.str s, .int .i64 0] := by
      rw [textV, if_pos (by simp [validS, hn])]
      simp only [List.map_cons, List.map_nil, join_one]; rfl
    simp only [kont_nil, kont_n, kont_r, k_skip, k_ret, k_seq, k_cond, k_reg, r_nil, r_v, r_vg, r_pick, r_call, callT, penv, postC, rcs, rc1, rvS, gok, gvb, eget, lk, lkv, oks, AS.put, AS.keep, evk, evB_eq, allB, fillB, evS_eq, allS, fillS, splice, Opk.opds, aload, isI, isInt, toI, isB, toB, isS, toS, sel, mk, icmp, nT, AVal.cells, Tok.esz, List.length_cons, List.length_nil, List.filterMap, List.map_cons, List.map_nil, List.append_nil, List.nil_append, List.cons_append, Option.map_some, reduceCtorEq, and_true, true_and, forall_const, Nat.reduceEqDiff, ↓reduceIte, Bool.false_eq_true, Nat.reduceAdd, List.drop, List.take, List.drop_succ_cons, List.take_succ_cons, Nat.reduceLeDiff, Nat.reduceMul, Nat.reduceLT, Int.reduceLE, Int.reduceToNat, List.set_cons_zero, List.replicate_succ, List.replicate_zero, Nat.le_refl, List.headD_cons, Bool.true_and, Bool.and_true, beq_self_eq_true, implies_true, Nat.zero_add, Bool.cond_false_right, imp_self, beq_true, Bool.not_eq_true', Bool.not_eq_false', Bool.and_eq_true, decide_eq_true_eq, decide_eq_false_iff_not, impA1, and_self, or_false, ret_eq, Nat.add_zero, wk_bool, decide_true, decide_false, cond_true, c10, TL_11, s11, c1, TL_12, s12, hs9, hs, List.getElem?_cons_zero, List.getElem?_cons_succ, Option.getD_some, TL_16, s1K, hx, decK, okT_one, ht, TL_20, sS, hn, scmp_eql]
    decide
  · have hn' : nameS s = false := by simpa using hn
    have ht : textV [⟨1, s, 0, 0⟩] = .tup [.str [], .int .i64 100] := by
      rw [textV, if_neg (by simp [validS, hn'])]
    rcases lx_total s 0 with ⟨n, ts, h⟩ | ⟨e, h⟩
    · have hs := lexV_lx (by omega) h
      obtain ⟨-, hv, -, hlen⟩ := lx_ok _ _ _ _ _ rfl h
      by_cases h1 : ts.length = 1
      · obtain ⟨t, rfl⟩ : ∃ t, ts = [t] := List.length_eq_one_iff.1 h1
        have hv1 : validS t = true := by simpa using hv
        have hno : t.K = 1 → t.T = s → False := fun k1 k2 => by
          have : nameS t.T = true := by have := hv1; simp [validS, k1] at this; exact this.1
          rw [k2] at this; exact hn this
        simp only [kont_nil, kont_n, kont_r, k_skip, k_ret, k_seq, k_cond, k_reg, r_nil, r_v, r_vg, r_pick, r_call, callT, penv, postC, rcs, rc1, rvS, gok, gvb, eget, lk, lkv, oks, AS.put, AS.keep, evk, evB_eq, allB, fillB, evS_eq, allS, fillS, splice, Opk.opds, aload, isI, isInt, toI, isB, toB, isS, toS, sel, mk, icmp, nT, AVal.cells, Tok.esz, List.length_cons, List.length_nil, List.filterMap, List.map_cons, List.map_nil, List.append_nil, List.nil_append, List.cons_append, Option.map_some, reduceCtorEq, and_true, true_and, forall_const, Nat.reduceEqDiff, ↓reduceIte, Bool.false_eq_true, Nat.reduceAdd, List.drop, List.take, List.drop_succ_cons, List.take_succ_cons, Nat.reduceLeDiff, Nat.reduceMul, Nat.reduceLT, Int.reduceEq, Int.reduceLE, Int.reduceToNat, List.set_cons_zero, List.replicate_succ, List.replicate_zero, Nat.le_refl, List.headD_cons, Bool.true_and, Bool.and_true, beq_self_eq_true, implies_true, Nat.zero_add, Bool.cond_false_right, imp_self, beq_true, beq_false, Bool.not_eq_true', Bool.not_eq_false', Bool.and_eq_true, decide_eq_true_eq, decide_eq_false_iff_not, impA1, and_self, or_false, ret_eq, Nat.add_zero, wk_bool, decide_true, decide_false, cond_true, c10, TL_11, s11, c1, TL_12, s12, hs9, hs, List.getElem?_cons_zero, List.getElem?_cons_succ, Option.getD_some, TL_16, s1K, hx, decK, okT_one, ht, TL_20, sS, hn', scmp_eql]
        refine ⟨by simp, by simp, by simp, by simp, ?_⟩
        by_cases k1 : t.K = 1 <;> by_cases k2 : t.T = s <;> simp [k1, k2]
        exact (hno k1 k2).elim
      · have h1' : ((ts.length : Int) = 1) = False := eq_false (by omega)
        simp only [kont_nil, kont_n, kont_r, k_skip, k_ret, k_seq, k_cond, k_reg, r_nil, r_v, r_vg, r_pick, r_call, callT, penv, postC, rcs, rc1, rvS, gok, gvb, eget, lk, lkv, oks, AS.put, AS.keep, evk, evB_eq, allB, fillB, evS_eq, allS, fillS, splice, Opk.opds, aload, isI, isInt, toI, isB, toB, isS, toS, sel, mk, icmp, nT, AVal.cells, Tok.esz, List.length_cons, List.length_nil, List.filterMap, List.map_cons, List.map_nil, List.append_nil, List.nil_append, List.cons_append, Option.map_some, reduceCtorEq, and_true, true_and, forall_const, Nat.reduceEqDiff, ↓reduceIte, Bool.false_eq_true, Nat.reduceAdd, List.drop, List.take, List.drop_succ_cons, List.take_succ_cons, Nat.reduceLeDiff, Nat.reduceMul, Nat.reduceLT, Int.reduceEq, Int.reduceLE, Int.reduceToNat, List.set_cons_zero, List.replicate_succ, List.replicate_zero, Bool.and_true, beq_self_eq_true, implies_true, Nat.zero_add, imp_self, beq_true, Bool.not_eq_true', Bool.not_eq_false', and_self, or_false, ret_eq, Nat.add_zero, wk_bool, decide_true, decide_false, Bool.and_false, cond_true, cond_false, c10, TL_11, s11, c1, TL_12, s12, hs9, hs, List.getElem?_cons_zero, List.getElem?_cons_succ, Option.getD_some, TL_16, s1K, hx, decK, okT_one, ht, TL_20, sS, hn', scmp_eql, List.length_map, h1', false_and, and_false]
    · have hs := lexV_lxe (by omega) h
      simp only [kont_nil, kont_n, kont_r, k_skip, k_ret, k_seq, k_cond, k_reg, r_nil, r_v, r_vg, r_pick, r_call, callT, penv, postC, rcs, rc1, rvS, gok, gvb, eget, lk, lkv, oks, AS.put, AS.keep, evk, evB_eq, allB, fillB, evS_eq, allS, fillS, splice, Opk.opds, aload, isI, isInt, toI, isB, toB, isS, toS, sel, mk, icmp, nT, AVal.cells, Tok.esz, List.length_cons, List.length_nil, List.filterMap, List.map_cons, List.map_nil, List.append_nil, List.nil_append, List.cons_append, Option.map_some, reduceCtorEq, and_true, true_and, forall_const, Nat.reduceEqDiff, ↓reduceIte, Bool.false_eq_true, Nat.reduceAdd, List.drop, List.take, List.drop_succ_cons, List.take_succ_cons, Nat.reduceLeDiff, Nat.reduceMul, Nat.reduceLT, Int.reduceEq, Int.reduceLE, Int.reduceToNat, List.set_cons_zero, List.replicate_succ, List.replicate_zero, Bool.and_true, beq_self_eq_true, implies_true, Nat.zero_add, imp_self, beq_true, Bool.not_eq_true', Bool.not_eq_false', and_self, or_false, ret_eq, Nat.add_zero, wk_bool, decide_false, Bool.and_false, cond_true, cond_false, c10, TL_11, s11, c1, TL_12, s12, hs9, hs, List.getElem?_cons_zero, List.getElem?_cons_succ, Option.getD_some, TL_16, s1K, hx, decK, okT_one, ht, TL_20, sS, hn', scmp_eql, false_and, and_false]
theorem p9 (src more : List UInt8) (h1 : src.length ≤ 140737488355328) (h2 : more.length ≤ 140737488355328) : Pur Tryd.prog 9 [.str src, .str more] (.bool true) := by
  refine .mk ⟨trivial, trivial, trivial⟩ trivial (a9 (ev_awp TL_ok (ev_evK ?_)))
  have e1 : IntKind.wrap .i64 ((src.length : Int) + more.length) = ((src.length + more.length : Nat) : Int) := by rw [w64_in (by omega) (by omega)]; rfl
  by_cases h7 : 3000 < src.length + more.length
  · have c1 : ((3000 : Int) < ((src.length + more.length : Nat) : Int)) = True := eq_true (by omega)
    simp only [kont_nil, kont_n, kont_r, k_skip, k_ret, k_seq, k_cond, k_reg, r_nil, r_v, r_vg, r_pick, r_call, callT, penv, postC, rcs, rc1, rvS, gok, gvb, eget, lk, lkv, oks, AS.put, AS.keep, evk, Opk.opds, isI, isInt, toI, isB, toB, isS, toS, sel, icmp, iarith, bnd, bndI, Option.toList, List.length_cons, List.length_nil, List.filterMap, List.map_cons, List.map_nil, List.append_nil, List.nil_append, Option.map_some, reduceCtorEq, and_true, true_and, forall_const, Nat.reduceEqDiff, ↓reduceIte, Bool.false_eq_true, List.drop_zero, Int.reduceLE, Int.reduceToNat, Bool.true_and, isDiv, false_implies, implies_true, Nat.zero_add, Bool.cond_true_left, Bool.cond_false_right, imp_self, beq_true, beq_false, Bool.not_eq_true', Bool.not_eq_false', Bool.or_eq_true, Bool.or_eq_false_iff, Bool.and_eq_true, decide_eq_true_eq, decide_eq_false_iff_not, ne_eq, impA1, and_self, ret_eq, Nat.add_zero, wk_bool, decide_true, c9, TL_11, s11, e1, c1]
  have c1 : ((3000 : Int) < ((src.length + more.length : Nat) : Int)) = False := eq_false (by omega)
  have hs9 : (src.length < 1000000000) = True := eq_true (by omega)
  rcases lx_total src 0 with ⟨n, ts, h⟩ | ⟨e, h⟩
  · have hs := lexV_lx (by omega) h
    simp only [kont_nil, kont_n, kont_r, k_skip, k_ret, k_seq, k_cond, k_reg, r_nil, r_v, r_vg, r_pick, r_call, callT, penv, postC, rcs, rc1, rvS, gok, gvb, eget, lk, lkv, oks, AS.put, AS.keep, evk, Opk.opds, isI, isInt, toI, isB, toB, isS, toS, sel, icmp, iarith, bnd, bndI, Option.toList, List.length_cons, List.length_nil, List.filterMap, List.map_cons, List.map_nil, List.append_nil, List.nil_append, Option.map_some, reduceCtorEq, and_true, true_and, forall_const, Nat.reduceEqDiff, ↓reduceIte, Bool.false_eq_true, Nat.reduceAdd, List.drop_zero, List.take_zero, Nat.reduceLT, Int.reduceEq, Int.reduceLE, Int.reduceLT, Int.reduceToNat, Bool.true_and, Bool.and_true, isDiv, false_implies, implies_true, Nat.zero_add, Bool.cond_true_left, Bool.cond_false_right, imp_self, beq_true, beq_false, Bool.not_eq_true', Bool.not_eq_false', Bool.or_eq_true, Bool.or_eq_false_iff, Bool.and_eq_true, decide_eq_true_eq, decide_eq_false_iff_not, ne_eq, impA1, and_self, true_or, ret_eq, Nat.add_zero, wk_bool, decide_true, decide_false, c9, TL_11, s11, e1, c1, TL_12, s12, hs9, hs, List.getElem?_cons_zero, List.getElem?_cons_succ, Option.getD_some]
  · have hs := lexV_lxe (by omega) h
    obtain ⟨i1, i2, i3, i4, n', ts, i5⟩ := lx_err more _ _ _ _ rfl h
    rw [Nat.sub_zero] at i3 i5
    rw [Nat.zero_add] at i2
    have hl1 : (src.take e).length < 1000000000 := by rw [List.length_take]; omega
    have hl2 : (src.drop e).length < 1000000000 := by rw [List.length_drop]; omega
    have hl3 : (src ++ 32 :: more).length < 1000000000 := by simp only [List.length_append, List.length_cons]; omega
    have hs1 := lexV_lx (src := src.take e) (by rw [List.length_take]; omega) i5
    have hne : src.drop e ≠ [] := fun q => by have := congrArg List.length q; rw [List.length_drop] at this; simp at this; omega
    have hs2 := lexV_lxe (src := src.drop e) (e := 0) (by rw [List.length_drop]; omega) (lx_none hne i3)
    have hs3 := lexV_lxe (src := src ++ 32 :: more) (by simp only [List.length_append, List.length_cons]; omega) i4
    have c2 : ((e : Int) < 0) = False := eq_false (by omega)
    have c3 : ((src.length : Int) ≤ e) = False := eq_false (by omega)
    simp only [kont_nil, kont_n, kont_r, k_skip, k_ret, k_seq, k_cond, k_reg, r_nil, r_v, r_vg, r_pick, r_call, callT, penv, postC, rcs, rc1, rvS, gok, gvb, eget, lk, lkv, oks, AS.put, AS.keep, evk, Opk.opds, isI, isInt, toI, isB, toB, isS, toS, sel, icmp, iarith, bnd, bndI, Option.toList, List.length_cons, List.length_nil, List.filterMap, List.map_cons, List.map_nil, List.append_nil, List.nil_append, List.cons_append, Option.map_some, reduceCtorEq, true_and, forall_const, Nat.reduceEqDiff, ↓reduceIte, Bool.false_eq_true, Nat.reduceAdd, List.drop_zero, Nat.reduceLT, Int.reduceEq, Int.reduceLE, Int.reduceToNat, Bool.true_and, Bool.and_true, beq_self_eq_true, isDiv, false_implies, implies_true, Nat.zero_add, Bool.cond_false_right, imp_self, beq_false, Bool.not_eq_true', Bool.not_eq_false', decide_eq_true_eq, ne_eq, and_self, ret_eq, Nat.add_zero, wk_bool, decide_true, decide_false, cond_true, c9, TL_11, s11, e1, c1, TL_12, s12, hs9, hs, List.getElem?_cons_zero, List.getElem?_cons_succ, Option.getD_some, c2, c3, Int.natCast_nonneg, Int.toNat_natCast, List.drop_zero, hl1, hl2, hs1, hs2, List.append_assoc, hl3, hs3, List.take_length]
    exact ⟨by omega, by unfold small; omega, by unfold small; simp only [List.length_append, List.length_cons, List.length_nil]; omega, ⟨by omega, by omega⟩, rfl⟩
end Go.AM
end

/- Tokens: the law on two sources. Conditions: none. -/
section
set_option maxRecDepth 10000
set_option linter.unusedSimpArgs false
set_option linter.unusedVariables false
set_option linter.unusedVariables false
set_option linter.unusedSimpArgs false
namespace Go.AM
open Go.Proofs Go.Lib

/-- Tokens stand in the source. -/
theorem lx_A : ∀ (n : Nat) (l : List UInt8) (a e : Nat) (ts : List Tkn), l.length = n → lx l a = .ok e ts → ∀ t ∈ ts, (a : Int) ≤ t.A ∧ t.A < (a + l.length : Nat) := by
  intro n
  induction n using Nat.strongRecOn with
  | _ n ih =>
  intro l a e ts hn h
  by_cases hl : l = []
  · subst hl; rw [lx_nil] at h; cases h; simp
  have hlen := List.length_pos_iff.2 hl
  cases hs : st1 l with
  | none => rw [lx_none hl hs] at h; cases h
  | some p =>
    obtain ⟨k, o⟩ := p
    obtain ⟨k1, k2⟩ := st1_pos hs
    rw [lx_some hs] at h
    cases hr : lx (l.drop k) (a + k) with
    | err e' => rw [hr] at h; cases o <;> cases h
    | ok n' us =>
      rw [hr] at h
      have := ih (l.drop k).length (by rw [List.length_drop]; omega) _ _ _ _ rfl hr
      rw [List.length_drop] at this
      cases o with
      | none => cases h; intro t ht; have := this t ht; omega
      | some t0 =>
        cases h
        intro t ht
        rcases List.mem_cons.1 ht with rfl | ht
        · simp only; omega
        · have := this t ht; omega
structure V7 where
  j : Nat
  H : AHeap
  n : Nat
  id : Nat
theorem p7 (a b : List UInt8) (h1 : a.length ≤ 140737488355328) (h2 : b.length ≤ 140737488355328) : Pur Tryd.prog 7 [.str a, .str b] (.bool true) := by
  refine .mk ⟨trivial, trivial, trivial⟩ trivial (a7 (ev_awp TL_ok (ev_evK ?_)))
  have e1 : IntKind.wrap .i64 ((a.length : Int) + b.length) = ((a.length + b.length : Nat) : Int) := by rw [w64_in (by omega) (by omega)]; rfl
  by_cases h7 : 3000 < a.length + b.length
  · have c1 : ((3000 : Int) < ((a.length + b.length : Nat) : Int)) = True := eq_true (by omega)
    simp only [kont_nil, kont_n, kont_r, kont_bn, kont_br, k_skip, k_ret, k_seq, k_block, k_cond, k_reg, r_nil, r_v, r_vg, r_pick, r_call, r_app, appE, callT, penv, postC, rcs, rc1, rvS, gok, gvb, eget, lk, lkv, oks, AS.put, AS.keep, evk, evS_eq, allS, fillS, Opk.opds, isI, toI, isB, toB, isS, toS, sel, icmp, iarith, hget_nil, AVal.cells, Tok.esz, List.length_cons, List.length_nil, List.filterMap, List.map_cons, List.map_nil, List.append_nil, List.nil_append, Option.map_some, reduceCtorEq, and_true, true_and, forall_const, Nat.reduceEqDiff, ↓reduceIte, Bool.false_eq_true, Nat.reduceAdd, Nat.reduceLeDiff, Nat.reduceMul, Nat.reduceLT, Int.reduceEq, List.replicate_zero, Bool.true_and, isDiv, false_implies, implies_true, Nat.zero_add, Bool.cond_false_right, imp_self, beq_true, Bool.not_eq_true', Bool.not_eq_false', Bool.and_eq_true, decide_eq_true_eq, decide_eq_false_iff_not, ne_eq, not_false_eq_true, impA1, and_self, ret_eq, Nat.add_zero, killTok, appOK, srcOf, wk_bool, decide_true, c7, TL_11, s11, e1, c1]
  have c1 : ((3000 : Int) < ((a.length + b.length : Nat) : Int)) = False := eq_false (by omega)
  have ha9 : (a.length < 1000000000) = True := eq_true (by omega)
  have hb9 : (b.length < 1000000000) = True := eq_true (by omega)
  have hl3 : (a ++ 10 :: b).length < 1000000000 := by simp only [List.length_append, List.length_cons]; omega
  have hl3' : (a ++ 10 :: b).length ≤ 65536 := by simp only [List.length_append, List.length_cons]; omega
  have hj := lx_join b _ a 0 rfl
  have sm1 : small (a.length + 1) 1 := by unfold small; omega
  have sm2 : small ((a ++ [10]).length + b.length) 1 := by unfold small; simp only [List.length_append, List.length_cons, List.length_nil]; omega
  have hsh : lx b (0 + a.length + 1) = shR (a.length + 1) (lx b 0) := by
    rw [← lx_shift _ _ _ _ rfl, show 0 + (a.length + 1) = 0 + a.length + 1 by omega]
  have hVb : ∃ vb, lexV b = .tup vb ∧ ∃ x y z, vb = [x, .int .i64 y, .int .i64 z] := by
    rcases lx_total b 0 with ⟨n, ts, h⟩ | ⟨e, h⟩
    · exact ⟨_, lexV_lx (by omega) h, _, _, _, rfl⟩
    · exact ⟨_, lexV_lxe (by omega) h, _, _, _, rfl⟩
  rcases lx_total a 0 with ⟨na, xs, hxa⟩ | ⟨e, hxa⟩
  · have hsa := lexV_lx (by omega) hxa
    rw [hxa] at hj
    simp only at hj
    rcases lx_total b 0 with ⟨nb, ys, hxb⟩ | ⟨e, hxb⟩
    · have hsb := lexV_lx (by omega) hxb
      rw [hsh, hxb] at hj
      have hsz := lexV_lx hl3' hj
      obtain ⟨-, -, -, hlx⟩ := lx_ok _ _ _ _ _ rfl hxa
      obtain ⟨-, -, -, hly⟩ := lx_ok _ _ _ _ _ rfl hxb
      have hyA := lx_A _ _ _ _ _ rfl hxb
      simp only [kont_nil, kont_n, kont_r, kont_bn, kont_br, k_skip, k_ret, k_seq, k_block, k_cond, k_reg, r_nil, r_v, r_vg, r_pick, r_call, r_app, appE, callT, penv, postC, rcs, rc1, rvS, gok, gvb, eget, lk, lkv, oks, AS.put, AS.keep, evk, evS_eq, allS, fillS, Opk.opds, isI, toI, isB, toB, isS, toS, sel, icmp, iarith, hget_nil, AVal.cells, Tok.esz, List.length_cons, List.length_nil, List.filterMap, List.map_cons, List.map_nil, List.append_nil, List.nil_append, List.cons_append, Option.map_some, reduceCtorEq, and_true, true_and, forall_const, Nat.reduceEqDiff, ↓reduceIte, Bool.false_eq_true, Nat.reduceAdd, Nat.reduceLeDiff, Nat.reduceMul, Nat.reduceLT, Int.reduceEq, List.replicate_zero, Bool.true_and, Bool.and_true, beq_self_eq_true, isDiv, false_implies, implies_true, Nat.zero_add, Bool.cond_false_right, imp_self, beq_true, Bool.not_eq_true', Bool.not_eq_false', Bool.and_eq_true, decide_eq_true_eq, decide_eq_false_iff_not, ne_eq, not_false_eq_true, and_self, true_or, ret_eq, Nat.add_zero, killTok, appOK, srcOf, wk_bool, decide_true, decide_false, cond_true, c7, TL_11, s11, e1, c1, TL_12, s12, ha9, hb9, hsa, hsb, List.append_assoc, hl3, hsz, sm1, sm2, List.getElem?_cons_zero, List.getElem?_cons_succ, Option.getD_some, List.length_map]
      have sx : small xs.length 40 := by unfold small; omega
      have e3 : IntKind.wrap .i64 ((a.length : Int) + 1) = ((a.length + 1 : Nat) : Int) := by rw [w64_in (by omega) (by omega)]; rfl
      refine ⟨⟨sx, by omega⟩, ?_⟩
      refine k_loop (fun v : V7 => ⟨[(0, true, .str a), (11, true, .sl (.none 4) ((xs ++ ys.map (shT (a.length + 1))).map encK)), (12, true, .int .i64 0), (13, true, .int .i64 0),
          (14, true, .sl (.own v.id 4) ((xs ++ (ys.take v.j).map (shT (a.length + 1))).map encK)), (85, true, .sl (.none 4) (ys.map encK)), (86, true, .int .i64 ys.length), (87, true, .int .i64 v.j)], v.H, v.n⟩)
        (fun v => v.j ≤ ys.length ∧ hget v.H v.id = some .tok ∧ Fresh v.H v.n) (fun v => ys.length - v.j) ⟨0, hset hnil 2 .tok, 4, 2⟩ (by simp) ⟨Nat.zero_le _, rfl, fun j hj => by rw [hget_hset_ne _ _ _ _ (by simp only [] at hj; omega)]; rfl⟩ ?_
      rintro ⟨j, H, n, id⟩ ⟨hjl, hid, hfr⟩
      simp only at hjl hid hfr
      by_cases hlt : j < ys.length
      · have e := w64_succ (k := j) (by omega)
        have hA := hyA ys[j] (List.getElem_mem hlt)
        have e4 : IntKind.wrap .i64 (ys[j].A + ((a.length + 1 : Nat) : Int)) = ys[j].A + ((a.length + 1 : Nat) : Int) := w64_in (by omega) (by omega)
        have hidn := hfr.lt hid
        have hn2 := hfr (n + 2) (by omega)
        have hn7 := hfr (n + 7) (by omega)
        have l1 : ((xs ++ (ys.take j).map (shT (a.length + 1))).length ≤ 35184372088831) = True := eq_true (by simp; omega)
        have l2 : small ((xs ++ (ys.take j).map (shT (a.length + 1))).length + 1) 40 = True := eq_true (by unfold small; simp; omega)
        have f1 : (n + 2 = id) = False := eq_false (by omega)
        have f2 : (n + 7 = id) = False := eq_false (by omega)
        have f3 : (id = n + 7) = False := eq_false (by omega)
        have f4 : (id = n + 2) = False := eq_false (by omega)
        simp only [kont_nil, kont_n, kont_e, kont_bn, kont_be, k_skip, k_exit, k_ret, k_seq, k_block, k_cond, k_reg, r_nil, r_v, r_vg, r_pick, r_alloc, r_st, r_callg, r_app, stE, appE, callT, lpQ_n, lpQ_e, postC, rcs, rc1, rvS, gok, gvb, eget, lk, lkv, oks, AS.put, AS.keep, evk, evS_eq, allS, fillS, splice, Opk.opds, aload, isI, isInt, toI, isB, toB, isS, toS, sel, mk, icmp, iarith, nT, hget_hset, AVal.cells, Tok.esz, List.length_cons, List.length_nil, List.filterMap, List.map_cons, List.map_nil, List.append_nil, List.nil_append, List.cons_append, Option.map_some, reduceCtorEq, and_true, true_and, forall_const, Nat.reduceEqDiff, ↓reduceIte, Bool.false_eq_true, Nat.reduceAdd, List.drop, List.take, List.drop_succ_cons, List.take_succ_cons, Nat.reduceLeDiff, Nat.reduceMul, Nat.reduceLT, Int.reduceEq, List.set_cons_zero, List.replicate_succ, List.replicate_zero, Nat.le_refl, List.headD_cons, Bool.and_true, beq_self_eq_true, isDiv, false_implies, implies_true, Nat.zero_add, ne_eq, not_false_eq_true, natE1, and_self, or_false, ret_eq, Nat.add_zero, Nat.add_assoc, killTok, appOK, srcOf, decide_true, cond_true, Int.ofNat_lt, hlt, List.length_map, List.getElem?_map, List.getElem?_eq_getElem hlt, Option.getD_some, Int.toNat_natCast, Int.natCast_nonneg, e, e3, e4, hn2, hn7, l1, l2, f1, hid]
        have htk : (ys.take (j + 1)).map (shT (a.length + 1)) = (ys.take j).map (shT (a.length + 1)) ++ [shT (a.length + 1) ys[j]] := by
          rw [List.take_succ_eq_append_getElem hlt, List.map_append]; rfl
        have hg7 : ∀ G : AHeap, hget (hset G (n + 7) .tok) (n + 7) = some .tok := fun G => hget_hset_eq ..
        refine .mk ⟨j + 1, hset (hset (hset (hset (hset H (n + 2) (.box [.int .i64 0, .str [], .int .i64 0, .int .i64 0])) (n + 2) (.box [.int .i64 ys[j].K, .str ys[j].T, .int .i64 ys[j].N, .int .i64 ys[j].A])) (n + 2)
          (.box [.int .i64 ys[j].K, .str ys[j].T, .int .i64 ys[j].N, .int .i64 (ys[j].A + ((a.length + 1 : Nat) : Int))])) id .dead) (n + 7) .tok, n + 9, n + 7⟩ ?_ ⟨hlt, hg7 _, ?_⟩ (by simp only []; omega)
        · simp only [htk, ← List.append_assoc, List.map_append, List.map_cons, List.map_nil, shT, encK]
        · intro q hq
          simp only [] at hq
          simp only [hget_hset]
          repeat rw [if_neg (by omega)]
          exact hfr q (by omega)
      · have hje : j = ys.length := by omega
        subst hje
        have l1 : ((xs ++ ys.map (shT (a.length + 1))).length < 1000000000) = True := eq_true (by simp; omega)
        simp only [kont_nil, kont_n, kont_e, kont_bn, kont_be, k_skip, k_exit, k_ret, k_seq, k_block, k_cond, k_reg, r_nil, r_v, r_vg, r_pick, r_alloc, r_st, r_callg, r_app, stE, appE, callT, lpQ_n, lpQ_e, postC, rcs, rc1, rvS, gok, gvb, eget, lk, lkv, oks, AS.put, AS.keep, evk, evS_eq, allS, fillS, splice, Opk.opds, aload, isI, isInt, toI, isB, toB, isS, toS, sel, mk, icmp, iarith, nT, hget_hset, AVal.cells, Tok.esz, List.length_cons, List.length_nil, List.filterMap, List.map_cons, List.map_nil, List.append_nil, List.nil_append, Option.map_some, reduceCtorEq, and_true, true_and, forall_const, Nat.reduceEqDiff, ↓reduceIte, Bool.false_eq_true, Nat.reduceAdd, List.drop, List.take, Nat.reduceLeDiff, Nat.reduceMul, Nat.reduceLT, Int.reduceEq, List.set_cons_zero, List.replicate_succ, List.replicate_zero, Nat.le_refl, Bool.and_true, beq_self_eq_true, isDiv, false_implies, implies_true, Nat.zero_add, ne_eq, not_false_eq_true, natE1, and_self, true_or, or_false, ret_eq, Nat.add_zero, Nat.add_assoc, killTok, appOK, srcOf, wk_bool, decide_true, decide_false, cond_true, Int.ofNat_lt, hlt, TL_14, s2K, encdK_map, List.length_map, decK_map, l1, List.take_length, equalT_refl]
    · have hsb := lexV_lxe (by omega) hxb
      rw [hsh, hxb] at hj
      have hsz := lexV_lxe hl3' hj
      have e2 : IntKind.wrap .i64 (IntKind.wrap .i64 ((e : Int) + a.length) + 1) = ((e + (a.length + 1) : Nat) : Int) := by
        obtain ⟨_, k2, _⟩ := lx_err [] _ _ _ _ rfl hxb
        rw [w64_in (x := (e : Int) + a.length) (by omega) (by omega), w64_in (by omega) (by omega)]; omega
      simp only [kont_nil, kont_n, kont_r, kont_bn, kont_br, k_skip, k_ret, k_seq, k_block, k_cond, k_reg, r_nil, r_v, r_vg, r_pick, r_call, r_app, appE, callT, penv, postC, rcs, rc1, rvS, gok, gvb, eget, lk, lkv, oks, AS.put, AS.keep, evk, evS_eq, allS, fillS, Opk.opds, isI, toI, isB, toB, isS, toS, sel, icmp, iarith, hget_nil, AVal.cells, Tok.esz, List.length_cons, List.length_nil, List.filterMap, List.map_cons, List.map_nil, List.append_nil, List.nil_append, List.cons_append, Option.map_some, reduceCtorEq, and_true, true_and, forall_const, Nat.reduceEqDiff, ↓reduceIte, Bool.false_eq_true, Nat.reduceAdd, Nat.reduceLeDiff, Nat.reduceMul, Nat.reduceLT, Int.reduceEq, List.replicate_zero, Bool.and_true, beq_self_eq_true, isDiv, false_implies, implies_true, Nat.zero_add, imp_self, beq_true, Bool.not_eq_true', Bool.not_eq_false', decide_eq_true_eq, ne_eq, not_false_eq_true, and_self, true_or, ret_eq, Nat.add_zero, killTok, appOK, srcOf, wk_bool, decide_true, decide_false, Bool.and_false, cond_true, cond_false, c7, TL_11, s11, e1, c1, TL_12, s12, ha9, hb9, hsa, hsb, List.append_assoc, hl3, hsz, sm1, sm2, e2, List.getElem?_cons_zero, List.getElem?_cons_succ, Option.getD_some]
      rfl
  · have hsa := lexV_lxe (by omega) hxa
    rw [hxa] at hj
    simp only at hj
    have hsz := lexV_lxe hl3' hj
    obtain ⟨vb, hsb, x, y, z, rfl⟩ := hVb
    simp only [kont_nil, kont_n, kont_r, kont_bn, kont_br, k_skip, k_ret, k_seq, k_block, k_cond, k_reg, r_nil, r_v, r_vg, r_pick, r_call, r_app, appE, callT, penv, postC, rcs, rc1, rvS, gok, gvb, eget, lk, lkv, oks, AS.put, AS.keep, evk, evS_eq, allS, fillS, Opk.opds, isI, toI, isB, toB, isS, toS, sel, icmp, iarith, hget_nil, AVal.cells, Tok.esz, List.length_cons, List.length_nil, List.filterMap, List.map_cons, List.map_nil, List.append_nil, List.nil_append, List.cons_append, Option.map_some, reduceCtorEq, and_true, true_and, forall_const, Nat.reduceEqDiff, ↓reduceIte, Bool.false_eq_true, Nat.reduceAdd, Nat.reduceLeDiff, Nat.reduceMul, Nat.reduceLT, Int.reduceEq, List.replicate_zero, Bool.true_and, Bool.and_true, beq_self_eq_true, isDiv, false_implies, implies_true, Nat.zero_add, Bool.cond_false_right, imp_self, beq_true, Bool.not_eq_true', Bool.not_eq_false', Bool.and_eq_true, decide_eq_true_eq, decide_eq_false_iff_not, ne_eq, not_false_eq_true, and_self, or_true, ret_eq, Nat.add_zero, killTok, appOK, srcOf, wk_bool, decide_true, decide_false, cond_true, c7, TL_11, s11, e1, c1, TL_12, s12, ha9, hb9, hsa, hsb, List.append_assoc, hl3, hsz, sm1, sm2, List.getElem?_cons_zero, List.getElem?_cons_succ, Option.getD_some]
    rfl
end Go.AM
end

/- Tokens: the law on white space. Conditions: none. -/
section
set_option maxRecDepth 10000
set_option linter.unusedSimpArgs false
set_option linter.unusedVariables false
set_option linter.unusedVariables false
set_option linter.unusedSimpArgs false
namespace Go.AM
open Go.Proofs Go.Lib

/-- White space and comments. -/
def gapL (w : List UInt8) : Nat → List UInt8
  | 0 => [32] | 1 => [9] | 2 => [10] | 3 => [13, 10] | 4 => [32, 32] | 5 => [47, 47] ++ w ++ [10] | 6 => [32, 47, 47, 32, 10] | _ => [10, 47, 47, 10]
theorem lx_com {w m : List UInt8} {a : Nat} (hw : ∀ b ∈ w, b ≠ 10) : lx ([47, 47] ++ w ++ 10 :: m) a = lx m (a + w.length + 3) := by
  have tw : ([47, 47] ++ w ++ 10 :: m).takeWhile notLf = [47, 47] ++ w := by
    rw [tw_app (by decide)]
    have : ∀ l : List UInt8, (∀ b ∈ l, b ≠ 10) → l.takeWhile notLf = l := fun l hl => by
      induction l with
      | nil => rfl
      | cons b r ih =>
        rw [List.takeWhile_cons, if_pos (by have := hl b (List.mem_cons_self ..); simp [notLf, this]), ih fun x hx => hl x (List.mem_cons_of_mem _ hx)]
    refine this _ fun b hb => ?_
    rcases List.mem_append.1 hb with hb | hb
    · simp at hb; subst hb; decide
    · exact hw b hb
  have hs : st1 ([47, 47] ++ w ++ 10 :: m) = some (w.length + 2, none) := by
    have e : [47, 47] ++ w ++ 10 :: m = 47 :: (47 :: (w ++ 10 :: m)) := by simp
    rw [e] at tw ⊢
    simp only [st1]
    rw [if_neg (by decide), if_neg (by decide), if_neg (by decide), if_pos (by simp), tw]; simp
  rw [lx_some hs]
  have hd : ([47, 47] ++ w ++ 10 :: m).drop (w.length + 2) = 10 :: m := by
    rw [List.drop_left' (by simp)]
  rw [hd, lx_sp (by decide)]
  show lx m _ = _
  congr 1
theorem gap_blank {w : List UInt8} (hw : ∀ b ∈ w, b ≠ 10) (k : Nat) (m : List UInt8) (a : Nat) : lx (gapL w k ++ m) a = lx m (a + (gapL w k).length) := by
  have c0 : ∀ b ∈ ([] : List UInt8), b ≠ 10 := fun b h => by simp at h
  have c1 : ∀ b ∈ ([32] : List UInt8), b ≠ 10 := fun b h => by simp at h; subst h; decide
  match k with
  | 0 => exact lx_sp (by decide)
  | 1 => exact lx_sp (by decide)
  | 2 => exact lx_sp (by decide)
  | 3 => exact (lx_sp (by decide)).trans (lx_sp (by decide))
  | 4 => exact (lx_sp (by decide)).trans (lx_sp (by decide))
  | 5 =>
    have e : gapL w 5 ++ m = [47, 47] ++ w ++ 10 :: m := by simp [gapL]
    rw [e, lx_com hw]
    congr 1; simp [gapL]; omega
  | 6 => exact (lx_sp (by decide)).trans (lx_com (w := [32]) c1)
  | k + 7 => exact (lx_sp (by decide)).trans (lx_com (w := []) c0)
theorem gap_len (w : List UInt8) (hw : w.length ≤ 100) (k : Nat) : (gapL w k).length ≤ 103 := by
  unfold gapL
  split <;> simp <;> omega
def txtP (ps : List (Tkn × List UInt8)) : List UInt8 := (ps.map fun p => wordS p.1 ++ (32 :: p.2)).flatten
theorem lx_txt : ∀ (ps : List (Tkn × List UInt8)) (a : Nat), (∀ p ∈ ps, validS p.1 = true ∧ ∀ m a, lx (p.2 ++ m) a = lx m (a + p.2.length)) → ∃ n us, lx (txtP ps) a = .ok n us ∧ us.map bare = ps.map fun p => bare p.1
  | [], a, _ => ⟨a, [], by rw [txtP, List.map_nil, List.flatten_nil, lx_nil], rfl⟩
  | p :: r, a, h => by
    obtain ⟨hv, hb⟩ := h p (List.mem_cons_self ..)
    have e : txtP (p :: r) = wordS p.1 ++ (32 :: (p.2 ++ txtP r)) := by simp [txtP]
    obtain ⟨h1, h2⟩ := word_st1 hv (m := 32 :: (p.2 ++ txtP r)) (.inr ⟨32, _, rfl, by decide⟩)
    obtain ⟨n, us, h3, h4⟩ := lx_txt r (a + (wordS p.1).length + 1 + p.2.length) fun q hq => h q (List.mem_cons_of_mem _ hq)
    rw [e, lx_some h1, List.drop_left, lx_sp (by decide), hb, h3]
    exact ⟨_, _, rfl, by rw [List.map_cons, List.map_cons, h4]; rfl⟩
/-- The first tokens, with what stands behind them. -/
def psP (l : List Tkn) (g : Nat → List UInt8) (j : Nat) : List (Tkn × List UInt8) := (List.range j).map fun i => (l[i]?.getD ⟨0, [], 0, 0⟩, g i)
theorem psP_succ {l : List Tkn} {g : Nat → List UInt8} {j : Nat} (h : j < l.length) : txtP (psP l g (j + 1)) = txtP (psP l g j) ++ (wordS l[j] ++ [32] ++ g j) := by
  simp [psP, txtP, List.range_succ, List.getElem?_eq_getElem h]
theorem psP_all {l : List Tkn} {g : Nat → List UInt8} : (psP l g l.length).map (fun p => bare p.1) = l.map bare := by
  apply List.ext_getElem
  · simp [psP]
  · intro i h1 h2
    simp [psP] at h1 ⊢
    rw [List.getElem?_eq_getElem h1]; rfl
theorem txt_len {l : List Tkn} {g : Nat → List UInt8} (hg : ∀ i, (g i).length ≤ 103) : ∀ j, j ≤ l.length → (∀ i (hi : i < l.length), i < j → validS l[i] = true) → (txtP (psP l g j)).length ≤ 136 * j
  | 0, _, _ => by simp [psP, txtP]
  | j + 1, h, hv => by
    have ih := txt_len (l := l) hg j (by omega) fun i hi hij => hv i hi (by omega)
    have hw := word_len (hv j (by omega) (by omega))
    have hgj := hg j
    rw [psP_succ (by omega)]
    simp only [List.length_append, List.length_cons, List.length_nil]; omega
def e8i (x : Int) : AVal := .int .u8 x
def spA (w : List UInt8) : List AVal := [.str [32], .str [9], .str [10], .str [13, 10], .str [32, 32], .str ([47, 47] ++ w ++ [10]), .str [32, 47, 47, 32, 10], .str [10, 47, 47, 10]]
theorem spA_at (w : List UInt8) {k : Nat} (h : k < 8) : (spA w)[k]? = some (.str (gapL w k)) := by
  match k, h with
  | 0, _ => rfl
  | 1, _ => rfl
  | 2, _ => rfl
  | 3, _ => rfl
  | 4, _ => rfl
  | 5, _ => rfl
  | 6, _ => rfl
  | 7, _ => rfl
def gapI (w : List UInt8) (us : List Int) (i : Nat) : List UInt8 := if i < us.length then gapL w ((us[i]?.getD 0).toNat % 8) else [32]
structure V8 where
  j : Nat
  H : AHeap
  n : Nat
theorem e8_under (n : Nat) (l : List Int) : unders n (l.map e8i) := unders_map (f := e8i) (fun x => trivial) l
abbrev noLf (note : List UInt8) (i : Nat) : List UInt8 := (note.take i).filter fun b => decide (b ≠ 10)
theorem p8 (l : List Tkn) (us : List Int) (note : List UInt8) (hl : l.length ≤ 9223372036854775807) (hul : us.length ≤ 9223372036854775807) (hu : ∀ x ∈ us, 0 ≤ x ∧ x < 256) :
    Pur Tryd.prog 8 [.sl (.none 4) (l.map encK), .sl (.none 1) (us.map e8i), .str note] (.bool true) := by
  refine .mk ⟨⟨trivial, encK_under 0 l⟩, ⟨trivial, e8_under 0 us⟩, trivial, trivial⟩ trivial (a8 (ev_awp TL_ok (ev_evK ?_)))
  by_cases hfa : fewS l = true
  case neg =>
    have hfa' : fewS l = false := by simpa using hfa
    simp only [kont_nil, kont_n, kont_r, k_skip, k_ret, k_seq, k_block, k_cond, k_reg, r_nil, r_v, r_vg, r_pick, r_call, callT, penv, postC, rcs, rc1, rvS, gok, gvb, eget, lk, lkv, oks, AS.put, AS.keep, evk, Opk.opds, isI, toI, isB, toB, isS, toS, sel, icmp, Tok.esz, List.filterMap, List.map_cons, List.map_nil, List.append_nil, List.nil_append, Option.map_some, reduceCtorEq, and_true, true_and, forall_const, Nat.reduceEqDiff, ↓reduceIte, Bool.false_eq_true, Nat.reduceAdd, Bool.true_and, false_implies, implies_true, Nat.zero_add, Bool.cond_true_left, imp_self, beq_false, Bool.not_eq_true', Bool.not_eq_false', Bool.or_eq_true, Bool.or_eq_false_iff, decide_eq_true_eq, decide_eq_false_iff_not, and_self, true_or, ret_eq, Nat.add_zero, wk_bool, c8, TL_11, s11, TL_15, s1K, encdK_map, decK_map, hl, hfa', false_and, and_false]
  by_cases h7 : 100 < note.length
  · have c1 : ((100 : Int) < note.length) = True := eq_true (by omega)
    simp only [kont_nil, kont_n, kont_r, k_skip, k_ret, k_seq, k_block, k_cond, k_reg, r_nil, r_v, r_vg, r_pick, r_call, callT, penv, postC, rcs, rc1, rvS, gok, gvb, eget, lk, lkv, oks, AS.put, AS.keep, evk, Opk.opds, isI, toI, isB, toB, isS, toS, sel, icmp, Tok.esz, List.filterMap, List.map_cons, List.map_nil, List.append_nil, List.nil_append, Option.map_some, reduceCtorEq, true_and, forall_const, Nat.reduceEqDiff, ↓reduceIte, Bool.false_eq_true, Nat.reduceAdd, Bool.true_and, false_implies, implies_true, Nat.zero_add, Bool.cond_true_left, imp_self, beq_false, Bool.not_eq_true', Bool.not_eq_false', and_self, true_or, ret_eq, Nat.add_zero, wk_bool, decide_true, Bool.or_true, c8, TL_11, s11, TL_15, s1K, encdK_map, decK_map, hl, hfa, c1, and_false]
  have c1 : ((100 : Int) < note.length) = False := eq_false (by omega)
  have la := few_len hfa
  simp only [kont_nil, kont_n, kont_r, k_skip, k_ret, k_seq, k_block, k_cond, k_reg, r_nil, r_v, r_vg, r_pick, r_call, callT, penv, postC, rcs, rc1, rvS, gok, gvb, eget, lk, lkv, oks, AS.put, AS.keep, evk, Opk.opds, isI, toI, isB, toB, isS, toS, sel, icmp, Tok.esz, List.filterMap, List.map_cons, List.map_nil, List.append_nil, List.nil_append, Option.map_some, reduceCtorEq, true_and, forall_const, Nat.reduceEqDiff, ↓reduceIte, Bool.false_eq_true, Nat.reduceAdd, Bool.true_and, Bool.and_true, implies_true, Nat.zero_add, Bool.cond_false_right, imp_self, beq_false, Bool.not_eq_true', Bool.not_eq_false', and_self, true_or, ret_eq, Nat.add_zero, wk_bool, decide_false, c8, TL_11, s11, TL_15, s1K, encdK_map, decK_map, hl, hfa, c1]
  refine k_loop (fun i : Nat => ⟨[(0, true, .sl (.none 4) (l.map encK)), (1, true, .sl (.none 1) (us.map e8i)), (2, true, .str note), (7, true, .str (noLf note i)), (8, true, .int .i64 i)], hnil, 0⟩)
    (fun i => i ≤ note.length) (fun i => note.length - i) 0 rfl (Nat.zero_le _) ?_
  intro i hi
  by_cases hlt : i < note.length
  · have e := w64_succ (k := i) (by omega)
    have hone : (note.take (i + 1)).drop i = [note[i]] := by
      rw [List.drop_take, show i + 1 - i = 1 by omega, drop_at hlt]; rfl
    have hfl : (noLf note i).length ≤ i := by
      have := List.length_filter_le (fun b : UInt8 => decide (b ≠ 10)) (note.take i)
      rw [List.length_take] at this
      show (List.filter _ _).length ≤ _
      omega
    have t10 : ((note[i].toNat : Int) = 10) = (note[i] = 10) := propext ⟨fun e => UInt8.toNat_inj.1 (by show note[i].toNat = 10; omega), fun e => by rw [e]; rfl⟩
    have ht : note.take (i + 1) = note.take i ++ [note[i]] := List.take_succ_eq_append_getElem hlt
    have sm : small ((noLf note i).length + 1) 1 := by unfold small; omega
    have hle : (i ≤ i + 1) = True := eq_true (by omega)
    simp only [kont_nil, kont_n, kont_e, kont_bn, kont_be, k_skip, k_exit, k_seq, k_block, k_cond, k_reg, r_nil, r_v, lpQ_n, lpQ_e, eget, lk, lkv, oks, AS.put, AS.keep, evk, evS_eq, allS, fillS, Opk.opds, isI, isInt, toI, isB, toB, isS, toS, icmp, iarith, bnd, bndI, nT, AVal.cells, Option.toList, List.length_cons, List.length_nil, List.filterMap, List.map_cons, List.map_nil, List.nil_append, List.cons_append, Option.map_some, reduceCtorEq, and_true, true_and, forall_const, Nat.reduceEqDiff, ↓reduceIte, Bool.false_eq_true, Nat.reduceAdd, Nat.reduceLeDiff, Nat.reduceMul, Nat.reduceLT, Int.reduceEq, List.set_cons_zero, List.set_cons_succ, List.replicate_succ, List.replicate_zero, isDiv, false_implies, implies_true, Nat.zero_add, Bool.not_eq_true', Bool.not_eq_false', decide_eq_true_eq, decide_eq_false_iff_not, ne_eq, not_false_eq_true, and_self, Nat.add_zero, Nat.add_assoc, decide_true, Int.ofNat_lt, hlt, List.getElem?_eq_getElem hlt, Option.getD_some, Int.toNat_natCast, Int.natCast_nonneg, e, Int.ofNat_le, hle, hone, sm, t10]
    have f1 : note[i] ≠ 10 → noLf note i ++ [note[i]] = noLf note (i + 1) := fun h => by rw [noLf, noLf, ht, List.filter_append]; simp [h]
    have f2 : note[i] = 10 → noLf note i = noLf note (i + 1) := fun h => by rw [noLf, noLf, ht, List.filter_append]; simp [h]
    exact ⟨fun h => ⟨hlt, .mk (i + 1) (by rw [f1 h]) hlt (by omega)⟩, fun h => .mk (i + 1) (by rw [← f2 h]) hlt (by omega)⟩
  · have hie : i = note.length := by omega
    subst hie
    simp only [kont_nil, kont_n, kont_e, kont_bn, kont_be, k_skip, k_exit, k_seq, k_block, k_cond, k_reg, r_nil, r_v, lpQ_n, lpQ_e, eget, lk, lkv, oks, AS.put, AS.keep, evk, evS_eq, allS, fillS, Opk.opds, isI, isInt, toI, isB, toB, isS, toS, icmp, iarith, bnd, bndI, nT, AVal.cells, Option.toList, List.length_cons, List.length_nil, List.filterMap, List.map_cons, List.map_nil, List.nil_append, List.cons_append, Option.map_some, reduceCtorEq, true_and, forall_const, Nat.reduceEqDiff, ↓reduceIte, Bool.false_eq_true, Nat.reduceAdd, Nat.reduceLeDiff, Nat.reduceMul, Nat.reduceLT, Int.reduceEq, List.set_cons_zero, List.set_cons_succ, List.replicate_succ, List.replicate_zero, isDiv, false_implies, implies_true, Nat.zero_add, Bool.not_eq_true', Bool.not_eq_false', decide_eq_true_eq, decide_eq_false_iff_not, ne_eq, not_false_eq_true, and_self, Nat.add_zero, Nat.add_assoc, decide_false, Int.ofNat_lt, hlt]
    have hwl : (noLf note note.length).length ≤ 100 := by
      have := List.length_filter_le (fun b : UInt8 => decide (b ≠ 10)) (note.take note.length)
      rw [List.take_length] at this
      show (List.filter _ _).length ≤ _
      rw [List.take_length]; omega
    have hwn : ∀ b ∈ noLf note note.length, b ≠ 10 := fun b hb => by simpa using (List.mem_filter.1 hb).2
    generalize noLf note note.length = w at hwl hwn
    have hgl : ∀ i, (gapI w us i).length ≤ 103 := fun i => by
      unfold gapI
      split
      · exact gap_len w hwl _
      · simp
    refine ⟨by unfold small; omega, by unfold small; omega, ?_⟩
    refine k_loop (fun v : V8 => ⟨[(0, true, .sl (.none 4) (l.map encK)), (1, true, .sl (.none 1) (us.map e8i)), (9, true, .sl (.exact 1) (spA w)), (10, true, .str (10 :: txtP (psP l (gapI w us) v.j))),
        (52, true, .sl (.none 4) (l.map encK)), (53, true, .int .i64 l.length), (54, true, .int .i64 v.j)], v.H, v.n⟩)
      (fun v => v.j ≤ l.length ∧ Fresh v.H v.n ∧ ∀ i (hi : i < l.length), i < v.j → validS l[i] = true) (fun v => l.length - v.j) ⟨0, hnil, 0⟩ (by rw [List.length_map]; rfl) ⟨Nat.zero_le _, fun _ _ => rfl, fun i _ hi => by simp only [] at hi; omega⟩ ?_
    rintro ⟨j, H, n⟩ ⟨hjl, hfr, hval⟩
    simp only at hjl hfr hval
    have htl := txt_len (l := l) hgl j hjl hval
    have oa : okT l = True := eq_true (by unfold okT; omega)
    have l1 : (l.length < 1000000000) = True := eq_true (by omega)
    by_cases hlt : j < l.length
    case neg =>
      have hje : j = l.length := by omega
      subst hje
      obtain ⟨n', vs, h1, h2⟩ := lx_txt (psP l (gapI w us) l.length) 1 fun p hp => by
        obtain ⟨i, hi, rfl⟩ := List.mem_map.1 hp
        have hi' := List.mem_range.1 hi
        refine ⟨by simp only [List.getElem?_eq_getElem hi', Option.getD_some]; exact hval i hi' hi', fun m a => ?_⟩
        simp only
        unfold gapI
        split
        · exact gap_blank hwn _ _ _
        · exact lx_sp (by decide)
      rw [psP_all] at h2
      have hs := lexV_lx (src := 10 :: txtP (psP l (gapI w us) l.length)) (by simp only [List.length_cons]; omega) ((lx_sp (by decide)).trans h1)
      have l2 : (10 :: txtP (psP l (gapI w us) l.length)).length < 1000000000 := by simp only [List.length_cons]; omega
      have l2' : ((txtP (psP l (gapI w us) l.length)).length + 1 < 1000000000) = True := eq_true (by omega)
      have l3 : vs.length = l.length := by simpa using congrArg List.length h2
      simp only [kont_nil, kont_n, kont_e, kont_r, kont_bn, kont_be, kont_br, k_skip, k_exit, k_ret, k_seq, k_block, k_cond, k_reg, r_nil, r_v, r_vg, r_pick, r_alloc, r_st, r_call, r_callg, stE, callT, lpQ_n, lpQ_e, lpQ_r, postC, rcs, rc1, rvS, gok, gvb, eget, lk, lkv, oks, AS.put, AS.keep, evk, evS_eq, allS, fillS, splice, Opk.opds, aload, isI, isInt, toI, isB, toB, isS, toS, sel, mk, icmp, iarith, nT, hget_hset, AVal.cells, Tok.esz, List.length_cons, List.length_nil, List.filterMap, List.map_cons, List.map_nil, List.append_nil, List.nil_append, List.cons_append, Option.map_some, reduceCtorEq, and_true, true_and, forall_const, Nat.reduceEqDiff, ↓reduceIte, Bool.false_eq_true, Nat.reduceAdd, List.drop, List.take, Nat.reduceLeDiff, Nat.reduceMul, Nat.reduceLT, Int.reduceEq, List.set_cons_zero, List.replicate_succ, List.replicate_zero, Nat.le_refl, Bool.and_true, beq_self_eq_true, isDiv, false_implies, implies_true, Nat.zero_add, Bool.not_eq_true', Bool.not_eq_false', decide_eq_true_eq, decide_eq_false_iff_not, ne_eq, not_false_eq_true, and_self, true_or, ret_eq, Nat.add_zero, Nat.add_assoc, wk_bool, decide_true, decide_false, cond_true, Int.ofNat_lt, hlt, TL_12, s12, l2', hs, List.getElem?_cons_zero, List.getElem?_cons_succ, Option.getD_some, TL_18, s2K, encdK_map, decK_map, List.length_map, l1, l3, sameT_bare.2 h2.symm]
    have e := w64_succ (k := j) (by omega)
    have hn3 := hfr (n + 3) (by omega)
    have hx : encdK [.agg [.int .i64 l[j].K, .str l[j].T, .int .i64 l[j].N, .int .i64 l[j].A]] = True := eq_true rfl
    by_cases hv : validS l[j] = true
    case neg =>
      have hv' : validS l[j] = false := by simpa using hv
      have ht : textV [⟨l[j].K, l[j].T, l[j].N, l[j].A⟩] = .tup [.str [], .int .i64 100] := by
        rw [textV, if_neg (by simp [hv'])]
      have htl : textV l = .tup [.str [], .int .i64 100] := by
        rw [textV, if_neg]
        intro hh
        have := List.all_eq_true.1 hh l[j] (List.getElem_mem hlt)
        rw [hv'] at this; cases this
      simp only [kont_nil, kont_n, kont_e, kont_r, kont_bn, kont_be, kont_br, k_skip, k_exit, k_ret, k_seq, k_block, k_cond, k_reg, r_nil, r_v, r_vg, r_pick, r_alloc, r_st, r_call, r_callg, stE, callT, lpQ_n, lpQ_e, lpQ_r, postC, rcs, rc1, rvS, gok, gvb, eget, lk, lkv, oks, AS.put, AS.keep, evk, evS_eq, allS, fillS, splice, Opk.opds, aload, isI, isInt, toI, isB, toB, isS, toS, sel, mk, icmp, iarith, nT, hget_hset, AVal.cells, Tok.esz, List.length_cons, List.length_nil, List.filterMap, List.map_cons, List.map_nil, List.append_nil, List.nil_append, List.cons_append, Option.map_some, reduceCtorEq, and_true, true_and, forall_const, Nat.reduceEqDiff, ↓reduceIte, Bool.false_eq_true, Nat.reduceAdd, List.drop, List.take, List.drop_succ_cons, List.take_succ_cons, Nat.reduceLeDiff, Nat.reduceMul, Nat.reduceLT, Int.reduceEq, List.set_cons_zero, List.replicate_succ, List.replicate_zero, Nat.le_refl, Bool.true_and, isDiv, false_implies, implies_true, Nat.zero_add, Bool.cond_false_right, imp_self, beq_true, Bool.not_eq_true', Bool.not_eq_false', Bool.and_eq_true, decide_eq_true_eq, decide_eq_false_iff_not, ne_eq, not_false_eq_true, impA1, and_self, true_or, or_false, ret_eq, Nat.add_zero, Nat.add_assoc, wk_bool, decide_true, decide_false, Int.ofNat_lt, hlt, List.getElem?_map, List.getElem?_eq_getElem hlt, Option.getD_some, Int.toNat_natCast, Int.natCast_nonneg, List.length_map, hn3, TL_16, s1K, hx, decK, okT_one, ht, List.getElem?_cons_zero, List.getElem?_cons_succ, encdK_map, decK_map, oa, htl]
    have ht : textV [⟨l[j].K, l[j].T, l[j].N, l[j].A⟩] = .tup [.str (wordS l[j]), .int .i64 0] := by
      rw [textV, if_pos (by simp [hv])]
      simp only [List.map_cons, List.map_nil, join_one]
    have hwl := word_len hv
    have nx : ∀ s g, gapI w us j = g → s = 10 :: (txtP (psP l (gapI w us) j) ++ (wordS l[j] ++ [32] ++ g)) → lpN (fun v : V8 => ⟨[(0, true, .sl (.none 4) (l.map encK)), (1, true, .sl (.none 1) (us.map e8i)), (9, true, .sl (.exact 1) (spA w)), (10, true, .str (10 :: txtP (psP l (gapI w us) v.j))),
        (52, true, .sl (.none 4) (l.map encK)), (53, true, .int .i64 l.length), (54, true, .int .i64 v.j)], v.H, v.n⟩)
        (fun v => v.j ≤ l.length ∧ Fresh v.H v.n ∧ ∀ i (hi : i < l.length), i < v.j → validS l[i] = true) (fun v => l.length - v.j) ⟨j, H, n⟩
        ⟨[(0, true, .sl (.none 4) (l.map encK)), (1, true, .sl (.none 1) (us.map e8i)), (9, true, .sl (.exact 1) (spA w)), (10, true, .str s), (52, true, .sl (.none 4) (l.map encK)), (53, true, .int .i64 l.length), (54, true, .int .i64 ((j + 1 : Nat) : Int))],
          hset (hset H (n + 3) (.box [.int .i64 0, .str [], .int .i64 0, .int .i64 0])) (n + 3) (.box [.int .i64 l[j].K, .str l[j].T, .int .i64 l[j].N, .int .i64 l[j].A]), n + 6⟩ := by
      rintro s g rfl rfl
      refine .mk ⟨j + 1, hset (hset H (n + 3) (.box [.int .i64 0, .str [], .int .i64 0, .int .i64 0])) (n + 3) (.box [.int .i64 l[j].K, .str l[j].T, .int .i64 l[j].N, .int .i64 l[j].A]), n + 6⟩ ?_ ⟨hlt, ?_, fun i hi hij => ?_⟩ (by simp only []; omega)
      · simp only [psP_succ hlt]
      · intro q hq
        simp only [] at hq
        simp only [hget_hset]
        repeat rw [if_neg (by omega)]
        exact hfr q (by omega)
      · by_cases q : i = j
        · subst q; exact hv
        · exact hval i hi (by simp only [] at hij; omega)
    by_cases hju : j < us.length
    · obtain ⟨m, hm⟩ : ∃ m : Nat, us[j] = m := ⟨us[j].toNat, by have := hu us[j] (List.getElem_mem hju); omega⟩
      have hm256 := hu us[j] (List.getElem_mem hju)
      have e5 : IntKind.wrap .i64 (m : Int) = m := w64_in (by omega) (by omega)
      have q8 : (spA w).length = 8 := rfl
      have e6 : (m : Int).tmod ((8 : Nat) : Int) = ((m % 8 : Nat) : Int) := by rw [Int.tmod_eq_emod_of_nonneg (by omega)]; omega
      have g8 := spA_at w (k := m % 8) (Nat.mod_lt _ (by omega))
      have m8 : ((m % 8 : Nat) : Int) < ((8 : Nat) : Int) := by omega
      have z8 : (((8 : Nat) : Int) = 0) = False := eq_false (by omega)
      have hgap : gapI w us j = gapL w (m % 8) := by
        rw [gapI, if_pos hju, List.getElem?_eq_getElem hju, Option.getD_some, hm]; rfl
      have hg3 := gap_len w (by assumption) (m % 8)
      simp only [kont_nil, kont_n, kont_e, kont_r, kont_bn, kont_be, kont_br, k_skip, k_exit, k_ret, k_seq, k_block, k_cond, k_reg, r_nil, r_v, r_vg, r_pick, r_alloc, r_st, r_call, r_callg, stE, callT, lpQ_n, lpQ_e, lpQ_r, postC, rcs, rc1, rvS, gok, gvb, eget, lk, lkv, oks, AS.put, AS.keep, evk, evS_eq, allS, fillS, splice, Opk.opds, aload, isI, isInt, toI, isB, toB, isS, toS, sel, mk, icmp, iarith, nT, hget_hset, AVal.cells, Tok.esz, List.length_cons, List.length_nil, List.filterMap, List.map_cons, List.map_nil, List.append_nil, List.nil_append, List.cons_append, Option.map_some, reduceCtorEq, and_true, true_and, forall_const, Nat.reduceEqDiff, ↓reduceIte, Bool.false_eq_true, Nat.reduceAdd, List.drop, List.take, List.drop_succ_cons, List.take_succ_cons, Nat.reduceLeDiff, Nat.reduceMul, Nat.reduceLT, Int.reduceEq, List.set_cons_zero, List.replicate_succ, List.replicate_zero, Nat.le_refl, List.headD_cons, Bool.true_and, isDiv, false_implies, implies_true, Nat.zero_add, Bool.cond_false_right, imp_self, beq_true, Bool.not_eq_true', Bool.not_eq_false', Bool.and_eq_true, decide_eq_true_eq, decide_eq_false_iff_not, ne_eq, not_false_eq_true, impA1, and_self, true_or, or_false, ret_eq, Nat.add_zero, Nat.add_assoc, wk_bool, decide_true, Int.ofNat_lt, hlt, hju, List.getElem?_map, List.getElem?_eq_getElem hlt, List.getElem?_eq_getElem hju, Option.getD_some, Int.toNat_natCast, Int.natCast_nonneg, List.length_map, hn3, TL_16, s1K, hx, decK, okT_one, ht, List.getElem?_cons_zero, List.getElem?_cons_succ, encdK_map, decK_map, e8i, hm, e, e5, q8, e6, g8, z8, m8]
      refine ⟨by unfold small; omega, by unfold small; simp only [List.length_append, List.length_cons, List.length_nil]; omega, by unfold small; simp only [List.length_append, List.length_cons, List.length_nil]; omega, nx _ _ hgap rfl⟩
    · simp only [kont_nil, kont_n, kont_e, kont_r, kont_bn, kont_be, kont_br, k_skip, k_exit, k_ret, k_seq, k_block, k_cond, k_reg, r_nil, r_v, r_vg, r_pick, r_alloc, r_st, r_call, r_callg, stE, callT, lpQ_n, lpQ_e, lpQ_r, postC, rcs, rc1, rvS, gok, gvb, eget, lk, lkv, oks, AS.put, AS.keep, evk, evS_eq, allS, fillS, splice, Opk.opds, aload, isI, isInt, toI, isB, toB, isS, toS, sel, mk, icmp, iarith, nT, hget_hset, AVal.cells, Tok.esz, List.length_cons, List.length_nil, List.filterMap, List.map_cons, List.map_nil, List.append_nil, List.nil_append, List.cons_append, Option.map_some, reduceCtorEq, and_true, true_and, forall_const, Nat.reduceEqDiff, ↓reduceIte, Bool.false_eq_true, Nat.reduceAdd, List.drop, List.take, List.drop_succ_cons, List.take_succ_cons, Nat.reduceLeDiff, Nat.reduceMul, Nat.reduceLT, Int.reduceEq, List.set_cons_zero, List.replicate_succ, List.replicate_zero, Nat.le_refl, Bool.true_and, isDiv, false_implies, implies_true, Nat.zero_add, Bool.cond_false_right, imp_self, beq_true, Bool.not_eq_true', Bool.not_eq_false', Bool.and_eq_true, decide_eq_true_eq, decide_eq_false_iff_not, ne_eq, not_false_eq_true, impA1, and_self, true_or, or_false, ret_eq, Nat.add_zero, Nat.add_assoc, wk_bool, decide_true, decide_false, Int.ofNat_lt, hlt, hju, List.getElem?_map, List.getElem?_eq_getElem hlt, Option.getD_some, Int.toNat_natCast, Int.natCast_nonneg, List.length_map, hn3, TL_16, s1K, hx, decK, okT_one, ht, List.getElem?_cons_zero, List.getElem?_cons_succ, encdK_map, decK_map, e]
      refine ⟨by unfold small; omega, by unfold small; simp only [List.length_append, List.length_cons, List.length_nil]; omega, by unfold small; simp only [List.length_append, List.length_cons, List.length_nil]; omega, nx _ [32] (by rw [gapI, if_neg hju]) rfl⟩
end Go.AM
end

/- Tokens: the law on places. Conditions: none. -/
section
set_option maxRecDepth 10000
set_option linter.unusedSimpArgs false
set_option linter.unusedVariables false
set_option linter.unusedVariables false
set_option linter.unusedSimpArgs false
namespace Go.AM
open Go.Proofs Go.Lib

/-- Where a comment that is open at a place ends. -/
def eC (src : List UInt8) (p : Nat) : Nat := p + ((src.drop p).takeWhile notLf).length
theorem eC_le {src : List UInt8} {p : Nat} (h : p ≤ src.length) : p ≤ eC src p ∧ eC src p ≤ src.length := by
  have := tw_len (p := notLf) (src.drop p)
  rw [List.length_drop] at this
  unfold eC; omega
theorem eC_lf {src : List UInt8} {p : Nat} (hlt : p < src.length) (h : src[p] = 10) : eC src p = p := by
  rw [eC, drop_at hlt, List.takeWhile_cons, if_neg (by rw [h]; decide)]; rfl
theorem eC_go {src : List UInt8} {p : Nat} (hlt : p < src.length) (h : src[p] ≠ 10) : eC src p = eC src (p + 1) := by
  rw [eC, eC, drop_at hlt, List.takeWhile_cons, if_pos (by simp [notLf, h]), List.length_cons]; omega
def LL (src : List UInt8) (N : Nat) (us : List Tkn) (q : Nat) : Prop := lx (src.drop q) q = .ok N us
theorem LL_A {src : List UInt8} {N q : Nat} {us : List Tkn} (h : LL src N us q) (hq : q ≤ src.length) : ∀ t ∈ us, (q : Int) ≤ t.A ∧ t.A < src.length := by
  intro t ht
  have := lx_A _ _ _ _ _ rfl h t ht
  rw [List.length_drop] at this
  omega
/-- What stands at a place at which the lexer steps. -/
theorem pl_step {src : List UInt8} {N i : Nat} {us : List Tkn} (h : LL src N us i) (hlt : i < src.length) :
    (∃ t us' kk, us = t :: us' ∧ t.A = i ∧ wordS t = (src.drop i).take kk ∧ 1 ≤ kk ∧ i + kk ≤ src.length ∧ validS t = true ∧ LL src N us' (i + kk)) ∨
    (spB src[i] = true ∧ LL src N us (i + 1)) ∨
    (src[i] = 47 ∧ src[i + 1]? = some 47 ∧ LL src N us (eC src i)) := by
  have hd := drop_at hlt
  have hne : src.drop i ≠ [] := by rw [hd]; exact List.cons_ne_nil _ _
  unfold LL at h
  cases hs : st1 (src.drop i) with
  | none => rw [lx_none hne hs] at h; cases h
  | some p =>
    obtain ⟨k, o⟩ := p
    obtain ⟨k1, k2⟩ := st1_pos hs
    rw [List.length_drop] at k2
    rw [lx_some hs, List.drop_drop] at h
    cases o with
    | some t =>
      left
      obtain ⟨v1, v2, v3⟩ := st1_tok hs
      cases hr : lx (src.drop (i + k)) (i + k) with
      | err e => rw [hr] at h; cases h
      | ok n' us' =>
        rw [hr] at h
        cases h
        exact ⟨_, us', k, rfl, rfl, v2, k1, by omega, v1, hr⟩
    | none =>
      right
      have h' : lx (src.drop (i + k)) (i + k) = .ok N us := h
      have hs0 := hs
      rw [hd] at hs
      simp only [st1] at hs
      by_cases q1 : spB src[i] = true
      · rw [if_pos q1] at hs
        cases hs
        exact .inl ⟨q1, h'⟩
      · right
        rw [if_neg q1] at hs
        by_cases q2 : letB src[i] = true
        · rw [if_pos q2] at hs; split at hs <;> cases hs
        · rw [if_neg q2] at hs
          by_cases q3 : digB src[i] = true
          · rw [if_pos q3] at hs; split at hs <;> cases hs
          · rw [if_neg q3] at hs
            by_cases q4 : src[i] = 47 ∧ (src.drop (i + 1)).head? = some 47
            · rw [if_pos q4] at hs
              cases hs
              refine ⟨q4.1, by rw [← List.head?_drop]; exact q4.2, ?_⟩
              unfold LL eC
              rw [hd]; exact h'
            · rw [if_neg q4] at hs; split at hs <;> cases hs
structure V6 where
  p : Nat
  c : Bool
/-- Between two tokens. -/
structure I6 (src : List UInt8) (N : Nat) (us : List Tkn) (i to : Nat) (v : V6) : Prop where
  lo : i ≤ v.p
  hi : v.p ≤ to
  off : v.c = false → LL src N us v.p
  on : v.c = true → LL src N us (eC src v.p)
/-- How far the white space goes. -/
structure Far (src : List UInt8) (us : List Tkn) (to : Nat) : Prop where
  le : to ≤ src.length
  at' : ∀ t us', us = t :: us' → t.A = to
  nil : us = [] → to = src.length
theorem Far.ge {src : List UInt8} {N to q : Nat} {us : List Tkn} (f : Far src us to) (h : LL src N us q) (hq : q ≤ src.length) : q ≤ to := by
  cases us with
  | nil => rw [f.nil rfl]; exact hq
  | cons t us' =>
    have := LL_A h hq t (List.mem_cons_self ..)
    have := f.at' t us' rfl
    omega
/-- One byte of the white space. -/
inductive ByteW (src : List UInt8) (N : Nat) (us : List Tkn) (to p : Nat) (hlt : p < src.length) : Bool → Prop where
  | lf (c : Bool) : src[p] = 10 → LL src N us (p + 1) → ByteW src N us to p hlt c
  | sp : src[p] ≠ 10 → src[p] ≠ 47 → spB src[p] = true → LL src N us (p + 1) → ByteW src N us to p hlt false
  | com : src[p] ≠ 10 → LL src N us (eC src (p + 1)) → ByteW src N us to p hlt true
  | two (h2 : p + 1 < src.length) : src[p] = 47 → src[p + 1] = 47 → p + 1 < to → LL src N us (eC src (p + 1)) → ByteW src N us to p hlt false
theorem I6.byte {src : List UInt8} {N i to : Nat} {us : List Tkn} {v : V6} (h : I6 src N us i to v) (f : Far src us to) (hp : v.p < to) : ∃ hlt : v.p < src.length, ByteW src N us to v.p hlt v.c := by
  obtain ⟨p, c⟩ := v
  obtain ⟨lo, hi, off, on⟩ := h
  simp only at lo hi off on hp ⊢
  have hlt : p < src.length := by have := f.le; omega
  refine ⟨hlt, ?_⟩
  have lf : src[p] = 10 → LL src N us p → LL src N us (p + 1) := fun e hL => by
    unfold LL at hL ⊢
    rw [drop_at hlt, e, lx_sp (by decide)] at hL; exact hL
  cases c with
  | true =>
    have hL := on rfl
    by_cases h10 : src[p] = 10
    · rw [eC_lf hlt h10] at hL; exact .lf _ h10 (lf h10 hL)
    · rw [eC_go hlt h10] at hL; exact .com h10 hL
  | false =>
    have hL := off rfl
    rcases pl_step hL hlt with ⟨t, us', kk, rfl, hA, -⟩ | ⟨hs, h2⟩ | ⟨h1, h2, h3⟩
    · have := f.at' t us' rfl
      omega
    · by_cases h10 : src[p] = 10
      · exact .lf _ h10 h2
      · exact .sp h10 (sp_not hs).2.2 hs h2
    · have h10 : src[p] ≠ 10 := by rw [h1]; decide
      have hlt2 : p + 1 < src.length := by
        rcases Nat.lt_or_ge (p + 1) src.length with q | q
        · exact q
        · rw [List.getElem?_eq_none q] at h2; cases h2
      rw [List.getElem?_eq_getElem hlt2] at h2
      have e2 := Option.some.inj h2
      rw [eC_go hlt h10] at h3
      have h102 : src[p + 1] ≠ 10 := by rw [e2]; decide
      have k1 := eC_le (src := src) (p := p + 2) (by omega)
      have k2 : eC src (p + 1) = eC src (p + 2) := eC_go hlt2 h102
      have k3 := f.ge h3 (by omega)
      exact .two hlt2 h1 e2 (by omega) h3
/-- At a token. -/
theorem I6.tok {src : List UInt8} {N i to : Nat} {us : List Tkn} {c : Bool} {t : Tkn} (h : I6 src N (t :: us) i to ⟨to, c⟩) (f : Far src (t :: us) to) :
    c = false ∧ ∃ kk, wordS t = (src.drop to).take kk ∧ 1 ≤ kk ∧ to + kk ≤ src.length ∧ validS t = true ∧ LL src N us (to + kk) := by
  obtain ⟨lo, hi, off, on⟩ := h
  simp only at lo hi off on
  have hA := f.at' t us rfl
  cases c with
  | true =>
    exfalso
    have hL := on rfl
    have k1 := eC_le (src := src) f.le
    have k2 := f.ge hL k1.2
    have hE : eC src to = to := by omega
    have hAl := LL_A hL k1.2 t (List.mem_cons_self ..)
    have hlt : to < src.length := by omega
    have h10 : src[to] = 10 := by
      refine Classical.byContradiction fun q => ?_
      rw [eC_go hlt q] at hE
      have := eC_le (src := src) (p := to + 1) (by omega)
      omega
    rw [hE] at hL
    unfold LL at hL
    rw [drop_at hlt, h10, lx_sp (by decide)] at hL
    have := LL_A (q := to + 1) hL (by omega) t (List.mem_cons_self ..)
    omega
  | false =>
    have hL := off rfl
    have hAl := LL_A hL f.le t (List.mem_cons_self ..)
    have hlt : to < src.length := by omega
    refine ⟨rfl, ?_⟩
    rcases pl_step hL hlt with ⟨t', us', kk, h1, h2, h3, h4, h5, h6, h7⟩ | ⟨hs, h2⟩ | ⟨h1, h2, h3⟩
    · cases h1; exact ⟨kk, h3, h4, h5, h6, h7⟩
    · have := LL_A h2 hlt t (List.mem_cons_self ..); omega
    · have h10 : src[to] ≠ 10 := by rw [h1]; decide
      rw [eC_go hlt h10] at h3
      have k1 := eC_le (src := src) (p := to + 1) (by omega)
      have := LL_A h3 k1.2 t (List.mem_cons_self ..)
      omega
end Go.AM
end

/- Tokens: the law on places, as the code computes it. Conditions: none. -/
section
set_option maxRecDepth 10000
set_option linter.unusedSimpArgs false
set_option linter.unusedVariables false
set_option linter.unusedVariables false
set_option linter.unusedSimpArgs false
namespace Go.AM
open Go.Proofs Go.Lib

structure O6 where
  i : Nat
  k : Nat
theorem p6 (src : List UInt8) : Pur Tryd.prog 6 [.str src] (.bool true) := by
  refine .mk ⟨trivial, trivial⟩ trivial (a6 (ev_awp TL_ok (ev_evK ?_)))
  by_cases h7 : 3000 < src.length
  · have c1 : ((3000 : Int) < src.length) = True := eq_true (by omega)
    simp only [kont_nil, kont_n, kont_r, k_skip, k_ret, k_seq, k_block, k_cond, k_reg, r_nil, r_v, r_call, callT, penv, postC, rcs, rc1, rvS, eget, lk, lkv, oks, AS.put, AS.keep, evk, Opk.opds, isI, toI, isB, toB, isS, toS, icmp, List.filterMap, List.map_cons, List.map_nil, List.append_nil, List.nil_append, Option.map_some, reduceCtorEq, and_true, true_and, forall_const, Nat.reduceEqDiff, ↓reduceIte, Bool.false_eq_true, false_implies, imp_self, Bool.not_eq_true', Bool.not_eq_false', decide_eq_true_eq, decide_eq_false_iff_not, and_self, ret_eq, Nat.add_zero, wk_bool, decide_true, c6, TL_11, s11, c1]
  have c1 : ((3000 : Int) < src.length) = False := eq_false (by omega)
  have hs9 : (src.length < 1000000000) = True := eq_true (by omega)
  rcases lx_total src 0 with ⟨N, ts, h⟩ | ⟨e, h⟩
  case inr =>
    have hs := lexV_lxe (by omega) h
    simp only [kont_nil, kont_n, kont_r, k_skip, k_ret, k_seq, k_block, k_cond, k_reg, r_nil, r_v, r_call, callT, penv, postC, rcs, rc1, rvS, eget, lk, lkv, oks, AS.put, AS.keep, evk, Opk.opds, isI, toI, isB, toB, isS, toS, icmp, List.length_cons, List.length_nil, List.filterMap, List.map_cons, List.map_nil, List.append_nil, List.nil_append, Option.map_some, reduceCtorEq, and_true, true_and, forall_const, Nat.reduceEqDiff, ↓reduceIte, Bool.false_eq_true, Nat.reduceAdd, Nat.reduceLT, Int.reduceEq, false_implies, implies_true, Nat.zero_add, imp_self, Bool.not_eq_true', Bool.not_eq_false', decide_eq_true_eq, and_self, ret_eq, Nat.add_zero, wk_bool, decide_false, c6, TL_11, s11, c1, TL_12, s12, hs9, hs, List.getElem?_cons_zero, List.getElem?_cons_succ, Option.getD_some]
    rfl
  have hs := lexV_lx (by omega) h
  obtain ⟨-, hva, -, hlen⟩ := lx_ok _ _ _ _ _ rfl h
  simp only [kont_nil, kont_n, kont_r, k_skip, k_ret, k_seq, k_block, k_cond, k_reg, r_nil, r_v, r_call, callT, penv, postC, rcs, rc1, rvS, eget, lk, lkv, oks, AS.put, AS.keep, evk, Opk.opds, isI, toI, isB, toB, isS, toS, icmp, List.length_cons, List.length_nil, List.filterMap, List.map_cons, List.map_nil, List.append_nil, List.nil_append, Option.map_some, reduceCtorEq, true_and, forall_const, Nat.reduceEqDiff, ↓reduceIte, Bool.false_eq_true, Nat.reduceAdd, Nat.reduceLT, false_implies, implies_true, Nat.zero_add, imp_self, Bool.not_eq_true', Bool.not_eq_false', decide_eq_true_eq, and_self, ret_eq, Nat.add_zero, wk_bool, decide_true, decide_false, c6, TL_11, s11, c1, TL_12, s12, hs9, hs, List.getElem?_cons_zero, List.getElem?_cons_succ, Option.getD_some]
  refine k_loop (fun v : O6 => ⟨[(0, true, .str src), (3, true, .sl (.none 4) (ts.map encK)), (6, true, .int .i64 v.i), (7, true, .int .i64 v.k)], hnil, 0⟩)
    (fun v => v.k ≤ ts.length ∧ v.i ≤ src.length ∧ LL src N (ts.drop v.k) v.i) (fun v => ts.length - v.k) ⟨0, 0⟩ rfl ⟨Nat.zero_le _, Nat.zero_le _, h⟩ ?_
  rintro ⟨i, k⟩ ⟨hk, hi, hL⟩
  simp only at hk hi hL
  obtain ⟨to, far⟩ : ∃ to, Far src (ts.drop k) to := by
    by_cases hkl : k < ts.length
    · have hd : ts.drop k = ts[k] :: ts.drop (k + 1) := List.drop_eq_getElem_cons hkl
      have := LL_A hL hi ts[k] (by rw [hd]; exact List.mem_cons_self ..)
      exact ⟨ts[k].A.toNat, ⟨by omega, fun t us' e => (by rw [hd] at e; cases e; omega), fun e => (by rw [hd] at e; cases e)⟩⟩
    · exact ⟨src.length, ⟨Nat.le_refl _, fun t us' e => (by rw [List.drop_eq_nil_of_le (by omega)] at e; cases e), fun _ => rfl⟩⟩
  have hge := far.ge hL hi
  have hkk : ((k : Int) ≤ ts.length) = True := eq_true (by omega)
  have hto := far.le
  have ek := w64_succ (k := k) (by omega)
  -- the white space
  have start : I6 src N (ts.drop k) i to ⟨i, false⟩ := ⟨Nat.le_refl _, hge, fun _ => hL, fun q => by cases q⟩
  by_cases hkl : k < ts.length
  · have hd : ts.drop k = ts[k] :: ts.drop (k + 1) := List.drop_eq_getElem_cons hkl
    have hA := far.at' _ _ hd
    have c2 : ((to : Int) < i) = False := eq_false (by omega)
    have c3 : ((src.length : Int) < to) = False := eq_false (by omega)
    simp only [kont_nil, kont_n, kont_e, kont_r, kont_be, kont_br, k_skip, k_exit, k_ret, k_seq, k_block, k_cond, k_reg, r_nil, r_v, r_vg, r_pick, lpQ_e, lpQ_r, postC, rcs, rc1, rvS, gok, gvb, eget, lk, lkv, oks, AS.put, AS.keep, evk, Opk.opds, aload, isI, isInt, toI, isB, toB, isS, toS, sel, mk, icmp, AVal.cells, Tok.esz, List.length_cons, List.length_nil, List.filterMap, Option.map_some, reduceCtorEq, and_true, true_and, forall_const, Nat.reduceEqDiff, ↓reduceIte, Bool.false_eq_true, List.drop, List.take, Nat.le_refl, List.headD_cons, Bool.true_and, Bool.and_true, beq_self_eq_true, false_implies, implies_true, Nat.zero_add, Bool.cond_true_left, imp_self, beq_false, Bool.not_eq_true', Bool.or_eq_true, Bool.or_eq_false_iff, decide_eq_true_eq, decide_eq_false_iff_not, and_self, ret_eq, Nat.add_zero, wk_bool, decide_true, decide_false, cond_false, List.length_map, hkk, Int.ofNat_lt, hkl, List.getElem?_map, List.getElem?_eq_getElem hkl, Option.getD_some, Int.toNat_natCast, Int.natCast_nonneg, hA, c2, c3]
    refine k_loop (fun v : V6 => ⟨[(0, true, .str src), (3, true, .sl (.none 4) (ts.map encK)), (6, true, .int .i64 v.p), (7, true, .int .i64 k), (8, true, .int .i64 to), (9, true, .bool v.c)], hnil, 0⟩)
      (I6 src N (ts.drop k) i to) (fun v => to - v.p) ⟨i, false⟩ rfl start ?_
    rintro ⟨p, c⟩ hI
    have hlo : i ≤ p := hI.lo
    have hhi : p ≤ to := hI.hi
    by_cases hpt : p < to
    · obtain ⟨hlt, hb⟩ := hI.byte far hpt
      simp only at hlt hb
      have ep := w64_succ (k := p) (by omega)
      have hg := List.getElem?_eq_getElem hlt
      cases hb with
      | lf _ h10 hn =>
        have t10 : ((src[p].toNat : Int) = 10) = True := eq_true (by rw [h10]; rfl)
        have hsp : isSp (src[p].toNat : Int) = true := by rw [h10]; rfl
        simp only [kont_nil, kont_n, kont_e, kont_r, kont_bn, kont_be, kont_br, k_skip, k_exit, k_ret, k_seq, k_block, k_cond, k_reg, r_nil, r_v, r_vg, r_pick, r_pickg, r_call, r_callg, callT, lpQ_n, lpQ_e, lpQ_r, postC, rcs, rc1, rvS, gok, gvb, eget, lk, lkv, oks, AS.put, AS.keep, evk, Opk.opds, aload, isI, isInt, toI, isB, toB, isS, toS, sel, mk, icmp, iarith, bnd, bndI, AVal.cells, Tok.esz, Option.toList, List.filterMap, List.map_cons, List.map_nil, List.append_nil, List.nil_append, List.cons_append, Option.map_some, reduceCtorEq, and_true, true_and, forall_const, Nat.reduceEqDiff, ↓reduceIte, Bool.false_eq_true, Int.reduceEq, Bool.true_and, Bool.and_true, beq_self_eq_true, isDiv, false_implies, implies_true, Bool.cond_true_left, Bool.cond_false_right, imp_self, beq_true, beq_false, Bool.not_eq_true', Bool.or_eq_true, Bool.or_eq_false_iff, Bool.and_eq_true, decide_eq_true_eq, decide_eq_false_iff_not, ne_eq, not_false_eq_true, impA1, and_self, ret_eq, Nat.add_zero, wk_bool, decide_true, Bool.false_and, Bool.and_false, cond_true, cond_false, Int.ofNat_lt, hpt, hlt, hg, Option.getD_some, Int.toNat_natCast, Int.natCast_nonneg, ep, t10, hsp, TL_22, sB, u8_lt, Bool.not_true, Bool.not_false, false_and, and_false]
        exact .mk ⟨p + 1, false⟩ rfl ⟨by simp only []; omega, by simp only []; omega, fun _ => hn, fun q => by cases q⟩ (by simp only []; omega)
      | sp h10 h47 hsp hn =>
        have t10 : ((src[p].toNat : Int) = 10) = False := eq_false fun q => h10 (UInt8.toNat_inj.1 (by show src[p].toNat = 10; omega))
        have t47 : ((src[p].toNat : Int) = 47) = False := eq_false fun q => h47 (UInt8.toNat_inj.1 (by show src[p].toNat = 47; omega))
        have hsp' : isSp (src[p].toNat : Int) = true := hsp
        simp only [kont_nil, kont_n, kont_e, kont_r, kont_bn, kont_be, kont_br, k_skip, k_exit, k_ret, k_seq, k_block, k_cond, k_reg, r_nil, r_v, r_vg, r_pick, r_pickg, r_call, r_callg, callT, lpQ_n, lpQ_e, lpQ_r, postC, rcs, rc1, rvS, gok, gvb, eget, lk, lkv, oks, AS.put, AS.keep, evk, Opk.opds, aload, isI, isInt, toI, isB, toB, isS, toS, sel, mk, icmp, iarith, bnd, bndI, AVal.cells, Tok.esz, Option.toList, List.filterMap, List.map_cons, List.map_nil, List.append_nil, List.nil_append, List.cons_append, Option.map_some, reduceCtorEq, and_true, true_and, forall_const, Nat.reduceEqDiff, ↓reduceIte, Bool.false_eq_true, Int.reduceEq, Bool.true_and, Bool.and_true, beq_self_eq_true, isDiv, false_implies, implies_true, Bool.cond_true_left, imp_self, beq_true, beq_false, Bool.not_eq_true', Bool.or_eq_true, Bool.or_eq_false_iff, decide_eq_true_eq, decide_eq_false_iff_not, ne_eq, not_false_eq_true, impA1, and_self, ret_eq, Nat.add_zero, wk_bool, decide_true, decide_false, Bool.and_false, cond_true, cond_false, Int.ofNat_lt, hpt, hlt, hg, Option.getD_some, Int.toNat_natCast, Int.natCast_nonneg, ep, t10, t47, hsp', TL_22, sB, u8_lt, Bool.not_true, Bool.not_false, false_and, and_false]
        exact .mk ⟨p + 1, false⟩ rfl ⟨by simp only []; omega, by simp only []; omega, fun _ => hn, fun q => by cases q⟩ (by simp only []; omega)
      | com h10 hn =>
        have t10 : ((src[p].toNat : Int) = 10) = False := eq_false fun q => h10 (UInt8.toNat_inj.1 (by show src[p].toNat = 10; omega))
        simp only [kont_nil, kont_n, kont_e, kont_r, kont_bn, kont_be, kont_br, k_skip, k_exit, k_ret, k_seq, k_block, k_cond, k_reg, r_nil, r_v, r_vg, r_pick, r_pickg, r_call, r_callg, callT, lpQ_n, lpQ_e, lpQ_r, postC, rcs, rc1, rvS, gok, gvb, eget, lk, lkv, oks, AS.put, AS.keep, evk, Opk.opds, aload, isI, isInt, toI, isB, toB, isS, toS, sel, mk, icmp, iarith, bnd, bndI, AVal.cells, Tok.esz, Option.toList, List.filterMap, List.map_cons, List.map_nil, List.append_nil, List.nil_append, List.cons_append, Option.map_some, reduceCtorEq, and_true, true_and, forall_const, Nat.reduceEqDiff, ↓reduceIte, Bool.false_eq_true, Int.reduceEq, Bool.and_true, beq_self_eq_true, isDiv, false_implies, implies_true, Bool.cond_false_right, imp_self, beq_true, beq_false, Bool.and_eq_true, decide_eq_true_eq, decide_eq_false_iff_not, ne_eq, not_false_eq_true, and_self, ret_eq, Nat.add_zero, wk_bool, decide_true, decide_false, Bool.false_and, Bool.and_false, cond_true, cond_false, Int.ofNat_lt, hpt, hlt, hg, Option.getD_some, Int.toNat_natCast, Int.natCast_nonneg, ep, t10, TL_22, sB, u8_lt, Bool.not_true, Bool.not_false, false_and, and_false]
        exact .mk ⟨p + 1, true⟩ rfl ⟨by simp only []; omega, by simp only []; omega, fun q => (by cases q), fun _ => hn⟩ (by simp only []; omega)
      | two hlt2 h47 h472 hpt2 hn =>
        have t10 : ((src[p].toNat : Int) = 10) = False := eq_false (by rw [h47]; decide)
        have t47 : ((src[p].toNat : Int) = 47) = True := eq_true (by rw [h47]; rfl)
        have t472 : ((src[p + 1].toNat : Int) = 47) = True := eq_true (by rw [h472]; rfl)
        simp only [kont_nil, kont_n, kont_e, kont_r, kont_bn, kont_be, kont_br, k_skip, k_exit, k_ret, k_seq, k_block, k_cond, k_reg, r_nil, r_v, r_vg, r_pick, r_pickg, r_call, r_callg, callT, lpQ_n, lpQ_e, lpQ_r, postC, rcs, rc1, rvS, gok, gvb, eget, lk, lkv, oks, AS.put, AS.keep, evk, Opk.opds, aload, isI, isInt, toI, isB, toB, isS, toS, sel, mk, icmp, iarith, bnd, bndI, AVal.cells, Tok.esz, Option.toList, List.filterMap, List.map_cons, List.map_nil, List.append_nil, List.nil_append, List.cons_append, Option.map_some, reduceCtorEq, and_true, true_and, forall_const, Nat.reduceEqDiff, ↓reduceIte, Bool.false_eq_true, Int.reduceEq, Bool.true_and, Bool.and_true, beq_self_eq_true, isDiv, false_implies, implies_true, Bool.cond_true_left, imp_self, beq_true, beq_false, Bool.not_eq_true', Bool.or_eq_true, Bool.or_eq_false_iff, decide_eq_true_eq, decide_eq_false_iff_not, ne_eq, not_false_eq_true, impA1, and_self, ret_eq, Nat.add_zero, wk_bool, decide_true, decide_false, Bool.and_false, cond_true, cond_false, Int.ofNat_lt, hpt, hlt, hg, hlt2, hpt2, List.getElem?_eq_getElem hlt2, Option.getD_some, Int.toNat_natCast, Int.natCast_nonneg, ep, t10, t47, t472, TL_22, sB, u8_lt, Bool.not_true, Bool.not_false, and_false]
        exact .mk ⟨p + 1, true⟩ rfl ⟨by simp only []; omega, by simp only []; omega, fun q => (by cases q), fun _ => hn⟩ (by simp only []; omega)
    · have hpe : p = to := by omega
      subst hpe
      rw [hd] at hI far
      obtain ⟨rfl, kk, w1, w2, w3, w4, w5⟩ := hI.tok far
      have hwl : (wordS ts[k]).length = kk := by rw [w1, List.length_take, List.length_drop]; omega
      have hkn : ((k : Int) = ts.length) = False := eq_false (by omega)
      have hw0 : (((wordS ts[k]).length : Int) = 0) = False := eq_false (by omega)
      have ew : IntKind.wrap .i64 ((p : Int) + (wordS ts[k]).length) = ((p + kk : Nat) : Int) := by rw [hwl, w64_in (by omega) (by omega)]; rfl
      have hwt : ((src.length : Int) < ((p + kk : Nat) : Int)) = False := eq_false (by omega)
      have hsl : (src.take (p + kk)).drop p = wordS ts[k] := by rw [List.drop_take, show p + kk - p = kk by omega, w1]
      have hle : (p ≤ p + kk) = True := eq_true (by omega)
      have hle2 : (p + kk ≤ src.length) = True := eq_true w3
      have hsv : ts[k].K = 2 → 0 ≤ ts[k].N ∧ ts[k].N ≤ 1099511627776 := fun q => valid_num w4 q
      simp only [kont_nil, kont_n, kont_e, kont_r, kont_bn, kont_be, kont_br, k_skip, k_exit, k_ret, k_seq, k_block, k_cond, k_reg, r_nil, r_v, r_vg, r_pick, r_pickg, r_call, r_callg, callT, lpQ_n, lpQ_e, lpQ_r, postC, rcs, rc1, rvS, gok, gvb, eget, lk, lkv, oks, AS.put, AS.keep, evk, Opk.opds, aload, isI, isInt, toI, isB, toB, isS, toS, sel, mk, icmp, iarith, bnd, bndI, AVal.cells, Tok.esz, Option.toList, List.length_cons, List.length_nil, List.filterMap, List.map_cons, List.map_nil, List.append_nil, List.nil_append, List.cons_append, Option.map_some, reduceCtorEq, and_true, true_and, forall_const, Nat.reduceEqDiff, ↓reduceIte, Bool.false_eq_true, Nat.reduceAdd, List.take, Int.reduceEq, Nat.le_refl, Bool.true_and, Bool.and_true, beq_self_eq_true, isDiv, false_implies, implies_true, Nat.zero_add, Bool.cond_false_right, imp_self, beq_true, Bool.not_eq_true', Bool.not_eq_false', Bool.and_eq_true, decide_eq_true_eq, decide_eq_false_iff_not, ne_eq, not_false_eq_true, impA1, impA2, and_self, ret_eq, Nat.add_zero, wk_bool, decide_true, decide_false, cond_false, Int.ofNat_lt, Int.ofNat_le, Nat.lt_irrefl, List.length_map, hkn, hkl, List.getElem?_map, List.getElem?_eq_getElem hkl, Option.getD_some, Int.toNat_natCast, Int.natCast_nonneg, TL_23, s23, hw0, ew, hwt, hle, hle2, hsl, scmp_neq, ek]
      exact ⟨hsv, .mk ⟨p + kk, k + 1⟩ rfl ⟨hkl, w3, w5⟩ (by simp only []; omega)⟩
  · have c2 : ((src.length : Int) < i) = False := eq_false (by omega)
    have hte : to = src.length := far.nil (List.drop_eq_nil_of_le (by omega))
    simp only [kont_nil, kont_n, kont_e, kont_r, kont_be, kont_br, k_skip, k_exit, k_ret, k_seq, k_block, k_cond, k_reg, r_nil, r_v, r_vg, r_pick, lpQ_e, lpQ_r, postC, rcs, rc1, rvS, gok, gvb, eget, lk, lkv, oks, AS.put, AS.keep, evk, Opk.opds, aload, isI, isInt, toI, isB, toB, isS, toS, sel, mk, icmp, AVal.cells, Tok.esz, List.filterMap, Option.map_some, reduceCtorEq, and_true, true_and, forall_const, Nat.reduceEqDiff, ↓reduceIte, Bool.false_eq_true, Bool.true_and, Bool.and_true, beq_self_eq_true, false_implies, implies_true, Bool.cond_true_left, imp_self, beq_false, Bool.not_eq_true', Bool.or_eq_true, Bool.or_eq_false_iff, decide_eq_true_eq, decide_eq_false_iff_not, impA1, and_self, ret_eq, Nat.add_zero, wk_bool, decide_true, decide_false, cond_false, List.length_map, hkk, Int.ofNat_lt, hkl, c2, Int.lt_irrefl]
    refine k_loop (fun v : V6 => ⟨[(0, true, .str src), (3, true, .sl (.none 4) (ts.map encK)), (6, true, .int .i64 v.p), (7, true, .int .i64 k), (8, true, .int .i64 to), (9, true, .bool v.c)], hnil, 0⟩)
      (I6 src N (ts.drop k) i to) (fun v => to - v.p) ⟨i, false⟩ (by rw [hte]) start ?_
    rintro ⟨p, c⟩ hI
    have hlo : i ≤ p := hI.lo
    have hhi : p ≤ to := hI.hi
    by_cases hpt : p < to
    · obtain ⟨hlt, hb⟩ := hI.byte far hpt
      simp only at hlt hb
      have ep := w64_succ (k := p) (by omega)
      have hg := List.getElem?_eq_getElem hlt
      cases hb with
      | lf _ h10 hn =>
        have t10 : ((src[p].toNat : Int) = 10) = True := eq_true (by rw [h10]; rfl)
        have hsp : isSp (src[p].toNat : Int) = true := by rw [h10]; rfl
        simp only [kont_nil, kont_n, kont_e, kont_r, kont_bn, kont_be, kont_br, k_skip, k_exit, k_ret, k_seq, k_block, k_cond, k_reg, r_nil, r_v, r_vg, r_pick, r_pickg, r_call, r_callg, callT, lpQ_n, lpQ_e, lpQ_r, postC, rcs, rc1, rvS, gok, gvb, eget, lk, lkv, oks, AS.put, AS.keep, evk, Opk.opds, aload, isI, isInt, toI, isB, toB, isS, toS, sel, mk, icmp, iarith, bnd, bndI, AVal.cells, Tok.esz, Option.toList, List.filterMap, List.map_cons, List.map_nil, List.append_nil, List.nil_append, List.cons_append, Option.map_some, reduceCtorEq, and_true, true_and, forall_const, Nat.reduceEqDiff, ↓reduceIte, Bool.false_eq_true, Int.reduceEq, Bool.true_and, Bool.and_true, beq_self_eq_true, isDiv, false_implies, implies_true, Bool.cond_true_left, Bool.cond_false_right, imp_self, beq_true, beq_false, Bool.not_eq_true', Bool.or_eq_true, Bool.or_eq_false_iff, Bool.and_eq_true, decide_eq_true_eq, decide_eq_false_iff_not, ne_eq, not_false_eq_true, impA1, and_self, ret_eq, Nat.add_zero, wk_bool, decide_true, Bool.false_and, Bool.and_false, cond_true, cond_false, Int.ofNat_lt, hpt, hlt, hg, Option.getD_some, Int.toNat_natCast, Int.natCast_nonneg, ep, t10, hsp, TL_22, sB, u8_lt, Bool.not_true, Bool.not_false, false_and, and_false]
        exact .mk ⟨p + 1, false⟩ rfl ⟨by simp only []; omega, by simp only []; omega, fun _ => hn, fun q => by cases q⟩ (by simp only []; omega)
      | sp h10 h47 hsp hn =>
        have t10 : ((src[p].toNat : Int) = 10) = False := eq_false fun q => h10 (UInt8.toNat_inj.1 (by show src[p].toNat = 10; omega))
        have t47 : ((src[p].toNat : Int) = 47) = False := eq_false fun q => h47 (UInt8.toNat_inj.1 (by show src[p].toNat = 47; omega))
        have hsp' : isSp (src[p].toNat : Int) = true := hsp
        simp only [kont_nil, kont_n, kont_e, kont_r, kont_bn, kont_be, kont_br, k_skip, k_exit, k_ret, k_seq, k_block, k_cond, k_reg, r_nil, r_v, r_vg, r_pick, r_pickg, r_call, r_callg, callT, lpQ_n, lpQ_e, lpQ_r, postC, rcs, rc1, rvS, gok, gvb, eget, lk, lkv, oks, AS.put, AS.keep, evk, Opk.opds, aload, isI, isInt, toI, isB, toB, isS, toS, sel, mk, icmp, iarith, bnd, bndI, AVal.cells, Tok.esz, Option.toList, List.filterMap, List.map_cons, List.map_nil, List.append_nil, List.nil_append, List.cons_append, Option.map_some, reduceCtorEq, and_true, true_and, forall_const, Nat.reduceEqDiff, ↓reduceIte, Bool.false_eq_true, Int.reduceEq, Bool.true_and, Bool.and_true, beq_self_eq_true, isDiv, false_implies, implies_true, Bool.cond_true_left, imp_self, beq_true, beq_false, Bool.not_eq_true', Bool.or_eq_true, Bool.or_eq_false_iff, decide_eq_true_eq, decide_eq_false_iff_not, ne_eq, not_false_eq_true, impA1, and_self, ret_eq, Nat.add_zero, wk_bool, decide_true, decide_false, Bool.and_false, cond_true, cond_false, Int.ofNat_lt, hpt, hlt, hg, Option.getD_some, Int.toNat_natCast, Int.natCast_nonneg, ep, t10, t47, hsp', TL_22, sB, u8_lt, Bool.not_true, Bool.not_false, false_and, and_false]
        exact .mk ⟨p + 1, false⟩ rfl ⟨by simp only []; omega, by simp only []; omega, fun _ => hn, fun q => by cases q⟩ (by simp only []; omega)
      | com h10 hn =>
        have t10 : ((src[p].toNat : Int) = 10) = False := eq_false fun q => h10 (UInt8.toNat_inj.1 (by show src[p].toNat = 10; omega))
        simp only [kont_nil, kont_n, kont_e, kont_r, kont_bn, kont_be, kont_br, k_skip, k_exit, k_ret, k_seq, k_block, k_cond, k_reg, r_nil, r_v, r_vg, r_pick, r_pickg, r_call, r_callg, callT, lpQ_n, lpQ_e, lpQ_r, postC, rcs, rc1, rvS, gok, gvb, eget, lk, lkv, oks, AS.put, AS.keep, evk, Opk.opds, aload, isI, isInt, toI, isB, toB, isS, toS, sel, mk, icmp, iarith, bnd, bndI, AVal.cells, Tok.esz, Option.toList, List.filterMap, List.map_cons, List.map_nil, List.append_nil, List.nil_append, List.cons_append, Option.map_some, reduceCtorEq, and_true, true_and, forall_const, Nat.reduceEqDiff, ↓reduceIte, Bool.false_eq_true, Int.reduceEq, Bool.and_true, beq_self_eq_true, isDiv, false_implies, implies_true, Bool.cond_false_right, imp_self, beq_true, beq_false, Bool.and_eq_true, decide_eq_true_eq, decide_eq_false_iff_not, ne_eq, not_false_eq_true, and_self, ret_eq, Nat.add_zero, wk_bool, decide_true, decide_false, Bool.false_and, Bool.and_false, cond_true, cond_false, Int.ofNat_lt, hpt, hlt, hg, Option.getD_some, Int.toNat_natCast, Int.natCast_nonneg, ep, t10, TL_22, sB, u8_lt, Bool.not_true, Bool.not_false, false_and, and_false]
        exact .mk ⟨p + 1, true⟩ rfl ⟨by simp only []; omega, by simp only []; omega, fun q => (by cases q), fun _ => hn⟩ (by simp only []; omega)
      | two hlt2 h47 h472 hpt2 hn =>
        have t10 : ((src[p].toNat : Int) = 10) = False := eq_false (by rw [h47]; decide)
        have t47 : ((src[p].toNat : Int) = 47) = True := eq_true (by rw [h47]; rfl)
        have t472 : ((src[p + 1].toNat : Int) = 47) = True := eq_true (by rw [h472]; rfl)
        simp only [kont_nil, kont_n, kont_e, kont_r, kont_bn, kont_be, kont_br, k_skip, k_exit, k_ret, k_seq, k_block, k_cond, k_reg, r_nil, r_v, r_vg, r_pick, r_pickg, r_call, r_callg, callT, lpQ_n, lpQ_e, lpQ_r, postC, rcs, rc1, rvS, gok, gvb, eget, lk, lkv, oks, AS.put, AS.keep, evk, Opk.opds, aload, isI, isInt, toI, isB, toB, isS, toS, sel, mk, icmp, iarith, bnd, bndI, AVal.cells, Tok.esz, Option.toList, List.filterMap, List.map_cons, List.map_nil, List.append_nil, List.nil_append, List.cons_append, Option.map_some, reduceCtorEq, and_true, true_and, forall_const, Nat.reduceEqDiff, ↓reduceIte, Bool.false_eq_true, Int.reduceEq, Bool.true_and, Bool.and_true, beq_self_eq_true, isDiv, false_implies, implies_true, Bool.cond_true_left, imp_self, beq_true, beq_false, Bool.not_eq_true', Bool.or_eq_true, Bool.or_eq_false_iff, decide_eq_true_eq, decide_eq_false_iff_not, ne_eq, not_false_eq_true, impA1, and_self, ret_eq, Nat.add_zero, wk_bool, decide_true, decide_false, Bool.and_false, cond_true, cond_false, Int.ofNat_lt, hpt, hlt, hg, hlt2, hpt2, List.getElem?_eq_getElem hlt2, Option.getD_some, Int.toNat_natCast, Int.natCast_nonneg, ep, t10, t47, t472, TL_22, sB, u8_lt, Bool.not_true, Bool.not_false, and_false]
        exact .mk ⟨p + 1, true⟩ rfl ⟨by simp only []; omega, by simp only []; omega, fun q => (by cases q), fun _ => hn⟩ (by simp only []; omega)
    · have hpe : p = to := by omega
      subst hpe
      have hkn : ((k : Int) = ts.length) = True := eq_true (by omega)
      simp only [kont_nil, kont_n, kont_e, kont_r, kont_bn, kont_be, kont_br, k_skip, k_exit, k_ret, k_seq, k_block, k_cond, k_reg, r_nil, r_v, r_vg, r_pick, r_pickg, r_call, r_callg, callT, lpQ_n, lpQ_e, lpQ_r, postC, rcs, rc1, rvS, gok, gvb, eget, lk, lkv, oks, AS.put, AS.keep, evk, Opk.opds, aload, isI, isInt, toI, isB, toB, isS, toS, sel, mk, icmp, iarith, bnd, bndI, AVal.cells, Tok.esz, Option.toList, List.filterMap, List.map_cons, List.map_nil, List.append_nil, List.nil_append, List.cons_append, Option.map_some, reduceCtorEq, and_true, true_and, forall_const, Nat.reduceEqDiff, ↓reduceIte, Bool.false_eq_true, Int.reduceEq, Bool.true_and, isDiv, false_implies, implies_true, Bool.cond_true_left, Bool.cond_false_right, imp_self, beq_true, beq_false, Bool.not_eq_true', Bool.not_eq_false', Bool.or_eq_true, Bool.or_eq_false_iff, Bool.and_eq_true, decide_eq_true_eq, decide_eq_false_iff_not, ne_eq, not_false_eq_true, impA1, impA2, and_self, ret_eq, Nat.add_zero, wk_bool, decide_true, decide_false, Int.ofNat_lt, Nat.lt_irrefl, List.length_map, hkn]
end Go.AM
end

/- Tokens: from the rows to the abstract machine. Conditions: none. -/
section
set_option maxRecDepth 10000
set_option linter.unusedSimpArgs false
set_option linter.unusedVariables false
set_option linter.unusedVariables false
set_option linter.unusedSimpArgs false
namespace Go.AM
open Go.Proofs Go.Lib Go.ChangeShapes Go.WideShapes Go.ChangeAt Go.WideMaps Go.WideElems Go.RowKit

theorem own : ownKnob Tryd.prog.godebug = none := by kernel_rfl
abbrev laid3 : List (String × DataW Unit) := Go.Proofs.YtbejhipicmoobaaDoor.Rows.lexSpecRow.laid
theorem gPow : Tryd.prog.globalNamed ((laid3[2]?.map (·.1)).getD "") = some 3 := by kernel_rfl
theorem gRng : Tryd.prog.globalNamed ((laid3[3]?.map (·.1)).getD "") = some 1 := by kernel_rfl
theorem gSyn : Tryd.prog.globalNamed ((laid3[4]?.map (·.1)).getD "") = some 0 := by kernel_rfl
theorem door_met (os : Os) (args : Array Value) : laidMetH Tryd.prog laid3 ((World.doorLaid Tryd.prog 400 os).forCall (fun _ _ => 0) ⟨#[], args, []⟩).memory :=
  laidMetH_of_parts3 (fuel := 8) (laidMet_of_run' 8 (by kernel_rfl) (by kernel_rfl)) (by kernel_rfl) (by kernel_rfl)
theorem starE : "*" ++ "errors.errorString" = "*errors.errorString" := by decide
theorem row106 (u : TypeId) (h : Tryd.prog.typeName? 3 u = some "*errors.errorString") : u = 106 :=
  typeName_ptr_named (nm := "errors.errorString") (by rw [starE]; kernel_rfl) (by kernel_rfl) (by decide) u (by rw [starE]; exact h)
theorem spot_of {W : World} {a : Addr} (h : Value.okWide Tryd.prog W .any 0 106 (.pointer (some a))) : a.spot = none := by
  unfold Value.okWide at h
  simp only [Tryd.underlying106] at h
  unfold Cell.okWide at h
  simp only [Tryd.underlying106, Cell.ok] at h
  exact h.2.1
def pow10 : List Int := [1, 10, 100, 1000, 10000, 100000, 1000000, 10000000, 100000000, 1000000000, 10000000000, 100000000000, 1000000000000, 10000000000000, 100000000000000, 1000000000000000, 10000000000000000, 100000000000000000, 1000000000000000000, 10000000000000000000]
/-- A variable that holds an error of the library. -/
theorem pstab_err {W : World} {gi fuel : Nat} {cs : Array Value} {text : List UInt8} {p : List MemPlace} {nm : String} (hnm : nm = "*errors.errorString") (hcell : ∀ off, W.cell? ⟨gi, off, none⟩ = cs[off]?)
    (h : DataW.trod (fun _ => ()) Tryd.prog W 0 (fun _ => true) false fuel 61 cs.toList = some (.iface nm (.ptr (.agg [.lit (.string text)])), p))
    (hok : ∀ u v, cs.toList = [.iface u v] → Value.okWide Tryd.prog W .any 0 u v) : PStab (gW W) ((gW W).σ gi) 0 [.ifc 106 (.ep [.str text])] ∧ cs.size = 1 := by
  subst hnm
  obtain ⟨a, s, e1, e2, e3, _, _⟩ := errorString_of_trod Tryd.underlying61 row106 Tryd.underlying106 Tryd.underlying108 rfl rfl Tryd.underlying9 (by kernel_rfl) (by kernel_rfl) h hok
  have hsp := spot_of (hok _ _ e1)
  obtain ⟨b, o, sp⟩ := a
  have hsp' : sp = none := hsp
  subst hsp'
  have hc0 : cs[0]? = some (.iface 106 (.pointer (some ⟨b, o, none⟩))) := by
    rw [← Array.getElem?_toList, e1]; rfl
  refine ⟨⟨⟨_, (hcell 0).trans hc0, ⟨_, rfl, b, o, rfl, ⟨_, e2, ?_, rfl⟩, trivial⟩, rfl⟩, trivial⟩, by rw [← Array.length_toList, e1]; rfl⟩
  show Value.string s = Value.string ⟨text.toArray⟩
  rw [← e3]
theorem var_cells {W : World} {n : String} {g : Nat} {cs : Array Value} (hg : Tryd.prog.globalNamed n = some g) (h : W.var? Tryd.prog n = some cs) : ∃ e fz, W.heap[g]? = some (.cells cs e fz) := by
  simp only [World.var?, hg, Option.bind_some] at h
  split at h
  · rename_i c e fz hh
    cases h; exact ⟨e, fz, hh⟩
  · cases h
theorem glob_all {W : World} (h : laidMetH Tryd.prog laid3 W) : GlobOK (gW W) ∧ GlobZ W := by
  rw [MakeChecks.laidMetH_plain _ _ _ (by kernel_rfl)] at h
  obtain ⟨ps, ⟨g0, t0, cs0, f0, p0, q0, hg0, ht0, hv0, hd0, ⟨g1, t1, cs1, f1, p1, q1, hg1, ht1, hv1, hd1, ⟨g2, t2, cs2, f2, p2, q2, hg2, ht2, hv2, hd2, ⟨g3, t3, cs3, f3, p3, q3, hg3, ht3, hv3, hd3, ⟨g4, t4, cs4, f4, p4, q4, hg4, ht4, hv4, hd4, z4, w4⟩, w3⟩, w2⟩, w1⟩, w0⟩, hnd, hrows⟩ := h
  obtain rfl := Option.some.inj (gPow.symm.trans hg2)
  obtain rfl := Option.some.inj (gRng.symm.trans hg3)
  obtain rfl := Option.some.inj (gSyn.symm.trans hg4)
  obtain rfl := Option.some.inj ((show (Tryd.prog.globals[3]?).map (·.type) = some 100 by kernel_rfl).symm.trans ht2)
  obtain rfl := Option.some.inj ((show (Tryd.prog.globals[1]?).map (·.type) = some 61 by kernel_rfl).symm.trans ht3)
  obtain rfl := Option.some.inj ((show (Tryd.prog.globals[0]?).map (·.type) = some 61 by kernel_rfl).symm.trans ht4)
  have c2 := fun off => World.var?_cell hg2 hv2 off
  have c3 := fun off => World.var?_cell hg3 hv3 off
  have c4 := fun off => World.var?_cell hg4 hv4 off
  have ok3 : ∀ u v, cs3.toList = [.iface u v] → Value.okWide Tryd.prog W .any 0 u v := fun u v e => by
    have hs : cs3.size = 1 := by rw [← Array.length_toList, e]; rfl
    refine (hrows 1 0 (by rw [w0, w1, w2, w3, hs]; simp [MemPlace.row])).2 u v ?_
    rw [c3 0, ← Array.getElem?_toList, e]; rfl
  have ok4 : ∀ u v, cs4.toList = [.iface u v] → Value.okWide Tryd.prog W .any 0 u v := fun u v e => by
    have hs : cs4.size = 1 := by rw [← Array.length_toList, e]; rfl
    refine (hrows 0 0 (by rw [w0, w1, w2, w3, w4, hs]; simp [MemPlace.row])).2 u v ?_
    rw [c4 0, ← Array.getElem?_toList, e]; rfl
  obtain ⟨s3, z3⟩ := pstab_err rfl c3 hd3 ok3
  obtain ⟨s4, z4'⟩ := pstab_err rfl c4 hd4 ok4
  have s2 : PStab (gW W) ((gW W).σ 3) 0 (pow10.map (.int .u64)) := pstab_array (ns := pow10) Tryd.underlying100 Tryd.underlying83 (by kernel_rfl) c2 hd2
  have z2 : cs2.size = 20 := by
    have := Go.Lib.cells_of_tab (zs := pow10) (k := .u64) Tryd.underlying100 Tryd.underlying83 (by kernel_rfl) (by kernel_rfl) hd2
    rw [← Array.length_toList, this]; rfl
  constructor
  · intro i cs hi
    match i, hi with
    | 0, hi => obtain rfl := Option.some.inj hi; exact s4
    | 1, hi => obtain rfl := Option.some.inj hi; exact s3
    | 3, hi => obtain rfl := Option.some.inj hi; exact s2
  · intro i cs hi
    match i, hi with
    | 0, hi => obtain rfl := Option.some.inj hi; obtain ⟨e, fz, k⟩ := var_cells hg4 hv4; exact ⟨_, _, _, k, z4'⟩
    | 1, hi => obtain rfl := Option.some.inj hi; obtain ⟨e, fz, k⟩ := var_cells hg3 hv3; exact ⟨_, _, _, k, z3⟩
    | 3, hi => obtain rfl := Option.some.inj hi; obtain ⟨e, fz, k⟩ := var_cells hg2 hv2; exact ⟨_, _, _, k, z2⟩

abbrev shT1 : Sh := .st [.int .i64, .str, .int .i64, .int .i64]
theorem rdT1 {av : List AVal} (h : shT1.rd av) : ∃ t : Tkn, shT1.wrap av = encK t := by
  simp only [Sh.rd, Sh.rdL] at h
  obtain ⟨_, _, rfl, ⟨a, rfl, _⟩, _, _, rfl, ⟨b, rfl, hb⟩, _, _, rfl, ⟨c, rfl, _⟩, _, _, rfl, ⟨d, rfl, _⟩, rfl⟩ := h
  exact ⟨⟨a, b, c, d⟩, rfl⟩
theorem rdTs {av : List AVal} (h : (Sh.sl shT1).rd av) : ∃ l : List Tkn, (Sh.sl shT1).wrap av = .sl (.none 4) (l.map encK) ∧ l.length ≤ 9223372036854775807 := by
  simp only [Sh.rd] at h
  obtain ⟨l, rfl, hln, h⟩ := h
  suffices ∃ m : List Tkn, l.map shT1.wrap = m.map encK by
    obtain ⟨m, hm⟩ := this
    refine ⟨m, by rw [← hm]; rfl, ?_⟩
    have := congrArg List.length hm
    rw [List.length_map, List.length_map] at this
    rw [← this]; exact hln
  clear hln
  induction l with
  | nil => exact ⟨[], rfl⟩
  | cons x l ih =>
    obtain ⟨m, hm⟩ := ih fun y hy => h y (by simp [hy])
    obtain ⟨t, ht⟩ := rdT1 (av := x) (by simpa only [Sh.rd] using h x (by simp))
    exact ⟨t :: m, by rw [List.map_cons, List.map_cons, hm, ht]⟩
theorem rdU8s {av : List AVal} (h : (Sh.sl (.int .u8)).rd av) : ∃ l : List Int, (Sh.sl (.int .u8)).wrap av = .sl (.none 1) (l.map e8i) ∧ l.length ≤ 9223372036854775807 ∧ ∀ x ∈ l, 0 ≤ x ∧ x < 256 := by
  simp only [Sh.rd] at h
  obtain ⟨l, rfl, hln, h⟩ := h
  suffices ∃ m : List Int, l.map (Sh.int .u8).wrap = m.map e8i ∧ ∀ x ∈ m, 0 ≤ x ∧ x < 256 by
    obtain ⟨m, hm, hx⟩ := this
    refine ⟨m, by rw [← hm]; rfl, ?_, hx⟩
    have := congrArg List.length hm
    rw [List.length_map, List.length_map] at this
    rw [← this]; exact hln
  clear hln
  induction l with
  | nil => exact ⟨[], rfl, fun _ h => by cases h⟩
  | cons x l ih =>
    obtain ⟨m, hm, hx⟩ := ih fun y hy => h y (by simp [hy])
    obtain ⟨n, e, hw⟩ := h x (by simp)
    have hw : IntKind.u8.min ≤ n ∧ n ≤ IntKind.u8.max := by simpa [Lit.wf] using hw
    have h0 : (0 : Int) ≤ n := hw.1
    have h1 : n ≤ 255 := hw.2
    refine ⟨n :: m, by rw [List.map_cons, List.map_cons, hm, e]; rfl, fun y hy => ?_⟩
    rcases List.mem_cons.1 hy with rfl | hy
    · omega
    · exact hx y hy
theorem argS {av : List AVal} (h : Sh.rdA [.str] av) : ∃ s : List UInt8, av = [.str s] := by
  simp only [Sh.rdA, Sh.rd] at h
  obtain ⟨x, _, rfl, ⟨s, rfl, _⟩, rfl⟩ := h
  exact ⟨s, rfl⟩
theorem argSS {av : List AVal} (h : Sh.rdA [.str, .str] av) : ∃ s t : List UInt8, av = [.str s, .str t] := by
  simp only [Sh.rdA, Sh.rd] at h
  obtain ⟨x, _, rfl, ⟨s, rfl, _⟩, y, _, rfl, ⟨t, rfl, _⟩, rfl⟩ := h
  exact ⟨s, t, rfl⟩
theorem argTTS {av : List AVal} (h : Sh.rdA [.sl shT1, .sl shT1, .str] av) : ∃ (a b : List Tkn) (s : List UInt8), av = [.sl (.none 4) (a.map encK), .sl (.none 4) (b.map encK), .str s] ∧ a.length ≤ 9223372036854775807 ∧ b.length ≤ 9223372036854775807 := by
  simp only [Sh.rdA] at h
  obtain ⟨x, _, rfl, hx, y, _, rfl, hy, z, _, rfl, hz, rfl⟩ := h
  obtain ⟨a, ha, la⟩ := rdTs hx
  obtain ⟨b, hb, lb⟩ := rdTs hy
  obtain ⟨s, rfl, _⟩ := hz
  exact ⟨a, b, s, by rw [ha, hb]; rfl, la, lb⟩
theorem argTS {av : List AVal} (h : Sh.rdA [.sl shT1, .str] av) : ∃ (a : List Tkn) (s : List UInt8), av = [.sl (.none 4) (a.map encK), .str s] ∧ a.length ≤ 9223372036854775807 := by
  simp only [Sh.rdA] at h
  obtain ⟨x, _, rfl, hx, z, _, rfl, hz, rfl⟩ := h
  obtain ⟨a, ha, la⟩ := rdTs hx
  obtain ⟨s, rfl, _⟩ := hz
  exact ⟨a, s, by rw [ha]; rfl, la⟩
theorem argTUS {av : List AVal} (h : Sh.rdA [.sl shT1, .sl (.int .u8), .str] av) : ∃ (a : List Tkn) (us : List Int) (s : List UInt8), av = [.sl (.none 4) (a.map encK), .sl (.none 1) (us.map e8i), .str s] ∧ a.length ≤ 9223372036854775807 ∧ us.length ≤ 9223372036854775807 ∧ ∀ x ∈ us, 0 ≤ x ∧ x < 256 := by
  simp only [Sh.rdA] at h
  obtain ⟨x, _, rfl, hx, y, _, rfl, hy, z, _, rfl, hz, rfl⟩ := h
  obtain ⟨a, ha, la⟩ := rdTs hx
  obtain ⟨b, hb, lb, hu⟩ := rdU8s hy
  obtain ⟨s, rfl, _⟩ := hz
  exact ⟨a, b, s, by rw [ha, hb]; rfl, la, lb, hu⟩
end Go.AM
end
