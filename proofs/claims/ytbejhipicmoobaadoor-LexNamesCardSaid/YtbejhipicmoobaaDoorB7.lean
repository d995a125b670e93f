/-
  Tokens: the table of the layer's functions · Tokens: sane · Tokens: digits and numbers, and single steps of the scanner · Tokens: the reference's Lex · Tokens: the reference's Text, spelled, the table of the laws · Tokens: the laws that compare with the reference · Tokens: the lexer by suffixes: one step, all steps, and that Lex is this · Tokens: the lexer's laws: places move, sources joined, errors, words.
  Conditions: none beyond those of its parts.
-/
import Derived.Test.YtbejhipicmoobaaDoorB6
import Derived.Test.YtbejhipicmoobaaDoorB5

/- Tokens: the table of the layer's functions. Conditions: none. -/
section
set_option maxRecDepth 10000
set_option linter.unusedSimpArgs false
set_option linter.unusedVariables false
set_option linter.unusedVariables false
set_option linter.unusedSimpArgs false
namespace Go.AM
open Go.Proofs Go.Lib

def s12 : List AVal → AHeap → Prop × AVal := fun a H => match a with
  | [.str x] => (x.length < 1000000000, lexV x)
  | _ => (False, .tup [])
theorem q12 : ∀ args H n, (s12 args H).1 → Quiet Tryd.prog 12 args H n (s12 args H).2 := by
  intro args H n h
  unfold s12 at h ⊢
  split at h
  · exact (p12 _ h).quiet H n
  · exact h.elim
def s1K (c : List Tkn → Prop) (f : List Tkn → AVal) : List AVal → AHeap → Prop × AVal := fun a H => match a with
  | [.sl t L] => (encdK L ∧ (t.esz = 4 ∨ L = []) ∧ c (L.map decK), f (L.map decK))
  | _ => (False, .tup [])
theorem q1K {fid : FuncId} {c : List Tkn → Prop} {f : List Tkn → AVal} (h : ∀ a : List Tkn, c a → Pur Tryd.prog fid [.sl (.none 4) (a.map encK)] (f a)) : ∀ args H n, (s1K c f args H).1 → Quiet Tryd.prog fid args H n (s1K c f args H).2 := by
  intro args H n hh
  unfold s1K at hh ⊢
  split at hh
  · rename_i t L
    simp only at hh
    refine ACalls.args ((h (L.map decK) hh.2.2).quiet H n) ?_
    rintro g vs ⟨v, r, rfl, k1, k2⟩
    refine ⟨v, _, rfl, ?_, k2⟩
    rw [← hh.1]; exact Wk.sl hh.2.1 _ _ k1
  · exact hh.elim
/-- Lists that Text takes. -/
def okT (l : List Tkn) : Prop := l.length ≤ 1000000
abbrev s16 := s1K okT textV
abbrev s15 := s1K (fun l => l.length ≤ 9223372036854775807) fun l => .bool (fewS l)
abbrev s18 := s2K fun a b => .bool (sameT a b)
abbrev s14 := s2K fun a b => .bool (equalT a b)
def T10 : Tab := tadd 12 s12 (tadd 16 s16 (tadd 15 s15 (tadd 18 s18 (tadd 14 s14 T9))))
theorem T10_ok : TabOK Tryd.prog T10 :=
  ((((T9_ok.add (q2K fun a b h1 h2 => p14 a b h1 h2)).add (q2K fun a b h1 h2 => p18 a b h1)).add (q1K p15)).add (q1K p16)).add q12
end Go.AM
end

/- Tokens: sane. Conditions: none. -/
section
set_option maxRecDepth 10000
set_option linter.unusedSimpArgs false
set_option linter.unusedVariables false
set_option linter.unusedVariables false
set_option linter.unusedSimpArgs false
namespace Go.AM
open Go.Proofs Go.Lib

theorem T10_12 (a : List AVal) (H : AHeap) : T10 12 a H = s12 a H := rfl
theorem T10_14 (a : List AVal) (H : AHeap) : T10 14 a H = s14 a H := rfl
theorem T10_15 (a : List AVal) (H : AHeap) : T10 15 a H = s15 a H := rfl
theorem T10_16 (a : List AVal) (H : AHeap) : T10 16 a H = s16 a H := rfl
theorem T10_18 (a : List AVal) (H : AHeap) : T10 18 a H = s18 a H := rfl
theorem T10_20 (a : List AVal) (H : AHeap) : T10 20 a H = s20 a H := rfl
theorem v_err : lexR [97, 32, 36] = .err 2 := by rfl
theorem v_com : lexR [97, 32, 47, 47, 32, 98] = .ok 6 [⟨1, [97], 0, 0⟩] := by rfl
theorem n_7 : numR [48, 48, 55] = none := by
  have h : atoiAll [48, 48, 55] = .ok 7 := by rfl
  have h2 : itoa 7 = [55] := by
    rw [itoa, if_neg (by decide), decDigits, dif_pos (by decide)]; rfl
  simp [numR, h, h2]
theorem n_1 : numR [49] = some 1 := by
  have h : atoiAll [49] = .ok 1 := by rfl
  have h2 : itoa 1 = [49] := by
    rw [itoa, if_neg (by decide), decDigits, dif_pos (by decide)]; rfl
  simp [numR, h, h2]
theorem n_30 : numR [51, 48] = some 30 := by
  have h : atoiAll [51, 48] = .ok 30 := by rfl
  have h2 : itoa 30 = [51, 48] := by
    rw [itoa, if_neg (by decide), decDigits, dif_neg (by decide), decDigits, dif_pos (by decide)]; rfl
  simp [numR, h, h2]
theorem n_big : numR [49, 48, 57, 57, 53, 49, 49, 54, 50, 55, 55, 55, 54] = some 1099511627776 := by
  have h : atoiAll [49, 48, 57, 57, 53, 49, 49, 54, 50, 55, 55, 55, 54] = .ok 1099511627776 := by rfl
  have h2 : itoa 1099511627776 = [49, 48, 57, 57, 53, 49, 49, 54, 50, 55, 55, 55, 54] := by
    rw [itoa, if_neg (by decide)]
    simp [decDigits]
  simp [numR, h, h2]
theorem v_sum : lexR [115, 117, 109, 32, 51, 48, 59] = .ok 7 [⟨1, [115, 117, 109], 0, 0⟩, ⟨2, [], 30, 4⟩, ⟨3, [59], 0, 6⟩] := by
  have s1 : stepR [115, 117, 109, 32, 51, 48, 59] 0 [] = .ok 3 [⟨1, [115, 117, 109], 0, 0⟩] := by rfl
  have s2 : stepR [115, 117, 109, 32, 51, 48, 59] 3 [⟨1, [115, 117, 109], 0, 0⟩] = .ok 4 [⟨1, [115, 117, 109], 0, 0⟩] := by rfl
  have s3 : stepR [115, 117, 109, 32, 51, 48, 59] 4 [⟨1, [115, 117, 109], 0, 0⟩] = .ok 6 [⟨1, [115, 117, 109], 0, 0⟩, ⟨2, [], 30, 4⟩] := by
    show (match numR [51, 48] with | some v => addS 4 [⟨1, [115, 117, 109], 0, 0⟩] [51, 48] ⟨2, [], v, 0⟩ | none => .err 4) = _
    rw [n_30]; rfl
  have s4 : stepR [115, 117, 109, 32, 51, 48, 59] 6 [⟨1, [115, 117, 109], 0, 0⟩, ⟨2, [], 30, 4⟩] = .ok 7 [⟨1, [115, 117, 109], 0, 0⟩, ⟨2, [], 30, 4⟩, ⟨3, [59], 0, 6⟩] := by rfl
  simp [lexR, lexL, s1, s2, s3, s4]
theorem v_007 : lexR [48, 48, 55] = .err 0 := by
  have s1 : stepR [48, 48, 55] 0 [] = .err 0 := by
    show (match numR [48, 48, 55] with | some v => addS 0 [] [48, 48, 55] ⟨2, [], v, 0⟩ | none => .err 0) = _
    rw [n_7]
  simp [lexR, lexL, s1]
theorem v_big : lexR [49, 48, 57, 57, 53, 49, 49, 54, 50, 55, 55, 55, 54] = .ok 13 [⟨2, [], 1099511627776, 0⟩] := by
  have s1 : stepR [49, 48, 57, 57, 53, 49, 49, 54, 50, 55, 55, 55, 54] 0 [] = .ok 13 [⟨2, [], 1099511627776, 0⟩] := by
    show (match numR [49, 48, 57, 57, 53, 49, 49, 54, 50, 55, 55, 55, 54] with | some v => addS 0 [] [49, 48, 57, 57, 53, 49, 49, 54, 50, 55, 55, 55, 54] ⟨2, [], v, 0⟩ | none => .err 0) = _
    rw [n_big]; rfl
  simp [lexR, lexL, s1]
theorem v_a1 : lexR [97, 61, 49] = .ok 3 [⟨1, [97], 0, 0⟩, ⟨3, [61], 0, 1⟩, ⟨2, [], 1, 2⟩] := by
  have s1 : stepR [97, 61, 49] 0 [] = .ok 1 [⟨1, [97], 0, 0⟩] := by rfl
  have s2 : stepR [97, 61, 49] 1 [⟨1, [97], 0, 0⟩] = .ok 2 [⟨1, [97], 0, 0⟩, ⟨3, [61], 0, 1⟩] := by rfl
  have s3 : stepR [97, 61, 49] 2 [⟨1, [97], 0, 0⟩, ⟨3, [61], 0, 1⟩] = .ok 3 [⟨1, [97], 0, 0⟩, ⟨3, [61], 0, 1⟩, ⟨2, [], 1, 2⟩] := by
    show (match numR [49] with | some v => addS 2 [⟨1, [97], 0, 0⟩, ⟨3, [61], 0, 1⟩] [49] ⟨2, [], v, 0⟩ | none => .err 2) = _
    rw [n_1]; rfl
  simp [lexR, lexL, s1, s2, s3]
theorem v_nil : lexR [] = .ok 0 [] := by rfl
theorem lexV_ok {src : List UInt8} {a : Nat} {ts : List Tkn} (h : src.length ≤ 65536) (hr : lexR src = .ok a ts) : lexV src = .tup [.sl (.none 4) (ts.map encK), .int .i64 0, .int .i64 0] := by
  rw [lexV, if_neg (by omega), hr]
theorem lexV_err {src : List UInt8} {a : Nat} (h : src.length ≤ 65536) (hr : lexR src = .err a) : lexV src = .tup [.sl (.none 4) [], .int .i64 a, .int .i64 100] := by
  rw [lexV, if_neg (by omega), hr]
theorem i_1 : itoa 1 = [49] := by
  rw [itoa, if_neg (by decide), decDigits, dif_pos (by decide)]; rfl
theorem t_a1 : textV [⟨1, [97], 0, 0⟩, ⟨3, [61], 0, 1⟩, ⟨2, [], 1, 2⟩] = .tup [.str [97, 32, 61, 32, 49], .int .i64 0] := by
  rw [textV, if_pos (by decide)]
  simp only [List.map_cons, List.map_nil, wordS, i_1]; rfl
theorem t_zero : textV [⟨0, [], 0, 0⟩] = .tup [.str [], .int .i64 100] := by
  rw [textV, if_neg (by decide)]
theorem p11 : Pur Tryd.prog 11 [] (.bool true) := by
  refine .mk trivial trivial (a11 (ev_awp T10_ok (ev_evK ?_)))
  simp only [kont_nil, kont_n, kont_r, k_skip, k_ret, k_seq, k_cond, k_reg, r_nil, r_v, r_vg, r_pick, r_call, r_callg, callT, penv, postC, rcs, rc1, rvS, gok, gvb, eget, lk, lkv, oks, AS.put, AS.keep, evk, evB_eq, allB, fillB, evS_eq, allS, fillS, splice, Opk.opds, aload, isI, isInt, toI, isB, toB, isS, toS, sel, mk, icmp, nT, AVal.cells, Tok.esz, List.length_cons, List.length_nil, List.filterMap, List.map_cons, List.map_nil, List.append_nil, List.nil_append, List.cons_append, Option.map_some, reduceCtorEq, and_true, true_and, forall_const, Nat.reduceEqDiff, ↓reduceIte, Bool.false_eq_true, Nat.reduceAdd, List.drop, List.take, List.drop_succ_cons, List.take_succ_cons, Nat.reduceLeDiff, Nat.reduceMul, Nat.reduceLT, Int.reduceLE, Int.reduceToNat, List.set_cons_zero, List.set_cons_succ, List.replicate_succ, List.replicate_zero, Nat.le_refl, List.headD_cons, Bool.true_and, Bool.and_true, implies_true, Nat.zero_add, Bool.cond_true_left, Bool.cond_false_right, imp_self, beq_true, beq_false, Bool.not_eq_true', Bool.not_eq_false', Bool.or_eq_true, Bool.or_eq_false_iff, Bool.and_eq_true, decide_eq_true_eq, decide_eq_false_iff_not, impA1, and_self, false_or, or_false, ret_eq, Nat.add_zero, wk_bool, decide_true, c11, T10_12, s12, lexV_ok (by decide) v_sum, lexV_err (by decide) v_007, lexV_ok (by decide) v_big, lexV_ok (by decide) v_com, lexV_err (by decide) v_err, lexV_ok (by decide) v_a1, lexV_ok (by decide) v_nil, List.getElem?_cons_zero, List.getElem?_cons_succ, Option.getD_some,
    T10_16, s1K, T10_14, T10_18, T10_20, s2K, sS, encK, decK, List.map_cons, List.map_nil, t_a1, t_zero]
  refine ⟨⟨rfl, by simp [okT]⟩, ⟨rfl, by simp [okT]⟩, by simp, fun _ => ⟨rfl, fun _ => by decide, fun _ => by decide, fun _ => ⟨rfl, rfl⟩, fun _ => ⟨rfl, rfl⟩, ?_⟩⟩
  refine ⟨⟨⟨⟨⟨⟨⟨⟨by decide, by decide⟩, by decide⟩, by decide⟩, by decide⟩, by decide⟩, by decide⟩, by decide⟩, by decide⟩
end Go.AM
end

/- Tokens: digits and numbers, and single steps of the scanner. Conditions: none. -/
section
set_option maxRecDepth 10000
set_option linter.unusedSimpArgs false
set_option linter.unusedVariables false
set_option linter.unusedVariables false
set_option linter.unusedSimpArgs false
namespace Go.AM
open Go.Proofs Go.Lib

/-- What digits spell. -/
def valN : List UInt8 → Nat → Nat
  | [], n => n
  | b :: r, n => valN r (10 * n + (b.toNat - 48))
theorem valN_ge : ∀ (s : List UInt8) (n : Nat), n ≤ valN s n
  | [], n => Nat.le_refl _
  | b :: r, n => by have := valN_ge r (10 * n + (b.toNat - 48)); rw [valN]; omega
theorem valN_append : ∀ (s t : List UInt8) (n : Nat), valN (s ++ t) n = valN t (valN s n)
  | [], t, n => rfl
  | b :: r, t, n => by rw [List.cons_append, valN, valN, valN_append r t]
theorem foldD_val : ∀ (s : List UInt8) (n : Nat), n ≤ 1099511627776 → foldD s n = if valN s n ≤ 1099511627776 then some (valN s n) else none
  | [], n, h => by rw [foldD, valN, if_pos h]
  | b :: r, n, h => by
    rw [foldD, valN]
    split
    · rw [if_neg]; have := valN_ge r (10 * n + (b.toNat - 48)); omega
    · exact foldD_val r _ (by omega)
theorem dig_bd {b : UInt8} (h : digB b = true) : 48 ≤ b.toNat ∧ b.toNat ≤ 57 := by
  simp only [digB, isDig, Bool.and_eq_true, decide_eq_true_eq] at h; omega
theorem parse_ok : ∀ (s : List UInt8) (n : Nat), (∀ b ∈ s, digB b = true) → valN s n ≤ 1099511627776 → parseUint10 n s = .ok (valN s n)
  | [], n, _, _ => rfl
  | b :: r, n, hd, h => by
    have h1 := dig_bd (hd b (List.mem_cons_self ..))
    rw [valN] at h
    have := valN_ge r (10 * n + (b.toNat - 48))
    rw [parseUint10, if_pos h1, if_neg (by omega), if_neg (by omega), valN, Nat.mul_comm n 10]
    exact parse_ok r _ (fun x hx => hd x (List.mem_cons_of_mem _ hx)) h
theorem parse_val : ∀ (s : List UInt8) (n u : Nat), (∀ b ∈ s, digB b = true) → parseUint10 n s = .ok u → u = valN s n
  | [], n, u, _, h => by rw [parseUint10] at h; cases h; rfl
  | b :: r, n, u, hd, h => by
    have h1 := dig_bd (hd b (List.mem_cons_self ..))
    rw [parseUint10, if_pos h1] at h
    split at h
    · cases h
    · split at h
      · cases h
      · rw [valN, Nat.mul_comm 10 n]
        exact parse_val r _ u (fun x hx => hd x (List.mem_cons_of_mem _ hx)) h
/-- No zero stands before other digits. -/
def canB (t : List UInt8) : Bool := decide (t.length = 1) || decide ((t[0]?.getD 0).toNat ≠ 48)
theorem dec_ne (u : Nat) : decDigits u ≠ [] := by rw [decDigits]; split <;> simp
theorem dec_head : ∀ (u : Nat), 1 ≤ u → ((decDigits u)[0]?.getD 0).toNat ≠ 48
  | u, h => by
    rw [decDigits]
    split
    · rename_i hu
      simp only [List.getElem?_cons_zero, Option.getD_some]
      rw [one_dig hu]; omega
    · rename_i hu
      have ih := dec_head (u / 10) (by omega)
      rw [List.getElem?_append_left (by have := dec_ne (u / 10); exact List.length_pos_iff.2 this)]
      exact ih
  termination_by u => u
theorem dec_can (u : Nat) : canB (decDigits u) = true := by
  unfold canB
  by_cases h : u = 0
  · subst h; rw [decDigits, dif_pos (by decide)]; rfl
  · simp [dec_head u (by omega)]
theorem dec_dig : ∀ (u : Nat), ∀ b ∈ decDigits u, digB b = true
  | u, b, hb => by
    have one : ∀ k, k < 10 → digB (UInt8.ofNat (48 + k)) = true := fun k hk => by
      simp only [digB, isDig, one_dig hk, Bool.and_eq_true, decide_eq_true_eq]; omega
    rw [decDigits] at hb
    split at hb
    · rename_i hu
      rw [List.mem_singleton] at hb; subst hb; exact one _ hu
    · rcases List.mem_append.1 hb with hb | hb
      · exact dec_dig (u / 10) b hb
      · rw [List.mem_singleton] at hb; subst hb; exact one _ (Nat.mod_lt _ (by omega))
  termination_by u => u
theorem val_dec : ∀ (u : Nat), valN (decDigits u) 0 = u
  | u => by
    have one : ∀ n k, k < 10 → valN [UInt8.ofNat (48 + k)] n = 10 * n + k := fun n k hk => by
      rw [valN, valN, one_dig hk]; omega
    rw [decDigits]
    split
    · rename_i hu; rw [one _ _ hu]; omega
    · rw [valN_append, val_dec (u / 10), one _ _ (Nat.mod_lt _ (by omega))]; omega
  termination_by u => u
theorem val_pos {t : List UInt8} (h : 0 < t.length) (hd : ∀ b ∈ t, digB b = true) (hc : (t[0]?.getD 0).toNat ≠ 48) : 1 ≤ valN t 0 := by
  cases t with
  | nil => simp at h
  | cons b r =>
    have h1 := dig_bd (hd b (List.mem_cons_self ..))
    simp only [List.getElem?_cons_zero, Option.getD_some] at hc
    have := valN_ge r (10 * 0 + (b.toNat - 48))
    rw [valN]; omega
theorem dec_val_rev : ∀ (k : Nat) (t : List UInt8), t.length = k → 0 < t.length → (∀ b ∈ t, digB b = true) → canB t = true → decDigits (valN t 0) = t
  | 0, t, hk, h, _, _ => by omega
  | k + 1, t, hk, h, hd, hc => by
    obtain ⟨s, b, rfl⟩ : ∃ s b, t = s ++ [b] := ⟨t.dropLast, t.getLast (List.length_pos_iff.1 h), (List.dropLast_concat_getLast (List.length_pos_iff.1 h)).symm⟩
    have h1 := dig_bd (hd b (by simp))
    have hb : UInt8.ofNat (48 + (b.toNat - 48)) = b := by
      rw [show 48 + (b.toNat - 48) = b.toNat by omega]; simp
    rw [valN_append, valN, valN]
    by_cases hs : s = []
    · subst hs
      rw [valN, decDigits, dif_pos (by omega)]
      simp only [List.nil_append, List.cons.injEq, and_true]
      rw [show 10 * 0 + (b.toNat - 48) = b.toNat - 48 by omega, hb]
    · have hsl : 0 < s.length := List.length_pos_iff.2 hs
      have hne : (s[0]?.getD 0).toNat ≠ 48 := by
        unfold canB at hc
        rw [List.length_append, List.getElem?_append_left hsl] at hc
        simpa [show s.length ≠ 0 by omega] using hc
      have hd' : ∀ x ∈ s, digB x = true := fun x hx => hd x (by simp [hx])
      have hv := val_pos hsl hd' hne
      have ih := dec_val_rev k s (by simpa using hk) hsl hd' (by unfold canB; simp [hne])
      rw [decDigits, dif_neg (by omega), show (10 * valN s 0 + (b.toNat - 48)) / 10 = valN s 0 by omega, ih, show (10 * valN s 0 + (b.toNat - 48)) % 10 = b.toNat - 48 by omega, hb]
theorem dec_val {t : List UInt8} (h : 0 < t.length) (hd : ∀ b ∈ t, digB b = true) : decDigits (valN t 0) = t ↔ canB t = true :=
  ⟨fun e => e ▸ dec_can _, fun hc => dec_val_rev _ t rfl h hd hc⟩
theorem itoa_nat (u : Nat) : itoa (u : Int) = decDigits u := by rw [itoa, if_neg (by omega)]; rfl
theorem atoi_ok {t : List UInt8} (h : 0 < t.length) (hd : ∀ b ∈ t, digB b = true) (hv : valN t 0 ≤ 1099511627776) : atoiAll t = .ok (valN t 0) := by
  cases t with
  | nil => simp at h
  | cons c r =>
    have h1 := dig_bd (hd c (List.mem_cons_self ..))
    have hp : parseMag (c :: r) = .ok (valN (c :: r) 0) := by
      rw [parseMag, if_neg (by simp)]; exact parse_ok _ _ hd hv
    simp only [atoiAll]
    rw [if_neg (by omega), hp]
    simp only
    rw [if_neg (by omega), if_neg (by omega), if_neg (by omega)]
theorem atoi_big {t : List UInt8} {v : Int} (h : 0 < t.length) (hd : ∀ b ∈ t, digB b = true) (ha : atoiAll t = .ok v) : v = (valN t 0 : Nat) := by
  cases t with
  | nil => simp at h
  | cons c r =>
    have h1 := dig_bd (hd c (List.mem_cons_self ..))
    simp only [atoiAll] at ha
    rw [if_neg (by omega)] at ha
    cases hp : parseMag (c :: r) with
    | range => rw [hp] at ha; cases ha
    | ok u =>
      rw [hp] at ha
      have hu : u = valN (c :: r) 0 := by
        rw [parseMag, if_neg (by simp)] at hp; exact parse_val _ _ _ hd hp
      simp only at ha
      split at ha
      · cases ha
      · rename_i g1
        rw [if_neg (by omega), if_neg (by omega)] at ha
        cases ha; rw [hu]
    | _ => rw [hp] at ha; cases ha
theorem valid_n2 (v : Int) : validS ⟨2, [], v, 0⟩ = (decide (0 ≤ v) && decide (v ≤ 1099511627776)) := by
  simp [validS]
theorem num_step {a : Nat} {ts : List Tkn} {t : List UInt8} (h : 0 < t.length) (hd : ∀ b ∈ t, digB b = true) :
    (match numR t with | some v => addS a ts t ⟨2, [], v, 0⟩ | none => .err a) = if valN t 0 ≤ 1099511627776 ∧ canB t = true then .ok (a + t.length) (ts ++ [⟨2, [], valN t 0, a⟩]) else .err a := by
  by_cases hv : valN t 0 ≤ 1099511627776
  · simp only [numR, atoi_ok h hd hv, itoa_nat]
    by_cases hc : canB t = true
    · rw [if_pos ((dec_val h hd).2 hc), if_pos ⟨hv, hc⟩]
      simp only [addS]
      rw [if_pos (by rw [valid_n2]; simp; omega)]
    · rw [if_neg (fun e => hc ((dec_val h hd).1 e)), if_neg (fun e => hc e.2)]
  · rw [if_neg (fun e => hv e.1)]
    unfold numR
    cases ha : atoiAll t with
    | range => rfl
    | ok v =>
      have := atoi_big h hd ha
      simp only
      by_cases hi : itoa v = t
      · rw [if_pos hi]
        simp only [addS]
        rw [if_neg (by rw [valid_n2]; simp; omega)]
      · rw [if_neg hi]
    | _ => rfl
theorem numF_val {t : List UInt8} : numF t = if valN t 0 ≤ 1099511627776 then .tup [.int .i64 (valN t 0 : Nat), .bool (canB t)] else .tup [.int .i64 0, .bool false] := by
  unfold numF
  rw [foldD_val t 0 (by omega)]
  by_cases hv : valN t 0 ≤ 1099511627776
  · rw [if_pos hv, if_pos hv]; rfl
  · rw [if_neg hv, if_neg hv]

/-- Lex from a place on. -/
def lexC (src : List UInt8) (a : Nat) (ts : List Tkn) : ScR := lexL (src.length - a + 1) src a ts
theorem lexR_C (src : List UInt8) : lexR src = lexC src 0 [] := rfl
theorem lexC_step {src : List UInt8} {a a' : Nat} {ts ts' : List Tkn} (hlt : a < src.length) (hf : ts.length ≤ a) (h : stepR src a ts = .ok a' ts') : lexC src a ts = lexC src a' ts' := by
  obtain ⟨p1, p2, p3⟩ := step_progress hlt hf h
  rw [lexC, lexL, if_pos hlt, h]
  exact lexL_fuel _ _ _ p3 p2 (by omega)
theorem lexC_err {src : List UInt8} {a e : Nat} {ts : List Tkn} (hlt : a < src.length) (h : stepR src a ts = .err e) : lexC src a ts = .err e := by
  rw [lexC, lexL, if_pos hlt, h]
theorem lexC_end {src : List UInt8} {a : Nat} {ts : List Tkn} (h : src.length ≤ a) : lexC src a ts = .ok a ts := by
  rw [lexC, lexL, if_neg (by omega)]
theorem byte_cls (b : UInt8) : (spB b = true → clsI b.toNat = 1) ∧ (letB b = true → clsI b.toNat = 2) ∧ (digB b = true → clsI b.toNat = 3) ∧ (sgnB b = true → clsI b.toNat = 4) ∧
    (spB b = false → letB b = false → digB b = false → sgnB b = false → clsI b.toNat = 0 ∨ clsI b.toNat = 5) := by
  have key : ∀ x : Fin 256, (isSp (x.val : Int) = true → clsI (x.val : Int) = 1) ∧ (isLet (x.val : Int) = true → clsI (x.val : Int) = 2) ∧ (isDig (x.val : Int) = true → clsI (x.val : Int) = 3) ∧ (isSgn (x.val : Int) = true → clsI (x.val : Int) = 4) ∧
      (isSp (x.val : Int) = false → isLet (x.val : Int) = false → isDig (x.val : Int) = false → isSgn (x.val : Int) = false → clsI (x.val : Int) = 0 ∨ clsI (x.val : Int) = 5) := by decide +kernel
  exact key ⟨b.toNat, b.toNat_lt⟩
theorem drop_at {src : List UInt8} {a : Nat} (hlt : a < src.length) : src.drop a = src[a] :: src.drop (a + 1) := List.drop_eq_getElem_cons hlt
theorem getD_at {src : List UInt8} {a : Nat} (hlt : a < src.length) : src[a]?.getD 0 = src[a] := by rw [List.getElem?_eq_getElem hlt]; rfl
theorem step_sp {src : List UInt8} {a : Nat} {ts : List Tkn} (hlt : a < src.length) (h : clsI (src[a]).toNat = 1) : stepR src a ts = .ok (a + (runS [1] (src.drop a)).length) ts := by
  unfold stepR
  simp only [getD_at hlt]
  rw [if_pos h]
theorem lexC_sp {src : List UInt8} {a : Nat} {ts : List Tkn} (hlt : a < src.length) (hf : ts.length ≤ a) (h : clsI (src[a]).toNat = 1) : lexC src a ts = lexC src (a + 1) ts := by
  rw [lexC_step hlt hf (step_sp hlt h)]
  rw [drop_at hlt, runS, List.takeWhile_cons, if_pos (by rw [h]; rfl)]
  by_cases h2 : a + 1 < src.length
  · by_cases h3 : clsI (src[a + 1]).toNat = 1
    · rw [lexC_step h2 (by omega) (step_sp h2 h3), List.length_cons, runS]
      congr 1; omega
    · rw [drop_at h2, List.takeWhile_cons, if_neg (by simpa using h3)]; rfl
  · rw [List.drop_eq_nil_of_le (by omega)]; rfl
/-- A run that ends before a place is what stands between. -/
theorem run_take {src : List UInt8} {zs : List Int} {a i : Nat} (hall : ∀ j (hj : j < src.length), a ≤ j → j < i → zs.contains (clsI (src[j]).toNat) = true) (hk : ∀ (hk : i < src.length), zs.contains (clsI (src[i]).toNat) = false) (hai : a ≤ i) :
    (src.take i).drop a = runS zs (src.drop a) := by
  rw [List.drop_take, runS]
  refine take_while _ _ (fun j hj hji => ?_) fun hk' => ?_
  · simp only [List.length_drop] at hj
    rw [List.getElem_drop]; exact hall _ (by omega) (by omega) (by omega)
  · simp only [List.length_drop] at hk'
    rw [List.getElem_drop]
    simp only [show a + (i - a) = i by omega]
    exact hk (by omega)
theorem step_name {src : List UInt8} {a : Nat} {ts : List Tkn} (hlt : a < src.length) (h : letB src[a] = true) : stepR src a ts = if nameS (runS [2, 3, 5] (src.drop a)) = true then .ok (a + (runS [2, 3, 5] (src.drop a)).length) (ts ++ [⟨1, runS [2, 3, 5] (src.drop a), 0, a⟩]) else .err a := by
  have hc := (byte_cls src[a]).2.1 h
  unfold stepR
  simp only [getD_at hlt]
  rw [if_neg (by rw [hc]; decide), if_pos hc, addS]
  have : validS ⟨1, runS [2, 3, 5] (src.drop a), 0, 0⟩ = nameS (runS [2, 3, 5] (src.drop a)) := by simp [validS]
  rw [this]
theorem dig_cls {b : UInt8} : [3].contains (clsI (b.toNat : Int)) = digB b := by
  have key : ∀ x : Fin 256, [3].contains (clsI (x.val : Int)) = isDig (x.val : Int) := by decide +kernel
  exact key ⟨b.toNat, b.toNat_lt⟩
theorem part_cls {b : UInt8} : [2, 3, 5].contains (clsI (b.toNat : Int)) = partB b := by
  have key : ∀ x : Fin 256, [2, 3, 5].contains (clsI (x.val : Int)) = isPart (x.val : Int) := by decide +kernel
  exact key ⟨b.toNat, b.toNat_lt⟩
theorem run_dig {l : List UInt8} : ∀ b ∈ runS [3] l, digB b = true := fun b hb => by
  rw [← dig_cls]; exact (List.all_takeWhile (l := l) (p := fun b : UInt8 => [3].contains (clsI (b.toNat : Int))) |> List.all_eq_true.1) b hb
theorem step_num {src : List UInt8} {a : Nat} {ts : List Tkn} (hlt : a < src.length) (h : digB src[a] = true) : stepR src a ts = if valN (runS [3] (src.drop a)) 0 ≤ 1099511627776 ∧ canB (runS [3] (src.drop a)) = true then .ok (a + (runS [3] (src.drop a)).length) (ts ++ [⟨2, [], valN (runS [3] (src.drop a)) 0, a⟩]) else .err a := by
  have hc := (byte_cls src[a]).2.2.1 h
  unfold stepR
  simp only [getD_at hlt]
  rw [if_neg (by rw [hc]; decide), if_neg (by rw [hc]; decide), if_pos hc]
  refine num_step ?_ run_dig
  rw [drop_at hlt]; exact run_pos (by rw [hc]; rfl)
theorem hasPre2 {l : List UInt8} : hasPrefix l [47, 47] = true ↔ l[0]? = some 47 ∧ l[1]? = some 47 := by
  match l with
  | [] => simp [hasPrefix]
  | [b] => simp [hasPrefix]
  | b :: c :: r => simp [hasPrefix]; exact ⟨fun h => ⟨h.1.symm, h.2.symm⟩, fun h => ⟨h.1.symm, h.2.symm⟩⟩
theorem step_sgn {src : List UInt8} {a : Nat} {ts : List Tkn} (hlt : a < src.length) (h : sgnB src[a] = true) : stepR src a ts = signR a ts (src.drop a) src.length := by
  have hc := (byte_cls src[a]).2.2.2.1 h
  unfold stepR
  simp only [getD_at hlt]
  rw [if_neg (by rw [hc]; decide), if_neg (by rw [hc]; decide), if_neg (by rw [hc]; decide), if_pos hc]
theorem step_sgn1 {src : List UInt8} {a : Nat} {ts : List Tkn} (hlt : a < src.length) (h : sgnB src[a] = true) (hn : ¬ (src[a] = 47 ∧ src[a + 1]? = some 47)) : stepR src a ts = .ok (a + 1) (ts ++ [⟨3, [src[a]], 0, a⟩]) := by
  rw [step_sgn hlt h, signR, if_neg]
  · have e : (src.drop a).take 1 = [src[a]] := by rw [drop_at hlt]; rfl
    rw [e, addS, if_pos (by simp [validS, h])]; rfl
  · rw [hasPre2, List.getElem?_drop, List.getElem?_drop]
    rw [show a + 0 = a from rfl, List.getElem?_eq_getElem hlt]
    simpa using hn
theorem index_none {c : UInt8} : ∀ {l : List UInt8}, (∀ b ∈ l, b ≠ c) → indexByte l c = -1
  | [], _ => rfl
  | b :: l, h => by
    rw [indexByte, index_none fun x hx => h x (List.mem_cons_of_mem _ hx)]
    have : (b == c) = false := by rw [beq_eq_false_iff_ne]; exact h b (List.mem_cons_self ..)
    rw [this]; rfl
theorem index_at {c : UInt8} : ∀ {l : List UInt8} {k : Nat}, l[k]? = some c → (∀ j < k, l[j]? ≠ some c) → indexByte l c = k
  | [], k, h, _ => by simp at h
  | b :: l, 0, h, _ => by simp at h; rw [indexByte, h]; simp
  | b :: l, k + 1, h, hn => by
    have h0 : (b == c) = false := by rw [beq_eq_false_iff_ne]; intro e; exact hn 0 (by omega) (by simp [e])
    rw [indexByte, h0, index_at (l := l) (k := k) (by simpa using h) fun j hj => by have := hn (j + 1) (by omega); simpa using this]
    simp
theorem step_com {src : List UInt8} {a i : Nat} {ts : List Tkn} (hlt : a < src.length) (h1 : src[a] = 47) (h2 : src[a + 1]? = some 47) (hai : a ≤ i) (hil : i ≤ src.length) (hall : ∀ j (hj : j < src.length), a ≤ j → j < i → src[j] ≠ 10) (he : i = src.length ∨ src[i]? = some 10) : stepR src a ts = .ok i ts := by
  rw [step_sgn hlt (by rw [h1]; decide), signR, if_pos]
  · rcases he with rfl | he
    · rw [index_none]
      · rfl
      · intro b hb
        obtain ⟨j, hj, rfl⟩ := List.mem_iff_getElem.1 hb
        rw [List.getElem_drop]
        rw [List.length_drop] at hj
        exact hall _ (by omega) (by omega) (by omega)
    · have : indexByte (src.drop a) 10 = ((i - a : Nat) : Int) := by
        refine index_at ?_ fun j hj => ?_
        · rw [List.getElem?_drop, show a + (i - a) = i by omega]; exact he
        · rw [List.getElem?_drop]
          have : i < src.length := by
            rcases Nat.lt_or_ge i src.length with h | h
            · exact h
            · rw [List.getElem?_eq_none h] at he; cases he
          rw [List.getElem?_eq_getElem (by omega)]
          intro e
          exact hall (a + j) (by omega) (by omega) (by omega) (by simpa using e)
      rw [this, if_pos (by omega)]
      congr 1; simp; omega
  · rw [hasPre2, List.getElem?_drop, List.getElem?_drop, show a + 0 = a from rfl, List.getElem?_eq_getElem hlt, h1]
    exact ⟨rfl, h2⟩
theorem step_bad {src : List UInt8} {a : Nat} {ts : List Tkn} (hlt : a < src.length) (h1 : spB src[a] = false) (h2 : letB src[a] = false) (h3 : digB src[a] = false) (h4 : sgnB src[a] = false) : stepR src a ts = .err a := by
  have hc := (byte_cls src[a]).2.2.2.2 h1 h2 h3 h4
  unfold stepR
  simp only [getD_at hlt]
  rcases hc with hc | hc <;> rw [if_neg (by rw [hc]; decide), if_neg (by rw [hc]; decide), if_neg (by rw [hc]; decide), if_neg (by rw [hc]; decide)]
end Go.AM
end

/- Tokens: the reference's Lex. Conditions: none. -/
section
set_option maxRecDepth 10000
set_option linter.unusedSimpArgs false
set_option linter.unusedVariables false
set_option linter.unusedVariables false
set_option linter.unusedSimpArgs false
namespace Go.AM
open Go.Proofs Go.Lib

def s34 : List AVal → AHeap → Prop × AVal := fun a H => match a with
  | [.str x] => (0 < x.length ∧ x.length < 1000000000 ∧ ∀ b ∈ x, digB b = true, numF x)
  | _ => (False, .tup [])
theorem q34 : ∀ args H n, (s34 args H).1 → Quiet Tryd.prog 34 args H n (s34 args H).2 := by
  intro args H n h
  unfold s34 at h ⊢
  split at h
  · exact (p34 _ h.1 h.2.1 h.2.2).quiet H n
  · exact h.elim
def T11 : Tab := tadd 34 s34 T10
theorem T11_ok : TabOK Tryd.prog T11 := T10_ok.add q34
theorem T11_34 (a : List AVal) (H : AHeap) : T11 34 a H = s34 a H := rfl
theorem T11_21 (a : List AVal) (H : AHeap) : T11 21 a H = s20 a H := rfl
theorem T11_22 (a : List AVal) (H : AHeap) : T11 22 a H = s22 a H := rfl
theorem T11_31 (a : List AVal) (H : AHeap) : T11 31 a H = s31 a H := rfl
theorem T11_32 (a : List AVal) (H : AHeap) : T11 32 a H = s32 a H := rfl
theorem T11_33 (a : List AVal) (H : AHeap) : T11 33 a H = s33 a H := rfl
theorem T11_35 (a : List AVal) (H : AHeap) : T11 35 a H = s35 a H := rfl

def tokX (H : AHeap) (tok : Tok) (out : List Tkn) : Prop := (tok = .exact 4 ∧ out = []) ∨ ∃ id, tok = .own id 4 ∧ hget H id = some .tok
structure V13 where
  a : Nat
  H : AHeap
  n : Nat
  tk : Tok
  ts : List Tkn
structure I13 (src : List UInt8) (v : V13) : Prop where
  le : v.a ≤ src.length
  few : v.ts.length ≤ v.a
  tok : tokX v.H v.tk v.ts
  fr : Fresh v.H v.n
  res : lexR src = lexC src v.a v.ts
abbrev en13 (src : List UInt8) (v : V13) : List (Nat × Bool × AVal) := [(0, true, .str src), (5, true, .sl v.tk (v.ts.map encK)), (6, true, .int .i64 v.a)]
theorem tokX_out {H : AHeap} {tk : Tok} {ts : List Tkn} (h : tokX H tk ts) : tk.esz = 4 ∨ ts.map encK = [] := by
  rcases h with ⟨h1, h2⟩ | ⟨id, h1, h2⟩
  · exact .inr (by rw [h2]; rfl)
  · exact .inl (by rw [h1]; rfl)
theorem lexV_err' {src : List UInt8} {a : Nat} (h : ¬ 65536 < src.length) (hr : lexR src = .err a) : lexV src = .tup [.sl (.none 4) [], .int .i64 a, .int .i64 100] := by
  rw [lexV, if_neg h, hr]
theorem lexV_ok' {src : List UInt8} {a : Nat} {ts : List Tkn} (h : ¬ 65536 < src.length) (hr : lexR src = .ok a ts) : lexV src = .tup [.sl (.none 4) (ts.map encK), .int .i64 0, .int .i64 0] := by
  rw [lexV, if_neg h, hr]
theorem err_out {src : List UInt8} {a : Nat} (h : ¬ 65536 < src.length) (hr : lexR src = .err a) : Wk (.tup [.sl .nil [], .int .i64 a, .int .i64 100]) (lexV src) := by
  rw [lexV_err' h hr]
  exact wk_tup3 (Wk.sl (.inr rfl)) (Wk.refl _) (Wk.refl _)

theorem tokX_ok {H : AHeap} {tk : Tok} {ts : List Tkn} (h : tokX H tk ts) : appOK H 4 tk := by
  rcases h with ⟨rfl, -⟩ | ⟨id, rfl, h2⟩
  · rfl
  · exact ⟨rfl, h2⟩
theorem tokX_app {H : AHeap} {n k m : Nat} {tk : Tok} {ts ts' : List Tkn} (hfr : Fresh H n) (h : tokX H tk ts) (hkm : k < m) : tokX (hset (killTok H tk) (n + k) .tok) (.own (n + k) 4) ts' ∧ Fresh (hset (killTok H tk) (n + k) .tok) (n + m) := by
  refine ⟨.inr ⟨_, rfl, hget_hset_eq ..⟩, ?_⟩
  intro j hj
  rw [hget_hset_ne _ _ _ _ (by omega)]
  rcases h with ⟨rfl, -⟩ | ⟨id, rfl, h2⟩
  · exact hfr j (by omega)
  · have := hfr.lt h2
    show hget (hset H id _) j = none
    rw [hget_hset_ne _ _ _ _ (by omega)]; exact hfr j (by omega)
abbrev enI (src : List UInt8) (tk : Tok) (ts : List Tkn) (a i : Nat) : List (Nat × Bool × AVal) := [(0, true, .str src), (5, true, .sl tk (ts.map encK)), (6, true, .int .i64 i), (7, true, .int .i64 a)]
theorem p13 (src : List UInt8) (hs : src.length < 1000000000) : Pur Tryd.prog 13 [.str src] (lexV src) := by
  refine .mk ⟨trivial, trivial⟩ (by unfold lexV; split <;> (try split) <;> simp [AVal.under, unders, Tok.under, encK_under]) (a13 (ev_awp T11_ok (ev_evK ?_)))
  by_cases h' : 65536 < src.length
  · have hc : (65536 : Int) < src.length := by omega
    simp only [kont_nil, kont_n, kont_r, k_skip, k_ret, k_seq, k_block, k_cond, k_reg, r_nil, r_v, penv, postC, rcs, rc1, rvS, eget, lk, lkv, oks, AS.put, AS.keep, evk, evS_eq, allS, fillS, Opk.opds, isI, toI, isB, toB, isS, toS, icmp, AVal.cells, List.length_cons, List.length_nil, List.filterMap, List.map_nil, Option.map_some, reduceCtorEq, and_true, true_and, forall_const, Nat.reduceEqDiff, ↓reduceIte, Nat.reduceAdd, Nat.reduceLeDiff, Nat.reduceMul, List.replicate_zero, false_implies, Nat.zero_add, and_self, ret_eq, Nat.add_zero, decide_true, c13, hc]
    rw [lexV, if_pos h']
    exact wk_tup3 (Wk.sl (.inr rfl)) (Wk.refl _) (Wk.refl _)
  have hc : ((65536 : Int) < src.length) = False := eq_false (by omega)
  simp only [kont_nil, kont_n, kont_r, k_skip, k_ret, k_seq, k_block, k_cond, k_reg, r_nil, r_v, penv, postC, rcs, rc1, rvS, eget, lk, lkv, oks, AS.put, AS.keep, evk, evS_eq, allS, fillS, Opk.opds, isI, toI, isB, toB, isS, toS, icmp, AVal.cells, List.length_cons, List.length_nil, List.filterMap, List.map_nil, Option.map_some, reduceCtorEq, true_and, forall_const, Nat.reduceEqDiff, ↓reduceIte, Bool.false_eq_true, Nat.reduceAdd, Nat.reduceLeDiff, Nat.reduceMul, List.replicate_zero, false_implies, Nat.zero_add, and_self, ret_eq, Nat.add_zero, decide_false, c13, hc]
  refine k_loop (fun v : V13 => ⟨en13 src v, v.H, v.n⟩) (I13 src) (fun v => src.length - v.a) ⟨0, hnil, 0, .exact 4, []⟩ rfl ⟨Nat.zero_le _, Nat.le_refl _, .inl ⟨rfl, rfl⟩, fun _ _ => rfl, lexR_C src⟩ ?_
  rintro ⟨a, H, n, tk, ts⟩ ⟨hle, hfew, htk, hfr, hres⟩
  simp only at hle hfew htk hfr hres
  by_cases hlt : a < src.length
  case neg =>
    simp only [kont_nil, kont_n, kont_e, kont_r, kont_bn, kont_be, kont_br, k_skip, k_exit, k_ret, k_seq, k_block, k_cond, k_reg, r_nil, r_v, r_vg, r_pick, r_call, r_app, appE, callT, lpQ_n, lpQ_e, lpQ_r, postC, rcs, rc1, rvS, gok, gvb, eget, lk, lkv, oks, AS.put, AS.keep, evk, evB_eq, allB, fillB, evS_eq, allS, fillS, splice, Opk.opds, isI, isInt, toI, isB, toB, isS, toS, sel, icmp, iarith, bnd, bndI, nT, AVal.cells, Tok.esz, Option.toList, List.length_cons, List.length_nil, List.filterMap, List.map_cons, List.map_nil, List.append_nil, List.nil_append, List.cons_append, Option.map_some, reduceCtorEq, and_true, true_and, forall_const, Nat.reduceEqDiff, ↓reduceIte, Bool.false_eq_true, Nat.reduceAdd, List.drop, List.take, List.drop_succ_cons, List.take_succ_cons, Nat.reduceLeDiff, Nat.reduceMul, Nat.reduceLT, Int.reduceEq, List.set_cons_zero, List.replicate_succ, List.replicate_zero, Nat.le_refl, Bool.true_and, isDiv, false_implies, implies_true, Nat.zero_add, Bool.cond_false_right, imp_self, beq_true, Bool.not_eq_true', Bool.not_eq_false', Bool.and_eq_true, decide_eq_true_eq, decide_eq_false_iff_not, ne_eq, not_false_eq_true, impA1, and_self, or_false, ret_eq, Nat.add_zero, killTok, appOK, srcOf, decide_false, Int.ofNat_lt, hlt]
    rw [lexV_ok' h' (hres.trans (lexC_end (by omega)))]
    exact wk_tup3 (Wk.sl (tokX_out htk)) (Wk.refl _) (Wk.refl _)
  have hg := List.getElem?_eq_getElem hlt
  have e1 := w64_succ (k := a) (by omega)
  by_cases hsp : isSp (src[a].toNat : Int) = true
  · simp only [kont_nil, kont_n, kont_e, kont_r, kont_bn, kont_be, kont_br, k_skip, k_exit, k_ret, k_seq, k_block, k_cond, k_reg, r_nil, r_v, r_vg, r_pick, r_call, r_app, appE, callT, lpQ_n, lpQ_e, lpQ_r, postC, rcs, rc1, rvS, gok, gvb, eget, lk, lkv, oks, AS.put, AS.keep, evk, evB_eq, allB, fillB, evS_eq, allS, fillS, splice, Opk.opds, isI, isInt, toI, isB, toB, isS, toS, sel, icmp, iarith, bnd, bndI, nT, AVal.cells, Tok.esz, Option.toList, List.length_cons, List.length_nil, List.filterMap, List.map_cons, List.map_nil, List.append_nil, List.nil_append, List.cons_append, Option.map_some, reduceCtorEq, and_true, true_and, forall_const, Nat.reduceEqDiff, ↓reduceIte, Bool.false_eq_true, Nat.reduceAdd, List.drop, List.take, List.drop_succ_cons, List.take_succ_cons, Nat.reduceLeDiff, Nat.reduceMul, Nat.reduceLT, Int.reduceEq, List.set_cons_zero, List.replicate_succ, List.replicate_zero, Nat.le_refl, Bool.true_and, isDiv, false_implies, implies_true, Nat.zero_add, Bool.cond_false_right, imp_self, beq_true, Bool.not_eq_true', Bool.not_eq_false', Bool.and_eq_true, decide_eq_true_eq, decide_eq_false_iff_not, ne_eq, not_false_eq_true, impA1, and_self, or_false, ret_eq, Nat.add_zero, killTok, appOK, srcOf, decide_true, Int.ofNat_lt, hlt, hg, Option.getD_some, Int.toNat_natCast, Int.natCast_nonneg, u8_lt, T11_22, sB, hsp, e1]
    exact .mk ⟨a + 1, H, n, tk, ts⟩ rfl ⟨hlt, by simp only []; omega, htk, hfr, hres.trans (lexC_sp hlt hfew ((byte_cls _).1 hsp))⟩ (by simp only []; omega)
  have hsp' : isSp (src[a].toNat : Int) = false := by simpa using hsp
  by_cases hlet : isLet (src[a].toNat : Int) = true
  · have h47 : ((src[a].toNat : Int) = 47) = False := eq_false fun e => by rw [e] at hlet; exact absurd hlet (by decide)
    simp only [kont_nil, kont_n, kont_e, kont_r, kont_bn, kont_be, kont_br, k_skip, k_exit, k_ret, k_seq, k_block, k_cond, k_reg, r_nil, r_v, r_vg, r_pick, r_call, r_app, appE, callT, lpQ_n, lpQ_e, lpQ_r, postC, rcs, rc1, rvS, gok, gvb, eget, lk, lkv, oks, AS.put, AS.keep, evk, evB_eq, allB, fillB, evS_eq, allS, fillS, splice, Opk.opds, isI, isInt, toI, isB, toB, isS, toS, sel, icmp, iarith, bnd, bndI, nT, AVal.cells, Tok.esz, Option.toList, List.length_cons, List.length_nil, List.filterMap, List.map_cons, List.map_nil, List.append_nil, List.nil_append, List.cons_append, Option.map_some, reduceCtorEq, and_true, true_and, forall_const, Nat.reduceEqDiff, ↓reduceIte, Bool.false_eq_true, Nat.reduceAdd, List.drop, List.take, List.drop_succ_cons, List.take_succ_cons, Nat.reduceLeDiff, Nat.reduceMul, Nat.reduceLT, Int.reduceEq, List.set_cons_zero, List.replicate_succ, List.replicate_zero, Nat.le_refl, isDiv, false_implies, implies_true, Nat.zero_add, imp_self, beq_true, Bool.not_eq_true', Bool.not_eq_false', ne_eq, not_false_eq_true, impA1, and_self, or_false, ret_eq, Nat.add_zero, killTok, appOK, srcOf, decide_true, decide_false, Bool.and_false, cond_false, Int.ofNat_lt, hlt, hg, Option.getD_some, Int.toNat_natCast, Int.natCast_nonneg, u8_lt, T11_22, T11_31, sB, hsp', hlet, h47]
    refine k_loop (fun v : Nat × List (Nat × Bool × AVal) => ⟨enI src tk ts a v.1 ++ v.2, H, n⟩)
      (fun v => (v.2 = [] ∨ v.2 = [(58, true, .bool true)]) ∧ a ≤ v.1 ∧ v.1 ≤ src.length ∧ ∀ j (hj : j < src.length), a ≤ j → j < v.1 → isPart (src[j].toNat : Int) = true) (fun v => src.length - v.1) (a, [(58, true, .bool true)]) rfl ⟨.inr rfl, Nat.le_refl _, hle, fun j _ h1 h2 => by simp only [] at h2; omega⟩ ?_
    rintro ⟨i, X⟩ ⟨hX, hai, hil, hall⟩
    simp only at hX hai hil hall
    have fin : (∀ hi : i < src.length, isPart (src[i].toNat : Int) = false) → (src.take i).drop a = runS [2, 3, 5] (src.drop a) :=
      fun hk => run_take (fun j hj h1 h2 => by rw [part_cls]; exact hall j hj h1 h2) (fun hi => by rw [part_cls]; exact hk hi) hai
    have nxt : (∀ hi : i < src.length, isPart (src[i].toNat : Int) = false) → nameS ((src.take i).drop a) = true → I13 src ⟨i, hset (killTok H tk) (n + 8) .tok, n + 10, .own (n + 8) 4, ts ++ [⟨1, (src.take i).drop a, 0, a⟩]⟩ ∧ src.length - i < src.length - a := by
      intro hk hn
      have hr := fin hk
      have hst := step_name (ts := ts) hlt hlet
      rw [← hr, if_pos hn] at hst
      have hlen : a + ((src.take i).drop a).length = i := by simp; omega
      rw [hlen] at hst
      obtain ⟨p1, p2, p3⟩ := step_progress hlt hfew hst
      obtain ⟨k1, k2⟩ := tokX_app (ts' := ts ++ [⟨1, (src.take i).drop a, 0, a⟩]) (k := 8) (m := 10) hfr htk (by omega)
      exact ⟨⟨hil, p3, k1, k2, hres.trans (lexC_step hlt hfew hst)⟩, by omega⟩
    have bad : (∀ hi : i < src.length, isPart (src[i].toNat : Int) = false) → nameS ((src.take i).drop a) = false → lexR src = .err a := by
      intro hk hn
      have hst := step_name (ts := ts) hlt hlet
      rw [← fin hk, if_neg (by rw [hn]; decide)] at hst
      exact hres.trans (lexC_err hlt hst)
    have hn8 := hfr (n + 8) (by omega)
    have l1 : (ts.length ≤ 35184372088831) = True := eq_true (by omega)
    have l2 : small (ts.length + 1) 40 = True := eq_true (by unfold small; omega)
    rcases hX with rfl | rfl
    · by_cases hi : i < src.length
      · have hgi := List.getElem?_eq_getElem hi
        have ei := w64_succ (k := i) (by omega)
        simp only [kont_nil, kont_n, kont_e, kont_r, kont_bn, kont_be, kont_br, k_skip, k_exit, k_ret, k_seq, k_block, k_cond, k_reg, r_nil, r_v, r_vg, r_pick, r_call, r_callg, r_app, appE, callT, lpQ_n, lpQ_e, lpQ_r, postC, rcs, rc1, rvS, gok, gvb, eget, lk, lkv, oks, AS.put, AS.keep, evk, evB_eq, allB, fillB, evS_eq, allS, fillS, splice, Opk.opds, isI, isInt, toI, isB, toB, isS, toS, sel, icmp, iarith, bnd, bndI, nT, AVal.cells, Tok.esz, Option.toList, List.length_cons, List.length_nil, List.filterMap, List.map_cons, List.map_nil, List.append_nil, List.nil_append, List.cons_append, Option.map_some, reduceCtorEq, and_true, true_and, forall_const, Nat.reduceEqDiff, ↓reduceIte, Bool.false_eq_true, Nat.reduceAdd, List.drop, List.take, List.drop_succ_cons, List.take_succ_cons, Nat.reduceLeDiff, Nat.reduceMul, Nat.reduceLT, Int.reduceEq, List.set_cons_zero, List.replicate_succ, List.replicate_zero, Nat.le_refl, Bool.and_true, beq_self_eq_true, isDiv, implies_true, Nat.zero_add, Bool.not_eq_true', Bool.not_eq_false', ne_eq, not_false_eq_true, and_self, or_false, ret_eq, Nat.add_zero, killTok, appOK, srcOf, decide_true, cond_true, Int.ofNat_lt, Int.ofNat_le, hi, hgi, hai, hil, Option.getD_some, Int.toNat_natCast, Int.natCast_nonneg, u8_lt, T11_32, T11_21, sB, sS, ei, hn8, l1, l2, List.length_map]
        refine ⟨fun hp => .mk (i + 1, []) rfl ⟨.inl rfl, by simp only []; omega, by simp only []; omega, fun j hj h1 h2 => ?_⟩ (by simp only []; omega), fun hp => ?_⟩
        · by_cases q : j = i
          · subst q; exact hp
          · exact hall j hj h1 (by simp only [] at h2; omega)
        · have hk : ∀ hi : i < src.length, isPart (src[i].toNat : Int) = false := fun _ => hp
          exact ⟨fun hn => err_out h' (bad hk hn), fun hn => ⟨tokX_ok htk, .mk ⟨i, hset (killTok H tk) (n + 8) .tok, n + 10, .own (n + 8) 4, ts ++ [⟨1, (src.take i).drop a, 0, a⟩]⟩ (by simp only [en13, List.map_append, List.map_cons, List.map_nil]; rfl) (nxt hk hn).1 (nxt hk hn).2⟩⟩
      · have hk : ∀ hi : i < src.length, isPart (src[i].toNat : Int) = false := fun h => absurd h hi
        simp only [kont_nil, kont_n, kont_e, kont_r, kont_bn, kont_be, kont_br, k_skip, k_exit, k_ret, k_seq, k_block, k_cond, k_reg, r_nil, r_v, r_vg, r_pick, r_call, r_callg, r_app, appE, callT, lpQ_n, lpQ_e, lpQ_r, postC, rcs, rc1, rvS, gok, gvb, eget, lk, lkv, oks, AS.put, AS.keep, evk, evB_eq, allB, fillB, evS_eq, allS, fillS, splice, Opk.opds, isI, isInt, toI, isB, toB, isS, toS, sel, icmp, iarith, bnd, bndI, nT, AVal.cells, Tok.esz, Option.toList, List.length_cons, List.length_nil, List.filterMap, List.map_cons, List.map_nil, List.append_nil, List.nil_append, List.cons_append, Option.map_some, reduceCtorEq, and_true, true_and, forall_const, Nat.reduceEqDiff, ↓reduceIte, Bool.false_eq_true, Nat.reduceAdd, List.drop, List.take, List.drop_succ_cons, List.take_succ_cons, Nat.reduceLeDiff, Nat.reduceMul, Nat.reduceLT, Int.reduceEq, List.set_cons_zero, List.replicate_succ, List.replicate_zero, Nat.le_refl, isDiv, false_implies, implies_true, Nat.zero_add, imp_self, beq_true, Bool.not_eq_true', Bool.not_eq_false', ne_eq, not_false_eq_true, impA1, and_self, or_false, ret_eq, Nat.add_zero, killTok, appOK, srcOf, decide_false, Bool.and_false, cond_false, Int.ofNat_lt, Int.ofNat_le, hi, hai, hil, Int.toNat_natCast, Int.natCast_nonneg, T11_32, sB, T11_21, sS, hn8, l1, l2, List.length_map]
        exact ⟨fun hn => err_out h' (bad hk hn), fun hn => ⟨tokX_ok htk, .mk ⟨i, hset (killTok H tk) (n + 8) .tok, n + 10, .own (n + 8) 4, ts ++ [⟨1, (src.take i).drop a, 0, a⟩]⟩ (by simp only [en13, List.map_append, List.map_cons, List.map_nil]; rfl) (nxt hk hn).1 (nxt hk hn).2⟩⟩
    · by_cases hi : i < src.length
      · have hgi := List.getElem?_eq_getElem hi
        have ei := w64_succ (k := i) (by omega)
        simp only [kont_nil, kont_n, kont_e, kont_r, kont_bn, kont_be, kont_br, k_skip, k_exit, k_ret, k_seq, k_block, k_cond, k_reg, r_nil, r_v, r_vg, r_pick, r_call, r_callg, r_app, appE, callT, lpQ_n, lpQ_e, lpQ_r, postC, rcs, rc1, rvS, gok, gvb, eget, lk, lkv, oks, AS.put, AS.keep, evk, evB_eq, allB, fillB, evS_eq, allS, fillS, splice, Opk.opds, isI, isInt, toI, isB, toB, isS, toS, sel, icmp, iarith, bnd, bndI, nT, AVal.cells, Tok.esz, Option.toList, List.length_cons, List.length_nil, List.filterMap, List.map_cons, List.map_nil, List.append_nil, List.nil_append, List.cons_append, Option.map_some, reduceCtorEq, and_true, true_and, forall_const, Nat.reduceEqDiff, ↓reduceIte, Bool.false_eq_true, Nat.reduceAdd, List.drop, List.take, List.drop_succ_cons, List.take_succ_cons, Nat.reduceLeDiff, Nat.reduceMul, Nat.reduceLT, Int.reduceEq, List.set_cons_zero, List.replicate_succ, List.replicate_zero, Nat.le_refl, Bool.and_true, beq_self_eq_true, isDiv, implies_true, Nat.zero_add, Bool.not_eq_true', Bool.not_eq_false', ne_eq, not_false_eq_true, and_self, or_false, ret_eq, Nat.add_zero, killTok, appOK, srcOf, decide_true, cond_true, Int.ofNat_lt, Int.ofNat_le, hi, hgi, hai, hil, Option.getD_some, Int.toNat_natCast, Int.natCast_nonneg, u8_lt, T11_32, T11_21, sB, sS, ei, hn8, l1, l2, List.length_map]
        refine ⟨fun hp => .mk (i + 1, []) rfl ⟨.inl rfl, by simp only []; omega, by simp only []; omega, fun j hj h1 h2 => ?_⟩ (by simp only []; omega), fun hp => ?_⟩
        · by_cases q : j = i
          · subst q; exact hp
          · exact hall j hj h1 (by simp only [] at h2; omega)
        · have hk : ∀ hi : i < src.length, isPart (src[i].toNat : Int) = false := fun _ => hp
          exact ⟨fun hn => err_out h' (bad hk hn), fun hn => ⟨tokX_ok htk, .mk ⟨i, hset (killTok H tk) (n + 8) .tok, n + 10, .own (n + 8) 4, ts ++ [⟨1, (src.take i).drop a, 0, a⟩]⟩ (by simp only [en13, List.map_append, List.map_cons, List.map_nil]; rfl) (nxt hk hn).1 (nxt hk hn).2⟩⟩
      · have hk : ∀ hi : i < src.length, isPart (src[i].toNat : Int) = false := fun h => absurd h hi
        simp only [kont_nil, kont_n, kont_e, kont_r, kont_bn, kont_be, kont_br, k_skip, k_exit, k_ret, k_seq, k_block, k_cond, k_reg, r_nil, r_v, r_vg, r_pick, r_call, r_callg, r_app, appE, callT, lpQ_n, lpQ_e, lpQ_r, postC, rcs, rc1, rvS, gok, gvb, eget, lk, lkv, oks, AS.put, AS.keep, evk, evB_eq, allB, fillB, evS_eq, allS, fillS, splice, Opk.opds, isI, isInt, toI, isB, toB, isS, toS, sel, icmp, iarith, bnd, bndI, nT, AVal.cells, Tok.esz, Option.toList, List.length_cons, List.length_nil, List.filterMap, List.map_cons, List.map_nil, List.append_nil, List.nil_append, List.cons_append, Option.map_some, reduceCtorEq, and_true, true_and, forall_const, Nat.reduceEqDiff, ↓reduceIte, Bool.false_eq_true, Nat.reduceAdd, List.drop, List.take, List.drop_succ_cons, List.take_succ_cons, Nat.reduceLeDiff, Nat.reduceMul, Nat.reduceLT, Int.reduceEq, List.set_cons_zero, List.replicate_succ, List.replicate_zero, Nat.le_refl, isDiv, false_implies, implies_true, Nat.zero_add, imp_self, beq_true, Bool.not_eq_true', Bool.not_eq_false', ne_eq, not_false_eq_true, impA1, and_self, or_false, ret_eq, Nat.add_zero, killTok, appOK, srcOf, decide_false, Bool.and_false, cond_false, Int.ofNat_lt, Int.ofNat_le, hi, hai, hil, Int.toNat_natCast, Int.natCast_nonneg, T11_32, sB, T11_21, sS, hn8, l1, l2, List.length_map]
        exact ⟨fun hn => err_out h' (bad hk hn), fun hn => ⟨tokX_ok htk, .mk ⟨i, hset (killTok H tk) (n + 8) .tok, n + 10, .own (n + 8) 4, ts ++ [⟨1, (src.take i).drop a, 0, a⟩]⟩ (by simp only [en13, List.map_append, List.map_cons, List.map_nil]; rfl) (nxt hk hn).1 (nxt hk hn).2⟩⟩
  have hlet' : isLet (src[a].toNat : Int) = false := by simpa using hlet
  by_cases hdig : isDig (src[a].toNat : Int) = true
  · have h47 : ((src[a].toNat : Int) = 47) = False := eq_false fun e => by rw [e] at hdig; exact absurd hdig (by decide)
    simp only [kont_nil, kont_n, kont_e, kont_r, kont_bn, kont_be, kont_br, k_skip, k_exit, k_ret, k_seq, k_block, k_cond, k_reg, r_nil, r_v, r_vg, r_pick, r_call, r_app, appE, callT, lpQ_n, lpQ_e, lpQ_r, postC, rcs, rc1, rvS, gok, gvb, eget, lk, lkv, oks, AS.put, AS.keep, evk, evB_eq, allB, fillB, evS_eq, allS, fillS, splice, Opk.opds, isI, isInt, toI, isB, toB, isS, toS, sel, icmp, iarith, bnd, bndI, nT, AVal.cells, Tok.esz, Option.toList, List.length_cons, List.length_nil, List.filterMap, List.map_cons, List.map_nil, List.append_nil, List.nil_append, List.cons_append, Option.map_some, reduceCtorEq, and_true, true_and, forall_const, Nat.reduceEqDiff, ↓reduceIte, Bool.false_eq_true, Nat.reduceAdd, List.drop, List.take, List.drop_succ_cons, List.take_succ_cons, Nat.reduceLeDiff, Nat.reduceMul, Nat.reduceLT, Int.reduceEq, List.set_cons_zero, List.replicate_succ, List.replicate_zero, Nat.le_refl, isDiv, false_implies, implies_true, Nat.zero_add, imp_self, beq_true, Bool.not_eq_true', Bool.not_eq_false', ne_eq, not_false_eq_true, impA1, and_self, or_false, ret_eq, Nat.add_zero, killTok, appOK, srcOf, decide_true, decide_false, Bool.and_false, cond_false, Int.ofNat_lt, hlt, hg, Option.getD_some, Int.toNat_natCast, Int.natCast_nonneg, u8_lt, T11_22, T11_31, T11_33, sB, hsp', hlet', hdig, h47]
    refine k_loop (fun v : Nat × List (Nat × Bool × AVal) => ⟨enI src tk ts a v.1 ++ v.2, H, n⟩)
      (fun v => (v.2 = [] ∨ v.2 = [(90, true, .bool true)]) ∧ a ≤ v.1 ∧ v.1 ≤ src.length ∧ ∀ j (hj : j < src.length), a ≤ j → j < v.1 → isDig (src[j].toNat : Int) = true) (fun v => src.length - v.1) (a, [(90, true, .bool true)]) rfl ⟨.inr rfl, Nat.le_refl _, hle, fun j _ h1 h2 => by simp only [] at h2; omega⟩ ?_
    rintro ⟨i, X⟩ ⟨hX, hai, hil, hall⟩
    simp only at hX hai hil hall
    have fin : (∀ hi : i < src.length, isDig (src[i].toNat : Int) = false) → (src.take i).drop a = runS [3] (src.drop a) :=
      fun hk => run_take (fun j hj h1 h2 => by rw [dig_cls]; exact hall j hj h1 h2) (fun hi => by rw [dig_cls]; exact hk hi) hai
    have pos : (∀ hi : i < src.length, isDig (src[i].toNat : Int) = false) → a < i := fun hk => by
      rcases Nat.lt_or_ge a i with h | h
      · exact h
      · have : a = i := by omega
        subst this
        rw [hk hlt] at hdig; cases hdig
    have dgs : (∀ hi : i < src.length, isDig (src[i].toNat : Int) = false) → ∀ b ∈ (src.take i).drop a, digB b = true := fun hk b hb => by
      rw [fin hk] at hb; exact run_dig b hb
    have nxt : (∀ hi : i < src.length, isDig (src[i].toNat : Int) = false) → valN ((src.take i).drop a) 0 ≤ 1099511627776 → canB ((src.take i).drop a) = true → I13 src ⟨i, hset (killTok H tk) (n + 5) .tok, n + 7, .own (n + 5) 4, ts ++ [⟨2, [], valN ((src.take i).drop a) 0, a⟩]⟩ ∧ src.length - i < src.length - a := by
      intro hk hn hc
      have hst := step_num (ts := ts) hlt hdig
      rw [← fin hk, if_pos ⟨hn, hc⟩] at hst
      have hlen : a + ((src.take i).drop a).length = i := by simp; omega
      rw [hlen] at hst
      obtain ⟨p1, p2, p3⟩ := step_progress hlt hfew hst
      obtain ⟨k1, k2⟩ := tokX_app (ts' := ts ++ [⟨2, [], valN ((src.take i).drop a) 0, a⟩]) (k := 5) (m := 7) hfr htk (by omega)
      exact ⟨⟨hil, p3, k1, k2, hres.trans (lexC_step hlt hfew hst)⟩, by omega⟩
    have bad : (∀ hi : i < src.length, isDig (src[i].toNat : Int) = false) → ¬ (valN ((src.take i).drop a) 0 ≤ 1099511627776 ∧ canB ((src.take i).drop a) = true) → lexR src = .err a := by
      intro hk hn
      have hst := step_num (ts := ts) hlt hdig
      rw [← fin hk, if_neg hn] at hst
      exact hres.trans (lexC_err hlt hst)
    have hn8 := hfr (n + 5) (by omega)
    have l1 : (ts.length ≤ 35184372088831) = True := eq_true (by omega)
    have l2 : small (ts.length + 1) 40 = True := eq_true (by unfold small; omega)
    have hlen : ((src.take i).drop a).length = i - a := by simp; omega
    have pre : (∀ hi : i < src.length, isDig (src[i].toNat : Int) = false) → 0 < ((src.take i).drop a).length ∧ ((src.take i).drop a).length < 1000000000 ∧ ∀ b ∈ (src.take i).drop a, digB b = true := fun hk => by
      have := pos hk
      exact ⟨by omega, by omega, dgs hk⟩
    by_cases hv : valN ((src.take i).drop a) 0 ≤ 1099511627776
    · have hvT : (valN ((src.take i).drop a) 0 ≤ 1099511627776) = True := eq_true hv
      rcases hX with rfl | rfl
      · by_cases hi : i < src.length
        · have hgi := List.getElem?_eq_getElem hi
          have ei := w64_succ (k := i) (by omega)
          simp only [kont_nil, kont_n, kont_e, kont_r, kont_bn, kont_be, kont_br, k_skip, k_exit, k_ret, k_seq, k_block, k_cond, k_reg, r_nil, r_v, r_vg, r_pick, r_call, r_callg, r_app, appE, callT, lpQ_n, lpQ_e, lpQ_r, postC, rcs, rc1, rvS, gok, gvb, eget, lk, lkv, oks, AS.put, AS.keep, evk, evB_eq, allB, fillB, evS_eq, allS, fillS, splice, Opk.opds, isI, isInt, toI, isB, toB, isS, toS, sel, icmp, iarith, bnd, bndI, nT, AVal.cells, Tok.esz, Option.toList, List.length_cons, List.length_nil, List.filterMap, List.map_cons, List.map_nil, List.append_nil, List.nil_append, List.cons_append, Option.map_some, reduceCtorEq, and_true, true_and, forall_const, Nat.reduceEqDiff, ↓reduceIte, Bool.false_eq_true, Nat.reduceAdd, List.drop, List.take, List.drop_succ_cons, List.take_succ_cons, Nat.reduceLeDiff, Nat.reduceMul, Nat.reduceLT, Int.reduceEq, List.set_cons_zero, List.replicate_succ, List.replicate_zero, Nat.le_refl, Bool.and_true, beq_self_eq_true, isDiv, implies_true, Nat.zero_add, Bool.not_eq_true', Bool.not_eq_false', ne_eq, not_false_eq_true, and_self, or_false, ret_eq, Nat.add_zero, killTok, appOK, srcOf, decide_true, cond_true, Int.ofNat_lt, Int.ofNat_le, hi, hgi, hai, hil, Option.getD_some, Int.toNat_natCast, Int.natCast_nonneg, u8_lt, T11_33, T11_34, s34, sB, numF_val, hvT, List.getElem?_cons_zero, List.getElem?_cons_succ, ei, hn8, l1, l2, List.length_map]
          refine ⟨fun hp => .mk (i + 1, []) rfl ⟨.inl rfl, by simp only []; omega, by simp only []; omega, fun j hj h1 h2 => ?_⟩ (by simp only []; omega), fun hp => ?_⟩
          · by_cases q : j = i
            · subst q; exact hp
            · exact hall j hj h1 (by simp only [] at h2; omega)
          · have hk : ∀ hi : i < src.length, isDig (src[i].toNat : Int) = false := fun _ => hp
            exact ⟨pre hk, fun hc => err_out h' (bad hk fun e => by rw [e.2] at hc; cases hc), fun hc => ⟨tokX_ok htk, .mk ⟨i, hset (killTok H tk) (n + 5) .tok, n + 7, .own (n + 5) 4, ts ++ [⟨2, [], valN ((src.take i).drop a) 0, a⟩]⟩ (by simp only [en13, List.map_append, List.map_cons, List.map_nil]; rfl) (nxt hk hv hc).1 (nxt hk hv hc).2⟩⟩
        · have hk : ∀ hi : i < src.length, isDig (src[i].toNat : Int) = false := fun h => absurd h hi
          simp only [kont_nil, kont_n, kont_e, kont_r, kont_bn, kont_be, kont_br, k_skip, k_exit, k_ret, k_seq, k_block, k_cond, k_reg, r_nil, r_v, r_vg, r_pick, r_call, r_callg, r_app, appE, callT, lpQ_n, lpQ_e, lpQ_r, postC, rcs, rc1, rvS, gok, gvb, eget, lk, lkv, oks, AS.put, AS.keep, evk, evB_eq, allB, fillB, evS_eq, allS, fillS, splice, Opk.opds, isI, isInt, toI, isB, toB, isS, toS, sel, icmp, iarith, bnd, bndI, nT, AVal.cells, Tok.esz, Option.toList, List.length_cons, List.length_nil, List.filterMap, List.map_cons, List.map_nil, List.append_nil, List.nil_append, List.cons_append, Option.map_some, reduceCtorEq, and_true, true_and, forall_const, Nat.reduceEqDiff, ↓reduceIte, Bool.false_eq_true, Nat.reduceAdd, List.drop, List.take, List.drop_succ_cons, List.take_succ_cons, Nat.reduceLeDiff, Nat.reduceMul, Nat.reduceLT, Int.reduceEq, List.set_cons_zero, List.replicate_succ, List.replicate_zero, Nat.le_refl, isDiv, false_implies, implies_true, Nat.zero_add, imp_self, beq_true, Bool.not_eq_true', Bool.not_eq_false', ne_eq, not_false_eq_true, impA1, and_self, or_false, ret_eq, Nat.add_zero, killTok, appOK, srcOf, decide_false, Bool.and_false, cond_false, Int.ofNat_lt, Int.ofNat_le, hi, hai, hil, Option.getD_some, Int.toNat_natCast, Int.natCast_nonneg, T11_33, sB, T11_34, s34, numF_val, hvT, List.getElem?_cons_zero, List.getElem?_cons_succ, hn8, l1, l2, List.length_map]
          exact ⟨pre hk, fun hc => err_out h' (bad hk fun e => by rw [e.2] at hc; cases hc), fun hc => ⟨tokX_ok htk, .mk ⟨i, hset (killTok H tk) (n + 5) .tok, n + 7, .own (n + 5) 4, ts ++ [⟨2, [], valN ((src.take i).drop a) 0, a⟩]⟩ (by simp only [en13, List.map_append, List.map_cons, List.map_nil]; rfl) (nxt hk hv hc).1 (nxt hk hv hc).2⟩⟩
      · by_cases hi : i < src.length
        · have hgi := List.getElem?_eq_getElem hi
          have ei := w64_succ (k := i) (by omega)
          simp only [kont_nil, kont_n, kont_e, kont_r, kont_bn, kont_be, kont_br, k_skip, k_exit, k_ret, k_seq, k_block, k_cond, k_reg, r_nil, r_v, r_vg, r_pick, r_call, r_callg, r_app, appE, callT, lpQ_n, lpQ_e, lpQ_r, postC, rcs, rc1, rvS, gok, gvb, eget, lk, lkv, oks, AS.put, AS.keep, evk, evB_eq, allB, fillB, evS_eq, allS, fillS, splice, Opk.opds, isI, isInt, toI, isB, toB, isS, toS, sel, icmp, iarith, bnd, bndI, nT, AVal.cells, Tok.esz, Option.toList, List.length_cons, List.length_nil, List.filterMap, List.map_cons, List.map_nil, List.append_nil, List.nil_append, List.cons_append, Option.map_some, reduceCtorEq, and_true, true_and, forall_const, Nat.reduceEqDiff, ↓reduceIte, Bool.false_eq_true, Nat.reduceAdd, List.drop, List.take, List.drop_succ_cons, List.take_succ_cons, Nat.reduceLeDiff, Nat.reduceMul, Nat.reduceLT, Int.reduceEq, List.set_cons_zero, List.replicate_succ, List.replicate_zero, Nat.le_refl, Bool.and_true, beq_self_eq_true, isDiv, implies_true, Nat.zero_add, Bool.not_eq_true', Bool.not_eq_false', ne_eq, not_false_eq_true, and_self, or_false, ret_eq, Nat.add_zero, killTok, appOK, srcOf, decide_true, cond_true, Int.ofNat_lt, Int.ofNat_le, hi, hgi, hai, hil, Option.getD_some, Int.toNat_natCast, Int.natCast_nonneg, u8_lt, T11_33, T11_34, s34, sB, numF_val, hvT, List.getElem?_cons_zero, List.getElem?_cons_succ, ei, hn8, l1, l2, List.length_map]
          refine ⟨fun hp => .mk (i + 1, []) rfl ⟨.inl rfl, by simp only []; omega, by simp only []; omega, fun j hj h1 h2 => ?_⟩ (by simp only []; omega), fun hp => ?_⟩
          · by_cases q : j = i
            · subst q; exact hp
            · exact hall j hj h1 (by simp only [] at h2; omega)
          · have hk : ∀ hi : i < src.length, isDig (src[i].toNat : Int) = false := fun _ => hp
            exact ⟨pre hk, fun hc => err_out h' (bad hk fun e => by rw [e.2] at hc; cases hc), fun hc => ⟨tokX_ok htk, .mk ⟨i, hset (killTok H tk) (n + 5) .tok, n + 7, .own (n + 5) 4, ts ++ [⟨2, [], valN ((src.take i).drop a) 0, a⟩]⟩ (by simp only [en13, List.map_append, List.map_cons, List.map_nil]; rfl) (nxt hk hv hc).1 (nxt hk hv hc).2⟩⟩
        · have hk : ∀ hi : i < src.length, isDig (src[i].toNat : Int) = false := fun h => absurd h hi
          simp only [kont_nil, kont_n, kont_e, kont_r, kont_bn, kont_be, kont_br, k_skip, k_exit, k_ret, k_seq, k_block, k_cond, k_reg, r_nil, r_v, r_vg, r_pick, r_call, r_callg, r_app, appE, callT, lpQ_n, lpQ_e, lpQ_r, postC, rcs, rc1, rvS, gok, gvb, eget, lk, lkv, oks, AS.put, AS.keep, evk, evB_eq, allB, fillB, evS_eq, allS, fillS, splice, Opk.opds, isI, isInt, toI, isB, toB, isS, toS, sel, icmp, iarith, bnd, bndI, nT, AVal.cells, Tok.esz, Option.toList, List.length_cons, List.length_nil, List.filterMap, List.map_cons, List.map_nil, List.append_nil, List.nil_append, List.cons_append, Option.map_some, reduceCtorEq, and_true, true_and, forall_const, Nat.reduceEqDiff, ↓reduceIte, Bool.false_eq_true, Nat.reduceAdd, List.drop, List.take, List.drop_succ_cons, List.take_succ_cons, Nat.reduceLeDiff, Nat.reduceMul, Nat.reduceLT, Int.reduceEq, List.set_cons_zero, List.replicate_succ, List.replicate_zero, Nat.le_refl, isDiv, false_implies, implies_true, Nat.zero_add, imp_self, beq_true, Bool.not_eq_true', Bool.not_eq_false', ne_eq, not_false_eq_true, impA1, and_self, or_false, ret_eq, Nat.add_zero, killTok, appOK, srcOf, decide_false, Bool.and_false, cond_false, Int.ofNat_lt, Int.ofNat_le, hi, hai, hil, Option.getD_some, Int.toNat_natCast, Int.natCast_nonneg, T11_33, sB, T11_34, s34, numF_val, hvT, List.getElem?_cons_zero, List.getElem?_cons_succ, hn8, l1, l2, List.length_map]
          exact ⟨pre hk, fun hc => err_out h' (bad hk fun e => by rw [e.2] at hc; cases hc), fun hc => ⟨tokX_ok htk, .mk ⟨i, hset (killTok H tk) (n + 5) .tok, n + 7, .own (n + 5) 4, ts ++ [⟨2, [], valN ((src.take i).drop a) 0, a⟩]⟩ (by simp only [en13, List.map_append, List.map_cons, List.map_nil]; rfl) (nxt hk hv hc).1 (nxt hk hv hc).2⟩⟩
    · have hvT : (valN ((src.take i).drop a) 0 ≤ 1099511627776) = False := eq_false hv
      rcases hX with rfl | rfl
      · by_cases hi : i < src.length
        · have hgi := List.getElem?_eq_getElem hi
          have ei := w64_succ (k := i) (by omega)
          simp only [kont_nil, kont_n, kont_e, kont_r, kont_bn, kont_be, kont_br, k_skip, k_exit, k_ret, k_seq, k_block, k_cond, k_reg, r_nil, r_v, r_vg, r_pick, r_call, r_callg, r_app, appE, callT, lpQ_n, lpQ_e, lpQ_r, postC, rcs, rc1, rvS, gok, gvb, eget, lk, lkv, oks, AS.put, AS.keep, evk, evB_eq, allB, fillB, evS_eq, allS, fillS, splice, Opk.opds, isI, isInt, toI, isB, toB, isS, toS, sel, icmp, iarith, bnd, bndI, nT, AVal.cells, Tok.esz, Option.toList, List.length_cons, List.length_nil, List.filterMap, List.map_cons, List.map_nil, List.append_nil, List.nil_append, List.cons_append, Option.map_some, reduceCtorEq, and_true, true_and, forall_const, Nat.reduceEqDiff, ↓reduceIte, Bool.false_eq_true, Nat.reduceAdd, List.drop, List.take, List.drop_succ_cons, List.take_succ_cons, Nat.reduceLeDiff, Nat.reduceMul, Nat.reduceLT, Int.reduceEq, List.set_cons_zero, List.replicate_succ, List.replicate_zero, Nat.le_refl, Bool.and_true, beq_self_eq_true, isDiv, false_implies, implies_true, Nat.zero_add, Bool.not_eq_true', Bool.not_eq_false', ne_eq, not_false_eq_true, and_self, or_false, ret_eq, Nat.add_zero, killTok, appOK, srcOf, decide_true, cond_true, Int.ofNat_lt, Int.ofNat_le, hi, hgi, hai, hil, Option.getD_some, Int.toNat_natCast, Int.natCast_nonneg, u8_lt, T11_33, T11_34, s34, sB, numF_val, hvT, List.getElem?_cons_zero, List.getElem?_cons_succ, ei, hn8, l1, l2, List.length_map]
          refine ⟨fun hp => .mk (i + 1, []) rfl ⟨.inl rfl, by simp only []; omega, by simp only []; omega, fun j hj h1 h2 => ?_⟩ (by simp only []; omega), fun hp => ?_⟩
          · by_cases q : j = i
            · subst q; exact hp
            · exact hall j hj h1 (by simp only [] at h2; omega)
          · have hk : ∀ hi : i < src.length, isDig (src[i].toNat : Int) = false := fun _ => hp
            exact ⟨pre hk, err_out h' (bad hk fun e => hv e.1)⟩
        · have hk : ∀ hi : i < src.length, isDig (src[i].toNat : Int) = false := fun h => absurd h hi
          simp only [kont_nil, kont_n, kont_e, kont_r, kont_bn, kont_be, kont_br, k_skip, k_exit, k_ret, k_seq, k_block, k_cond, k_reg, r_nil, r_v, r_vg, r_pick, r_call, r_callg, r_app, appE, callT, lpQ_n, lpQ_e, lpQ_r, postC, rcs, rc1, rvS, gok, gvb, eget, lk, lkv, oks, AS.put, AS.keep, evk, evB_eq, allB, fillB, evS_eq, allS, fillS, splice, Opk.opds, isI, isInt, toI, isB, toB, isS, toS, sel, icmp, iarith, bnd, bndI, nT, AVal.cells, Tok.esz, Option.toList, List.length_cons, List.length_nil, List.filterMap, List.map_cons, List.map_nil, List.append_nil, List.nil_append, List.cons_append, Option.map_some, reduceCtorEq, and_true, true_and, forall_const, Nat.reduceEqDiff, ↓reduceIte, Bool.false_eq_true, Nat.reduceAdd, List.drop, List.take, List.drop_succ_cons, List.take_succ_cons, Nat.reduceLeDiff, Nat.reduceMul, Nat.reduceLT, Int.reduceEq, List.set_cons_zero, List.replicate_succ, List.replicate_zero, Nat.le_refl, isDiv, false_implies, implies_true, Nat.zero_add, imp_self, beq_true, Bool.not_eq_true', Bool.not_eq_false', ne_eq, not_false_eq_true, impA1, and_self, or_false, ret_eq, Nat.add_zero, killTok, appOK, srcOf, decide_false, Bool.and_false, cond_false, Int.ofNat_lt, Int.ofNat_le, hi, hai, hil, Option.getD_some, Int.toNat_natCast, Int.natCast_nonneg, T11_33, sB, T11_34, s34, numF_val, hvT, List.getElem?_cons_zero, List.getElem?_cons_succ, hn8, l1, l2, List.length_map]
          exact ⟨pre hk, err_out h' (bad hk fun e => hv e.1)⟩
      · by_cases hi : i < src.length
        · have hgi := List.getElem?_eq_getElem hi
          have ei := w64_succ (k := i) (by omega)
          simp only [kont_nil, kont_n, kont_e, kont_r, kont_bn, kont_be, kont_br, k_skip, k_exit, k_ret, k_seq, k_block, k_cond, k_reg, r_nil, r_v, r_vg, r_pick, r_call, r_callg, r_app, appE, callT, lpQ_n, lpQ_e, lpQ_r, postC, rcs, rc1, rvS, gok, gvb, eget, lk, lkv, oks, AS.put, AS.keep, evk, evB_eq, allB, fillB, evS_eq, allS, fillS, splice, Opk.opds, isI, isInt, toI, isB, toB, isS, toS, sel, icmp, iarith, bnd, bndI, nT, AVal.cells, Tok.esz, Option.toList, List.length_cons, List.length_nil, List.filterMap, List.map_cons, List.map_nil, List.append_nil, List.nil_append, List.cons_append, Option.map_some, reduceCtorEq, and_true, true_and, forall_const, Nat.reduceEqDiff, ↓reduceIte, Bool.false_eq_true, Nat.reduceAdd, List.drop, List.take, List.drop_succ_cons, List.take_succ_cons, Nat.reduceLeDiff, Nat.reduceMul, Nat.reduceLT, Int.reduceEq, List.set_cons_zero, List.replicate_succ, List.replicate_zero, Nat.le_refl, Bool.and_true, beq_self_eq_true, isDiv, false_implies, implies_true, Nat.zero_add, Bool.not_eq_true', Bool.not_eq_false', ne_eq, not_false_eq_true, and_self, or_false, ret_eq, Nat.add_zero, killTok, appOK, srcOf, decide_true, cond_true, Int.ofNat_lt, Int.ofNat_le, hi, hgi, hai, hil, Option.getD_some, Int.toNat_natCast, Int.natCast_nonneg, u8_lt, T11_33, T11_34, s34, sB, numF_val, hvT, List.getElem?_cons_zero, List.getElem?_cons_succ, ei, hn8, l1, l2, List.length_map]
          refine ⟨fun hp => .mk (i + 1, []) rfl ⟨.inl rfl, by simp only []; omega, by simp only []; omega, fun j hj h1 h2 => ?_⟩ (by simp only []; omega), fun hp => ?_⟩
          · by_cases q : j = i
            · subst q; exact hp
            · exact hall j hj h1 (by simp only [] at h2; omega)
          · have hk : ∀ hi : i < src.length, isDig (src[i].toNat : Int) = false := fun _ => hp
            exact ⟨pre hk, err_out h' (bad hk fun e => hv e.1)⟩
        · have hk : ∀ hi : i < src.length, isDig (src[i].toNat : Int) = false := fun h => absurd h hi
          simp only [kont_nil, kont_n, kont_e, kont_r, kont_bn, kont_be, kont_br, k_skip, k_exit, k_ret, k_seq, k_block, k_cond, k_reg, r_nil, r_v, r_vg, r_pick, r_call, r_callg, r_app, appE, callT, lpQ_n, lpQ_e, lpQ_r, postC, rcs, rc1, rvS, gok, gvb, eget, lk, lkv, oks, AS.put, AS.keep, evk, evB_eq, allB, fillB, evS_eq, allS, fillS, splice, Opk.opds, isI, isInt, toI, isB, toB, isS, toS, sel, icmp, iarith, bnd, bndI, nT, AVal.cells, Tok.esz, Option.toList, List.length_cons, List.length_nil, List.filterMap, List.map_cons, List.map_nil, List.append_nil, List.nil_append, List.cons_append, Option.map_some, reduceCtorEq, and_true, true_and, forall_const, Nat.reduceEqDiff, ↓reduceIte, Bool.false_eq_true, Nat.reduceAdd, List.drop, List.take, List.drop_succ_cons, List.take_succ_cons, Nat.reduceLeDiff, Nat.reduceMul, Nat.reduceLT, Int.reduceEq, List.set_cons_zero, List.replicate_succ, List.replicate_zero, Nat.le_refl, isDiv, false_implies, implies_true, Nat.zero_add, imp_self, beq_true, Bool.not_eq_true', Bool.not_eq_false', ne_eq, not_false_eq_true, impA1, and_self, or_false, ret_eq, Nat.add_zero, killTok, appOK, srcOf, decide_false, Bool.and_false, cond_false, Int.ofNat_lt, Int.ofNat_le, hi, hai, hil, Option.getD_some, Int.toNat_natCast, Int.natCast_nonneg, T11_33, sB, T11_34, s34, numF_val, hvT, List.getElem?_cons_zero, List.getElem?_cons_succ, hn8, l1, l2, List.length_map]
          exact ⟨pre hk, err_out h' (bad hk fun e => hv e.1)⟩
  have hdig' : isDig (src[a].toNat : Int) = false := by simpa using hdig
  by_cases hsgn : isSgn (src[a].toNat : Int) = true
  case neg =>
    have hsgn' : isSgn (src[a].toNat : Int) = false := by simpa using hsgn
    have h47 : ((src[a].toNat : Int) = 47) = False := eq_false fun e => by rw [e] at hsgn; exact absurd (by decide) hsgn
    simp only [kont_nil, kont_n, kont_e, kont_r, kont_bn, kont_be, kont_br, k_skip, k_exit, k_ret, k_seq, k_block, k_cond, k_reg, r_nil, r_v, r_vg, r_pick, r_call, r_app, appE, callT, lpQ_n, lpQ_e, lpQ_r, postC, rcs, rc1, rvS, gok, gvb, eget, lk, lkv, oks, AS.put, AS.keep, evk, evB_eq, allB, fillB, evS_eq, allS, fillS, splice, Opk.opds, isI, isInt, toI, isB, toB, isS, toS, sel, icmp, iarith, bnd, bndI, nT, AVal.cells, Tok.esz, Option.toList, List.length_cons, List.length_nil, List.filterMap, List.map_cons, List.map_nil, List.append_nil, List.nil_append, List.cons_append, Option.map_some, reduceCtorEq, and_true, true_and, forall_const, Nat.reduceEqDiff, ↓reduceIte, Bool.false_eq_true, Nat.reduceAdd, List.drop, List.take, List.drop_succ_cons, List.take_succ_cons, Nat.reduceLeDiff, Nat.reduceMul, Nat.reduceLT, Int.reduceEq, List.set_cons_zero, List.replicate_succ, List.replicate_zero, Nat.le_refl, isDiv, false_implies, implies_true, Nat.zero_add, imp_self, beq_true, Bool.not_eq_true', Bool.not_eq_false', ne_eq, not_false_eq_true, impA1, and_self, or_false, ret_eq, Nat.add_zero, killTok, appOK, srcOf, decide_true, decide_false, Bool.and_false, cond_false, Int.ofNat_lt, hlt, hg, Option.getD_some, Int.toNat_natCast, Int.natCast_nonneg, u8_lt, T11_22, T11_31, T11_33, T11_35, sB, hsp', hlet', hdig', hsgn', h47]
    exact err_out h' (hres.trans (lexC_err hlt (step_bad hlt hsp' hlet' hdig' hsgn')))
  have hn8 := hfr (n + 8) (by omega)
  have l1 : (ts.length ≤ 35184372088831) = True := eq_true (by omega)
  have l2 : small (ts.length + 1) 40 = True := eq_true (by unfold small; omega)
  have hone : (src.take (a + 1)).drop a = [src[a]] := by
    rw [List.drop_take, show a + 1 - a = 1 by omega, drop_at hlt]; rfl
  have hle1 : (a ≤ a + 1) = True := eq_true (by omega)
  have nxt : ¬ (src[a] = 47 ∧ src[a + 1]? = some 47) → I13 src ⟨a + 1, hset (killTok H tk) (n + 8) .tok, n + 10, .own (n + 8) 4, ts ++ [⟨3, [src[a]], 0, a⟩]⟩ ∧ src.length - (a + 1) < src.length - a := by
    intro hn
    have hst := step_sgn1 (ts := ts) hlt hsgn hn
    obtain ⟨k1, k2⟩ := tokX_app (ts' := ts ++ [⟨3, [src[a]], 0, a⟩]) (k := 8) (m := 10) hfr htk (by omega)
    refine ⟨⟨hlt, ?_, k1, k2, hres.trans (lexC_step hlt hfew hst)⟩, by omega⟩
    simp only [List.length_append, List.length_cons, List.length_nil]; omega
  by_cases h47 : src[a].toNat = 47
  case neg =>
    have h47' : ((src[a].toNat : Int) = 47) = False := eq_false (by omega)
    simp only [kont_nil, kont_n, kont_e, kont_r, kont_bn, kont_be, kont_br, k_skip, k_exit, k_ret, k_seq, k_block, k_cond, k_reg, r_nil, r_v, r_vg, r_pick, r_call, r_app, appE, callT, lpQ_n, lpQ_e, lpQ_r, postC, rcs, rc1, rvS, gok, gvb, eget, lk, lkv, oks, AS.put, AS.keep, evk, evB_eq, allB, fillB, evS_eq, allS, fillS, splice, Opk.opds, isI, isInt, toI, isB, toB, isS, toS, sel, icmp, iarith, bnd, bndI, nT, AVal.cells, Tok.esz, Option.toList, List.length_cons, List.length_nil, List.filterMap, List.map_cons, List.map_nil, List.append_nil, List.nil_append, List.cons_append, Option.map_some, reduceCtorEq, and_true, true_and, forall_const, Nat.reduceEqDiff, ↓reduceIte, Bool.false_eq_true, Nat.reduceAdd, List.drop, List.take, List.drop_succ_cons, List.take_succ_cons, Nat.reduceLeDiff, Nat.reduceMul, Nat.reduceLT, Int.reduceEq, List.set_cons_zero, List.replicate_succ, List.replicate_zero, Nat.le_refl, isDiv, false_implies, implies_true, Nat.zero_add, imp_self, beq_true, Bool.not_eq_true', Bool.not_eq_false', ne_eq, not_false_eq_true, impA1, and_self, or_false, ret_eq, Nat.add_zero, killTok, appOK, srcOf, decide_true, decide_false, Bool.and_false, cond_false, Int.ofNat_lt, hlt, hg, Option.getD_some, Int.toNat_natCast, Int.natCast_nonneg, u8_lt, T11_22, T11_31, T11_33, T11_35, sB, hsp', hlet', hdig', hsgn, h47', e1, Int.ofNat_le, hle1, hone, hn8, l1, l2, List.length_map]
    have hno : ¬ (src[a] = 47 ∧ src[a + 1]? = some 47) := fun e => h47 (by rw [e.1]; rfl)
    exact ⟨hlt, tokX_ok htk, .mk ⟨a + 1, hset (killTok H tk) (n + 8) .tok, n + 10, .own (n + 8) 4, ts ++ [⟨3, [src[a]], 0, a⟩]⟩ (by simp only [en13, List.map_append, List.map_cons, List.map_nil]; rfl) (nxt hno).1 (nxt hno).2⟩
  have h47' : ((src[a].toNat : Int) = 47) = True := eq_true (by omega)
  have hb47 : src[a] = 47 := UInt8.toNat_inj.1 h47
  by_cases hl2 : a + 1 < src.length
  case neg =>
    have hno : ¬ (src[a] = 47 ∧ src[a + 1]? = some 47) := fun e => by rw [List.getElem?_eq_none (by omega)] at e; cases e.2
    simp only [kont_nil, kont_n, kont_e, kont_r, kont_bn, kont_be, kont_br, k_skip, k_exit, k_ret, k_seq, k_block, k_cond, k_reg, r_nil, r_v, r_vg, r_pick, r_call, r_app, appE, callT, lpQ_n, lpQ_e, lpQ_r, postC, rcs, rc1, rvS, gok, gvb, eget, lk, lkv, oks, AS.put, AS.keep, evk, evB_eq, allB, fillB, evS_eq, allS, fillS, splice, Opk.opds, isI, isInt, toI, isB, toB, isS, toS, sel, icmp, iarith, bnd, bndI, nT, AVal.cells, Tok.esz, Option.toList, List.length_cons, List.length_nil, List.filterMap, List.map_cons, List.map_nil, List.append_nil, List.nil_append, List.cons_append, Option.map_some, reduceCtorEq, and_true, true_and, forall_const, Nat.reduceEqDiff, ↓reduceIte, Bool.false_eq_true, Nat.reduceAdd, List.drop, List.take, List.drop_succ_cons, List.take_succ_cons, Nat.reduceLeDiff, Nat.reduceMul, Nat.reduceLT, Int.reduceEq, List.set_cons_zero, List.replicate_succ, List.replicate_zero, Nat.le_refl, Bool.and_true, beq_self_eq_true, isDiv, false_implies, implies_true, Nat.zero_add, imp_self, beq_true, Bool.not_eq_true', Bool.not_eq_false', ne_eq, not_false_eq_true, and_self, or_false, ret_eq, Nat.add_zero, killTok, appOK, srcOf, decide_true, decide_false, Bool.and_false, cond_true, cond_false, Int.ofNat_lt, hlt, hg, Option.getD_some, Int.toNat_natCast, Int.natCast_nonneg, u8_lt, T11_22, T11_31, T11_33, T11_35, sB, hsp', hlet', hdig', hsgn, h47', e1, Int.ofNat_le, hle1, hone, hn8, l1, l2, List.length_map, hl2]
    exact ⟨hlt, tokX_ok htk, .mk ⟨a + 1, hset (killTok H tk) (n + 8) .tok, n + 10, .own (n + 8) 4, ts ++ [⟨3, [src[a]], 0, a⟩]⟩ (by simp only [en13, List.map_append, List.map_cons, List.map_nil]; rfl) (nxt hno).1 (nxt hno).2⟩
  have hg2 := List.getElem?_eq_getElem hl2
  by_cases h472 : src[a + 1].toNat = 47
  case neg =>
    have h472' : ((src[a + 1].toNat : Int) = 47) = False := eq_false (by omega)
    have hno : ¬ (src[a] = 47 ∧ src[a + 1]? = some 47) := fun e => h472 (by rw [hg2] at e; rw [Option.some.inj e.2]; rfl)
    simp only [kont_nil, kont_n, kont_e, kont_r, kont_bn, kont_be, kont_br, k_skip, k_exit, k_ret, k_seq, k_block, k_cond, k_reg, r_nil, r_v, r_vg, r_pick, r_call, r_app, appE, callT, lpQ_n, lpQ_e, lpQ_r, postC, rcs, rc1, rvS, gok, gvb, eget, lk, lkv, oks, AS.put, AS.keep, evk, evB_eq, allB, fillB, evS_eq, allS, fillS, splice, Opk.opds, isI, isInt, toI, isB, toB, isS, toS, sel, icmp, iarith, bnd, bndI, nT, AVal.cells, Tok.esz, Option.toList, List.length_cons, List.length_nil, List.filterMap, List.map_cons, List.map_nil, List.append_nil, List.nil_append, List.cons_append, Option.map_some, reduceCtorEq, and_true, true_and, forall_const, Nat.reduceEqDiff, ↓reduceIte, Bool.false_eq_true, Nat.reduceAdd, List.drop, List.take, List.drop_succ_cons, List.take_succ_cons, Nat.reduceLeDiff, Nat.reduceMul, Nat.reduceLT, Int.reduceEq, List.set_cons_zero, List.replicate_succ, List.replicate_zero, Nat.le_refl, Bool.and_true, beq_self_eq_true, isDiv, false_implies, implies_true, Nat.zero_add, Bool.not_eq_true', Bool.not_eq_false', ne_eq, not_false_eq_true, and_self, or_false, ret_eq, Nat.add_zero, killTok, appOK, srcOf, decide_true, decide_false, cond_true, Int.ofNat_lt, hlt, hg, Option.getD_some, Int.toNat_natCast, Int.natCast_nonneg, u8_lt, T11_22, T11_31, T11_33, T11_35, sB, hsp', hlet', hdig', hsgn, h47', e1, Int.ofNat_le, hle1, hone, hn8, l1, l2, List.length_map, hl2, hg2, h472']
    exact ⟨hlt, tokX_ok htk, .mk ⟨a + 1, hset (killTok H tk) (n + 8) .tok, n + 10, .own (n + 8) 4, ts ++ [⟨3, [src[a]], 0, a⟩]⟩ (by simp only [en13, List.map_append, List.map_cons, List.map_nil]; rfl) (nxt hno).1 (nxt hno).2⟩
  have h472' : ((src[a + 1].toNat : Int) = 47) = True := eq_true (by omega)
  have hb472 : src[a + 1]? = some 47 := by rw [hg2]; exact congrArg some (UInt8.toNat_inj.1 h472)
  simp only [kont_nil, kont_n, kont_e, kont_r, kont_bn, kont_be, kont_br, k_skip, k_exit, k_ret, k_seq, k_block, k_cond, k_reg, r_nil, r_v, r_vg, r_pick, r_call, r_app, appE, callT, lpQ_n, lpQ_e, lpQ_r, postC, rcs, rc1, rvS, gok, gvb, eget, lk, lkv, oks, AS.put, AS.keep, evk, evB_eq, allB, fillB, evS_eq, allS, fillS, splice, Opk.opds, isI, isInt, toI, isB, toB, isS, toS, sel, icmp, iarith, bnd, bndI, nT, AVal.cells, Tok.esz, Option.toList, List.length_cons, List.length_nil, List.filterMap, List.map_cons, List.map_nil, List.append_nil, List.nil_append, List.cons_append, Option.map_some, reduceCtorEq, and_true, true_and, forall_const, Nat.reduceEqDiff, ↓reduceIte, Bool.false_eq_true, Nat.reduceAdd, List.drop, List.take, List.drop_succ_cons, List.take_succ_cons, Nat.reduceLeDiff, Nat.reduceMul, Nat.reduceLT, Int.reduceEq, List.set_cons_zero, List.replicate_succ, List.replicate_zero, Nat.le_refl, Bool.and_true, beq_self_eq_true, isDiv, false_implies, implies_true, Nat.zero_add, Bool.not_eq_true', Bool.not_eq_false', ne_eq, not_false_eq_true, and_self, or_false, ret_eq, Nat.add_zero, killTok, appOK, srcOf, decide_true, cond_true, Int.ofNat_lt, hlt, hg, Option.getD_some, Int.toNat_natCast, Int.natCast_nonneg, u8_lt, T11_22, T11_31, T11_33, T11_35, sB, hsp', hlet', hdig', hsgn, h47', e1, Int.ofNat_le, hle1, hone, hn8, l1, l2, List.length_map, hl2, hg2, h472']
  refine k_loop (fun v : Nat × List (Nat × Bool × AVal) => ⟨en13 src ⟨v.1, H, n, tk, ts⟩ ++ v.2, H, n⟩)
    (fun v => (v.2 = [] ∨ v.2 = [(7, true, .int .i64 a), (42, true, .bool true)]) ∧ a ≤ v.1 ∧ v.1 ≤ src.length ∧ ∀ j (hj : j < src.length), a ≤ j → j < v.1 → src[j] ≠ 10) (fun v => src.length - v.1) (a, [(7, true, .int .i64 a), (42, true, .bool true)]) rfl ⟨.inr rfl, Nat.le_refl _, hle, fun j _ h1 h2 => by simp only [] at h2; omega⟩ ?_
  rintro ⟨i, X⟩ ⟨hX, hai, hil, hall⟩
  simp only at hX hai hil hall
  have nxt2 : (i = src.length ∨ src[i]? = some 10) → I13 src ⟨i, H, n, tk, ts⟩ ∧ src.length - i < src.length - a := by
    intro he
    have hst := step_com (ts := ts) hlt hb47 hb472 hai hil hall he
    obtain ⟨p1, p2, p3⟩ := step_progress hlt hfew hst
    exact ⟨⟨hil, p3, htk, hfr, hres.trans (lexC_step hlt hfew hst)⟩, by omega⟩
  by_cases hi : i < src.length
  · have hgi := List.getElem?_eq_getElem hi
    have ei := w64_succ (k := i) (by omega)
    have t10 : ((src[i].toNat : Int) = 10) = (src[i] = 10) := propext ⟨fun e => UInt8.toNat_inj.1 (by show src[i].toNat = 10; omega), fun e => by rw [e]; rfl⟩
    have rd : src[i] ≠ 10 → ∀ j (hj : j < src.length), a ≤ j → j < i + 1 → src[j] ≠ 10 := fun h j hj h1 h2 => by
      by_cases q : j = i
      · subst q; exact h
      · exact hall j hj h1 (by omega)
    rcases hX with rfl | rfl
    · simp only [kont_nil, kont_n, kont_e, kont_bn, kont_be, k_skip, k_exit, k_seq, k_block, k_cond, k_reg, r_nil, r_v, r_vg, r_pick, lpQ_n, lpQ_e, gok, gvb, eget, lk, lkv, oks, AS.put, AS.keep, evk, Opk.opds, isI, isInt, toI, isB, toB, isS, toS, sel, icmp, iarith, List.filterMap, List.append_nil, List.nil_append, List.cons_append, Option.map_some, reduceCtorEq, true_and, forall_const, Nat.reduceEqDiff, ↓reduceIte, Bool.false_eq_true, Int.reduceEq, Bool.and_true, beq_self_eq_true, isDiv, implies_true, Bool.not_eq_true', Bool.not_eq_false', decide_eq_true_eq, decide_eq_false_iff_not, ne_eq, not_false_eq_true, and_self, Nat.add_zero, decide_true, cond_true, Int.ofNat_lt, hi, hgi, Option.getD_some, Int.toNat_natCast, Int.natCast_nonneg, ei, t10]
      refine ⟨fun h => .mk (i + 1, []) rfl ⟨.inl rfl, by simp only []; omega, by simp only []; omega, rd h⟩ (by simp only []; omega), fun h => ?_⟩
      exact ⟨⟨i, H, n, tk, ts⟩, .inr ⟨⟨⟨_, rfl, .refl _⟩, ⟨_, rfl, .refl _⟩, ⟨_, rfl, .refl _⟩, trivial⟩, .inl ⟨rfl, rfl⟩⟩, (nxt2 (.inr (by rw [hgi, h]))).1, (nxt2 (.inr (by rw [hgi, h]))).2⟩
    · simp only [kont_nil, kont_n, kont_e, kont_bn, kont_be, k_skip, k_exit, k_seq, k_block, k_cond, k_reg, r_nil, r_v, r_vg, r_pick, lpQ_n, lpQ_e, gok, gvb, eget, lk, lkv, oks, AS.put, AS.keep, evk, Opk.opds, isI, isInt, toI, isB, toB, isS, toS, sel, icmp, iarith, List.filterMap, List.nil_append, List.cons_append, Option.map_some, reduceCtorEq, true_and, forall_const, Nat.reduceEqDiff, ↓reduceIte, Bool.false_eq_true, Int.reduceEq, Bool.and_true, beq_self_eq_true, isDiv, implies_true, Bool.not_eq_true', Bool.not_eq_false', decide_eq_true_eq, decide_eq_false_iff_not, ne_eq, not_false_eq_true, and_self, Nat.add_zero, decide_true, cond_true, Int.ofNat_lt, hi, hgi, Option.getD_some, Int.toNat_natCast, Int.natCast_nonneg, ei, t10]
      refine ⟨fun h => .mk (i + 1, []) rfl ⟨.inl rfl, by simp only []; omega, by simp only []; omega, rd h⟩ (by simp only []; omega), fun h => ?_⟩
      exact ⟨⟨i, H, n, tk, ts⟩, .inr ⟨⟨⟨_, rfl, .refl _⟩, ⟨_, rfl, .refl _⟩, ⟨_, rfl, .refl _⟩, trivial⟩, .inl ⟨rfl, rfl⟩⟩, (nxt2 (.inr (by rw [hgi, h]))).1, (nxt2 (.inr (by rw [hgi, h]))).2⟩
  · rcases hX with rfl | rfl
    · simp only [kont_nil, kont_n, kont_e, kont_bn, kont_be, k_skip, k_exit, k_seq, k_block, k_cond, k_reg, r_nil, r_v, r_vg, r_pick, lpQ_n, lpQ_e, gok, gvb, eget, lk, lkv, oks, AS.put, AS.keep, evk, Opk.opds, isI, isInt, toI, isB, toB, isS, toS, sel, icmp, iarith, List.filterMap, List.append_nil, List.nil_append, List.cons_append, Option.map_some, reduceCtorEq, and_true, true_and, forall_const, Nat.reduceEqDiff, ↓reduceIte, Bool.false_eq_true, Int.reduceEq, isDiv, false_implies, implies_true, imp_self, beq_true, ne_eq, not_false_eq_true, impA1, and_self, Nat.add_zero, decide_false, Bool.and_false, cond_false, Int.ofNat_lt, hi]
      exact ⟨⟨i, H, n, tk, ts⟩, .inr ⟨⟨⟨_, rfl, .refl _⟩, ⟨_, rfl, .refl _⟩, ⟨_, rfl, .refl _⟩, trivial⟩, .inl ⟨rfl, rfl⟩⟩, (nxt2 (.inl (by omega))).1, (nxt2 (.inl (by omega))).2⟩
    · simp only [kont_nil, kont_n, kont_e, kont_bn, kont_be, k_skip, k_exit, k_seq, k_block, k_cond, k_reg, r_nil, r_v, r_vg, r_pick, lpQ_n, lpQ_e, gok, gvb, eget, lk, lkv, oks, AS.put, AS.keep, evk, Opk.opds, isI, isInt, toI, isB, toB, isS, toS, sel, icmp, iarith, List.filterMap, List.nil_append, List.cons_append, Option.map_some, reduceCtorEq, and_true, true_and, forall_const, Nat.reduceEqDiff, ↓reduceIte, Bool.false_eq_true, Int.reduceEq, isDiv, false_implies, implies_true, imp_self, beq_true, ne_eq, not_false_eq_true, impA1, and_self, Nat.add_zero, decide_false, Bool.and_false, cond_false, Int.ofNat_lt, hi]
      exact ⟨⟨i, H, n, tk, ts⟩, .inr ⟨⟨⟨_, rfl, .refl _⟩, ⟨_, rfl, .refl _⟩, ⟨_, rfl, .refl _⟩, trivial⟩, .inl ⟨rfl, rfl⟩⟩, (nxt2 (.inl (by omega))).1, (nxt2 (.inl (by omega))).2⟩
end Go.AM
end

/- Tokens: the reference's Text, spelled, the table of the laws. Conditions: none. -/
section
set_option maxRecDepth 10000
set_option linter.unusedSimpArgs false
set_option linter.unusedVariables false
set_option linter.unusedVariables false
set_option linter.unusedSimpArgs false
namespace Go.AM
open Go.Proofs Go.Lib

theorem join_snoc {ws : List (List UInt8)} {w sep : List UInt8} (h : ws ≠ []) : join (ws ++ [w]) sep = join ws sep ++ (sep ++ w) := by
  cases ws with
  | nil => exact absurd rfl h
  | cons x r =>
    rw [List.cons_append, join_cons, join_cons]
    simp [joinTail]
def s39 : List AVal → AHeap → Prop × AVal := s36
def s40 : List AVal → AHeap → Prop × AVal := fun a H => match a with
  | [.int .i64 u] => (0 ≤ u ∧ u ≤ 1099511627776, .str (itoa u))
  | _ => (False, .tup [])
theorem q40 : ∀ args H n, (s40 args H).1 → Quiet Tryd.prog 40 args H n (s40 args H).2 := by
  intro args H n h
  unfold s40 at h ⊢
  split at h
  · rename_i u
    obtain ⟨k, rfl⟩ : ∃ k : Nat, u = k := ⟨u.toNat, by omega⟩
    simp only [itoa_nat]
    exact (p40 k (by simp only at h; omega)).quiet H n
  · exact h.elim
def T12 : Tab := tadd 40 s40 T11
theorem T12_ok : TabOK Tryd.prog T12 := T11_ok.add q40
theorem T12_40 (a : List AVal) (H : AHeap) : T12 40 a H = s40 a H := rfl
theorem T12_39 (a : List AVal) (H : AHeap) : T12 39 a H = s36 a H := rfl
abbrev jn (l : List Tkn) (i : Nat) : List UInt8 := join ((l.take i).map wordS) [32]
theorem p17 (l : List Tkn) (hl : l.length ≤ 1000000) : Pur Tryd.prog 17 [.sl (.none 4) (l.map encK)] (textV l) := by
  refine .mk ⟨⟨trivial, encK_under 0 l⟩, trivial⟩ (by unfold textV; split <;> simp [AVal.under, unders]) (a17 (ev_awp T12_ok (ev_evK ?_)))
  simp only [kont_n, k_seq, k_block, k_reg, r_nil, r_v, penv, eget, lk, lkv, oks, AS.put, AS.keep, evk, Opk.opds, List.filterMap, Option.map_some, reduceCtorEq, true_and, Nat.reduceEqDiff, ↓reduceIte, and_self, Nat.add_zero, c17]
  refine k_loop (fun i : Nat => ⟨[(0, true, .sl (.none 4) (l.map encK)), (4, true, .str (jn l i)), (5, true, .int .i64 i)], hnil, 0⟩)
    (fun i => i ≤ l.length ∧ ∀ j (hj : j < l.length), j < i → validS l[j] = true) (fun i => l.length - i) 0 rfl ⟨Nat.zero_le _, fun j _ hj => by omega⟩ ?_
  rintro i ⟨hi, hall⟩
  by_cases hlt : i < l.length
  · have e := w64_succ (k := i) (by omega)
    have hin : l[i] ∈ l := List.getElem_mem hlt
    have hjl := join_len (B := 32) ((l.take i).map wordS) (fun w hw => by
      obtain ⟨t, ht', rfl⟩ := List.mem_map.1 hw
      obtain ⟨j, hj, rfl⟩ := List.mem_iff_getElem.1 ht'
      rw [List.length_take] at hj
      rw [List.getElem_take]
      exact word_len (hall j (by omega) (by omega)))
    rw [List.length_map, List.length_take] at hjl
    change (jn l i).length ≤ _ at hjl
    have hjl2 : (jn l i).length ≤ 33000000 := by
      have : min i l.length * (32 + 1) ≤ 1000000 * (32 + 1) := Nat.mul_le_mul_right _ (by omega)
      omega
    have htk : (l.take (i + 1)).map wordS = (l.take i).map wordS ++ [wordS l[i]] := by
      rw [List.take_succ_eq_append_getElem hlt, List.map_append]; rfl
    have hw2 : l[i].K = 2 → wordS l[i] = itoa l[i].N := fun h => by rw [wordS, if_pos h]
    have hw3 : l[i].K ≠ 2 → wordS l[i] = l[i].T := fun h => by rw [wordS, if_neg h]
    have val' : ∀ j (hj : j < l.length), validS l[i] = true → j < i + 1 → validS l[j] = true := fun j hj hv h1 => by
      by_cases q : j = i
      · subst q; exact hv
      · exact hall j hj (by omega)
    by_cases hv : validS l[i] = true
    case neg =>
      have hv' : validS l[i] = false := by simpa using hv
      simp only [kont_nil, kont_n, kont_e, kont_r, kont_bn, kont_be, kont_br, k_skip, k_exit, k_ret, k_seq, k_block, k_cond, k_reg, r_nil, r_v, r_call, callT, lpQ_n, lpQ_e, lpQ_r, postC, rcs, rc1, rvS, eget, lk, lkv, oks, AS.put, AS.keep, evk, Opk.opds, aload, isI, isInt, toI, isB, toB, isS, toS, mk, icmp, iarith, AVal.cells, Tok.esz, List.length_cons, List.length_nil, List.filterMap, List.map_cons, List.map_nil, List.append_nil, List.nil_append, Option.map_some, reduceCtorEq, and_true, true_and, forall_const, Nat.reduceEqDiff, ↓reduceIte, Bool.false_eq_true, Nat.reduceAdd, List.drop, List.take, Nat.reduceLeDiff, Int.reduceEq, Nat.le_refl, List.headD_cons, isDiv, false_implies, implies_true, Nat.zero_add, Bool.not_eq_true', Bool.not_eq_false', decide_eq_true_eq, decide_eq_false_iff_not, ne_eq, not_false_eq_true, and_self, ret_eq, Nat.add_zero, decide_true, List.length_map, Int.ofNat_lt, hlt, List.getElem?_map, List.getElem?_eq_getElem hlt, Int.toNat_natCast, Option.getD_some, Int.natCast_nonneg, e, T12_39, sK, hv']
      rw [textV, if_neg]
      · exact Wk.refl _
      · intro hh
        have := List.all_eq_true.1 hh l[i] hin
        rw [hv'] at this; cases this
    have hwl := word_len hv
    have nx : ∀ s, s = jn l (i + 1) → lpN (fun i : Nat => ⟨[(0, true, .sl (.none 4) (l.map encK)), (4, true, .str (jn l i)), (5, true, .int .i64 i)], hnil, 0⟩)
        (fun i => i ≤ l.length ∧ ∀ j (hj : j < l.length), j < i → validS l[j] = true) (fun i => l.length - i) i ⟨[(0, true, .sl (.none 4) (l.map encK)), (4, true, .str s), (5, true, .int .i64 ((i + 1 : Nat) : Int))], hnil, 0⟩ := by
      rintro s rfl
      exact .mk (i + 1) rfl ⟨hlt, fun j hj h1 => val' j hj hv h1⟩ (by omega)
    have j0 : i = 0 → jn l (i + 1) = jn l i ++ wordS l[i] := fun h => by
      have h0 : l.take i = [] := by rw [h]; rfl
      rw [jn, jn, htk, h0, List.map_nil, List.nil_append, join_one, join_nil]; rfl
    have j1 : i ≠ 0 → jn l (i + 1) = jn l i ++ [32] ++ wordS l[i] := fun h => by
      rw [jn, jn, htk, join_snoc]
      · simp
      · intro q
        have := congrArg List.length q
        simp at this
        rcases this with h1 | h1
        · exact h h1
        · subst h1; simp at hlt
    by_cases hk : l[i].K = 2
    · have hkT : (l[i].K = 2) = True := eq_true hk
      obtain ⟨n1, n2⟩ := valid_num hv hk
      rw [hw2 hk] at hwl j0 j1
      by_cases h0 : i = 0
      · have h0T : ((0 : Int) < i) = False := eq_false (by omega)
        simp only [kont_nil, kont_n, kont_e, kont_r, kont_bn, kont_be, kont_br, k_skip, k_exit, k_ret, k_seq, k_block, k_cond, k_reg, r_nil, r_v, r_call, callT, lpQ_n, lpQ_e, lpQ_r, postC, rcs, rc1, rvS, eget, lk, lkv, oks, AS.put, AS.keep, evk, Opk.opds, aload, isI, isInt, toI, isB, toB, isS, toS, mk, icmp, iarith, AVal.cells, Tok.esz, List.length_cons, List.length_nil, List.filterMap, List.map_cons, List.map_nil, List.append_nil, List.nil_append, Option.map_some, reduceCtorEq, and_true, true_and, forall_const, Nat.reduceEqDiff, ↓reduceIte, Bool.false_eq_true, Nat.reduceAdd, List.drop, List.take, Nat.reduceLeDiff, Int.reduceEq, Nat.le_refl, List.headD_cons, isDiv, false_implies, implies_true, Nat.zero_add, Bool.not_eq_true', Bool.not_eq_false', ne_eq, not_false_eq_true, and_self, ret_eq, Nat.add_zero, decide_true, decide_false, List.length_map, Int.ofNat_lt, hlt, List.getElem?_map, List.getElem?_eq_getElem hlt, Int.toNat_natCast, Option.getD_some, Int.natCast_nonneg, e, T12_39, sK, hv, hkT, T12_40, s40, h0T]
        exact ⟨⟨n1, n2⟩, by unfold small; omega, nx _ (j0 h0).symm⟩
      · have h0T : ((0 : Int) < i) = True := eq_true (by omega)
        simp only [kont_nil, kont_n, kont_e, kont_r, kont_bn, kont_be, kont_br, k_skip, k_exit, k_ret, k_seq, k_block, k_cond, k_reg, r_nil, r_v, r_call, callT, lpQ_n, lpQ_e, lpQ_r, postC, rcs, rc1, rvS, eget, lk, lkv, oks, AS.put, AS.keep, evk, Opk.opds, aload, isI, isInt, toI, isB, toB, isS, toS, mk, icmp, iarith, AVal.cells, Tok.esz, List.length_cons, List.length_nil, List.filterMap, List.map_cons, List.map_nil, List.append_nil, List.nil_append, Option.map_some, reduceCtorEq, and_true, true_and, forall_const, Nat.reduceEqDiff, ↓reduceIte, Bool.false_eq_true, Nat.reduceAdd, List.drop, List.take, Nat.reduceLeDiff, Int.reduceEq, Nat.le_refl, List.headD_cons, isDiv, false_implies, implies_true, Nat.zero_add, Bool.not_eq_true', Bool.not_eq_false', ne_eq, not_false_eq_true, and_self, ret_eq, Nat.add_zero, decide_true, List.length_map, Int.ofNat_lt, hlt, List.getElem?_map, List.getElem?_eq_getElem hlt, Int.toNat_natCast, Option.getD_some, Int.natCast_nonneg, e, T12_39, sK, hv, hkT, T12_40, s40, h0T]
        exact ⟨by unfold small; omega, ⟨n1, n2⟩, by unfold small; simp only [List.length_append, List.length_cons, List.length_nil]; omega, nx _ (j1 h0).symm⟩
    · have hkT : (l[i].K = 2) = False := eq_false hk
      rw [hw3 hk] at hwl j0 j1
      by_cases h0 : i = 0
      · have h0T : ((0 : Int) < i) = False := eq_false (by omega)
        simp only [kont_nil, kont_n, kont_e, kont_r, kont_bn, kont_be, kont_br, k_skip, k_exit, k_ret, k_seq, k_block, k_cond, k_reg, r_nil, r_v, r_call, callT, lpQ_n, lpQ_e, lpQ_r, postC, rcs, rc1, rvS, eget, lk, lkv, oks, AS.put, AS.keep, evk, Opk.opds, aload, isI, isInt, toI, isB, toB, isS, toS, mk, icmp, iarith, AVal.cells, Tok.esz, List.length_cons, List.length_nil, List.filterMap, List.map_cons, List.map_nil, List.append_nil, List.nil_append, Option.map_some, reduceCtorEq, and_true, true_and, forall_const, Nat.reduceEqDiff, ↓reduceIte, Bool.false_eq_true, Nat.reduceAdd, List.drop, List.take, Nat.reduceLeDiff, Int.reduceEq, Nat.le_refl, List.headD_cons, isDiv, false_implies, implies_true, Nat.zero_add, Bool.not_eq_true', Bool.not_eq_false', ne_eq, not_false_eq_true, and_self, ret_eq, Nat.add_zero, decide_true, decide_false, List.length_map, Int.ofNat_lt, hlt, List.getElem?_map, List.getElem?_eq_getElem hlt, Int.toNat_natCast, Option.getD_some, Int.natCast_nonneg, e, T12_39, sK, hv, hkT, T12_40, s40, h0T]
        exact ⟨by unfold small; omega, nx _ (j0 h0).symm⟩
      · have h0T : ((0 : Int) < i) = True := eq_true (by omega)
        simp only [kont_nil, kont_n, kont_e, kont_r, kont_bn, kont_be, kont_br, k_skip, k_exit, k_ret, k_seq, k_block, k_cond, k_reg, r_nil, r_v, r_call, callT, lpQ_n, lpQ_e, lpQ_r, postC, rcs, rc1, rvS, eget, lk, lkv, oks, AS.put, AS.keep, evk, Opk.opds, aload, isI, isInt, toI, isB, toB, isS, toS, mk, icmp, iarith, AVal.cells, Tok.esz, List.length_cons, List.length_nil, List.filterMap, List.map_cons, List.map_nil, List.append_nil, List.nil_append, Option.map_some, reduceCtorEq, and_true, true_and, forall_const, Nat.reduceEqDiff, ↓reduceIte, Bool.false_eq_true, Nat.reduceAdd, List.drop, List.take, Nat.reduceLeDiff, Int.reduceEq, Nat.le_refl, List.headD_cons, isDiv, false_implies, implies_true, Nat.zero_add, Bool.not_eq_true', Bool.not_eq_false', ne_eq, not_false_eq_true, and_self, ret_eq, Nat.add_zero, decide_true, decide_false, List.length_map, Int.ofNat_lt, hlt, List.getElem?_map, List.getElem?_eq_getElem hlt, Int.toNat_natCast, Option.getD_some, Int.natCast_nonneg, e, T12_39, sK, hv, hkT, T12_40, s40, h0T]
        exact ⟨by unfold small; omega, by unfold small; simp only [List.length_append, List.length_cons, List.length_nil]; omega, nx _ (j1 h0).symm⟩
  · have : i = l.length := by omega
    subst this
    have hav : l.all validS = true := List.all_eq_true.2 fun t ht' => by
      obtain ⟨j, hj, rfl⟩ := List.mem_iff_getElem.1 ht'
      exact hall j hj hj
    simp only [kont_nil, kont_n, kont_e, kont_r, kont_bn, kont_be, kont_br, k_skip, k_exit, k_ret, k_seq, k_block, k_cond, k_reg, r_nil, r_v, r_call, callT, lpQ_n, lpQ_e, lpQ_r, postC, rcs, rc1, rvS, eget, lk, lkv, oks, AS.put, AS.keep, evk, Opk.opds, aload, isI, isInt, toI, isB, toB, isS, toS, mk, icmp, iarith, AVal.cells, Tok.esz, List.length_cons, List.length_nil, List.filterMap, List.map_cons, List.map_nil, List.append_nil, List.nil_append, Option.map_some, reduceCtorEq, and_true, true_and, forall_const, Nat.reduceEqDiff, ↓reduceIte, Bool.false_eq_true, List.drop, Int.reduceEq, isDiv, false_implies, implies_true, Nat.zero_add, Bool.not_eq_true', Bool.not_eq_false', decide_eq_true_eq, decide_eq_false_iff_not, ne_eq, not_false_eq_true, and_self, ret_eq, Nat.add_zero, decide_false, List.length_map, Int.ofNat_lt, hlt]
    rw [textV, if_pos hav, jn, List.take_length]
    exact Wk.refl _
structure V23 where
  v : Nat
  s : List UInt8
theorem p23 (t : Tkn) (h : t.K = 2 → 0 ≤ t.N ∧ t.N ≤ 1099511627776) : Pur Tryd.prog 23 [encK t] (.str (wordS t)) := by
  refine .mk (by simp [unders, AVal.under]) trivial (a23 (ev_awp TabOK.tnil (ev_evK ?_)))
  by_cases hk : t.K = 2
  case neg =>
    simp only [kont_nil, kont_n, kont_r, k_skip, k_ret, k_seq, k_block, k_cond, k_reg, r_nil, r_v, r_box, penv, postC, rcs, rc1, rvS, eget, lk, lkv, oks, AS.put, AS.keep, evk, Opk.opds, aload, isI, toI, isB, toB, mk, icmp, nT, hget_hset, hget_nil, AVal.cells, List.length_cons, List.length_nil, List.filterMap, Option.map_some, and_true, true_and, forall_const, Nat.reduceEqDiff, ↓reduceIte, Bool.false_eq_true, Nat.reduceAdd, List.drop, List.take, List.take_succ_cons, Nat.reduceLeDiff, List.headD_cons, false_implies, Nat.zero_add, Bool.not_eq_true', Bool.not_eq_false', and_self, ret_eq, Nat.add_zero, wk_str, decide_false, c23, hk]
    rw [wordS, if_neg hk]
  have hkT : (t.K = 2) = True := eq_true hk
  obtain ⟨n1, n2⟩ := h hk
  obtain ⟨u, hu⟩ : ∃ u : Nat, t.N = u := ⟨t.N.toNat, by omega⟩
  have hw : wordS t = decDigits u := by rw [wordS, if_pos hk, hu, itoa_nat]
  simp only [kont_nil, kont_n, kont_r, k_skip, k_ret, k_seq, k_block, k_cond, k_reg, r_nil, r_v, r_box, penv, postC, rcs, rc1, rvS, eget, lk, lkv, oks, AS.put, AS.keep, evk, Opk.opds, aload, isI, toI, isB, toB, mk, icmp, nT, hget_hset, hget_nil, AVal.cells, List.length_cons, List.length_nil, List.filterMap, Option.map_some, reduceCtorEq, true_and, forall_const, Nat.reduceEqDiff, ↓reduceIte, Bool.false_eq_true, Nat.reduceAdd, List.drop, List.take, List.take_succ_cons, Nat.reduceLeDiff, List.headD_cons, false_implies, Nat.zero_add, Bool.not_eq_true', Bool.not_eq_false', and_self, ret_eq, Nat.add_zero, wk_str, decide_true, c23, hkT]
  rw [hu, hw]
  refine k_loop (fun w : V23 => ⟨[(3, true, .str w.s), (4, true, .int .i64 w.v)], hset hnil 0 (.box [.int .i64 t.K, .str t.T, .int .i64 u, .int .i64 t.A]), 2⟩) (fun w => w.v ≤ 1099511627776 ∧ decDigits u = decDigits w.v ++ w.s) (fun w => w.v) ⟨u, []⟩ ?_ ⟨by simp only []; omega, by simp⟩ ?_
  · rw [← hu]
  rintro ⟨v, s⟩ ⟨hv, hd⟩
  simp only at hv hd
  have hl : s.length ≤ 13 := by
    have := congrArg List.length hd
    rw [List.length_append] at this
    have := dec_len40 (u := u) (by omega)
    omega
  by_cases h1 : v < 10
  · have c1 : ((v : Int) < 10) = True := eq_true (by omega)
    simp only [kont_nil, kont_n, kont_r, kont_bn, kont_br, k_skip, k_ret, k_seq, k_block, k_cond, k_reg, r_nil, r_v, lpQ_n, lpQ_r, postC, rcs, rc1, rvS, eget, lk, lkv, oks, AS.put, AS.keep, evk, evS_eq, allS, fillS, Opk.opds, isI, isInt, toI, isB, toB, isS, toS, icmp, iarith, nT, AVal.cells, Tok.esz, List.length_cons, List.length_nil, List.filterMap, List.map_cons, List.map_nil, List.nil_append, List.cons_append, Option.map_some, reduceCtorEq, and_true, true_and, forall_const, Nat.reduceEqDiff, ↓reduceIte, Bool.false_eq_true, Nat.reduceLeDiff, Nat.reduceMul, Nat.reduceLT, Int.reduceEq, List.set_cons_zero, List.replicate_succ, List.replicate_zero, isDiv, false_implies, Nat.zero_add, ne_eq, not_false_eq_true, and_self, or_true, ret_eq, Nat.add_zero, wk_str, decide_true, c1, dig_mk, Int.toNat_natCast]
    refine ⟨dig_bs v, by unfold small; omega, ?_⟩
    rw [hd, pre_dig v, preD, if_pos h1, Nat.mod_eq_of_lt h1]; rfl
  · have c1 : ((v : Int) < 10) = False := eq_false (by omega)
    simp only [kont_nil, kont_n, kont_r, kont_bn, kont_br, k_skip, k_ret, k_seq, k_block, k_cond, k_reg, r_nil, r_v, lpQ_n, lpQ_r, postC, rcs, rc1, rvS, eget, lk, lkv, oks, AS.put, AS.keep, evk, evS_eq, allS, fillS, Opk.opds, isI, isInt, toI, isB, toB, isS, toS, icmp, iarith, nT, AVal.cells, Tok.esz, List.length_cons, List.length_nil, List.filterMap, List.map_cons, List.map_nil, List.nil_append, List.cons_append, Option.map_some, reduceCtorEq, true_and, forall_const, Nat.reduceEqDiff, ↓reduceIte, Bool.false_eq_true, Nat.reduceLeDiff, Nat.reduceMul, Nat.reduceLT, Int.reduceEq, List.set_cons_zero, List.replicate_succ, List.replicate_zero, isDiv, false_implies, Nat.zero_add, ne_eq, not_false_eq_true, and_self, or_true, ret_eq, Nat.add_zero, wk_str, decide_false, c1, quo_mk (show v ≤ 9223372036854775807 by omega), dig_mk, Int.toNat_natCast]
    refine ⟨dig_bs v, by unfold small; omega, .mk ⟨v / 10, UInt8.ofNat (48 + v % 10) :: s⟩ rfl ⟨by simp only []; omega, ?_⟩ (by simp only []; omega)⟩
    simp only []
    rw [hd, pre_dig v, preD, if_neg h1]; simp
theorem q13 : ∀ args H n, (s12 args H).1 → Quiet Tryd.prog 13 args H n (s12 args H).2 := by
  intro args H n h
  unfold s12 at h ⊢
  split at h
  · exact (p13 _ h).quiet H n
  · exact h.elim
def s11 : List AVal → AHeap → Prop × AVal := fun a H => match a with
  | [] => (True, .bool true)
  | _ => (False, .tup [])
theorem q11 : ∀ args H n, (s11 args H).1 → Quiet Tryd.prog 11 args H n (s11 args H).2 := by
  intro args H n h
  unfold s11 at h ⊢
  split at h
  · exact p11.quiet H n
  · exact h.elim
def s23 : List AVal → AHeap → Prop × AVal := fun a H => match a with
  | [.agg [.int .i64 a, .str s, .int .i64 b, .int .i64 c]] => (a = 2 → 0 ≤ b ∧ b ≤ 1099511627776, .str (wordS ⟨a, s, b, c⟩))
  | _ => (False, .tup [])
theorem q23 : ∀ args H n, (s23 args H).1 → Quiet Tryd.prog 23 args H n (s23 args H).2 := by
  intro args H n h
  unfold s23 at h ⊢
  split at h
  · exact (p23 ⟨_, _, _, _⟩ h).quiet H n
  · exact h.elim
def s19 : List AVal → AHeap → Prop × AVal := fun a H => match a with
  | [.sl t L, .sl t' M] => (encdK L ∧ encdK M ∧ (t.esz = 4 ∨ L = []) ∧ (t'.esz = 4 ∨ M = []) ∧ L.length < 1000000000, .bool (sameT (L.map decK) (M.map decK)))
  | _ => (False, .tup [])
theorem q19 : ∀ args H n, (s19 args H).1 → Quiet Tryd.prog 19 args H n (s19 args H).2 := by
  intro args H n hh
  unfold s19 at hh ⊢
  split at hh
  · rename_i t L t' M
    obtain ⟨h1, h2, h3, h4, h5⟩ := hh
    refine ACalls.args ((p19 (L.map decK) (M.map decK) (by simpa using h5)).quiet H n) ?_
    rintro g vs ⟨v, r, rfl, k1, w, r', rfl, k2, k3⟩
    refine ⟨v, _, rfl, ?_, w, r', rfl, ?_, k3⟩
    · rw [← h1]; exact Wk.sl h3 _ _ k1
    · rw [← h2]; exact Wk.sl h4 _ _ k2
  · exact hh.elim
abbrev s17 := s1K okT textV
/-- The functions that the laws call. -/
def TL : Tab := tadd 11 s11 (tadd 13 s12 (tadd 17 s17 (tadd 19 s19 (tadd 23 s23 T12))))
theorem TL_ok : TabOK Tryd.prog TL := ((((T12_ok.add q23).add q19).add (q1K p17)).add q13).add q11
theorem TL_11 (a : List AVal) (H : AHeap) : TL 11 a H = s11 a H := rfl
theorem TL_12 (a : List AVal) (H : AHeap) : TL 12 a H = s12 a H := rfl
theorem TL_13 (a : List AVal) (H : AHeap) : TL 13 a H = s12 a H := rfl
theorem TL_14 (a : List AVal) (H : AHeap) : TL 14 a H = s14 a H := rfl
theorem TL_15 (a : List AVal) (H : AHeap) : TL 15 a H = s15 a H := rfl
theorem TL_16 (a : List AVal) (H : AHeap) : TL 16 a H = s16 a H := rfl
theorem TL_17 (a : List AVal) (H : AHeap) : TL 17 a H = s17 a H := rfl
theorem TL_18 (a : List AVal) (H : AHeap) : TL 18 a H = s18 a H := rfl
theorem TL_19 (a : List AVal) (H : AHeap) : TL 19 a H = s19 a H := rfl
theorem TL_20 (a : List AVal) (H : AHeap) : TL 20 a H = s20 a H := rfl
theorem TL_21 (a : List AVal) (H : AHeap) : TL 21 a H = s20 a H := rfl
theorem TL_22 (a : List AVal) (H : AHeap) : TL 22 a H = s22 a H := rfl
theorem TL_23 (a : List AVal) (H : AHeap) : TL 23 a H = s23 a H := rfl
end Go.AM
end

/- Tokens: the laws that compare with the reference. Conditions: none. -/
section
set_option maxRecDepth 10000
set_option linter.unusedSimpArgs false
set_option linter.unusedVariables false
set_option linter.unusedVariables false
set_option linter.unusedSimpArgs false
namespace Go.AM
open Go.Proofs Go.Lib

theorem eqK_refl (x : Tkn) : eqK x x = true := by simp [eqK]
theorem sameT_refl (l : List Tkn) : sameT l l = true := sameT_good rfl fun j h1 _ => eqK_refl _
theorem equalT_refl (l : List Tkn) : equalT l l = true := by
  rw [equalT, sameT_refl, Bool.true_and]
  refine List.all_eq_true.2 fun p hp => ?_
  obtain ⟨j, hj, rfl⟩ := List.mem_iff_getElem.1 hp
  simp
/-- What Lex can return. -/
theorem lexV_cases (src : List UInt8) : (65536 < src.length ∧ lexV src = .tup [.sl (.none 4) [], .int .i64 0, .int .i64 2]) ∨
    (src.length ≤ 65536 ∧ ∃ a ts, lexR src = .ok a ts ∧ lexV src = .tup [.sl (.none 4) (ts.map encK), .int .i64 0, .int .i64 0]) ∨
    (src.length ≤ 65536 ∧ ∃ a, lexR src = .err a ∧ lexV src = .tup [.sl (.none 4) [], .int .i64 a, .int .i64 100]) := by
  unfold lexV
  split
  · rename_i h; exact .inl ⟨h, rfl⟩
  · rename_i h
    cases hr : lexR src with
    | ok a ts => exact .inr (.inl ⟨by omega, a, ts, rfl, rfl⟩)
    | err a => exact .inr (.inr ⟨by omega, a, rfl, rfl⟩)
theorem lexL_few {src : List UInt8} : ∀ (f a : Nat) (ts : List Tkn) (a' : Nat) (ts' : List Tkn), ts.length ≤ a → a ≤ src.length → lexL f src a ts = .ok a' ts' → ts'.length ≤ a' ∧ a' ≤ src.length
  | 0, a, ts, a', ts', h1, h2, h => by rw [lexL] at h; cases h; exact ⟨h1, h2⟩
  | f + 1, a, ts, a', ts', h1, h2, h => by
    rw [lexL] at h
    split at h
    · rename_i hlt
      cases hs : stepR src a ts with
      | err e => rw [hs] at h; cases h
      | ok b us =>
        rw [hs] at h
        obtain ⟨p1, p2, p3⟩ := step_progress hlt h1 hs
        exact lexL_few f b us a' ts' p3 p2 h
    · cases h; exact ⟨h1, h2⟩
theorem lexR_few {src : List UInt8} {a : Nat} {ts : List Tkn} (h : lexR src = .ok a ts) : ts.length ≤ src.length := by
  have := lexL_few _ _ _ _ _ (Nat.le_refl 0) (Nat.zero_le _) h
  omega
theorem s1K_nil (c : List Tkn → Prop) : True := trivial
theorem encdK_nil : encdK [] := rfl
theorem p3 (src : List UInt8) : Pur Tryd.prog 3 [.str src] (.bool true) := by
  refine .mk ⟨trivial, trivial⟩ trivial (a3 (ev_awp TL_ok (ev_evK ?_)))
  by_cases h7 : 70000 < src.length
  · have c1 : ((70000 : Int) < src.length) = True := eq_true (by omega)
    simp only [kont_nil, kont_n, kont_r, k_skip, k_ret, k_seq, k_cond, k_reg, r_nil, r_v, r_vg, r_pick, r_call, callT, penv, postC, rcs, rc1, rvS, gok, gvb, eget, lk, lkv, oks, AS.put, AS.keep, evk, Opk.opds, isI, toI, isB, toB, isS, toS, sel, icmp, List.filterMap, List.map_cons, List.map_nil, List.append_nil, List.nil_append, Option.map_some, reduceCtorEq, and_true, true_and, forall_const, Nat.reduceEqDiff, ↓reduceIte, Bool.false_eq_true, Bool.true_and, false_implies, implies_true, Bool.cond_false_right, imp_self, beq_true, Bool.not_eq_true', Bool.not_eq_false', Bool.and_eq_true, decide_eq_true_eq, impA1, and_self, ret_eq, Nat.add_zero, wk_bool, decide_true, c3, TL_11, s11, c1]
  have c1 : ((70000 : Int) < src.length) = False := eq_false (by omega)
  have c2 : (src.length < 1000000000) = True := eq_true (by omega)
  rcases lexV_cases src with ⟨_, hv⟩ | ⟨_, a, ts, hr, hv⟩ | ⟨_, a, hr, hv⟩
  · simp only [kont_nil, kont_n, kont_r, k_skip, k_ret, k_seq, k_cond, k_reg, r_nil, r_v, r_vg, r_pick, r_call, callT, penv, postC, rcs, rc1, rvS, gok, gvb, eget, lk, lkv, oks, AS.put, AS.keep, evk, Opk.opds, isI, toI, isB, toB, isS, toS, sel, icmp, Tok.esz, List.length_cons, List.length_nil, List.filterMap, List.map_cons, List.map_nil, List.append_nil, List.nil_append, Option.map_some, reduceCtorEq, and_true, true_and, forall_const, Nat.reduceEqDiff, ↓reduceIte, Bool.false_eq_true, Nat.reduceAdd, Nat.reduceLT, Bool.true_and, Bool.and_true, implies_true, Nat.zero_add, Bool.cond_false_right, imp_self, beq_true, Bool.not_eq_true', Bool.not_eq_false', and_self, or_true, ret_eq, Nat.add_zero, wk_bool, decide_true, decide_false, c3, TL_11, s11, c1, TL_12, TL_13, s12, c2, hv, List.getElem?_cons_zero, List.getElem?_cons_succ, Option.getD_some, TL_14, s2K, encdK_nil]
    decide
  · have hf := lexR_few hr
    have c3' : (ts.length < 1000000000) = True := eq_true (by omega)
    simp only [kont_nil, kont_n, kont_r, k_skip, k_ret, k_seq, k_cond, k_reg, r_nil, r_v, r_vg, r_pick, r_call, callT, penv, postC, rcs, rc1, rvS, gok, gvb, eget, lk, lkv, oks, AS.put, AS.keep, evk, Opk.opds, isI, toI, isB, toB, isS, toS, sel, icmp, Tok.esz, List.length_cons, List.length_nil, List.filterMap, List.map_cons, List.map_nil, List.append_nil, List.nil_append, Option.map_some, reduceCtorEq, true_and, forall_const, Nat.reduceEqDiff, ↓reduceIte, Bool.false_eq_true, Nat.reduceAdd, Nat.reduceLT, Bool.and_true, beq_self_eq_true, implies_true, Nat.zero_add, imp_self, Bool.not_eq_true', Bool.not_eq_false', and_self, true_or, ret_eq, Nat.add_zero, wk_bool, decide_true, decide_false, cond_true, c3, TL_11, s11, c1, TL_12, TL_13, s12, c2, hv, List.getElem?_cons_zero, List.getElem?_cons_succ, Option.getD_some, TL_14, s2K, encdK_map, List.length_map, c3', decK_map, equalT_refl]
  · simp only [kont_nil, kont_n, kont_r, k_skip, k_ret, k_seq, k_cond, k_reg, r_nil, r_v, r_vg, r_pick, r_call, callT, penv, postC, rcs, rc1, rvS, gok, gvb, eget, lk, lkv, oks, AS.put, AS.keep, evk, Opk.opds, isI, toI, isB, toB, isS, toS, sel, icmp, Tok.esz, List.length_cons, List.length_nil, List.filterMap, List.map_cons, List.map_nil, List.append_nil, List.nil_append, Option.map_some, reduceCtorEq, and_true, true_and, forall_const, Nat.reduceEqDiff, ↓reduceIte, Bool.false_eq_true, Nat.reduceAdd, Nat.reduceLT, Bool.true_and, Bool.and_true, implies_true, Nat.zero_add, Bool.cond_false_right, imp_self, beq_true, Bool.not_eq_true', Bool.not_eq_false', and_self, or_true, ret_eq, Nat.add_zero, wk_bool, decide_true, decide_false, c3, TL_11, s11, c1, TL_12, TL_13, s12, c2, hv, List.getElem?_cons_zero, List.getElem?_cons_succ, Option.getD_some, TL_14, s2K, encdK_nil]
    decide
theorem p4 (a b : List Tkn) (s : List UInt8) (ha : a.length ≤ 9223372036854775807) (hb : b.length ≤ 9223372036854775807) : Pur Tryd.prog 4 [.sl (.none 4) (a.map encK), .sl (.none 4) (b.map encK), .str s] (.bool true) := by
  refine .mk ⟨⟨trivial, encK_under 0 a⟩, ⟨trivial, encK_under 0 b⟩, trivial, trivial⟩ trivial (a4 (ev_awp TL_ok (ev_evK ?_)))
  by_cases hfa : fewS a = true
  case neg =>
    have hfa' : fewS a = false := by simpa using hfa
    simp only [kont_nil, kont_n, kont_r, k_skip, k_ret, k_seq, k_cond, k_reg, r_nil, r_v, r_vg, r_pick, r_call, r_callg, callT, penv, postC, rcs, rc1, rvS, gok, gvb, eget, lk, lkv, oks, AS.put, AS.keep, evk, Opk.opds, isI, toI, isB, toB, isS, toS, sel, icmp, Tok.esz, List.filterMap, List.map_cons, List.map_nil, List.append_nil, List.nil_append, Option.map_some, reduceCtorEq, and_true, true_and, forall_const, Nat.reduceEqDiff, ↓reduceIte, Bool.false_eq_true, Nat.reduceAdd, Bool.true_and, false_implies, implies_true, Nat.zero_add, Bool.cond_true_left, Bool.cond_false_right, imp_self, beq_true, beq_false, Bool.not_eq_true', Bool.not_eq_false', Bool.or_eq_true, Bool.or_eq_false_iff, Bool.and_eq_true, decide_eq_true_eq, decide_eq_false_iff_not, impA1, and_self, true_or, ret_eq, Nat.add_zero, wk_bool, c4, TL_11, s11, TL_15, s1K, encdK_map, decK_map, ha, hb, hfa', false_and, and_false]
  by_cases hfb : fewS b = true
  case neg =>
    have hfb' : fewS b = false := by simpa using hfb
    simp only [kont_nil, kont_n, kont_r, k_skip, k_ret, k_seq, k_cond, k_reg, r_nil, r_v, r_vg, r_pick, r_call, r_callg, callT, penv, postC, rcs, rc1, rvS, gok, gvb, eget, lk, lkv, oks, AS.put, AS.keep, evk, Opk.opds, isI, toI, isB, toB, isS, toS, sel, icmp, Tok.esz, List.filterMap, List.map_cons, List.map_nil, List.append_nil, List.nil_append, Option.map_some, reduceCtorEq, and_true, true_and, forall_const, Nat.reduceEqDiff, ↓reduceIte, Bool.false_eq_true, Nat.reduceAdd, Bool.true_and, false_implies, implies_true, Nat.zero_add, Bool.cond_true_left, Bool.cond_false_right, imp_self, beq_true, beq_false, Bool.not_eq_true', Bool.not_eq_false', Bool.or_eq_true, Bool.or_eq_false_iff, Bool.and_eq_true, decide_eq_true_eq, decide_eq_false_iff_not, impA1, and_self, or_true, true_or, ret_eq, Nat.add_zero, wk_bool, c4, TL_11, s11, TL_15, s1K, encdK_map, decK_map, ha, hb, hfa, hfb', false_and, and_false]
  by_cases h7 : 1000 < s.length
  · have c1 : ((1000 : Int) < s.length) = True := eq_true (by omega)
    simp only [kont_nil, kont_n, kont_r, k_skip, k_ret, k_seq, k_cond, k_reg, r_nil, r_v, r_vg, r_pick, r_call, r_callg, callT, penv, postC, rcs, rc1, rvS, gok, gvb, eget, lk, lkv, oks, AS.put, AS.keep, evk, Opk.opds, isI, toI, isB, toB, isS, toS, sel, icmp, Tok.esz, List.filterMap, List.map_cons, List.map_nil, List.append_nil, List.nil_append, Option.map_some, reduceCtorEq, and_true, true_and, forall_const, Nat.reduceEqDiff, ↓reduceIte, Bool.false_eq_true, Nat.reduceAdd, Bool.true_and, false_implies, implies_true, Nat.zero_add, Bool.cond_true_left, Bool.cond_false_right, imp_self, beq_true, beq_false, Bool.not_eq_true', Bool.not_eq_false', Bool.or_eq_true, Bool.or_eq_false_iff, Bool.and_eq_true, decide_eq_true_eq, impA1, and_self, true_or, or_false, ret_eq, Nat.add_zero, wk_bool, decide_true, Bool.or_true, c4, TL_11, s11, TL_15, s1K, encdK_map, decK_map, ha, hb, hfa, hfb, c1, and_false]
  have c1 : ((1000 : Int) < s.length) = False := eq_false (by omega)
  have la := few_len hfa
  have lb := few_len hfb
  have oa : okT a = True := eq_true (by unfold okT; omega)
  have l1 : (a.length < 1000000000) = True := eq_true (by omega)
  have l2 : (b.length < 1000000000) = True := eq_true (by omega)
  have ht : ∃ x e, textV a = .tup [.str x, .int .i64 e] := by unfold textV; split <;> exact ⟨_, _, rfl⟩
  obtain ⟨x, e, ht⟩ := ht
  simp only [kont_nil, kont_n, kont_r, k_skip, k_ret, k_seq, k_cond, k_reg, r_nil, r_v, r_vg, r_pick, r_call, r_callg, callT, penv, postC, rcs, rc1, rvS, gok, gvb, eget, lk, lkv, oks, AS.put, AS.keep, evk, Opk.opds, isI, toI, isB, toB, isS, toS, sel, icmp, Tok.esz, List.length_cons, List.length_nil, List.filterMap, List.map_cons, List.map_nil, List.append_nil, List.nil_append, Option.map_some, reduceCtorEq, true_and, forall_const, Nat.reduceEqDiff, ↓reduceIte, Bool.false_eq_true, Nat.reduceAdd, Nat.reduceLT, Bool.true_and, Bool.and_true, beq_self_eq_true, implies_true, Nat.zero_add, Bool.cond_true_left, Bool.cond_false_right, imp_self, beq_false, Bool.not_eq_true', Bool.not_eq_false', Bool.or_eq_true, Bool.or_eq_false_iff, and_self, true_or, or_false, ret_eq, Nat.add_zero, wk_bool, decide_true, decide_false, cond_true, c4, TL_11, s11, TL_15, s1K, encdK_map, List.length_map, decK_map, ha, hb, hfa, hfb, c1, TL_16, TL_17, oa, ht, List.getElem?_cons_zero, List.getElem?_cons_succ, Option.getD_some, scmp_eql, TL_18, TL_19, s2K, s19, l1, l2, sameT_refl, TL_20, TL_21, sS]
end Go.AM
end

/- Tokens: the lexer by suffixes: one step, all steps, and that Lex is this. Conditions: none. -/
section
set_option maxRecDepth 10000
set_option linter.unusedSimpArgs false
set_option linter.unusedVariables false
set_option linter.unusedVariables false
set_option linter.unusedSimpArgs false
namespace Go.AM
open Go.Proofs Go.Lib

def notLf (b : UInt8) : Bool := decide (b ≠ 10)
/-- One step at the beginning of a text: how far it goes, and its token. -/
def st1 : List UInt8 → Option (Nat × Option Tkn)
  | [] => none
  | b :: r =>
    if spB b then some (1, none)
    else if letB b then (if nameS ((b :: r).takeWhile partB) then some (((b :: r).takeWhile partB).length, some ⟨1, (b :: r).takeWhile partB, 0, 0⟩) else none)
    else if digB b then (if valN ((b :: r).takeWhile digB) 0 ≤ 1099511627776 ∧ canB ((b :: r).takeWhile digB) = true then some (((b :: r).takeWhile digB).length, some ⟨2, [], valN ((b :: r).takeWhile digB) 0, 0⟩) else none)
    else if b = 47 ∧ r.head? = some 47 then some (((b :: r).takeWhile notLf).length, none)
    else if sgnB b then some (1, some ⟨3, [b], 0, 0⟩) else none
theorem runS_part (l : List UInt8) : runS [2, 3, 5] l = l.takeWhile partB := by
  unfold runS; congr 1; funext b; exact part_cls
theorem runS_digs (l : List UInt8) : runS [3] l = l.takeWhile digB := by
  unfold runS; congr 1; funext b; exact dig_cls
theorem tw_len {p : UInt8 → Bool} (l : List UInt8) : (l.takeWhile p).length ≤ l.length := (List.takeWhile_sublist _).length_le
theorem tw_stop {p : UInt8 → Bool} : ∀ {l : List UInt8}, (l.takeWhile p).length < l.length → ∃ x, l[(l.takeWhile p).length]? = some x ∧ p x = false
  | [], h => by simp at h
  | b :: r, h => by
    rw [List.takeWhile_cons] at h ⊢
    by_cases hp : p b = true
    · rw [if_pos hp] at h ⊢
      obtain ⟨x, h1, h2⟩ := tw_stop (l := r) (by simpa using h)
      exact ⟨x, by simpa using h1, h2⟩
    · rw [if_neg hp]
      exact ⟨b, rfl, by simpa using hp⟩
theorem tw_all {p : UInt8 → Bool} {l : List UInt8} {j : Nat} (hj : j < (l.takeWhile p).length) (h : j < l.length) : p l[j] = true := by
  have h1 : (l.takeWhile p)[j] ∈ l.takeWhile p := List.getElem_mem hj
  have h2 : (l.takeWhile p)[j] = l[j] := by
    have : l.takeWhile p <+: l := List.takeWhile_prefix p
    exact this.getElem hj
  rw [← h2]
  exact List.all_eq_true.1 (List.all_takeWhile (l := l) (p := p)) _ h1
theorem st1_pos {l : List UInt8} {k : Nat} {o : Option Tkn} (h : st1 l = some (k, o)) : 1 ≤ k ∧ k ≤ l.length := by
  match l with
  | [] => cases h
  | b :: r =>
    have hp : ∀ p : UInt8 → Bool, p b = true → 1 ≤ ((b :: r).takeWhile p).length := fun p hb => by rw [List.takeWhile_cons, if_pos hb]; simp
    simp only [st1] at h
    split at h
    · cases h; simp
    · split at h
      · rename_i hb
        split at h
        · cases h
          exact ⟨hp _ (by simp only [letB] at hb; simp only [partB, isPart, hb, Bool.true_or]), tw_len _⟩
        · cases h
      · split at h
        · rename_i hb
          split at h
          · cases h; exact ⟨hp _ hb, tw_len _⟩
          · cases h
        · split at h
          · rename_i hb
            cases h; exact ⟨hp _ (by rw [hb.1]; rfl), tw_len _⟩
          · split at h
            · cases h; simp
            · cases h
def consR (o : Option Tkn) (a : Nat) (r : ScR) : ScR := match o, r with
  | none, r => r
  | some t, .ok n ts => .ok n (⟨t.K, t.T, t.N, a⟩ :: ts)
  | some _, .err e => .err e
/-- All steps. -/
def lx (l : List UInt8) (a : Nat) : ScR :=
  match l with
  | [] => .ok a []
  | b :: r => match h : st1 (b :: r) with
    | none => .err a
    | some (k, o) => consR o a (lx ((b :: r).drop k) (a + k))
  termination_by l.length
  decreasing_by
    have := st1_pos h
    simp only [List.length_drop]; simp only [List.length_cons] at this ⊢; omega
theorem lx_nil (a : Nat) : lx [] a = .ok a [] := by rw [lx]
theorem lx_none {l : List UInt8} {a : Nat} (hl : l ≠ []) (h : st1 l = none) : lx l a = .err a := by
  match l, hl with
  | b :: r, _ =>
    rw [lx]
    split
    · rfl
    · rename_i k o h'; rw [h] at h'; cases h'
theorem lx_some {l : List UInt8} {a k : Nat} {o : Option Tkn} (h : st1 l = some (k, o)) : lx l a = consR o a (lx (l.drop k) (a + k)) := by
  match l with
  | [] => cases h
  | b :: r =>
    rw [lx]
    split
    · rename_i h'; rw [h] at h'; cases h'
    · rename_i k' o' h'; rw [h] at h'; cases h'; rfl
def appS (ts : List Tkn) : ScR → ScR
  | .ok n us => .ok n (ts ++ us)
  | .err e => .err e
theorem appS_nil (r : ScR) : appS [] r = r := by cases r <;> rfl
theorem appS_cons (ts : List Tkn) (t : Tkn) (a : Nat) (r : ScR) : appS (ts ++ [⟨t.K, t.T, t.N, a⟩]) r = appS ts (consR (some t) a r) := by
  cases r <;> simp [appS, consR]
theorem not_sgn47 {b : UInt8} (h : sgnB b = false) : ¬ b = 47 := by rintro rfl; exact absurd h (by decide)
/-- Lex is the suffixes' lexer. -/
theorem lexC_lx (src : List UInt8) : ∀ (n a : Nat) (ts : List Tkn), src.length - a = n → a ≤ src.length → ts.length ≤ a → lexC src a ts = appS ts (lx (src.drop a) a) := by
  intro n
  induction n using Nat.strongRecOn with
  | _ n ih =>
  intro a ts hn hle hf
  rcases Nat.lt_or_ge a src.length with hlt | hge
  case inr =>
    rw [lexC_end hge, List.drop_eq_nil_of_le hge, lx_nil, appS, List.append_nil]
  have hd := drop_at hlt
  have hne : src.drop a ≠ [] := by rw [hd]; exact List.cons_ne_nil _ _
  have skip : ∀ k, st1 (src.drop a) = some (k, none) → lexC src a ts = lexC src (a + k) ts → lexC src a ts = appS ts (lx (src.drop a) a) := by
    intro k hs he
    obtain ⟨k1, k2⟩ := st1_pos hs
    rw [List.length_drop] at k2
    rw [he, ih (src.length - (a + k)) (by omega) (a + k) ts rfl (by omega) (by omega), lx_some hs, List.drop_drop]; rfl
  have tok : ∀ k t, st1 (src.drop a) = some (k, some t) → lexC src a ts = lexC src (a + k) (ts ++ [⟨t.K, t.T, t.N, a⟩]) → lexC src a ts = appS ts (lx (src.drop a) a) := by
    intro k t hs he
    obtain ⟨k1, k2⟩ := st1_pos hs
    rw [List.length_drop] at k2
    rw [he, ih (src.length - (a + k)) (by omega) (a + k) _ rfl (by omega) (by simp; omega), lx_some hs, List.drop_drop, appS_cons]
  have bad : st1 (src.drop a) = none → lexC src a ts = .err a → lexC src a ts = appS ts (lx (src.drop a) a) := by
    intro hs he
    rw [he, lx_none hne hs]; rfl
  by_cases hsp : spB src[a] = true
  · exact skip 1 (by rw [hd]; simp only [st1]; rw [if_pos hsp]) (lexC_sp hlt hf ((byte_cls _).1 hsp))
  by_cases hlet : letB src[a] = true
  · have hst := step_name (ts := ts) hlt hlet
    rw [runS_part] at hst
    by_cases hn' : nameS ((src.drop a).takeWhile partB) = true
    · rw [if_pos hn'] at hst
      refine tok _ ⟨1, (src.drop a).takeWhile partB, 0, 0⟩ ?_ (lexC_step hlt hf hst)
      rw [hd] at hn' ⊢; simp only [st1]; rw [if_neg hsp, if_pos hlet, if_pos hn']
    · rw [if_neg hn'] at hst
      refine bad ?_ (lexC_err hlt hst)
      rw [hd] at hn' ⊢; simp only [st1]; rw [if_neg hsp, if_pos hlet, if_neg hn']
  by_cases hdig : digB src[a] = true
  · have hst := step_num (ts := ts) hlt hdig
    rw [runS_digs] at hst
    by_cases hn' : valN ((src.drop a).takeWhile digB) 0 ≤ 1099511627776 ∧ canB ((src.drop a).takeWhile digB) = true
    · rw [if_pos hn'] at hst
      refine tok _ ⟨2, [], valN ((src.drop a).takeWhile digB) 0, 0⟩ ?_ (lexC_step hlt hf hst)
      rw [hd] at hn' ⊢; simp only [st1]; rw [if_neg hsp, if_neg hlet, if_pos hdig, if_pos hn']
    · rw [if_neg hn'] at hst
      refine bad ?_ (lexC_err hlt hst)
      rw [hd] at hn' ⊢; simp only [st1]; rw [if_neg hsp, if_neg hlet, if_pos hdig, if_neg hn']
  have hh : (src.drop (a + 1)).head? = src[a + 1]? := by rw [List.head?_drop]
  by_cases hcom : src[a] = 47 ∧ src[a + 1]? = some 47
  · have hs : st1 (src.drop a) = some (((src.drop a).takeWhile notLf).length, none) := by
      rw [hd]; simp only [st1]; rw [if_neg hsp, if_neg hlet, if_neg hdig, if_pos (by rw [hh]; exact hcom)]
    refine skip _ hs (lexC_step hlt hf (step_com hlt hcom.1 hcom.2 (by omega) (by have := tw_len (p := notLf) (src.drop a); rw [List.length_drop] at this; omega) (fun j hj h1 h2 => ?_) ?_))
    · have := tw_all (p := notLf) (l := src.drop a) (j := j - a) (by omega) (by rw [List.length_drop]; omega)
      rw [List.getElem_drop] at this
      simp only [show a + (j - a) = j by omega] at this
      simpa [notLf] using this
    · rcases Nat.lt_or_ge ((src.drop a).takeWhile notLf).length (src.drop a).length with h | h
      · obtain ⟨x, h1, h2⟩ := tw_stop h
        right
        rw [List.getElem?_drop] at h1
        rw [h1]
        simp [notLf] at h2
        rw [h2]
      · left
        have := tw_len (p := notLf) (src.drop a)
        rw [List.length_drop] at this h; omega
  by_cases hsgn : sgnB src[a] = true
  · refine tok 1 ⟨3, [src[a]], 0, 0⟩ ?_ (lexC_step hlt hf (step_sgn1 hlt hsgn hcom))
    rw [hd]; simp only [st1]; rw [if_neg hsp, if_neg hlet, if_neg hdig, if_neg (by rw [hh]; exact hcom), if_pos hsgn]
  · refine bad ?_ (lexC_err hlt (step_bad hlt (by simpa using hsp) (by simpa using hlet) (by simpa using hdig) (by simpa using hsgn)))
    rw [hd]; simp only [st1]; rw [if_neg hsp, if_neg hlet, if_neg hdig, if_neg (by rw [hh]; exact hcom), if_neg hsgn]
theorem lexR_lx (src : List UInt8) : lexR src = lx src 0 := by
  rw [lexR_C, lexC_lx src _ 0 [] rfl (Nat.zero_le _) (Nat.le_refl _), List.drop_zero, appS_nil]
end Go.AM
end

/- Tokens: the lexer's laws: places move, sources joined, errors, words. Conditions: none. -/
section
set_option maxRecDepth 10000
set_option linter.unusedSimpArgs false
set_option linter.unusedVariables false
set_option linter.unusedVariables false
set_option linter.unusedSimpArgs false
namespace Go.AM
open Go.Proofs Go.Lib

def shT (d : Nat) (t : Tkn) : Tkn := ⟨t.K, t.T, t.N, t.A + d⟩
def shR (d : Nat) : ScR → ScR
  | .ok n ts => .ok (n + d) (ts.map (shT d))
  | .err e => .err (e + d)
theorem consR_sh (o : Option Tkn) (a d : Nat) (r : ScR) : consR o (a + d) (shR d r) = shR d (consR o a r) := by
  cases o with
  | none => cases r <;> rfl
  | some t => cases r <;> simp [consR, shR, shT]
theorem lx_shift (d : Nat) : ∀ (n : Nat) (l : List UInt8) (a : Nat), l.length = n → lx l (a + d) = shR d (lx l a) := by
  intro n
  induction n using Nat.strongRecOn with
  | _ n ih =>
  intro l a hn
  by_cases hl : l = []
  · subst hl; rw [lx_nil, lx_nil]; rfl
  · cases hs : st1 l with
    | none => rw [lx_none hl hs, lx_none hl hs]; rfl
    | some p =>
      obtain ⟨k, o⟩ := p
      obtain ⟨k1, k2⟩ := st1_pos hs
      have hlen := List.length_pos_iff.2 hl
      rw [lx_some hs, lx_some hs, show a + d + k = a + k + d by omega, ih (l.drop k).length (by rw [List.length_drop]; omega) _ _ rfl, consR_sh]
theorem sp_not {c : UInt8} (h : spB c = true) : partB c = false ∧ digB c = false ∧ c ≠ 47 := by
  have key : ∀ x : Fin 256, isSp (x.val : Int) = true → isPart (x.val : Int) = false ∧ isDig (x.val : Int) = false ∧ x.val ≠ 47 := by decide +kernel
  obtain ⟨h1, h2, h3⟩ := key ⟨c.toNat, c.toNat_lt⟩ h
  exact ⟨h1, h2, fun e => h3 (by rw [e]; rfl)⟩
theorem tw_app {p : UInt8 → Bool} {c : UInt8} {m : List UInt8} (h : p c = false) : ∀ l : List UInt8, (l ++ c :: m).takeWhile p = l.takeWhile p
  | [] => by simp [h]
  | b :: r => by rw [List.cons_append, List.takeWhile_cons, List.takeWhile_cons, tw_app h r]
theorem tw_app2 {p : UInt8 → Bool} {m : List UInt8} : ∀ l : List UInt8, (l.takeWhile p).length < l.length → (l ++ m).takeWhile p = l.takeWhile p
  | [], h => by simp at h
  | b :: r, h => by
    rw [List.cons_append, List.takeWhile_cons, List.takeWhile_cons]
    by_cases hp : p b = true
    · rw [if_pos hp, if_pos hp, tw_app2 r (by rw [List.takeWhile_cons, if_pos hp] at h; simpa using h)]
    · rw [if_neg hp, if_neg hp]
theorem head_app {c : UInt8} {m : List UInt8} (h : c ≠ 47) : ∀ r : List UInt8, (r ++ c :: m).head? = some 47 ↔ r.head? = some 47
  | [] => by simp [h]
  | b :: r => by simp
theorem st1_app {c : UInt8} (hc : spB c = true) {l m : List UInt8} (hl : l ≠ []) (hcom : c = 10 ∨ (l.takeWhile notLf).length < l.length ∨ ¬ (l[0]? = some 47 ∧ l[1]? = some 47)) : st1 (l ++ c :: m) = st1 l := by
  obtain ⟨s1, s2, s3⟩ := sp_not hc
  match l, hl with
  | b :: r, _ =>
    have e1 := tw_app (m := m) s1 (b :: r)
    have e2 := tw_app (m := m) s2 (b :: r)
    have e3 := head_app (m := m) s3 r
    rw [List.cons_append] at e1 e2
    rw [List.cons_append]
    simp only [st1, e1, e2, e3]
    by_cases hc2 : b = 47 ∧ r.head? = some 47
    · have e4 : (b :: (r ++ c :: m)).takeWhile notLf = (b :: r).takeWhile notLf := by
        rw [← List.cons_append]
        rcases hcom with rfl | h | h
        · exact tw_app (by decide) _
        · exact tw_app2 _ h
        · exact absurd ⟨by simp [hc2.1], by have := hc2.2; cases r <;> simp_all⟩ h
      rw [e4]
    · rw [if_neg hc2, if_neg hc2]
theorem st1_sp {c : UInt8} {m : List UInt8} (hc : spB c = true) : st1 (c :: m) = some (1, none) := by
  simp only [st1]; rw [if_pos hc]
theorem lx_sp {c : UInt8} {m : List UInt8} {a : Nat} (hc : spB c = true) : lx (c :: m) a = lx m (a + 1) := by
  rw [lx_some (st1_sp hc)]; rfl
def preR (ts : List Tkn) : ScR → ScR := appS ts
theorem appS_consR (o : Option Tkn) (a n : Nat) (ts : List Tkn) (r : ScR) : (match consR o a (.ok n ts) with | .err e => .err e | .ok _ us => appS us r) = consR o a (appS ts r) := by
  cases o with
  | none => rfl
  | some t => cases r <;> rfl
/-- Two sources with a line feed between them. -/
theorem lx_join (m : List UInt8) : ∀ (n : Nat) (l : List UInt8) (a : Nat), l.length = n → lx (l ++ 10 :: m) a = match lx l a with | .err e => .err e | .ok _ ts => appS ts (lx m (a + l.length + 1)) := by
  intro n
  induction n using Nat.strongRecOn with
  | _ n ih =>
  intro l a hn
  by_cases hl : l = []
  · subst hl; rw [List.nil_append, lx_sp (by decide), lx_nil]; simp [appS_nil]
  · have hs' := st1_app (c := 10) (m := m) (by decide) hl (.inl rfl)
    have hne : l ++ 10 :: m ≠ [] := by simp
    cases hs : st1 l with
    | none => rw [hs] at hs'; rw [lx_none hl hs, lx_none hne hs']
    | some p =>
      obtain ⟨k, o⟩ := p
      obtain ⟨k1, k2⟩ := st1_pos hs
      have hlen := List.length_pos_iff.2 hl
      rw [hs] at hs'
      rw [lx_some hs', lx_some hs, List.drop_append_of_le_length k2, ih (l.drop k).length (by rw [List.length_drop]; omega) _ _ rfl, List.length_drop, show a + k + (l.length - k) + 1 = a + l.length + 1 by omega]
      cases lx (l.drop k) (a + k) with
      | err e => cases o <;> rfl
      | ok n' ts => exact (appS_consR o a n' ts _).symm
theorem tw_take {p : UInt8 → Bool} : ∀ (l : List UInt8) (m : Nat), (l.takeWhile p).length ≤ m → (l.take m).takeWhile p = l.takeWhile p
  | [], m, h => by simp
  | b :: r, 0, h => by
    have h0 : ((b :: r).takeWhile p) = [] := List.length_eq_zero_iff.1 (by omega)
    rw [h0]; rfl
  | b :: r, m + 1, h => by
    rw [List.take_succ_cons, List.takeWhile_cons, List.takeWhile_cons]
    by_cases hp : p b = true
    · rw [List.takeWhile_cons, if_pos hp] at h
      rw [if_pos hp, if_pos hp, tw_take r m (by simpa using h)]
    · rw [if_neg hp, if_neg hp]
theorem st1_take {l : List UInt8} {k m : Nat} {o : Option Tkn} (h : st1 l = some (k, o)) (hm : k ≤ m) : st1 (l.take m) = some (k, o) := by
  obtain ⟨k1, k2⟩ := st1_pos h
  match l with
  | [] => cases h
  | b :: r =>
    obtain ⟨m', rfl⟩ : ∃ m', m = m' + 1 := ⟨m - 1, by omega⟩
    have tk : ∀ p : UInt8 → Bool, ((b :: r).takeWhile p).length ≤ m' + 1 → (b :: r.take m').takeWhile p = (b :: r).takeWhile p := fun p hp => by
      rw [← List.take_succ_cons, tw_take _ _ hp]
    rw [List.take_succ_cons]
    simp only [st1] at h ⊢
    by_cases q1 : spB b = true
    · rw [if_pos q1] at h ⊢; exact h
    rw [if_neg q1] at h ⊢
    by_cases q2 : letB b = true
    · rw [if_pos q2] at h ⊢
      split at h
      · rename_i q
        cases h
        rw [tk _ hm, if_pos q]
      · cases h
    rw [if_neg q2] at h ⊢
    by_cases q3 : digB b = true
    · rw [if_pos q3] at h ⊢
      split at h
      · rename_i q
        cases h
        rw [tk _ hm, if_pos q]
      · cases h
    rw [if_neg q3] at h ⊢
    by_cases q4 : b = 47 ∧ r.head? = some 47
    · rw [if_pos q4] at h
      cases h
      have : 2 ≤ ((b :: r).takeWhile notLf).length := by
        obtain ⟨rfl, q5⟩ := q4
        match r, q5 with
        | c :: r', q5 =>
          simp at q5; subst q5
          rw [List.takeWhile_cons, if_pos (by decide), List.takeWhile_cons, if_pos (by decide)]; simp
      rw [if_pos, tk _ hm]
      refine ⟨q4.1, ?_⟩
      have := q4.2
      cases r with
      | nil => simp at this
      | cons c r' =>
        obtain ⟨m'', rfl⟩ : ∃ m'', m' = m'' + 1 := ⟨m' - 1, by omega⟩
        simpa using this
    · rw [if_neg q4] at h
      rw [if_neg]
      · exact h
      · rintro ⟨q5, q6⟩
        refine q4 ⟨q5, ?_⟩
        cases r with
        | nil => simp at q6
        | cons c r' =>
          cases m' with
          | zero => simp at q6
          | succ m'' => rw [List.take_succ_cons] at q6; exact q6
/-- Where an error is. -/
theorem lx_err (m : List UInt8) : ∀ (n : Nat) (l : List UInt8) (a e : Nat), l.length = n → lx l a = .err e →
    a ≤ e ∧ e < a + l.length ∧ st1 (l.drop (e - a)) = none ∧ lx (l ++ 32 :: m) a = .err e ∧ ∃ n ts, lx (l.take (e - a)) a = .ok n ts := by
  intro n
  induction n using Nat.strongRecOn with
  | _ n ih =>
  intro l a e hn h
  by_cases hl : l = []
  · subst hl; rw [lx_nil] at h; cases h
  have hlen := List.length_pos_iff.2 hl
  have hne : l ++ 32 :: m ≠ [] := by simp
  cases hs : st1 l with
  | none =>
    rw [lx_none hl hs] at h; cases h
    have hs' : st1 (l ++ 32 :: m) = none := by
      rw [st1_app (by decide) hl (.inr (.inr fun q => ?_)), hs]
      match l with
      | [] => exact hl rfl
      | b :: r =>
        have q1 : b = 47 := by simpa using q.1
        have q2 : r.head? = some 47 := by have := q.2; cases r <;> simp_all
        simp only [st1] at hs
        rw [if_neg (by rw [q1]; decide), if_neg (by rw [q1]; decide), if_neg (by rw [q1]; decide), if_pos ⟨q1, q2⟩] at hs
        cases hs
    refine ⟨Nat.le_refl _, by omega, ?_, lx_none hne hs', ?_⟩
    · rw [Nat.sub_self, List.drop_zero]; exact hs
    · rw [Nat.sub_self, List.take_zero, lx_nil]; exact ⟨_, _, rfl⟩
  | some p =>
    obtain ⟨k, o⟩ := p
    obtain ⟨k1, k2⟩ := st1_pos hs
    rw [lx_some hs] at h
    have hr : lx (l.drop k) (a + k) = .err e := by
      cases hr : lx (l.drop k) (a + k) with
      | ok n' ts => rw [hr] at h; cases o <;> cases h
      | err e' => rw [hr] at h; cases o <;> (cases h; rfl)
    obtain ⟨i1, i2, i3, i4, n', ts, i5⟩ := ih (l.drop k).length (by rw [List.length_drop]; omega) _ _ _ rfl hr
    rw [List.length_drop] at i2
    have hs' : st1 (l ++ 32 :: m) = some (k, o) := by
      rw [st1_app (by decide) hl ?_, hs]
      by_cases q : (l.takeWhile notLf).length < l.length
      · exact .inr (.inl q)
      · refine .inr (.inr fun q' => q ?_)
        match l with
        | [] => exact absurd rfl hl
        | b :: r =>
          have q1 : b = 47 := by simpa using q'.1
          have q2 : r.head? = some 47 := by have := q'.2; cases r <;> simp_all
          simp only [st1] at hs
          rw [if_neg (by rw [q1]; decide), if_neg (by rw [q1]; decide), if_neg (by rw [q1]; decide), if_pos ⟨q1, q2⟩] at hs
          cases hs
          omega
    refine ⟨by omega, by omega, ?_, ?_, ?_⟩
    · rw [List.drop_drop, show k + (e - (a + k)) = e - a by omega] at i3; exact i3
    · rw [lx_some hs', List.drop_append_of_le_length k2, i4]; cases o <;> rfl
    · rw [lx_some (st1_take hs (by omega)), List.drop_take, show e - a - k = e - (a + k) by omega, i5]
      cases o <;> exact ⟨_, _, rfl⟩
/-- The word of a token that a step finds. -/
theorem st1_tok {l : List UInt8} {k : Nat} {t : Tkn} (h : st1 l = some (k, some t)) : validS t = true ∧ wordS t = l.take k ∧ t.A = 0 := by
  obtain ⟨k1, k2⟩ := st1_pos h
  have tt : ∀ p : UInt8 → Bool, l.take (l.takeWhile p).length = l.takeWhile p := fun p => (List.prefix_iff_eq_take.1 (List.takeWhile_prefix p)).symm
  match l with
  | [] => cases h
  | b :: r =>
    simp only [st1] at h
    split at h
    · cases h
    · split at h
      · split at h
        · rename_i q
          cases h
          refine ⟨by simp [validS, q], ?_, rfl⟩
          rw [tt]; rfl
        · cases h
      · split at h
        · rename_i hd
          split at h
          · rename_i q
            cases h
            have hpos : 0 < ((b :: r).takeWhile digB).length := by rw [List.takeWhile_cons, if_pos hd]; simp
            refine ⟨by rw [valid_n2]; simp; omega, ?_, rfl⟩
            rw [tt, wordS, if_pos rfl, itoa_nat, (dec_val hpos (List.all_eq_true.1 List.all_takeWhile)).2 q.2]
          · cases h
        · split at h
          · cases h
          · split at h
            · rename_i hsg
              cases h
              exact ⟨by simp [validS, hsg], rfl, rfl⟩
            · cases h
theorem valid_A {t : Tkn} (K : Int) (T : List UInt8) (N : Int) (a b : Int) : validS ⟨K, T, N, a⟩ = validS ⟨K, T, N, b⟩ := rfl
/-- What Lex returns has valid tokens, whose words are no longer than the source. -/
theorem lx_ok : ∀ (n : Nat) (l : List UInt8) (a e : Nat) (ts : List Tkn), l.length = n → lx l a = .ok e ts →
    e = a + l.length ∧ ts.all validS = true ∧ (ts.map fun t => (wordS t).length).sum ≤ l.length ∧ ts.length ≤ l.length := by
  intro n
  induction n using Nat.strongRecOn with
  | _ n ih =>
  intro l a e ts hn h
  by_cases hl : l = []
  · subst hl; rw [lx_nil] at h; cases h; simp
  have hlen := List.length_pos_iff.2 hl
  cases hs : st1 l with
  | none => rw [lx_none hl hs] at h; cases h
  | some p =>
    obtain ⟨k, o⟩ := p
    obtain ⟨k1, k2⟩ := st1_pos hs
    rw [lx_some hs] at h
    cases hr : lx (l.drop k) (a + k) with
    | err e' => rw [hr] at h; cases o <;> cases h
    | ok n' us =>
      rw [hr] at h
      obtain ⟨i1, i2, i3, i4⟩ := ih (l.drop k).length (by rw [List.length_drop]; omega) _ _ _ _ rfl hr
      rw [List.length_drop] at i1 i3 i4
      cases o with
      | none => cases h; exact ⟨by omega, i2, by omega, by omega⟩
      | some t =>
        cases h
        obtain ⟨v1, v2, v3⟩ := st1_tok hs
        refine ⟨by omega, ?_, ?_, ?_⟩
        · rw [List.all_cons, Bool.and_eq_true]; exact ⟨v1, i2⟩
        · have : wordS ⟨t.K, t.T, t.N, a⟩ = l.take k := v2
          rw [List.map_cons, List.sum_cons, this, List.length_take]; omega
        · rw [List.length_cons]; omega
/-- The word of a valid token, with nothing or white space behind it, is this token. -/
theorem word_st1 {t : Tkn} (h : validS t = true) {m : List UInt8} (hm : m = [] ∨ ∃ c r, m = c :: r ∧ spB c = true) : st1 (wordS t ++ m) = some ((wordS t).length, some ⟨t.K, t.T, t.N, 0⟩) ∧ 1 ≤ (wordS t).length := by
  have red : ∀ (w : List UInt8), w ≠ [] → ¬ (w[0]? = some 47 ∧ w[1]? = some 47) → st1 (w ++ m) = st1 w := fun w hw hc => by
    rcases hm with rfl | ⟨c, r, rfl, hc'⟩
    · rw [List.append_nil]
    · exact st1_app hc' hw (.inr (.inr hc))
  have tall : ∀ (p : UInt8 → Bool) (w : List UInt8), (∀ b ∈ w, p b = true) → w.takeWhile p = w := fun p w hw => by
    induction w with
    | nil => rfl
    | cons b r ih => rw [List.takeWhile_cons, if_pos (hw b (List.mem_cons_self ..)), ih fun x hx => hw x (List.mem_cons_of_mem _ hx)]
  by_cases k1 : t.K = 1
  · have hn : nameS t.T = true ∧ t.N = 0 := by simpa [validS, k1] using h
    have hw : wordS t = t.T := by rw [wordS, if_neg (by omega)]
    have hn1 := hn.1
    simp only [nameS, Bool.and_eq_true, decide_eq_true_eq] at hn1
    obtain ⟨⟨⟨h1, h2⟩, h3⟩, h4⟩ := hn1
    rw [hw]
    refine ⟨?_, h1⟩
    rw [red _ (List.length_pos_iff.1 h1)]
    · match hT : t.T, h1 with
      | b :: r, _ =>
        rw [hT] at h3 h4
        have hall := tall partB (b :: r) (List.all_eq_true.1 h4)
        have hb : letB b = true := h3
        have hsp : ¬ spB b = true := fun q => by
          have := (byte_cls b).1 q; rw [(byte_cls b).2.1 hb] at this; cases this
        simp only [st1]
        rw [if_neg hsp, if_pos hb, hall, ← hT, if_pos hn.1, ← k1, hn.2]
    · rintro ⟨q, -⟩
      rw [List.getElem?_eq_getElem (by omega)] at q h3
      have q' := Option.some.inj q
      simp only [Option.getD_some] at h3
      rw [q'] at h3; exact absurd h3 (by decide)
  · by_cases k2 : t.K = 2
    · have hn : (t.T.length = 0 ∧ 0 ≤ t.N) ∧ t.N ≤ 1099511627776 := by simpa [validS, k2] using h
      obtain ⟨u, hu⟩ : ∃ u : Nat, t.N = u := ⟨t.N.toNat, by omega⟩
      have hT : t.T = [] := List.length_eq_zero_iff.1 hn.1.1
      have hw : wordS t = decDigits u := by rw [wordS, if_pos k2, hu, itoa_nat]
      have hpos : 1 ≤ (decDigits u).length := List.length_pos_iff.2 (dec_ne u)
      rw [hw]
      refine ⟨?_, hpos⟩
      have hdig0 : ∀ q, (decDigits u)[0]? = some q → digB q = true := fun q hq => dec_dig u q (List.mem_of_getElem? hq)
      rw [red _ (dec_ne u)]
      · match hD : decDigits u, hpos with
        | b :: r, _ =>
          have hb : digB b = true := hdig0 b (by rw [hD]; rfl)
          have hall := tall digB (b :: r) (by rw [← hD]; exact dec_dig u)
          have hc := (byte_cls b).2.2.1 hb
          have hsp : ¬ spB b = true := fun q => by rw [(byte_cls b).1 q] at hc; cases hc
          have hle : ¬ letB b = true := fun q => by rw [(byte_cls b).2.1 q] at hc; cases hc
          simp only [st1]
          rw [if_neg hsp, if_neg hle, if_pos hb, hall, ← hD, if_pos ⟨by rw [val_dec]; omega, dec_can u⟩, val_dec, ← k2, hT, hu]
      · rintro ⟨q, -⟩
        exact absurd (hdig0 _ q) (by decide)
    · by_cases k3 : t.K = 3
      · have hn : (t.T.length = 1 ∧ sgnB (t.T[0]?.getD 0) = true) ∧ t.N = 0 := by simpa [validS, k1, k2, k3] using h
        obtain ⟨b, hT⟩ : ∃ b, t.T = [b] := List.length_eq_one_iff.1 hn.1.1
        have hw : wordS t = [b] := by rw [wordS, if_neg k2, hT]
        have hsg : sgnB b = true := by have := hn.1.2; rw [hT] at this; exact this
        have hc := (byte_cls b).2.2.2.1 hsg
        rw [hw]
        refine ⟨?_, Nat.le_refl _⟩
        rw [red _ (by simp) (by simp)]
        simp only [st1]
        have n1 : ¬ spB b = true := fun q => by rw [(byte_cls b).1 q] at hc; cases hc
        have n2 : ¬ letB b = true := fun q => by rw [(byte_cls b).2.1 q] at hc; cases hc
        have n3 : ¬ digB b = true := fun q => by rw [(byte_cls b).2.2.1 q] at hc; cases hc
        rw [if_neg n1, if_neg n2, if_neg n3, if_neg (by simp), if_pos hsg, k3, hT, hn.2]; rfl
      · simp [validS, k1, k2, k3] at h
end Go.AM
end
