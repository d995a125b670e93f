/-
  Scoring programs: Print, Check; whether two programs are the same · Scoring programs: the reference's numbers, lists of texts joined, signs · Scoring programs: the reference's expressions, plainly · Scoring programs: the reference's push · Scoring programs: the reference's whole, Check and Print · Scoring programs: the functions with numbers · Scoring programs: a stack of numbers; inputs checked; the last number taken · Scoring programs: Run, a round · Scoring programs: Run · Scoring programs: the reference's Run · Scoring programs: the table of the laws; the examples · Scoring programs: the laws, first half · Scoring programs: the laws, second half · Scoring programs: from the rows to the abstract machine.
  Conditions: none beyond those of its parts.
-/
import Derived.Test.YtbeenbbefcdbgaaGreatDoorB8
import Derived.Test.YtbeenbbefcdbgaaGreatDoorB5
import Derived.Test.YtbeenbbefcdbgaaGreatDoorRows
import Derived.LaidLaws

section
set_option maxRecDepth 20000
set_option linter.all false
set_option maxHeartbeats 1000000
namespace Go.AM
open Go.Proofs Go.Lib
def printV (p : List Wd) : AVal := match wholeP p with
  | some t => .tup [.str (join (t.map wordS) [32]), .int .i64 0]
  | none => .tup [.str [], .int .i64 520]
def checkN (p : List Wd) : Int := match wholeP p with
  | some _ => 0
  | none => 520
theorem T10_28 (a : List AVal) (H : AHeap) : T10 28 a H = s28 a H := rfl
theorem p14 (p : List Wd) : Pur Tryz.prog 14 [.sl (.none 2) (p.map encW)] (printV p) := by
  refine .mk ⟨⟨trivial, encW_under 0 p⟩, trivial⟩ (by unfold printV; split <;> simp [AVal.under, unders]) (a14 (ev_awp T10_ok (ev_evK ?_)))
  by_cases hp : 256 < p.length
  · have hpT : ((256 : Int) < p.length) = True := eq_true (by omega)
    simp only [eE, eN, k_cond, reduceCtorEq, Nat.reduceEqDiff, ↓reduceIte, c14, List.length_map, hpT]
    unfold printV wholeP
    rw [if_pos hp]; exact Wk.refl _
  have hpT : ((256 : Int) < p.length) = False := eq_false (by omega)
  simp only [eE, eN, k_cond, reduceCtorEq, Nat.reduceEqDiff, ↓reduceIte, c14, List.length_map, hpT]
  refine (p27 p (by omega)).mono ?_
  rintro o H' n' (⟨hw, lv, rfl⟩ | ⟨t, tok, id, rest, cap, hw, htk, rfl, hob⟩)
  · simp only [eE, eN, k_cond, Nat.reduceEqDiff, ↓reduceIte, Nat.reduceAdd, Nat.reduceLT, Int.reduceLE, Int.reduceToNat, retK, List.getElem?_cons_zero, List.getElem?_cons_succ, Option.getD_some]
    unfold printV; rw [hw]; exact Wk.refl _
  · have h0 : (0 : Int) < ((1 : Nat) : Int) := by decide
    have hl : 0 < (AVal.agg [.sl tok (t.map encK), .bool false] :: rest).length := by simp
    have hq0 : (AVal.agg [.sl tok (t.map encK), .bool false] :: rest)[0]? = some (.agg [.sl tok (t.map encK), .bool false]) := rfl
    generalize (AVal.agg [.sl tok (t.map encK), .bool false] :: rest) = L at hob hl hq0
    have hts := whole_size hw
    have hv : textV t = printV p := by
      unfold printV textV; rw [hw, whole_valid hw]; rfl
    have hok : okT t = True := eq_true (by unfold okT; omega)
    have htk' : (tok.esz = 4 ∨ t.map encK = []) = True := eq_true (.inl htk)
    have hs28 : ∀ G, T10 28 [.sl tok (t.map encK)] G = (True, textV t) := fun G => by
      rw [T10_28]
      show s1K okT textV _ _ = _
      unfold s1K
      simp only [decK_map, encdK_map, htk', hok, and_self]
    have hv' : textV t = .tup [.str (join (t.map wordS) [32]), .int .i64 0] := by unfold textV; rw [whole_valid hw]; rfl
    simp only [eE, eN, k_cond, reduceCtorEq, Nat.reduceEqDiff, ↓reduceIte, Nat.reduceAdd, Nat.reduceLeDiff, Nat.reduceLT, Int.reduceLE, Int.reduceToNat, retK, h0, hob, hl, hq0, Option.getD_some, List.getElem?_cons_zero, List.getElem?_cons_succ, hs28, hv']
    rw [← hv, hv']; exact Wk.refl _
def decW : AVal → Wd
  | .agg [.int _ a, .int _ b] => ⟨a, b⟩
  | _ => ⟨0, 0⟩
theorem decW_map (l : List Wd) : (l.map encW).map decW = l := by rw [List.map_map]; exact List.map_id _
def encdW (L : List AVal) : Prop := L = (L.map decW).map encW
theorem encdW_map (l : List Wd) : encdW (l.map encW) := by unfold encdW; rw [decW_map]
def sW (c : List Wd → Prop) (f : List Wd → AVal) : List AVal → AHeap → Prop × AVal := fun a H => match a with
  | [.sl t L] => (encdW L ∧ (t.esz = 2 ∨ L = []) ∧ c (L.map decW), f (L.map decW))
  | _ => (False, .tup [])
theorem qW {fid : FuncId} {c : List Wd → Prop} {f : List Wd → AVal} (h : ∀ p, c p → Pur Tryz.prog fid [.sl (.none 2) (p.map encW)] (f p)) : ∀ args H n, (sW c f args H).1 → Quiet Tryz.prog fid args H n (sW c f args H).2 := by
  intro args H n hh
  unfold sW at hh ⊢
  split at hh
  · rename_i t L
    obtain ⟨h1, h2, h3⟩ := hh
    refine ACalls.args ((h _ h3).quiet H n) ?_
    rintro g vs ⟨v, r, rfl, k1, k2⟩
    refine ⟨v, _, rfl, ?_, k2⟩
    rw [← h1]; exact Wk.sl h2 _ _ k1
  · exact hh.elim
def okA {α : Type} (_ : α) : Prop := True
abbrev s14 := sW okA printV
theorem q14 : ∀ args H n, (s14 args H).1 → Quiet Tryz.prog 14 args H n (s14 args H).2 := qW fun p _ => p14 p
theorem p16 (p : List Wd) : Pur Tryz.prog 16 [.sl (.none 2) (p.map encW)] (.int .i64 (checkN p)) := by
  have hT := (TabOK.tnil (P := Tryz.prog)).add q14
  have T1 : ∀ x H, tadd 14 s14 tnil 14 x H = s14 x H := fun _ _ => rfl
  generalize tadd 14 s14 tnil = TT at hT T1
  refine .mk ⟨⟨trivial, encW_under 0 p⟩, trivial⟩ trivial (a16 (ev_awp hT (ev_evK ?_)))
  cases hw : wholeP p with
  | none =>
    have e1 : printV p = .tup [.str [], .int .i64 520] := by unfold printV; rw [hw]
    have e2 : checkN p = 520 := by unfold checkN; rw [hw]
    simp only [eE, eN, reduceCtorEq, Nat.reduceEqDiff, ↓reduceIte, Nat.reduceAdd, Nat.reduceLT, c16, T1, s14, sW, okA, encdW_map, decW_map, e1, e2, List.getElem?_cons_zero, List.getElem?_cons_succ, Option.getD_some]
  | some t =>
    have e1 : printV p = .tup [.str (join (t.map wordS) [32]), .int .i64 0] := by unfold printV; rw [hw]
    have e2 : checkN p = 0 := by unfold checkN; rw [hw]
    simp only [eE, eN, reduceCtorEq, Nat.reduceEqDiff, ↓reduceIte, Nat.reduceAdd, Nat.reduceLT, c16, T1, s14, sW, okA, encdW_map, decW_map, e1, e2, List.getElem?_cons_zero, List.getElem?_cons_succ, Option.getD_some]
def wp (w : Wd) : Int × Int := (w.O, w.N)
theorem wp_inj {a b : List Wd} (h : a.map wp = b.map wp) : a = b := by
  refine List.map_inj_right (f := wp) (fun x y h => ?_) |>.1 h
  cases x; cases y; simp only [wp, Prod.mk.injEq] at h; rw [h.1, h.2]
def sameW (a b : List Wd) : Bool := decide (a.map wp = b.map wp)
theorem sameW_eq {a b : List Wd} : sameW a b = true ↔ a = b := by
  unfold sameW
  rw [decide_eq_true_eq]
  exact ⟨wp_inj, fun h => by rw [h]⟩
theorem sameW_no {a b : List Wd} (h : a ≠ b) : sameW a b = false := by
  cases q : sameW a b with
  | false => rfl
  | true => exact absurd (sameW_eq.1 q) h
theorem p13 (a b : List Wd) (ha : a.length < 1000000000) : Pur Tryz.prog 13 [.sl (.none 2) (a.map encW), .sl (.none 2) (b.map encW)] (.bool (sameW a b)) := by
  refine .mk ⟨⟨trivial, encW_under 0 a⟩, ⟨trivial, encW_under 0 b⟩, trivial⟩ trivial (a13 (ev_awp TabOK.tnil (ev_evK ?_)))
  by_cases hl : a.length = b.length
  case neg =>
    have c : ((a.length : Int) = b.length) = False := eq_false (by omega)
    simp only [eE, eN, k_cond, reduceCtorEq, Nat.reduceEqDiff, ↓reduceIte, Nat.reduceAdd, c13, List.length_map, c]
    rw [sameW_no (fun e => hl (by rw [e]))]
  have c : ((a.length : Int) = b.length) = True := eq_true (by omega)
  simp only [eE, eN, k_cond, reduceCtorEq, Nat.reduceEqDiff, ↓reduceIte, Nat.reduceAdd, c13, List.length_map, c]
  refine k_loop (fun i : Nat => ⟨[(0, true, .sl (.none 2) (a.map encW)), (1, true, .sl (.none 2) (b.map encW)), (5, true, .int .i64 i)], hnil, 0⟩) (fun i => i ≤ a.length ∧ ∀ j, j < i → a[j]? = b[j]?) (fun i => a.length - i) 0 rfl ⟨Nat.zero_le _, fun j hj => by omega⟩ ?_
  rintro i ⟨hi, hsame⟩
  by_cases hlt : i < a.length
  case neg =>
    have he : a = b := List.ext_getElem? fun j => by
      rcases Nat.lt_or_ge j a.length with q | q
      · exact hsame j (by omega)
      · rw [List.getElem?_eq_none q, List.getElem?_eq_none (by omega)]
    simp only [eE, eN, k_cond, reduceCtorEq, Nat.reduceEqDiff, ↓reduceIte, Int.reduceEq, Int.ofNat_lt, hlt, List.length_map]
    exact (sameW_eq.2 he).symm
  have hltb : i < b.length := by omega
  have ha' := List.getElem?_eq_getElem hlt
  have hb' := List.getElem?_eq_getElem hltb
  have e := w64_succ (k := i) (by omega)
  generalize a[i] = x at ha'
  generalize b[i] = y at hb'
  by_cases hxy : x.O = y.O ∧ x.N = y.N
  · have q1 : (decide (x.O = y.O) && decide (x.N = y.N)) = true := by simp [hxy]
    simp only [eE, eN, k_cond, reduceCtorEq, Nat.reduceEqDiff, ↓reduceIte, Nat.reduceAdd, Int.reduceEq, Int.ofNat_lt, hlt, hltb, List.length_map, List.getElem?_map, ha', hb', Option.getD_some, Int.toNat_natCast, Int.natCast_nonneg, e, cfit, ceqs, ceq, q1, Bool.not_true]
    refine .mk (i + 1) rfl ⟨hlt, fun j hj => ?_⟩ (by omega)
    by_cases hji : j = i
    · subst hji; rw [ha', hb']; cases x; cases y; simp only at hxy; rw [hxy.1, hxy.2]
    · exact hsame j (by omega)
  · have q1 : (decide (x.O = y.O) && decide (x.N = y.N)) = false := and_no (by simpa using hxy)
    simp only [eE, eN, k_cond, reduceCtorEq, Nat.reduceEqDiff, ↓reduceIte, Nat.reduceAdd, Int.reduceEq, Int.ofNat_lt, hlt, hltb, List.length_map, List.getElem?_map, ha', hb', Option.getD_some, Int.toNat_natCast, Int.natCast_nonneg, e, cfit, ceqs, ceq, q1, Bool.not_false]
    rw [sameW_no]
    intro hab
    rw [hab, hb'] at ha'
    cases ha'
    exact hxy ⟨rfl, rfl⟩
end Go.AM
end
section
set_option maxRecDepth 20000
set_option linter.all false
set_option maxHeartbeats 1000000
namespace Go.AM
open Go.Proofs Go.Lib
def decV (n : Int) : List UInt8 := if n < 10 then [UInt8.ofNat (48 + n.tmod 10).toNat] else decDigits n.toNat
theorem decV_nat (u : Nat) : decV u = decDigits u := by
  unfold decV
  by_cases h : u < 10
  · rw [if_pos (by omega), decDigits, dif_pos h, Int.tmod_eq_emod_of_nonneg (by omega)]
    congr 2; omega
  · rw [if_neg (by omega), Int.toNat_natCast]
theorem dec_len63 {u : Nat} (hu : u ≤ 9223372036854775807) : (decDigits u).length ≤ 19 := dec_len 18 u (by omega)
theorem p98' (u : Nat) (hu : u ≤ 9223372036854775807) : Pur Tryz.prog 98 [.int .i64 u] (.str (decDigits u)) := by
  refine .mk ⟨trivial, trivial⟩ trivial (a98 (ev_awp TabOK.tnil (ev_evK ?_)))
  simp only [kont_n, k_seq, k_block, k_reg, r_nil, r_v, penv, eget, lk, lkv, oks, AS.put, AS.keep, evk, evS_eq, allS, fillS, Opk.opds, isI, isInt, toI, iarith, nT, AVal.cells, Tok.esz, List.length_cons, List.length_nil, List.filterMap, List.map_cons, List.map_nil, Option.map_some, reduceCtorEq, true_and, forall_const, ↓reduceIte, Bool.false_eq_true, Nat.reduceLeDiff, Nat.reduceMul, Nat.reduceLT, Int.reduceEq, List.set_cons_zero, List.replicate_succ, List.replicate_zero, isDiv, false_implies, Nat.zero_add, ne_eq, not_false_eq_true, and_self, or_true, Nat.add_zero, c98, dig_mk, Int.toNat_natCast]
  refine ⟨dig_bs u, ?_⟩
  refine k_loop (fun w : V40 => ⟨[(0, true, .int .i64 w.v), (3, true, .str w.s)], hnil, 0⟩) (fun w => w.v ≤ 9223372036854775807 ∧ decDigits u = preD w.v ++ w.s) (fun w => w.v) ⟨u, [UInt8.ofNat (48 + u % 10)]⟩ rfl ⟨hu, pre_dig u⟩ ?_
  rintro ⟨v, s⟩ ⟨hv, hd⟩
  simp only at hv hd
  have hl : s.length ≤ 19 := by
    have := congrArg List.length hd
    rw [List.length_append] at this
    have := dec_len63 hu
    omega
  by_cases h1 : v < 10
  · have c1 : ((10 : Int) ≤ v) = False := eq_false (by omega)
    simp only [kont_nil, kont_n, kont_e, kont_bn, kont_be, k_skip, k_exit, k_ret, k_seq, k_block, k_cond, k_reg, r_nil, r_v, lpQ_n, lpQ_e, postC, rcs, rc1, rvS, eget, lk, lkv, oks, AS.put, AS.keep, evk, evS_eq, allS, fillS, Opk.opds, isI, isInt, toI, isB, toB, isS, toS, icmp, iarith, nT, AVal.cells, Tok.esz, List.length_cons, List.length_nil, List.filterMap, List.map_cons, List.map_nil, List.nil_append, List.cons_append, Option.map_some, reduceCtorEq, true_and, forall_const, Nat.reduceEqDiff, ↓reduceIte, Bool.false_eq_true, Nat.reduceLeDiff, Nat.reduceMul, Nat.reduceLT, Int.reduceEq, List.set_cons_zero, List.replicate_succ, List.replicate_zero, isDiv, false_implies, Nat.zero_add, ne_eq, not_false_eq_true, and_self, or_true, ret_eq, Nat.add_zero, wk_str, decide_false, c1]
    rw [hd, preD, if_pos h1]; rfl
  · have c1 : ((10 : Int) ≤ v) = True := eq_true (by omega)
    simp only [kont_nil, kont_n, kont_e, kont_bn, kont_be, k_skip, k_exit, k_ret, k_seq, k_block, k_cond, k_reg, r_nil, r_v, lpQ_n, lpQ_e, postC, rcs, rc1, rvS, eget, lk, lkv, oks, AS.put, AS.keep, evk, evS_eq, allS, fillS, Opk.opds, isI, isInt, toI, isB, toB, isS, toS, icmp, iarith, nT, AVal.cells, Tok.esz, List.length_cons, List.length_nil, List.filterMap, List.map_cons, List.map_nil, List.nil_append, List.cons_append, Option.map_some, reduceCtorEq, and_true, true_and, forall_const, Nat.reduceEqDiff, ↓reduceIte, Bool.false_eq_true, Nat.reduceLeDiff, Nat.reduceMul, Nat.reduceLT, Int.reduceEq, List.set_cons_zero, List.replicate_succ, List.replicate_zero, isDiv, false_implies, Nat.zero_add, ne_eq, not_false_eq_true, and_self, or_true, ret_eq, Nat.add_zero, wk_str, decide_true, c1, quo_mk (show v ≤ 9223372036854775807 by omega), dig_mk, Int.toNat_natCast, List.length_cons]
    refine ⟨dig_bs (v / 10), by unfold small; omega, .mk ⟨v / 10, UInt8.ofNat (48 + v / 10 % 10) :: s⟩ rfl ⟨by simp only []; omega, ?_⟩ (by simp only []; omega)⟩
    simp only []
    rw [hd, preD, if_neg h1, pre_dig (v / 10)]; simp
theorem p98n (n : Int) (hn : n < 0) : Pur Tryz.prog 98 [.int .i64 n] (.str (decV n)) := by
  refine .mk ⟨trivial, trivial⟩ trivial (a98 (ev_awp TabOK.tnil (ev_evK ?_)))
  have ht : -9 ≤ n.tmod 10 ∧ n.tmod 10 ≤ 0 := by
    have h1 : n.tmod 10 = -((-n).tmod 10) := by rw [Int.neg_tmod, Int.neg_neg]
    have h2 := Int.tmod_nonneg (a := -n) 10 (by omega)
    have h3 := Int.tmod_lt_of_pos (-n) (b := 10) (by decide)
    omega
  obtain ⟨d, hd⟩ : ∃ d : Nat, (48 : Int) + n.tmod 10 = d ∧ d < 256 := ⟨(48 + n.tmod 10).toNat, by omega, by omega⟩
  have e1 : IntKind.wrap .u8 (IntKind.wrap .i64 (48 + n.tmod 10)) = (d : Int) := by rw [w64_in (by omega) (by omega), hd.1, wu8 hd.2]
  have e2 : decV n = [UInt8.ofNat d] := by unfold decV; rw [if_pos (by omega), hd.1, Int.toNat_natCast]
  have c1 : ((10 : Int) ≤ n) = False := eq_false (by omega)
  simp only [kont_n, k_seq, k_block, k_reg, r_nil, r_v, penv, eget, lk, lkv, oks, AS.put, AS.keep, evk, evS_eq, allS, fillS, Opk.opds, isI, isInt, toI, iarith, nT, AVal.cells, Tok.esz, List.length_cons, List.length_nil, List.filterMap, List.map_cons, List.map_nil, Option.map_some, reduceCtorEq, true_and, forall_const, ↓reduceIte, Bool.false_eq_true, Nat.reduceLeDiff, Nat.reduceMul, Nat.reduceLT, Int.reduceEq, List.set_cons_zero, List.replicate_succ, List.replicate_zero, isDiv, false_implies, Nat.zero_add, ne_eq, not_false_eq_true, and_self, or_true, Nat.add_zero, c98, e1, Int.toNat_natCast]
  refine ⟨⟨[UInt8.ofNat d], by simp only [List.map_cons, List.map_nil]; rw [show (UInt8.ofNat d).toNat = d by simp; omega]⟩, ?_⟩
  refine k_loop (fun w : Unit => ⟨[(0, true, .int .i64 n), (3, true, .str [UInt8.ofNat d])], hnil, 0⟩) (fun _ => True) (fun _ => 0) () rfl trivial ?_
  intro _ _
  simp only [kont_nil, kont_n, kont_e, kont_bn, kont_be, k_skip, k_exit, k_ret, k_seq, k_block, k_cond, k_reg, r_nil, r_v, lpQ_n, lpQ_e, postC, rcs, rc1, rvS, eget, lk, lkv, oks, AS.put, AS.keep, evk, evS_eq, allS, fillS, Opk.opds, isI, isInt, toI, isB, toB, isS, toS, icmp, iarith, nT, AVal.cells, Tok.esz, List.length_cons, List.length_nil, List.filterMap, List.map_cons, List.map_nil, List.nil_append, List.cons_append, Option.map_some, reduceCtorEq, true_and, forall_const, Nat.reduceEqDiff, ↓reduceIte, Bool.false_eq_true, Nat.reduceAdd, Nat.reduceLeDiff, Nat.reduceMul, Nat.reduceLT, Int.reduceEq, List.set_cons_zero, List.replicate_succ, List.replicate_zero, isDiv, false_implies, Nat.zero_add, ne_eq, not_false_eq_true, and_self, or_true, ret_eq, Nat.add_zero, wk_str, decide_false, c1]
  exact e2.symm
theorem p98a (n : Int) (hn : n ≤ 9223372036854775807) : Pur Tryz.prog 98 [.int .i64 n] (.str (decV n)) := by
  rcases Int.lt_or_le n 0 with h | h
  · exact p98n n h
  · obtain ⟨u, rfl⟩ : ∃ u : Nat, n = u := ⟨n.toNat, by omega⟩
    rw [decV_nat]; exact p98' u (by omega)
def s98 : List AVal → AHeap → Prop × AVal := fun a H => match a with
  | [.int .i64 n] => (n ≤ 9223372036854775807, .str (decV n))
  | _ => (False, .tup [])
theorem q98 : ∀ args H n, (s98 args H).1 → Quiet Tryz.prog 98 args H n (s98 args H).2 := by
  intro args H n hh
  unfold s98 at hh ⊢
  split at hh
  · exact (p98a _ hh).quiet H n
  · exact hh.elim
def okX : AVal → Prop
  | .sl tok l => l = (l.map toS).map .str ∧ (tok.esz = 1 ∨ l = [])
  | _ => False
def decX : AVal → List (List UInt8)
  | .sl _ l => l.map toS
  | _ => []
def okXs : List AVal → Prop
  | [] => True
  | v :: r => okX v ∧ okXs r
theorem toS_map (l : List (List UInt8)) : (l.map AVal.str).map toS = l := by rw [List.map_map]; exact List.map_id _
theorem okXs_get : ∀ {L : List AVal} {i : Nat} {v : AVal}, okXs L → L[i]? = some v → ∃ tok ts, v = .sl tok (ts.map .str) ∧ (tok.esz = 1 ∨ ts = []) ∧ decX v = ts
  | [], i, v, h, hv => by cases hv
  | x :: r, 0, v, h, hv => by
    cases hv
    have h := h.1
    unfold okX at h
    split at h
    · rename_i tok l h'
      refine ⟨tok, l.map toS, by rw [← h.1], ?_, rfl⟩
      rcases h.2 with q | q
      · exact .inl q
      · exact .inr (by rw [q]; rfl)
    · exact h.elim
  | x :: r, i + 1, v, h, hv => okXs_get h.2 hv
def szX (L : List AVal) : Nat := (L.map fun v => (decX v).length).sum
theorem szX_take : ∀ (L : List AVal) (i : Nat), szX (L.take i) ≤ szX L
  | [], i => by simp
  | v :: r, 0 => by simp [szX]
  | v :: r, i + 1 => by
    have := szX_take r i
    simp only [szX, List.take_succ_cons, List.map_cons, List.sum_cons] at this ⊢; omega
theorem szX_succ {L : List AVal} {i : Nat} {v : AVal} (h : L[i]? = some v) : szX (L.take (i + 1)) = szX (L.take i) + (decX v).length := by
  rw [List.take_add_one, h]; simp [szX]
theorem str_unders (n : Nat) (l : List (List UInt8)) : unders n (l.map AVal.str) := unders_map (f := AVal.str) (fun x => trivial) _
def s100 : List AVal → AHeap → Prop × AVal := fun a H => match a with
  | [.sl t L] => (okXs L ∧ t.esz = 1 ∧ szX L ≤ 1000000 ∧ L.length ≤ 1000, .sl (.none 1) (((L.map decX).flatten).map .str))
  | _ => (False, .tup [])
structure W100 where
  i : Nat
  ts : List (List UInt8)
  tk : Tok
  H : AHeap
  n : Nat
theorem q100 : ∀ args H n, (s100 args H).1 → Quiet Tryz.prog 100 args H n (s100 args H).2 := by
  intro args H0 n0 hh
  unfold s100 at hh ⊢
  split at hh
  case h_2 => exact hh.elim
  rename_i t L
  obtain ⟨hL, ht, hsz, hlen⟩ := hh
  refine Quiet.of l100 ⟨trivial, str_unders _ _⟩ (fun hfr0 => a100 (ev_awp TabOK.tnil (ev_evK ?_)))
  simp only [kont_n, k_seq, k_block, k_reg, r_nil, r_v, penv, eget, lk, lkv, oks, AS.put, AS.keep, evk, Opk.opds, List.filterMap, Option.map_some, reduceCtorEq, true_and, Nat.reduceEqDiff, ↓reduceIte, and_self, Nat.add_zero, c100]
  refine k_loop (fun w : W100 => ⟨[(0, true, .sl t L), (3, true, .sl w.tk (w.ts.map .str)), (4, true, .int .i64 w.i)], w.H, w.n⟩)
    (fun w => w.i ≤ L.length ∧ w.ts = ((L.take w.i).map decX).flatten ∧ w.ts.length = szX (L.take w.i) ∧ ((w.tk = .nil ∧ w.ts = []) ∨ ∃ id, w.tk = .own id 1 ∧ n0 ≤ id ∧ hget w.H id = some .tok) ∧ Fresh w.H w.n ∧ n0 ≤ w.n ∧ Keeps H0 w.H) (fun w => L.length - w.i) ⟨0, [], .nil, H0, n0⟩ rfl
    ⟨Nat.zero_le _, rfl, rfl, .inl ⟨rfl, rfl⟩, hfr0, Nat.le_refl _, Keeps.refl _⟩ ?_
  rintro ⟨i, ts, tk0, H, n⟩ ⟨hi, hts, hln, htok, hfr, hn, hkp⟩
  simp only at hi hts hln htok hfr hn hkp
  by_cases hlt : i < L.length
  case neg =>
    have hi' : i = L.length := by omega
    subst hi'
    rw [List.take_length] at hts
    simp only [kont_nil, kont_n, kont_e, kont_bn, kont_be, k_skip, k_exit, k_ret, k_seq, k_block, k_cond, k_reg, r_nil, r_v, r_app, appE, lpQ_n, lpQ_e, postC, rcs, rc1, rvS, eget, lk, lkv, oks, AS.put, AS.keep, evk, Opk.opds, aload, isI, isInt, toI, isB, toB, mk, icmp, iarith, AVal.cells, Tok.esz, List.filterMap, Option.map_some, reduceCtorEq, and_true, true_and, forall_const, Nat.reduceEqDiff, ↓reduceIte, Bool.false_eq_true, Nat.reduceLT, Int.reduceEq, isDiv, false_implies, implies_true, ne_eq, not_false_eq_true, and_self, qret_eq, Nat.add_zero, killTok, appOK, srcOf, decide_false, Int.ofNat_lt, hlt]
    refine ⟨?_, hkp⟩
    rw [← hts]
    refine Wk.sl ?_
    rcases htok with ⟨-, q⟩ | ⟨id, q, -⟩
    · right; rw [q]; rfl
    · left; rw [q]; rfl
  have hg := List.getElem?_eq_getElem hlt
  obtain ⟨tk, us, hv, htk, hd⟩ := okXs_get hL hg
  have e := w64_succ (k := i) (by omega)
  have h1 := szX_succ hg
  rw [hd] at h1
  have h2 := szX_take L (i + 1)
  have hnew := hfr (n + 5) (by omega)
  have htu : (tk.esz = 1 ∨ us.length = 0) = True := eq_true (htk.imp (fun q => q) (fun q => by rw [q]; rfl))
  simp only [Tok.esz] at htu ht
  have hfl : ((L.take (i + 1)).map decX).flatten = ts ++ us := by
    rw [List.take_add_one, hg, hts, List.map_append, List.flatten_append]; simp [hd]
  rw [hv] at hg
  rcases htok with ⟨rfl, hts0⟩ | ⟨id, rfl, hid, htok⟩
  · subst hts0
    simp only [kont_nil, kont_n, kont_e, kont_bn, kont_be, k_skip, k_exit, k_ret, k_seq, k_block, k_cond, k_reg, r_nil, r_v, r_app, appE, lpQ_n, lpQ_e, postC, rcs, rc1, rvS, eget, lk, lkv, oks, AS.put, AS.keep, evk, Opk.opds, aload, isI, isInt, toI, isB, toB, mk, icmp, iarith, AVal.cells, Tok.esz, List.length_cons, List.length_nil, List.filterMap, List.map_nil, List.nil_append, Option.map_some, reduceCtorEq, and_true, true_and, forall_const, Nat.reduceEqDiff, ↓reduceIte, Bool.false_eq_true, List.take, Nat.reduceLT, Int.reduceEq, Nat.le_refl, List.headD_cons, isDiv, false_implies, implies_true, Nat.zero_add, ne_eq, not_false_eq_true, and_self, qret_eq, Nat.add_zero, killTok, appOK, srcOf, decide_true, Int.ofNat_lt, hlt, hg, ht, Option.getD_some, Int.toNat_natCast, Int.natCast_nonneg, List.length_map, e, hnew, htu]
    refine ⟨?_, .mk ⟨i + 1, us, .own (n + 5) 1, hset H (n + 5) .tok, n + 7⟩ rfl ⟨hlt, by rw [hfl]; rfl, by rw [h1]; simp only [List.length_nil] at hln; simp only []; omega, .inr ⟨_, rfl, by omega, hget_hset_eq ..⟩, ?_, by simp only []; omega, ?_⟩ (by simp only []; omega)⟩
    · unfold small; omega
    · exact hfr.hset (by simp only []; omega) (by simp only []; omega)
    · exact Keeps.new hfr0 (by omega) hkp
  · have hidn := hfr.lt htok
    simp only [kont_nil, kont_n, kont_e, kont_bn, kont_be, k_skip, k_exit, k_ret, k_seq, k_block, k_cond, k_reg, r_nil, r_v, r_app, appE, lpQ_n, lpQ_e, postC, rcs, rc1, rvS, eget, lk, lkv, oks, AS.put, AS.keep, evk, Opk.opds, aload, isI, isInt, toI, isB, toB, mk, icmp, iarith, AVal.cells, Tok.esz, List.length_cons, List.length_nil, List.filterMap, Option.map_some, reduceCtorEq, and_true, true_and, forall_const, Nat.reduceEqDiff, ↓reduceIte, Bool.false_eq_true, List.take, Nat.reduceLT, Int.reduceEq, Nat.le_refl, List.headD_cons, isDiv, false_implies, implies_true, Nat.zero_add, ne_eq, not_false_eq_true, and_self, qret_eq, Nat.add_zero, killTok, appOK, srcOf, decide_true, Int.ofNat_lt, hlt, hg, ht, Option.getD_some, Int.toNat_natCast, Int.natCast_nonneg, List.length_map, e, htok, hnew, htu]
    refine ⟨?_, .mk ⟨i + 1, ts ++ us, .own (n + 5) 1, hset (hset H id .dead) (n + 5) .tok, n + 7⟩ (by simp only [List.map_append]) ⟨hlt, hfl.symm, by rw [h1]; simp; omega, .inr ⟨_, rfl, by omega, hget_hset_eq ..⟩, ?_, by simp only []; omega, ?_⟩ (by simp only []; omega)⟩
    · unfold small; omega
    · exact (Fresh.hset (Fresh.hset hfr (Nat.le_refl _) hidn) (by simp only []; omega) (by simp only []; omega))
    · exact Keeps.new hfr0 (by omega) (Keeps.new hfr0 hid hkp)
def sgnR (o : Int) : List UInt8 := if o = 3 then [43] else if o = 4 then [45] else if o = 5 then [42] else if o = 6 then [47] else []
theorem p101 (o : Int) : Pur Tryz.prog 101 [.int .i64 o] (.str (sgnR o)) := by
  refine .mk ⟨trivial, trivial⟩ trivial (a101 (ev_awp TabOK.tnil (ev_evK ?_)))
  by_cases h3 : o = 3
  · subst h3; simp only [kont_nil, kont_n, kont_r, kont_bn, kont_br, k_skip, k_ret, k_seq, k_block, k_cond, k_reg, r_nil, r_v, penv, postC, rcs, rc1, rvS, eget, lk, lkv, oks, AS.put, AS.keep, evk, Opk.opds, isI, toI, isB, toB, icmp, List.filterMap, Option.map_some, reduceCtorEq, and_true, true_and, forall_const, Nat.reduceEqDiff, ↓reduceIte, Bool.false_eq_true, Int.reduceEq, false_implies, and_self, ret_eq, Nat.add_zero, wk_str, decide_true, decide_false, c101]; rfl
  by_cases h4 : o = 4
  · subst h4; simp only [kont_nil, kont_n, kont_r, kont_bn, kont_br, k_skip, k_ret, k_seq, k_block, k_cond, k_reg, r_nil, r_v, penv, postC, rcs, rc1, rvS, eget, lk, lkv, oks, AS.put, AS.keep, evk, Opk.opds, isI, toI, isB, toB, icmp, List.filterMap, Option.map_some, reduceCtorEq, and_true, true_and, forall_const, Nat.reduceEqDiff, ↓reduceIte, Bool.false_eq_true, Int.reduceEq, false_implies, and_self, ret_eq, Nat.add_zero, wk_str, decide_true, decide_false, c101]; rfl
  by_cases h5 : o = 5
  · subst h5; simp only [kont_nil, kont_n, kont_r, kont_bn, kont_br, k_skip, k_ret, k_seq, k_block, k_cond, k_reg, r_nil, r_v, penv, postC, rcs, rc1, rvS, eget, lk, lkv, oks, AS.put, AS.keep, evk, Opk.opds, isI, toI, isB, toB, icmp, List.filterMap, Option.map_some, reduceCtorEq, and_true, true_and, forall_const, Nat.reduceEqDiff, ↓reduceIte, Bool.false_eq_true, Int.reduceEq, false_implies, and_self, ret_eq, Nat.add_zero, wk_str, decide_true, decide_false, c101]; rfl
  by_cases h6 : o = 6
  · subst h6; simp only [kont_nil, kont_n, kont_r, kont_bn, kont_br, k_skip, k_ret, k_seq, k_block, k_cond, k_reg, r_nil, r_v, penv, postC, rcs, rc1, rvS, eget, lk, lkv, oks, AS.put, AS.keep, evk, Opk.opds, isI, toI, isB, toB, icmp, List.filterMap, Option.map_some, reduceCtorEq, and_true, true_and, forall_const, Nat.reduceEqDiff, ↓reduceIte, Bool.false_eq_true, Int.reduceEq, false_implies, and_self, ret_eq, Nat.add_zero, wk_str, decide_true, decide_false, c101]; rfl
  simp only [kont_nil, kont_n, kont_r, kont_bn, kont_br, k_skip, k_ret, k_seq, k_block, k_cond, k_reg, r_nil, r_v, penv, postC, rcs, rc1, rvS, eget, lk, lkv, oks, AS.put, AS.keep, evk, Opk.opds, isI, toI, isB, toB, icmp, List.filterMap, Option.map_some, reduceCtorEq, true_and, forall_const, Nat.reduceEqDiff, ↓reduceIte, Bool.false_eq_true, false_implies, and_self, ret_eq, Nat.add_zero, wk_str, decide_false, c101, h3, h4, h5, h6]
  simp [sgnR, h3, h4, h5, h6]
def s101 : List AVal → AHeap → Prop × AVal := fun a H => match a with
  | [.int .i64 n] => (True, .str (sgnR n))
  | _ => (False, .tup [])
theorem q101 : ∀ args H n, (s101 args H).1 → Quiet Tryz.prog 101 args H n (s101 args H).2 := by
  intro args H n hh
  unfold s101 at hh ⊢
  split at hh
  · exact (p101 _).quiet H n
  · exact hh.elim
end Go.AM
end
section
set_option maxRecDepth 20000
set_option linter.all false
set_option maxHeartbeats 1000000
namespace Go.AM
open Go.Proofs Go.Lib
abbrev TX := Bool × List (List UInt8)
def lessX (a b : List (List UInt8)) : List (List UInt8) := a ++ [[60]] ++ b
def callX (s : List UInt8) (a b : List (List UInt8)) : List (List UInt8) := [s, [40]] ++ a ++ [[44]] ++ b ++ [[41]]
def infX (s : List UInt8) (a b : List (List UInt8)) : List (List UInt8) := [[40]] ++ a ++ [s] ++ b ++ [[41]]
def binX (o : Int) (a b : List (List UInt8)) : List (List UInt8) := if o = 9 then lessX a b else if o = 7 ∨ o = 8 then callX (fnO o) a b else infX (sgnO o) a b
def ifX (b c d : List (List UInt8)) : List (List UInt8) := [[40], sIf] ++ b ++ [sThen] ++ c ++ [sElse] ++ d ++ [[41]]
def stpX (st : List TX) (w : Wd) : Option (List TX) :=
  if w.O = 1 then (if 0 ≤ w.N ∧ w.N ≤ 1048576 then some ((false, [decV w.N]) :: st) else none)
  else if w.O = 2 then (if 0 ≤ w.N ∧ w.N < 5 then some ((false, [namesI[w.N.toNat]?.getD []]) :: st) else none)
  else if w.N ≠ 0 then none
  else if w.O = 10 then (match st with
    | d :: c :: b :: r => if b.1 = true ∧ c.1 = false ∧ d.1 = false then some ((false, ifX b.2 c.2 d.2) :: r) else none
    | _ => none)
  else if 3 ≤ w.O ∧ w.O ≤ 9 then (match st with
    | b :: a :: r => if a.1 = false ∧ b.1 = false then some ((decide (w.O = 9), binX w.O a.2 b.2) :: r) else none
    | _ => none)
  else none
def txt (x : Prt) : TX := (x.c, x.t.map wordS)
theorem word_tI (s : List UInt8) : wordS (tI s) = s := rfl
theorem word_tS (s : List UInt8) : wordS (tS s) = s := rfl
theorem word_tN {v : Int} (h : 0 ≤ v) : wordS (tN v) = decV v := by
  obtain ⟨u, rfl⟩ : ∃ u : Nat, v = u := ⟨v.toNat, by omega⟩
  rw [decV_nat]
  unfold wordS
  rw [if_pos rfl]
  exact itoa_nat u
theorem bin_txt (o : Int) (a b : List Tkn) : (binT o a b).map wordS = binX o (a.map wordS) (b.map wordS) := by
  unfold binT binX
  split
  · simp [lessT, lessX, word_tS]
  · split
    · simp [fcT, callX, word_tS, word_tI]
    · simp [infT, infX, word_tS]
theorem step_txt (st : List Prt) (w : Wd) : stpX (st.map txt) w = (stepP st w).map (·.map txt) := by
  unfold stpX stepP
  by_cases h1 : w.O = 1
  · rw [if_pos h1, if_pos h1]
    by_cases h2 : 0 ≤ w.N ∧ w.N ≤ 1048576
    · rw [if_pos h2, if_pos h2]; simp [txt, word_tN h2.1]
    · rw [if_neg h2, if_neg h2]; rfl
  rw [if_neg h1, if_neg h1]
  by_cases h2 : w.O = 2
  · rw [if_pos h2, if_pos h2]
    by_cases h3 : 0 ≤ w.N ∧ w.N < 5
    · rw [if_pos h3, if_pos h3]; simp [txt, word_tI]
    · rw [if_neg h3, if_neg h3]; rfl
  rw [if_neg h2, if_neg h2]
  by_cases h3 : w.N ≠ 0
  · rw [if_pos h3, if_pos h3]; rfl
  rw [if_neg h3, if_neg h3]
  by_cases h4 : w.O = 10
  · rw [if_pos h4, if_pos h4]
    match st with
    | [] => rfl
    | [_] => rfl
    | [_, _] => rfl
    | d :: c :: b :: r =>
      simp only [List.map_cons, txt]
      by_cases h5 : b.c = true ∧ c.c = false ∧ d.c = false
      · rw [if_pos h5, if_pos h5]; simp [txt, ifT, ifX, word_tS, word_tI]
      · rw [if_neg h5, if_neg h5]; rfl
  rw [if_neg h4, if_neg h4]
  by_cases h5 : 3 ≤ w.O ∧ w.O ≤ 9
  · rw [if_pos h5, if_pos h5]
    match st with
    | [] => rfl
    | [_] => rfl
    | b :: a :: r =>
      simp only [List.map_cons, txt]
      by_cases h6 : a.c = false ∧ b.c = false
      · rw [if_pos h6, if_pos h6]; simp [txt, bin_txt]
      · rw [if_neg h6, if_neg h6]; rfl
  · rw [if_neg h5, if_neg h5]; rfl
abbrev RP := Tok × TX
abbrev encR (q : RP) : AVal := .agg [.bool q.2.1, .sl q.1 (q.2.2.map .str)]
def decR : AVal → RP
  | .agg [.bool c, .sl tok l] => (tok, (c, l.map toS))
  | _ => (.nil, (false, []))
theorem decR_enc (q : RP) : decR (encR q) = q := by
  obtain ⟨t, c, l⟩ := q
  simp only [decR, toS_map]
theorem decR_map (l : List RP) : (l.map encR).map decR = l := by
  rw [List.map_map]
  exact (List.map_congr_left fun q _ => decR_enc q).trans (List.map_id _)
def stkR (qs : List RP) : List TX := (qs.map (·.2)).reverse
theorem stkR_app (q0 : List RP) (a : RP) : stkR (q0 ++ [a]) = a.2 :: stkR q0 := by simp [stkR]
theorem stkR2 (q0 : List RP) (a b : RP) : stkR (q0 ++ [a, b]) = b.2 :: a.2 :: stkR q0 := by simp [stkR]
theorem stkR3 (q0 : List RP) (a b c : RP) : stkR (q0 ++ [a, b, c]) = c.2 :: b.2 :: a.2 :: stkR q0 := by simp [stkR]
def pushQ (qs : List RP) (w : Wd) : Option (List RP) := match stpX (stkR qs) w with
  | some (x :: _) => some (qs.take (if w.O = 1 ∨ w.O = 2 then qs.length else if w.O = 10 then qs.length - 3 else qs.length - 2) ++ [(if w.O = 1 ∨ w.O = 2 then .exact 1 else .none 1, x)])
  | _ => none
def failR (qs : List RP) (w : Wd) : AVal := if w.O = 1 then .sl (.none 2) ((qs ++ [((.exact 1, (false, [decV w.N])) : RP)]).map encR) else .sl (.none 2) []
def pushV (qs : List RP) (w : Wd) : AVal := match pushQ qs w with
  | some qs' => .tup [.sl (.none 2) (qs'.map encR), .bool true]
  | none => .tup [failR qs w, .bool false]
theorem stpX_ne {st : List TX} {w : Wd} : stpX st w ≠ some [] := by
  unfold stpX
  intro h
  split at h
  · split at h <;> cases h
  split at h
  · split at h <;> cases h
  split at h
  · cases h
  split at h
  · split at h
    · split at h <;> cases h
    · cases h
  split at h
  · split at h
    · split at h <;> cases h
    · cases h
  · cases h
theorem push_none {qs : List RP} {w : Wd} (h : stpX (stkR qs) w = none) : pushV qs w = .tup [failR qs w, .bool false] := by
  unfold pushV pushQ; rw [h]
theorem push_some {qs : List RP} {w : Wd} {st : List TX} (h : stpX (stkR qs) w = some st) : ∃ qs', pushQ qs w = some qs' ∧ stkR qs' = st ∧ pushV qs w = .tup [.sl (.none 2) (qs'.map encR), .bool true] ∧ qs'.length ≤ qs.length + 1 ∧ (∀ q ∈ qs', q ∈ qs ∨ q.1.esz = 1) := by
  have h0 := h
  match st, h with
  | [], h => exact absurd h stpX_ne
  | x :: r, h =>
    have e : pushQ qs w = some (qs.take (if w.O = 1 ∨ w.O = 2 then qs.length else if w.O = 10 then qs.length - 3 else qs.length - 2) ++ [(if w.O = 1 ∨ w.O = 2 then .exact 1 else .none 1, x)]) := by unfold pushQ; rw [h]
    refine ⟨_, e, ?_, by unfold pushV; rw [e], by simp only [List.length_append, List.length_take, List.length_cons, List.length_nil]; omega, fun q hq => ?_⟩
    · rw [stkR_app]
      congr 1
      unfold stpX at h0
      split at h0
      · rename_i hO
        rw [if_pos (.inl hO), List.take_length]
        split at h0
        · cases h0; rfl
        · cases h0
      rename_i hO1
      split at h0
      · rename_i hO
        rw [if_pos (.inr hO), List.take_length]
        split at h0
        · cases h0; rfl
        · cases h0
      rename_i hO2
      rw [if_neg (by omega)]
      split at h0
      · cases h0
      split at h0
      · rename_i hO
        rw [if_pos hO]
        have hm : 3 ≤ qs.length := by
          have : (stkR qs).length = qs.length := by simp [stkR]
          split at h0
          · rename_i he; rw [he] at this; simp at this; omega
          · cases h0
        obtain ⟨q0, b, c, d, rfl⟩ := split3 hm
        rw [stkR3] at h0
        simp only [] at h0
        split at h0
        · cases h0
          simp
        · cases h0
      rename_i hO3
      rw [if_neg hO3]
      split at h0
      · have hm : 2 ≤ qs.length := by
          have : (stkR qs).length = qs.length := by simp [stkR]
          split at h0
          · rename_i he; rw [he] at this; simp at this; omega
          · cases h0
        obtain ⟨q0, a, b, rfl⟩ := split2 hm
        rw [stkR2] at h0
        simp only [] at h0
        split at h0
        · cases h0
          simp
        · cases h0
      · cases h0
    · rcases List.mem_append.1 hq with hq | hq
      · exact .inl (List.mem_of_mem_take hq)
      · right
        rw [List.mem_singleton.1 hq]
        simp only []
        split <;> rfl
end Go.AM
end
section
set_option maxRecDepth 20000
set_option linter.all false
set_option maxHeartbeats 1000000
namespace Go.AM
open Go.Proofs Go.Lib
def TP : Tab := tadd 98 s98 (tadd 99 s30' (tadd 100 s100 (tadd 101 s101 tnil)))
theorem TP_ok : TabOK Tryz.prog TP := (((TabOK.tnil.add q101).add q100).add q99).add q98
theorem TP_98 (a : List AVal) (H : AHeap) : TP 98 a H = s98 a H := rfl
theorem TP_100 (a : List AVal) (H : AHeap) : TP 100 a H = s100 a H := rfl
theorem TP_101 (a : List AVal) (H : AHeap) : TP 101 a H = s101 a H := rfl
theorem okX1 {a : List UInt8} : okX (.sl (.exact 1) [.str a]) = True := eq_true ⟨rfl, .inl rfl⟩
theorem okX2 {a b : List UInt8} : okX (.sl (.exact 1) [.str a, .str b]) = True := eq_true ⟨rfl, .inl rfl⟩
theorem decX1 {a : List UInt8} {t : Tok} : decX (.sl t [.str a]) = [a] := rfl
theorem decX2 {a b : List UInt8} {t : Tok} : decX (.sl t [.str a, .str b]) = [a, b] := rfl
theorem decX_map {t : Tok} {l : List (List UInt8)} : decX (.sl t (l.map .str)) = l := toS_map l
theorem okXq {q : RP} (h : q.1.esz = 1) : okX (.sl q.1 (q.2.2.map .str)) = True := eq_true ⟨by rw [toS_map], .inl h⟩
theorem encR_under (n : Nat) {qs : List RP} (h : ∀ q ∈ qs, q.1.under n) : unders n (qs.map encR) := by
  induction qs with
  | nil => trivial
  | cons q r ih => exact ⟨⟨trivial, ⟨h q (by simp), str_unders _ _⟩, trivial⟩, ih fun x hx => h x (by simp [hx])⟩
def okTk (qs : List RP) : Prop := ∀ q ∈ qs, q.1 = .exact 1 ∨ q.1 = .none 1
theorem okTk.under {qs : List RP} (h : okTk qs) (n : Nat) : ∀ q ∈ qs, q.1.under n := fun q hq => by
  rcases h q hq with e | e <;> rw [e] <;> trivial
theorem okTk.esz {qs : List RP} (h : okTk qs) : ∀ q ∈ qs, q.1.esz = 1 := fun q hq => by
  rcases h q hq with e | e <;> rw [e] <;> rfl
theorem push_tk {qs qs' : List RP} {w : Wd} (h : okTk qs) (hq : pushQ qs w = some qs') : okTk qs' := by
  unfold pushQ at hq
  split at hq
  · cases hq
    intro q hq
    rcases List.mem_append.1 hq with hq | hq
    · exact h q (List.mem_of_mem_take hq)
    · rw [List.mem_singleton.1 hq]
      simp only []
      split
      · exact .inl rfl
      · exact .inr rfl
  · cases hq
theorem failR_under {qs : List RP} (h : okTk qs) (w : Wd) (n : Nat) : (failR qs w).under n := by
  unfold failR
  split
  · refine ⟨trivial, encR_under n fun q hq => ?_⟩
    rcases List.mem_append.1 hq with hq | hq
    · exact h.under n q hq
    · rw [List.mem_singleton.1 hq]; trivial
  · exact ⟨trivial, trivial⟩
theorem pushV_under {qs : List RP} (h : okTk qs) (w : Wd) (n : Nat) : (pushV qs w).under n := by
  unfold pushV
  split
  · rename_i qs' hq
    exact ⟨⟨trivial, encR_under n ((push_tk h hq).under n)⟩, trivial, trivial⟩
  · exact ⟨failR_under h w n, trivial, trivial⟩
section
variable {qs : List RP} {N O : Int} {H : AHeap} {n : Nat}
theorem frN {H : AHeap} {n : Nat} (h : Fresh H n) : ∀ k, hget H (n + k) = none := fun k => h _ (by omega)
theorem keep3 {H : AHeap} {n a b : Nat} {x y z : AObj} (h : Fresh H n) (ha : n ≤ a) (hb : n ≤ b) : Keeps H (hset (hset (hset H n x) a y) b z) := Keeps.new h hb (Keeps.new h ha (Keeps.new h (Nat.le_refl _) (Keeps.refl _)))
theorem keep1 {H : AHeap} {n : Nat} {x : AObj} (h : Fresh H n) : Keeps H (hset H n x) := Keeps.new h (Nat.le_refl _) (Keeps.refl _)
theorem sm {a b : Nat} (h : a ≤ 1000000) (hb : b ≤ 64) : small a b := by
  have : a * b ≤ 1000000 * 64 := Nat.mul_le_mul h hb
  unfold small; omega
theorem push1 (htk : okTk qs) (hq : qs.length ≤ 1000) (hN : N ≤ 9223372036854775807) : Quiet Tryz.prog 78 [.sl (.none 2) (qs.map encR), .agg [.int .i64 1, .int .i64 N]] H n (pushV qs ⟨1, N⟩) := by
  refine Quiet.of l78 (pushV_under htk _ n) (fun hfr0 => a78 (ev_awp TP_ok (ev_evK ?_)))
  have h0 := hfr0 n (Nat.le_refl _)
  have hf := frN hfr0
  have key : ∀ b, b = (decide (0 ≤ N) && decide (N ≤ 1048576)) → pushV qs ⟨1, N⟩ = .tup [.sl (.none 2) (qs.map encR ++ [encR (.exact 1, (false, [decV N]))]), .bool b] := by
    intro b hb
    subst hb
    by_cases hr : 0 ≤ N ∧ N ≤ 1048576
    · simp [pushV, pushQ, stpX, hr]
    · have : stpX (stkR qs) ⟨1, N⟩ = none := by simp [stpX, hr]
      rw [push_none this, and_no (by simpa using hr)]
      unfold failR; rw [if_pos rfl, List.map_append]; rfl
  rw [key _ rfl]
  simp only [eE, eC, eN, reduceCtorEq, Nat.reduceEqDiff, ↓reduceIte, Nat.reduceAdd, Nat.reduceLeDiff, Nat.reduceMul, Nat.reduceLT, c78, h0, hf, TP_98, s98, hN, hset_hset, List.length_map]
  exact ⟨⟨sm (by omega) (by decide), by omega⟩, ⟨sm (by omega) (by decide), by omega⟩, Wk.tup2 (Wk.sl (.inl rfl)) (Wk.refl _), keep3 hfr0 (by omega) (by omega)⟩
theorem fail_wk {H H' : AHeap} (h : Keeps H H') : Wk (.tup [.sl .nil [], .bool false]) (.tup [.sl (.none 2) [], .bool false]) ∧ Keeps H H' := ⟨Wk.tup2 (Wk.sl (.inr rfl)) (Wk.refl _), h⟩
theorem push2 (htk : okTk qs) (hq : qs.length ≤ 1000) (h1 : 0 ≤ N) (h2 : N < 5) : Quiet Tryz.prog 78 [.sl (.none 2) (qs.map encR), .agg [.int .i64 2, .int .i64 N]] H n (pushV qs ⟨2, N⟩) := by
  obtain ⟨k, rfl⟩ : ∃ k : Nat, N = k := ⟨N.toNat, by omega⟩
  obtain ⟨nm, hnm⟩ : ∃ s, namesI[k]? = some s := ⟨_, List.getElem?_eq_getElem (by simp only [namesI, List.length_cons, List.length_nil]; omega)⟩
  have hv : pushV qs ⟨2, (k : Int)⟩ = .tup [.sl (.none 2) (qs.map encR ++ [encR (.exact 1, (false, [nm]))]), .bool true] := by
    simp [pushV, pushQ, stpX, h2, hnm]
  have hnm' : (namesI.map AVal.str)[k]? = some (.str nm) := by rw [List.getElem?_map, hnm]; rfl
  have hlen : ((namesI.map AVal.str).length : Int) = 5 := rfl
  obtain ⟨NM, hNM⟩ : ∃ NM, NM = namesI.map AVal.str := ⟨_, rfl⟩
  have hT : ∀ H', TP 99 [] H' = (True, .sl (.none 1) NM) := fun H' => by rw [hNM]; rfl
  rw [← hNM] at hnm' hlen
  refine Quiet.of l78 (pushV_under htk _ n) (fun hfr0 => a78 (ev_awp TP_ok (ev_evK ?_)))
  have h0 := hfr0 n (Nat.le_refl _)
  have hf := frN hfr0
  have c1 : ((k : Int) < 0) = False := eq_false (by omega)
  have c2 : ((5 : Int) ≤ k) = False := eq_false (by omega)
  rw [hv]
  simp only [eE, eC, eN, reduceCtorEq, Nat.reduceEqDiff, ↓reduceIte, Nat.reduceAdd, Nat.reduceLeDiff, Nat.reduceMul, Nat.reduceLT, Int.reduceEq, c78, h0, hf, hT, hlen, hnm', c1, c2, h2, Option.getD_some, Int.toNat_natCast, Int.natCast_nonneg, hset_hset, List.length_map]
  exact ⟨⟨sm (by omega) (by decide), by omega⟩, ⟨sm (by omega) (by decide), by omega⟩, Wk.tup2 (Wk.sl (.inl rfl)) (Wk.refl _), keep3 hfr0 (by omega) (by omega)⟩
theorem push2n (htk : okTk qs) (h : ¬ (0 ≤ N ∧ N < 5)) : Quiet Tryz.prog 78 [.sl (.none 2) (qs.map encR), .agg [.int .i64 2, .int .i64 N]] H n (pushV qs ⟨2, N⟩) := by
  have hv : pushV qs ⟨2, N⟩ = .tup [.sl (.none 2) [], .bool false] := push_none (by simp [stpX, h])
  have hlen : ((namesI.map AVal.str).length : Int) = 5 := rfl
  obtain ⟨NM, hNM⟩ : ∃ NM, NM = namesI.map AVal.str := ⟨_, rfl⟩
  have hT : ∀ H', TP 99 [] H' = (True, .sl (.none 1) NM) := fun H' => by rw [hNM]; rfl
  rw [← hNM] at hlen
  refine Quiet.of l78 (pushV_under htk _ n) (fun hfr0 => a78 (ev_awp TP_ok (ev_evK ?_)))
  have h0 := hfr0 n (Nat.le_refl _)
  rw [hv]
  by_cases h1 : N < 0
  · simp only [eE, eC, eN, reduceCtorEq, Nat.reduceEqDiff, ↓reduceIte, Nat.reduceAdd, Nat.reduceLeDiff, Int.reduceEq, Bool.not_true, c78, h0, hT, hlen, h1]
    exact fail_wk (keep1 hfr0)
  · have h2 : (5 : Int) ≤ N := by omega
    simp only [eE, eC, eN, reduceCtorEq, Nat.reduceEqDiff, ↓reduceIte, Nat.reduceAdd, Nat.reduceLeDiff, Int.reduceEq, c78, h0, hT, hlen, h1, h2]
    exact fail_wk (keep1 hfr0)
theorem push3n (htk : okTk qs) (h1 : O ≠ 1) (h2 : O ≠ 2) (h : ¬ (N = 0 ∧ 3 ≤ O ∧ O ≤ 10)) : Quiet Tryz.prog 78 [.sl (.none 2) (qs.map encR), .agg [.int .i64 O, .int .i64 N]] H n (pushV qs ⟨O, N⟩) := by
  have hv : pushV qs ⟨O, N⟩ = .tup [.sl (.none 2) [], .bool false] := by
    have e : stpX (stkR qs) ⟨O, N⟩ = none := by
      by_cases h3 : N = 0
      · have h10 : O ≠ 10 := fun e => h ⟨h3, by omega⟩
        have h39 : ¬ (3 ≤ O ∧ O ≤ 9) := fun e => h ⟨h3, by omega⟩
        simp [stpX, h1, h2, h3, h10, h39]
      · simp [stpX, h1, h2, h3]
    rw [push_none e]; unfold failR; rw [if_neg h1]
  refine Quiet.of l78 (pushV_under htk _ n) (fun hfr0 => a78 (ev_awp TP_ok (ev_evK ?_)))
  have h0 := hfr0 n (Nat.le_refl _)
  rw [hv]
  by_cases h3 : N = 0
  case neg =>
    simp only [eE, eC, eN, reduceCtorEq, Nat.reduceEqDiff, ↓reduceIte, Nat.reduceAdd, Nat.reduceLeDiff, Bool.not_true, Bool.not_false, c78, h0, h1, h2, h3]
    exact fail_wk (keep1 hfr0)
  by_cases h4 : O < 3
  · simp only [eE, eC, eN, reduceCtorEq, Nat.reduceEqDiff, ↓reduceIte, Nat.reduceAdd, Nat.reduceLeDiff, Bool.not_true, c78, h0, h1, h2, h3, h4]
    exact fail_wk (keep1 hfr0)
  have h5 : (10 : Int) < O := by omega
  simp only [eE, eC, eN, reduceCtorEq, Nat.reduceEqDiff, ↓reduceIte, Nat.reduceAdd, Nat.reduceLeDiff, Bool.not_true, c78, h0, h1, h2, h3, h4, h5]
  exact fail_wk (keep1 hfr0)
theorem push10s (htk : okTk qs) (hq : qs.length < 3) : Quiet Tryz.prog 78 [.sl (.none 2) (qs.map encR), .agg [.int .i64 10, .int .i64 0]] H n (pushV qs ⟨10, 0⟩) := by
  have hv : pushV qs ⟨10, 0⟩ = .tup [.sl (.none 2) [], .bool false] := push_none (by
    have : (stkR qs).length < 3 := by simpa [stkR] using hq
    revert this
    generalize stkR qs = st
    intro h
    match st with
    | [] => rfl
    | [_] => rfl
    | [_, _] => rfl
    | _ :: _ :: _ :: _ => simp at h; omega)
  refine Quiet.of l78 (pushV_under htk _ n) (fun hfr0 => a78 (ev_awp TP_ok (ev_evK ?_)))
  have h0 := hfr0 n (Nat.le_refl _)
  have c1 : ((qs.length : Int) < 3) = True := eq_true (by omega)
  rw [hv]
  simp only [eE, eC, eN, reduceCtorEq, Nat.reduceEqDiff, ↓reduceIte, Nat.reduceAdd, Nat.reduceLeDiff, Int.reduceEq, Int.reduceLT, Bool.not_true, c78, h0, List.length_map, c1]
  exact fail_wk (keep1 hfr0)
theorem getR (q0 q1 : List RP) (j : Nat) (x : RP) (h : q1[j]? = some x) : ((q0 ++ q1).map encR)[q0.length + j]? = some (encR x) := by
  rw [List.getElem?_map, List.getElem?_append_right (by omega), Nat.add_sub_cancel_left, h]; rfl
theorem push10 {q0 : List RP} {b c d : RP} (htk : okTk (q0 ++ [b, c, d])) (hq : q0.length ≤ 1000) (hs : ∀ q ∈ q0 ++ [b, c, d], q.2.2.length ≤ 100000) : Quiet Tryz.prog 78 [.sl (.none 2) ((q0 ++ [b, c, d]).map encR), .agg [.int .i64 10, .int .i64 0]] H n (pushV (q0 ++ [b, c, d]) ⟨10, 0⟩) := by
  refine Quiet.of l78 (pushV_under htk _ n) (fun hfr0 => a78 (ev_awp TP_ok (ev_evK ?_)))
  have h0 := hfr0 n (Nat.le_refl _)
  have hf := frN hfr0
  have lL : ((q0 ++ [b, c, d]).map encR).length = q0.length + 3 := by simp
  have g0 := getR q0 [b, c, d] 0 b rfl
  have g1 := getR q0 [b, c, d] 1 c rfl
  have g2 := getR q0 [b, c, d] 2 d rfl
  have c1 : (((q0.length + 3 : Nat) : Int) < 3) = False := eq_false (by omega)
  have w3 : IntKind.wrap .i64 (((q0.length + 3 : Nat) : Int) - 3) = ((q0.length : Nat) : Int) := by rw [w64_in (by omega) (by omega)]; omega
  have w2 : IntKind.wrap .i64 (((q0.length + 3 : Nat) : Int) - 2) = ((q0.length + 1 : Nat) : Int) := by rw [w64_in (by omega) (by omega)]; omega
  have w1 : IntKind.wrap .i64 (((q0.length + 3 : Nat) : Int) - 1) = ((q0.length + 2 : Nat) : Int) := by rw [w64_in (by omega) (by omega)]; omega
  have k0 : (q0.length : Int) < ((q0.length + 3 : Nat) : Int) := by omega
  have k1 : ((q0.length + 1 : Nat) : Int) < ((q0.length + 3 : Nat) : Int) := by omega
  have k2 : ((q0.length + 2 : Nat) : Int) < ((q0.length + 3 : Nat) : Int) := by omega
  have k5 : ((q0.length : Int) ≤ ((q0.length + 3 : Nat) : Int)) = True := eq_true (by omega)
  have tl : ((q0 ++ [b, c, d]).map encR).take q0.length = q0.map encR := by rw [List.map_append, List.take_append_of_le_length (by simp), List.take_of_length_le (by simp)]
  generalize hL : (q0 ++ [b, c, d]).map encR = L at *
  simp only [Nat.add_zero] at g0
  by_cases hc : b.2.1 = true ∧ c.2.1 = false ∧ d.2.1 = false
  · obtain ⟨h1, h2, h3⟩ := hc
    have hv : pushV (q0 ++ [b, c, d]) ⟨10, 0⟩ = .tup [.sl (.none 2) (q0.map encR ++ [encR (.none 1, (false, ifX b.2.2 c.2.2 d.2.2))]), .bool true] := by
      simp [pushV, pushQ, stpX, stkR3, h1, h2, h3]
    have tb := okXq (htk.esz b (by simp))
    have tc := okXq (htk.esz c (by simp))
    have td := okXq (htk.esz d (by simp))
    have e1 : szX [.sl (.exact 1) [.str [40], .str sIf], .sl b.1 (b.2.2.map .str), .sl (.exact 1) [.str sThen], .sl c.1 (c.2.2.map .str), .sl (.exact 1) [.str sElse], .sl d.1 (d.2.2.map .str), .sl (.exact 1) [.str [41]]] ≤ 1000000 := by
      have := hs b (by simp)
      have := hs c (by simp)
      have := hs d (by simp)
      simp only [szX, List.map_cons, List.map_nil, List.sum_cons, List.sum_nil, decX_map, decX1, decX2, List.length_cons, List.length_nil]; omega
    rw [hv]
    simp only [sIf, sThen, sElse] at e1
    simp only [eE, eC, eN, reduceCtorEq, Nat.reduceEqDiff, ↓reduceIte, Nat.reduceAdd, Nat.reduceLeDiff, Nat.reduceMul, Nat.reduceLT, Int.reduceEq, Int.reduceLE, Int.reduceLT, Int.reduceToNat, Bool.not_true, c78, h0, hf, lL, c1, w1, w2, w3, k0, k1, k2, k5, g0, g1, g2, h1, h2, h3, Option.getD_some, Int.toNat_natCast, Int.natCast_nonneg, TP_100, s100, okXs, okX1, okX2, tb, tc, td, e1, hset_hset, tl, List.length_map, decX1, decX2, decX_map]
    refine ⟨⟨sm (by omega) (by decide), by omega⟩, ⟨sm (by omega) (by decide), by omega⟩, Wk.tup2 ?_ (Wk.refl _), keep3 hfr0 (by omega) (by omega)⟩
    simp only [encR, ifX, sIf, sThen, sElse, List.flatten_cons, List.flatten_nil, List.append_nil, List.append_assoc, List.cons_append, List.nil_append]
    exact Wk.sl (.inl rfl)
  · have hv : pushV (q0 ++ [b, c, d]) ⟨10, 0⟩ = .tup [.sl (.none 2) [], .bool false] := push_none (by simp only [stkR3, stpX]; simp [hc])
    rw [hv]
    have : b.2.1 = false ∨ (b.2.1 = true ∧ c.2.1 = true) ∨ (b.2.1 = true ∧ c.2.1 = false ∧ d.2.1 = true) := by
      cases hb : b.2.1 <;> cases hc' : c.2.1 <;> cases hd : d.2.1 <;> simp_all
    rcases this with h1 | ⟨h1, h2⟩ | ⟨h1, h2, h3⟩
    · simp only [eE, eC, eN, reduceCtorEq, Nat.reduceEqDiff, ↓reduceIte, Nat.reduceAdd, Nat.reduceLeDiff, Int.reduceEq, Int.reduceLT, Bool.not_true, Bool.not_false, c78, h0, lL, c1, w1, w2, w3, k0, k1, k2, g0, g1, g2, h1, Option.getD_some, Int.toNat_natCast, Int.natCast_nonneg]
      exact fail_wk (keep1 hfr0)
    · simp only [eE, eC, eN, reduceCtorEq, Nat.reduceEqDiff, ↓reduceIte, Nat.reduceAdd, Nat.reduceLeDiff, Int.reduceEq, Int.reduceLT, Bool.not_true, c78, h0, lL, c1, w1, w2, w3, k0, k1, k2, g0, g1, g2, h1, h2, Option.getD_some, Int.toNat_natCast, Int.natCast_nonneg]
      exact fail_wk (keep1 hfr0)
    · simp only [eE, eC, eN, reduceCtorEq, Nat.reduceEqDiff, ↓reduceIte, Nat.reduceAdd, Nat.reduceLeDiff, Int.reduceEq, Int.reduceLT, Bool.not_true, c78, h0, lL, c1, w1, w2, w3, k0, k1, k2, g0, g1, g2, h1, h2, h3, Option.getD_some, Int.toNat_natCast, Int.natCast_nonneg]
      exact fail_wk (keep1 hfr0)
theorem keep4 {H : AHeap} {n a b c : Nat} {w x y z : AObj} (h : Fresh H n) (ha : n ≤ a) (hb : n ≤ b) (hc : n ≤ c) : Keeps H (hset (hset (hset (hset H n w) a x) b y) c z) := Keeps.new h hc (keep3 h ha hb)
theorem finB {q0 : List RP} {H H' : AHeap} {m : Nat} {c : Bool} {T T' : List (List UInt8)} (hq : q0.length ≤ 1000) (hT : T = T') (hk : Keeps H H') : (small q0.length 32 ∧ q0.length ≤ 35184372088832) ∧ (small (q0.length + 1) 32 ∧ q0.length ≤ 35184372088831) ∧
    Wk (.tup [.sl (.own m 2) (q0.map encR ++ [.agg [.bool c, .sl (.none 1) (T.map .str)]]), .bool true]) (.tup [.sl (.none 2) (q0.map encR ++ [encR (.none 1, (c, T'))]), .bool true]) ∧ Keeps H H' := by
  subst hT
  exact ⟨⟨sm (by omega) (by decide), by omega⟩, ⟨sm (by omega) (by decide), by omega⟩, Wk.tup2 (Wk.sl (.inl rfl)) (Wk.refl _), hk⟩
theorem pushBs (htk : okTk qs) (hq : qs.length < 2) (hO : 3 ≤ O ∧ O ≤ 9) : Quiet Tryz.prog 78 [.sl (.none 2) (qs.map encR), .agg [.int .i64 O, .int .i64 0]] H n (pushV qs ⟨O, 0⟩) := by
  have o1 : ¬ O = 1 := by omega
  have o2 : ¬ O = 2 := by omega
  have o3 : ¬ O < 3 := by omega
  have o4 : ¬ (10 : Int) < O := by omega
  have o5 : ¬ O = 10 := by omega
  have hv : pushV qs ⟨O, 0⟩ = .tup [.sl (.none 2) [], .bool false] := by
    have e : stpX (stkR qs) ⟨O, 0⟩ = none := by
      have : (stkR qs).length < 2 := by simpa [stkR] using hq
      revert this
      generalize stkR qs = st
      intro h
      match st with
      | [] => simp [stpX, o1, o2, o5]
      | [_] => simp [stpX, o1, o2, o5]
      | _ :: _ :: _ => simp at h; omega
    rw [push_none e]; unfold failR; rw [if_neg o1]
  refine Quiet.of l78 (pushV_under htk _ n) (fun hfr0 => a78 (ev_awp TP_ok (ev_evK ?_)))
  have h0 := hfr0 n (Nat.le_refl _)
  have c1 : ((qs.length : Int) < 2) = True := eq_true (by omega)
  rw [hv]
  simp only [eE, eC, eN, reduceCtorEq, Nat.reduceEqDiff, ↓reduceIte, Nat.reduceAdd, Nat.reduceLeDiff, Int.reduceEq, Bool.not_true, c78, h0, o1, o2, o3, o4, o5, List.length_map, c1]
  exact fail_wk (keep1 hfr0)
theorem pushB {q0 : List RP} {a b : RP} (htk : okTk (q0 ++ [a, b])) (hq : q0.length ≤ 1000) (hs : ∀ q ∈ q0 ++ [a, b], q.2.2.length ≤ 100000) (hO : 3 ≤ O ∧ O ≤ 9) : Quiet Tryz.prog 78 [.sl (.none 2) ((q0 ++ [a, b]).map encR), .agg [.int .i64 O, .int .i64 0]] H n (pushV (q0 ++ [a, b]) ⟨O, 0⟩) := by
  have o1 : ¬ O = 1 := by omega
  have o2 : ¬ O = 2 := by omega
  have o3 : ¬ O < 3 := by omega
  have o4 : ¬ (10 : Int) < O := by omega
  have o5 : ¬ O = 10 := by omega
  refine Quiet.of l78 (pushV_under htk _ n) (fun hfr0 => a78 (ev_awp TP_ok (ev_evK ?_)))
  have h0 := hfr0 n (Nat.le_refl _)
  have hf := frN hfr0
  have lL : ((q0 ++ [a, b]).map encR).length = q0.length + 2 := by simp
  have g0 := getR q0 [a, b] 0 a rfl
  have g1 := getR q0 [a, b] 1 b rfl
  have c1 : (((q0.length + 2 : Nat) : Int) < 2) = False := eq_false (by omega)
  have w2 : IntKind.wrap .i64 (((q0.length + 2 : Nat) : Int) - 2) = ((q0.length : Nat) : Int) := by rw [w64_in (by omega) (by omega)]; omega
  have w1 : IntKind.wrap .i64 (((q0.length + 2 : Nat) : Int) - 1) = ((q0.length + 1 : Nat) : Int) := by rw [w64_in (by omega) (by omega)]; omega
  have k0 : (q0.length : Int) < ((q0.length + 2 : Nat) : Int) := by omega
  have k1 : ((q0.length + 1 : Nat) : Int) < ((q0.length + 2 : Nat) : Int) := by omega
  have k5 : ((q0.length : Int) ≤ ((q0.length + 2 : Nat) : Int)) = True := eq_true (by omega)
  have tl : ((q0 ++ [a, b]).map encR).take q0.length = q0.map encR := by rw [List.map_append, List.take_append_of_le_length (by simp), List.take_of_length_le (by simp)]
  generalize hL : (q0 ++ [a, b]).map encR = L at *
  simp only [Nat.add_zero] at g0
  by_cases hc : a.2.1 = false ∧ b.2.1 = false
  case neg =>
    have hv : pushV (q0 ++ [a, b]) ⟨O, 0⟩ = .tup [.sl (.none 2) [], .bool false] := by
      have e : stpX (stkR (q0 ++ [a, b])) ⟨O, 0⟩ = none := by rw [stkR2]; simp [stpX, o1, o2, o5, hc]
      rw [push_none e]; unfold failR; rw [if_neg o1]
    rw [hv]
    have : a.2.1 = true ∨ (a.2.1 = false ∧ b.2.1 = true) := by
      cases ha : a.2.1 <;> cases hb : b.2.1 <;> simp_all
    rcases this with h1 | ⟨h1, h2⟩
    · simp only [eE, eC, eN, reduceCtorEq, Nat.reduceEqDiff, ↓reduceIte, Nat.reduceAdd, Nat.reduceLeDiff, Int.reduceEq, Bool.not_true, c78, h0, lL, c1, o1, o2, o3, o4, o5, w1, w2, k0, k1, g0, g1, h1, Option.getD_some, Int.toNat_natCast, Int.natCast_nonneg]
      exact fail_wk (keep1 hfr0)
    · simp only [eE, eC, eN, reduceCtorEq, Nat.reduceEqDiff, ↓reduceIte, Nat.reduceAdd, Nat.reduceLeDiff, Int.reduceEq, Bool.not_true, c78, h0, lL, c1, o1, o2, o3, o4, o5, w1, w2, k0, k1, g0, g1, h1, h2, Option.getD_some, Int.toNat_natCast, Int.natCast_nonneg]
      exact fail_wk (keep1 hfr0)
  obtain ⟨h1, h2⟩ := hc
  have hv : pushV (q0 ++ [a, b]) ⟨O, 0⟩ = .tup [.sl (.none 2) (q0.map encR ++ [encR (.none 1, (decide (O = 9), binX O a.2.2 b.2.2))]), .bool true] := by
    simp [pushV, pushQ, stpX, stkR2, h1, h2, o1, o2, o5, hO.1, hO.2]
  have ta := okXq (htk.esz a (by simp))
  have tb := okXq (htk.esz b (by simp))
  have sa := hs a (by simp)
  have sb := hs b (by simp)
  have e3 : ∀ x : List UInt8, szX [.sl a.1 (a.2.2.map .str), .sl (.exact 1) [.str x], .sl b.1 (b.2.2.map .str)] ≤ 1000000 := fun x => by
    simp only [szX, List.map_cons, List.map_nil, List.sum_cons, List.sum_nil, decX_map, decX1, List.length_cons, List.length_nil]; omega
  have e5 : ∀ x y z : List UInt8, szX [.sl (.exact 1) [.str x], .sl a.1 (a.2.2.map .str), .sl (.exact 1) [.str y], .sl b.1 (b.2.2.map .str), .sl (.exact 1) [.str z]] ≤ 1000000 := fun x y z => by
    simp only [szX, List.map_cons, List.map_nil, List.sum_cons, List.sum_nil, decX_map, decX1, List.length_cons, List.length_nil]; omega
  have e6 : ∀ x x' y z : List UInt8, szX [.sl (.exact 1) [.str x, .str x'], .sl a.1 (a.2.2.map .str), .sl (.exact 1) [.str y], .sl b.1 (b.2.2.map .str), .sl (.exact 1) [.str z]] ≤ 1000000 := fun x x' y z => by
    simp only [szX, List.map_cons, List.map_nil, List.sum_cons, List.sum_nil, decX_map, decX1, decX2, List.length_cons, List.length_nil]; omega
  rw [hv]
  by_cases h7 : O = 7
  · subst h7
    simp only [eE, eC, eN, reduceCtorEq, Nat.reduceEqDiff, ↓reduceIte, Nat.reduceAdd, Nat.reduceLeDiff, Nat.reduceMul, Nat.reduceLT, Int.reduceEq, Int.reduceLE, Int.reduceLT, Int.reduceToNat, Bool.not_true, c78, h0, hf, lL, c1, w1, w2, k0, k1, k5, g0, g1, h1, h2, Option.getD_some, Int.toNat_natCast, Int.natCast_nonneg, TP_100, s100, okXs, okX1, okX2, ta, tb, e6, hset_hset, tl, List.length_map, decX1, decX2, decX_map]
    exact finB hq (by simp [binX, callX, fnO, sMin]) (keep4 hfr0 (by omega) (by omega) (by omega))
  by_cases h8 : O = 8
  · subst h8
    simp only [eE, eC, eN, reduceCtorEq, Nat.reduceEqDiff, ↓reduceIte, Nat.reduceAdd, Nat.reduceLeDiff, Nat.reduceMul, Nat.reduceLT, Int.reduceEq, Int.reduceLE, Int.reduceLT, Int.reduceToNat, Bool.not_true, c78, h0, hf, lL, c1, w1, w2, k0, k1, k5, g0, g1, h1, h2, Option.getD_some, Int.toNat_natCast, Int.natCast_nonneg, TP_100, s100, okXs, okX1, okX2, ta, tb, e6, hset_hset, tl, List.length_map, decX1, decX2, decX_map]
    exact finB hq (by simp [binX, callX, fnO, sMax]) (keep4 hfr0 (by omega) (by omega) (by omega))
  by_cases h9 : O = 9
  · subst h9
    simp only [eE, eC, eN, reduceCtorEq, Nat.reduceEqDiff, ↓reduceIte, Nat.reduceAdd, Nat.reduceLeDiff, Nat.reduceMul, Nat.reduceLT, Int.reduceEq, Int.reduceLE, Int.reduceLT, Int.reduceToNat, Bool.not_true, c78, h0, hf, lL, c1, w1, w2, k0, k1, k5, g0, g1, h1, h2, Option.getD_some, Int.toNat_natCast, Int.natCast_nonneg, TP_100, s100, okXs, okX1, ta, tb, e3, hset_hset, tl, List.length_map, decX1, decX_map]
    exact finB hq (by simp [binX, lessX]) (keep4 hfr0 (by omega) (by omega) (by omega))
  · simp only [eE, eC, eN, reduceCtorEq, Nat.reduceEqDiff, ↓reduceIte, Nat.reduceAdd, Nat.reduceLeDiff, Nat.reduceMul, Nat.reduceLT, Int.reduceEq, Int.reduceLE, Int.reduceToNat, Bool.not_true, c78, h0, hf, lL, c1, o1, o2, o3, o4, o5, h7, h8, h9, w1, w2, k0, k1, k5, g0, g1, h1, h2, Option.getD_some, Int.toNat_natCast, Int.natCast_nonneg, TP_100, s100, TP_101, s101, okXs, okX1, ta, tb, e5, hset_hset, tl, List.length_map, decX1, decX_map]
    have hbx : binX O a.2.2 b.2.2 = infX (sgnR O) a.2.2 b.2.2 := by
      unfold binX
      rw [if_neg h9, if_neg (by omega)]
      congr 1
      unfold sgnO sgnR
      split; · rfl
      split; · rfl
      split; · rfl
      rw [if_pos (by omega)]
    rw [hbx]
    exact finB hq (by simp [infX]) (keep4 hfr0 (by omega) (by omega) (by omega))
end
end Go.AM
end
section
set_option maxRecDepth 20000
set_option linter.all false
set_option maxHeartbeats 1000000
namespace Go.AM
open Go.Proofs Go.Lib
def s78 : List AVal → AHeap → Prop × AVal := fun a H => match a with
  | [.sl t L, .agg [.int .i64 o, .int .i64 m]] => (L = (L.map decR).map encR ∧ (t.esz = 2 ∨ L = []) ∧ okTk (L.map decR) ∧ L.length ≤ 1000 ∧ (∀ q ∈ L.map decR, q.2.2.length ≤ 100000) ∧ m ≤ 9223372036854775807, pushV (L.map decR) ⟨o, m⟩)
  | _ => (False, .tup [])
theorem pushAll {qs : List RP} {o m : Int} {H : AHeap} {n : Nat} (htk : okTk qs) (hq : qs.length ≤ 1000) (hs : ∀ q ∈ qs, q.2.2.length ≤ 100000) (hm : m ≤ 9223372036854775807) : Quiet Tryz.prog 78 [.sl (.none 2) (qs.map encR), .agg [.int .i64 o, .int .i64 m]] H n (pushV qs ⟨o, m⟩) := by
  by_cases h1 : o = 1
  · subst h1; exact push1 htk hq hm
  by_cases h2 : o = 2
  · subst h2
    by_cases h : 0 ≤ m ∧ m < 5
    · exact push2 htk hq h.1 h.2
    · exact push2n htk h
  by_cases h3 : m = 0 ∧ 3 ≤ o ∧ o ≤ 10
  case neg => exact push3n htk h1 h2 h3
  obtain ⟨rfl, h4, h5⟩ := h3
  by_cases h10 : o = 10
  · subst h10
    by_cases hl : qs.length < 3
    · exact push10s htk hl
    · obtain ⟨q0, b, c, d, rfl⟩ := split3 (l := qs) (by omega)
      exact push10 htk (by simp at hq; omega) hs
  · by_cases hl : qs.length < 2
    · exact pushBs htk hl ⟨h4, by omega⟩
    · obtain ⟨q0, a, b, rfl⟩ := split2 (l := qs) (by omega)
      exact pushB htk (by simp at hq; omega) hs ⟨h4, by omega⟩
theorem q78 : ∀ args H n, (s78 args H).1 → Quiet Tryz.prog 78 args H n (s78 args H).2 := by
  intro args H n hh
  unfold s78 at hh ⊢
  split at hh
  · rename_i t L o m
    obtain ⟨h1, h2, h3, h4, h5, h6⟩ := hh
    refine ACalls.args (pushAll (H := H) (n := n) (o := o) h3 (by simpa using h4) h5 h6) ?_
    rintro g vs ⟨v, r, rfl, k1, k2⟩
    refine ⟨v, _, rfl, ?_, k2⟩
    rw [← h1]; exact Wk.sl h2 _ _ k1
  · exact hh.elim
def wholeV (p : List Wd) : AVal := match wholeP p with
  | some t => .tup [.sl (.none 1) ((t.map wordS).map .str), .bool true]
  | none => .tup [.sl (.none 1) [], .bool false]
theorem run_len : ∀ (q : List Wd) (st st' : List Prt), runP st q = some st' → st'.length ≤ st.length + q.length
  | [], st, st', hr => by cases hr; simp
  | w :: r, st, st', hr => by
    rw [runP] at hr
    split at hr
    · rename_i s1 hs
      have := run_len r _ _ hr
      have := (step_size hs).2
      simp; omega
    · cases hr
theorem mem_szP {st : List Prt} {x : Prt} (h : x ∈ st) : x.t.length ≤ szP st := by
  induction st with
  | nil => cases h
  | cons y r ih =>
    simp only [szP, List.map_cons, List.sum_cons] at ih ⊢
    rcases List.mem_cons.1 h with rfl | h
    · omega
    · have := ih h; omega
structure V29 where
  i : Nat
  qs : List RP
  tk : Tok
theorem p29 (p : List Wd) (hN : ∀ w ∈ p, w.N ≤ 9223372036854775807) (hp9 : p.length ≤ 9223372036854775807) : Pur Tryz.prog 29 [.sl (.none 2) (p.map encW)] (wholeV p) := by
  have T1 : ∀ x H, tadd 78 s78 tnil 78 x H = s78 x H := fun _ _ => rfl
  have hT := (TabOK.tnil (P := Tryz.prog)).add q78
  generalize tadd 78 s78 tnil = TT at hT T1
  refine .mk ⟨⟨trivial, encW_under 0 p⟩, trivial⟩ (by unfold wholeV; split <;> first | exact ⟨⟨trivial, str_unders _ _⟩, trivial, trivial⟩ | exact ⟨⟨trivial, trivial⟩, trivial, trivial⟩) (a29 (ev_awp hT (ev_evK ?_)))
  by_cases hp : 256 < p.length
  · have hpT : ((256 : Int) < p.length) = True := eq_true (by omega)
    simp only [eE, eC, eN, reduceCtorEq, Nat.reduceEqDiff, ↓reduceIte, c29, List.length_map, hpT]
    unfold wholeV wholeP
    rw [if_pos hp]; exact Wk.tup2 (Wk.sl (.inr rfl)) (Wk.refl _)
  have hpT : ((256 : Int) < p.length) = False := eq_false (by omega)
  simp only [eE, eC, eN, reduceCtorEq, Nat.reduceEqDiff, ↓reduceIte, c29, List.length_map, hpT]
  refine k_loop (fun v : V29 => ⟨[(0, true, .sl (.none 2) (p.map encW)), (4, true, .sl v.tk (v.qs.map encR)), (5, true, .int .i64 v.i)], hnil, 0⟩)
    (fun v => v.i ≤ p.length ∧ okTk v.qs ∧ (v.tk.esz = 2 ∨ v.qs = []) ∧ ∃ st, runP [] (p.take v.i) = some st ∧ st.map txt = stkR v.qs) (fun v => p.length - v.i) ⟨0, [], .nil⟩ rfl ⟨Nat.zero_le _, (fun q hq => by cases hq), .inr rfl, [], rfl, rfl⟩ ?_
  rintro ⟨i, qs, tk⟩ ⟨hi, htk, hes, st, hst, hmap⟩
  simp only at hi htk hes hst hmap
  have hlen : qs.length = st.length := by
    have := congrArg List.length hmap
    simpa [stkR] using this.symm
  by_cases hlt : i < p.length
  case neg =>
    have hi' : i = p.length := by omega
    subst hi'
    rw [List.take_length] at hst
    have n0 : (((0 : Nat) : Int) = 1) = False := eq_false (by decide)
    have n1 : (((1 : Nat) : Int) = 1) = True := eq_true (by decide)
    have n2 : ((0 : Int) < ((1 : Nat) : Int)) = True := eq_true (by decide)
    have htk2 : tk.esz = 2 ∨ qs = [] := hes
    match qs, st, hmap, hlen, htk2 with
    | [], [], _, _, _ =>
      simp only [eE, eC, eN, reduceCtorEq, Nat.reduceEqDiff, ↓reduceIte, Int.reduceLE, Int.reduceToNat, Bool.not_true, Bool.not_false, List.length_map, Int.ofNat_lt, hlt, n0]
      unfold wholeV wholeP
      rw [if_neg hp, hst]; exact Wk.tup2 (Wk.sl (.inr rfl)) (Wk.refl _)
    | [q], [x], hmap, _, htk2 =>
      have hes2 : tk.esz = 2 := htk2.elim (fun h => h) (fun h => by cases h)
      have hx : txt x = q.2 := by simpa [stkR] using hmap
      cases hc : q.2.1 with
      | true =>
        have hxc : x.c = true := by have := congrArg Prod.fst hx; exact this.trans hc
        simp only [eE, eC, eN, reduceCtorEq, Nat.reduceEqDiff, ↓reduceIte, Nat.reduceAdd, Nat.reduceLeDiff, Int.reduceLE, Int.reduceToNat, Bool.not_true, List.length_map, Int.ofNat_lt, hlt, List.getElem?_cons_zero, Option.getD_some, hc, n1, n2, hes2]
        unfold wholeV wholeP
        rw [if_neg hp, hst]; simp only [hxc, if_true]
        exact Wk.tup2 (Wk.sl (.inr rfl)) (Wk.refl _)
      | false =>
        have hxc : x.c = false := by have := congrArg Prod.fst hx; exact this.trans hc
        have hxt : x.t.map wordS = q.2.2 := congrArg Prod.snd hx
        simp only [eE, eC, eN, reduceCtorEq, Nat.reduceEqDiff, ↓reduceIte, Nat.reduceAdd, Nat.reduceLeDiff, Int.reduceLE, Int.reduceToNat, Bool.not_true, List.length_map, Int.ofNat_lt, hlt, List.getElem?_cons_zero, Option.getD_some, hc, n1, n2, hes2]
        unfold wholeV wholeP
        rw [if_neg hp, hst]; simp only [hxc, hxt, Bool.false_eq_true, if_false]
        exact Wk.tup2 (Wk.sl (.inl (htk.esz q (by simp)))) (Wk.refl _)
    | q :: q' :: r, x :: x' :: r', _, _, _ =>
      have c1 : (((r.length + 2 : Nat) : Int) = 1) = False := eq_false (by omega)
      simp only [eE, eC, eN, reduceCtorEq, Nat.reduceEqDiff, ↓reduceIte, Nat.reduceAdd, Int.reduceLE, Int.reduceToNat, Bool.not_true, Bool.not_false, List.length_map, Int.ofNat_lt, hlt, c1]
      unfold wholeV wholeP
      rw [if_neg hp, hst]; exact Wk.tup2 (Wk.sl (.inr rfl)) (Wk.refl _)
  have hg := List.getElem?_eq_getElem hlt
  have e := w64_succ (k := i) (by omega)
  have htake : p.take (i + 1) = p.take i ++ [p[i]] := by rw [List.take_add_one, hg]; rfl
  have hN' := hN p[i] (List.getElem_mem hlt)
  have hsz := run_size _ _ _ hst
  have hln := run_len _ _ _ hst
  simp only [List.length_take, List.length_nil, szP, List.map_nil, List.sum_nil] at hsz hln
  have hq1 : ((qs.map encR).map decR).length ≤ 1000 ∧ qs.length ≤ 1000 := by simp; omega
  have hsz2 : ∀ q ∈ qs, q.2.2.length ≤ 100000 := fun q hq => by
    have : q.2 ∈ st.map txt := by rw [hmap]; simp only [stkR, List.mem_reverse, List.mem_map]; exact ⟨q, hq, rfl⟩
    obtain ⟨x, hx, he⟩ := List.mem_map.1 this
    have h1 := mem_szP hx
    have h2 : (x.t.map wordS) = q.2.2 := congrArg Prod.snd he
    have h3 := congrArg List.length h2
    rw [List.length_map] at h3
    unfold szP at h1; omega
  have hstep := step_txt st p[i]
  rw [hmap] at hstep
  have hpre : (qs.map encR = qs.map encR ∧ (tk.esz = 2 ∨ qs.map encR = []) ∧ okTk qs ∧ (qs.map encR).length ≤ 1000 ∧ (∀ q ∈ qs, q.2.2.length ≤ 100000) ∧ p[i].N ≤ 9223372036854775807) = True := eq_true ⟨rfl, hes.imp (fun h => h) (fun h => by rw [h]; rfl), htk, by simpa using hq1.2, hsz2, hN'⟩
  have hs78 : ∀ G, TT 78 [.sl tk (qs.map encR), .agg [.int .i64 p[i].O, .int .i64 p[i].N]] G = (True, pushV qs p[i]) := fun G => by
    rw [T1]; unfold s78; simp only [decR_map]; exact Prod.ext (eq_true ⟨trivial, (of_eq_true hpre).2⟩) rfl
  generalize hw : p[i] = w at hs78 hstep hg htake
  cases hs : stepP st w with
  | none =>
    rw [hs] at hstep
    have hv := push_none hstep
    simp only [eE, eC, eN, reduceCtorEq, Nat.reduceEqDiff, ↓reduceIte, Nat.reduceAdd, Nat.reduceLT, Bool.not_false, List.length_map, Int.ofNat_lt, hlt, List.getElem?_map, hg, Option.getD_some, Int.toNat_natCast, Int.natCast_nonneg, hs78, hv, List.getElem?_cons_zero, List.getElem?_cons_succ]
    have : wholeP p = none := by
      have e2 : runP [] p = none := by
        rw [← List.take_append_drop (i + 1) p, runP_app, htake, runP_app, hst]
        simp only [runP, hs]
      unfold wholeP; rw [e2]; split <;> rfl
    unfold wholeV; rw [this]
    exact Wk.tup2 (Wk.sl (.inr rfl)) (Wk.refl _)
  | some st' =>
    rw [hs] at hstep
    obtain ⟨qs', k1, k2, k3, k4, k5⟩ := push_some hstep
    simp only [eE, eC, eN, reduceCtorEq, Nat.reduceEqDiff, ↓reduceIte, Nat.reduceAdd, Nat.reduceLT, Int.reduceEq, Bool.not_true, List.length_map, Int.ofNat_lt, hlt, List.getElem?_map, hg, Option.getD_some, Int.toNat_natCast, Int.natCast_nonneg, hs78, k3, List.getElem?_cons_zero, List.getElem?_cons_succ, e]
    refine .mk ⟨i + 1, qs', .none 2⟩ rfl ⟨hlt, push_tk htk k1, .inl rfl, st', ?_, k2.symm⟩ (by simp only []; omega)
    simp only []
    rw [htake, runP_app, hst]
    simp only [runP, hs]
def okN (p : List Wd) : Prop := (∀ w ∈ p, w.N ≤ 9223372036854775807) ∧ p.length ≤ 9223372036854775807
theorem p17 (p : List Wd) (hN : ∀ w ∈ p, w.N ≤ 9223372036854775807) (hp9 : p.length ≤ 9223372036854775807) : Pur Tryz.prog 17 [.sl (.none 2) (p.map encW)] (.int .i64 (checkN p)) := by
  have T1 : ∀ x H, tadd 29 (sW okN wholeV) tnil 29 x H = sW okN wholeV x H := fun _ _ => rfl
  have hT := (TabOK.tnil (P := Tryz.prog)).add (f0 := 29) (sp := sW okN wholeV) (qW fun p hp => p29 p hp.1 hp.2)
  generalize tadd 29 (sW okN wholeV) tnil = TT at hT T1
  refine .mk ⟨⟨trivial, encW_under 0 p⟩, trivial⟩ trivial (a17 (ev_awp hT (ev_evK ?_)))
  have ok : okN p = True := eq_true ⟨hN, hp9⟩
  cases hw : wholeP p with
  | none =>
    have e1 : wholeV p = .tup [.sl (.none 1) [], .bool false] := by unfold wholeV; rw [hw]
    have e2 : checkN p = 520 := by unfold checkN; rw [hw]
    simp only [eE, eC, eN, reduceCtorEq, Nat.reduceEqDiff, ↓reduceIte, Nat.reduceAdd, Nat.reduceLT, Bool.not_false, c17, T1, sW, encdW_map, decW_map, ok, e1, e2, List.getElem?_cons_zero, List.getElem?_cons_succ, Option.getD_some]
  | some t =>
    have e1 : wholeV p = .tup [.sl (.none 1) ((t.map wordS).map .str), .bool true] := by unfold wholeV; rw [hw]
    have e2 : checkN p = 0 := by unfold checkN; rw [hw]
    simp only [eE, eC, eN, reduceCtorEq, Nat.reduceEqDiff, ↓reduceIte, Nat.reduceAdd, Nat.reduceLT, Bool.not_true, c17, T1, sW, encdW_map, decW_map, ok, e1, e2, List.getElem?_cons_zero, List.getElem?_cons_succ, Option.getD_some]
theorem join_snoc {ws : List (List UInt8)} {w sep : List UInt8} (h : ws ≠ []) : join (ws ++ [w]) sep = join ws sep ++ (sep ++ w) := by
  cases ws with
  | nil => exact absurd rfl h
  | cons x r =>
    rw [List.cons_append, join_cons, join_cons]
    simp [joinTail]
theorem p15 (p : List Wd) (hN : ∀ w ∈ p, w.N ≤ 9223372036854775807) (hp9 : p.length ≤ 9223372036854775807) : Pur Tryz.prog 15 [.sl (.none 2) (p.map encW)] (printV p) := by
  have T1 : ∀ x H, tadd 29 (sW okN wholeV) tnil 29 x H = sW okN wholeV x H := fun _ _ => rfl
  have hT := (TabOK.tnil (P := Tryz.prog)).add (f0 := 29) (sp := sW okN wholeV) (qW fun p hp => p29 p hp.1 hp.2)
  generalize tadd 29 (sW okN wholeV) tnil = TT at hT T1
  refine .mk ⟨⟨trivial, encW_under 0 p⟩, trivial⟩ (by unfold printV; split <;> simp [AVal.under, unders]) (a15 (ev_awp hT (ev_evK ?_)))
  have ok : okN p = True := eq_true ⟨hN, hp9⟩
  cases hw : wholeP p with
  | none =>
    have e1 : wholeV p = .tup [.sl (.none 1) [], .bool false] := by unfold wholeV; rw [hw]
    have e2 : printV p = .tup [.str [], .int .i64 520] := by unfold printV; rw [hw]
    simp only [eE, eC, eN, reduceCtorEq, Nat.reduceEqDiff, ↓reduceIte, Nat.reduceAdd, Nat.reduceLT, Bool.not_false, c15, T1, sW, encdW_map, decW_map, ok, e1, e2, List.getElem?_cons_zero, List.getElem?_cons_succ, Option.getD_some]
    exact Wk.refl _
  | some t =>
    have e1 : wholeV p = .tup [.sl (.none 1) ((t.map wordS).map .str), .bool true] := by unfold wholeV; rw [hw]
    have e2 : printV p = .tup [.str (join (t.map wordS) [32]), .int .i64 0] := by unfold printV; rw [hw]
    have hts := whole_size hw
    have hval := whole_valid hw
    simp only [eE, eC, eN, reduceCtorEq, Nat.reduceEqDiff, ↓reduceIte, Nat.reduceAdd, Nat.reduceLT, Bool.not_true, c15, T1, sW, encdW_map, decW_map, ok, e1, e2, List.getElem?_cons_zero, List.getElem?_cons_succ, Option.getD_some]
    have hwl : ∀ w ∈ t.map wordS, w.length ≤ 32 := fun w hw => by
      obtain ⟨x, hx, rfl⟩ := List.mem_map.1 hw
      exact word_len (List.all_eq_true.1 hval x hx)
    have hll : (t.map wordS).length ≤ 1280 := by simpa using hts
    generalize t.map wordS = l at hwl hll
    refine k_loop (fun i : Nat => ⟨[(4, true, .sl (.none 1) (l.map .str)), (6, true, .str (join (l.take i) [32])), (7, true, .int .i64 i)], hnil, 0⟩) (fun i => i ≤ l.length) (fun i => l.length - i) 0 rfl (Nat.zero_le _) ?_
    intro i hi
    by_cases hlt : i < l.length
    case neg =>
      have hi' : i = l.length := by omega
      subst hi'
      simp only [eE, eC, eN, Nat.reduceEqDiff, ↓reduceIte, List.length_map, Int.ofNat_lt, hlt, List.take_length]
      exact Wk.refl _
    have hg := List.getElem?_eq_getElem hlt
    have e := w64_succ (k := i) (by omega)
    have htake : l.take (i + 1) = l.take i ++ [l[i]] := by rw [List.take_add_one, hg]; rfl
    have hjl := join_len (B := 32) (l.take i) (fun w hw => hwl w (List.mem_of_mem_take hw))
    have hlen : (l.take i).length = i := by rw [List.length_take]; omega
    rw [hlen] at hjl
    have hl32 := hwl l[i] (List.getElem_mem hlt)
    have j0 : i = 0 → join (l.take (i + 1)) [32] = join (l.take i) [32] ++ l[i] := fun h => by
      have h0 : l.take i = [] := by rw [h]; rfl
      rw [htake, h0, List.nil_append, join_one, join_nil]; rfl
    have j1 : i ≠ 0 → join (l.take (i + 1)) [32] = join (l.take i) [32] ++ [32] ++ l[i] := fun h => by
      rw [htake, join_snoc]
      · simp
      · intro q
        have := congrArg List.length q
        rw [hlen] at this
        exact h (by simpa using this)
    by_cases h0 : i = 0
    · have h0T : ((0 : Int) < i) = False := eq_false (by omega)
      simp only [eE, eC, eN, Nat.reduceEqDiff, ↓reduceIte, Int.reduceEq, List.length_map, Int.ofNat_lt, hlt, List.getElem?_map, hg, Int.toNat_natCast, Option.getD_some, Int.natCast_nonneg, e, h0T]
      exact ⟨sm (by omega) (by decide), .mk (i + 1) (by rw [← j0 h0]) hlt (by omega)⟩
    · have h0T : ((0 : Int) < i) = True := eq_true (by omega)
      simp only [eE, eC, eN, Nat.reduceEqDiff, ↓reduceIte, Int.reduceEq, List.length_map, Int.ofNat_lt, hlt, List.getElem?_map, hg, Int.toNat_natCast, Option.getD_some, Int.natCast_nonneg, e, h0T]
      exact ⟨sm (by omega) (by decide), sm (by simp; omega) (by decide), .mk (i + 1) (by rw [j1 h0]) hlt (by omega)⟩
end Go.AM
end
section
set_option maxRecDepth 20000
set_option linter.all false
set_option maxHeartbeats 1000000
namespace Go.AM
open Go.Proofs Go.Lib
theorem p34 (n : Int) : Pur Tryz.prog 34 [.int .i64 n] (.int .i64 (holdN n)) := by
  refine .mk ⟨trivial, trivial⟩ trivial (a34 (ev_awp TabOK.tnil (ev_evK ?_)))
  simp only [eE, eN, reduceCtorEq, ↓reduceIte, c34, holdN]
theorem p80 (n : Int) : Pur Tryz.prog 80 [.int .i64 n] (.int .i64 (holdN n)) := by
  refine .mk ⟨trivial, trivial⟩ trivial (a80 (ev_awp TabOK.tnil (ev_evK ?_)))
  simp only [eE, eN, reduceCtorEq, ↓reduceIte, c80, holdN]
def sH : List AVal → AHeap → Prop × AVal := fun a H => match a with
  | [.int .i64 n] => (True, .int .i64 (holdN n))
  | _ => (False, .tup [])
theorem q34 : ∀ args H n, (sH args H).1 → Quiet Tryz.prog 34 args H n (sH args H).2 := by
  intro args H n hh
  unfold sH at hh ⊢
  split at hh
  · exact (p34 _).quiet H n
  · exact hh.elim
theorem q80 : ∀ args H n, (sH args H).1 → Quiet Tryz.prog 80 args H n (sH args H).2 := by
  intro args H n hh
  unfold sH at hh ⊢
  split at hh
  · exact (p80 _).quiet H n
  · exact hh.elim
theorem ngw {a : Int} (ha : bdd a) : IntKind.wrap .i64 (0 - a) = -a := by
  unfold bdd at ha
  rw [w64_in (by omega) (by omega)]; omega
theorem abs0 {a : Int} : (absN a = 0) = (a = 0) := by unfold absN; exact propext ⟨fun h => by omega, fun h => by omega⟩
theorem tqw {b : Int} : IntKind.wrap .i64 ((1099511627776 : Int).tdiv (absN b)) = (1099511627776 : Int).tdiv (absN b) := by
  by_cases h : absN b = 0
  · rw [h, Int.tdiv_zero]; rfl
  · have := tdiv_b (a := 1099511627776) h
    have e : absN 1099511627776 = 1099511627776 := by unfold absN; omega
    rw [e] at this
    exact w64_in (by omega) (by omega)
theorem mxa {a : Int} : max a (-a) = absN a := rfl
theorem sgn_yes {a b : Int} (h : (decide (a < 0) != decide (b < 0)) = true) : decide (a < 0) ≠ decide (b < 0) := by simpa using h
theorem sgn_no {a b : Int} (h : (decide (a < 0) != decide (b < 0)) = false) : ¬ decide (a < 0) ≠ decide (b < 0) := by simpa using h
theorem p36 {a b : Int} (ha : bdd a) (hb : bdd b) : Pur Tryz.prog 36 [.int .i64 a, .int .i64 b] (.int .i64 (timesN a b)) := by
  refine .mk ⟨trivial, trivial, trivial⟩ trivial (a36 (ev_awp TabOK.tnil (ev_evK ?_)))
  have na := ngw ha
  have nb := ngw hb
  by_cases hc : b ≠ 0 ∧ (1099511627776 : Int).tdiv (absN b) < absN a
  · obtain ⟨h1, h2⟩ := hc
    cases hs : (decide (a < 0) != decide (b < 0)) with
    | true =>
      simp only [eE, eC, eN, reduceCtorEq, Nat.reduceEqDiff, ↓reduceIte, Nat.reduceAdd, Bool.not_false, c36, na, nb, mxa, tqw, h1, h2, hs, abs0]
      unfold timesN; rw [if_pos ⟨h1, h2⟩, if_pos (sgn_yes hs)]
    | false =>
      simp only [eE, eC, eN, reduceCtorEq, Nat.reduceEqDiff, ↓reduceIte, Nat.reduceAdd, Bool.not_false, c36, na, nb, mxa, tqw, h1, h2, hs, abs0]
      unfold timesN; rw [if_pos ⟨h1, h2⟩, if_neg (sgn_no hs)]
  · have ht : timesN a b = a * b := if_neg hc
    have hw : IntKind.wrap .i64 (a * b) = a * b := by
      have := times_b ha hb
      rw [ht] at this
      unfold bdd at this
      exact w64_in (by omega) (by omega)
    rw [ht]
    by_cases h1 : b = 0
    · simp only [eE, eC, eN, reduceCtorEq, Nat.reduceEqDiff, ↓reduceIte, Nat.reduceAdd, Bool.not_true, c36, h1]
      rw [h1] at hw
      exact hw
    · have h2 : ¬ (1099511627776 : Int).tdiv (absN b) < absN a := fun e => hc ⟨h1, e⟩
      simp only [eE, eC, eN, reduceCtorEq, Nat.reduceEqDiff, ↓reduceIte, Nat.reduceAdd, Bool.not_false, c36, na, nb, mxa, tqw, h1, h2, abs0, hw]
theorem p37 {a b : Int} (ha : bdd a) (hb : bdd b) : Pur Tryz.prog 37 [.int .i64 a, .int .i64 b] (.int .i64 (overN a b)) := by
  refine .mk ⟨trivial, trivial, trivial⟩ trivial (a37 (ev_awp TabOK.tnil (ev_evK ?_)))
  by_cases h0 : b = 0
  · simp only [eE, eC, eN, reduceCtorEq, Nat.reduceEqDiff, ↓reduceIte, Nat.reduceAdd, c37, h0]
    simp [overN]
  have h1 := tdiv_b (a := a) h0
  have h3 : absN a ≤ 1099511627776 := by unfold absN bdd at *; omega
  have hw : IntKind.wrap .i64 (a.tdiv b) = a.tdiv b := w64_in (by omega) (by omega)
  have hw1 : IntKind.wrap .i64 (a.tdiv b - 1) = a.tdiv b - 1 := w64_in (by omega) (by omega)
  by_cases hm : a.tmod b = 0
  · simp only [eE, eC, eN, reduceCtorEq, Nat.reduceEqDiff, ↓reduceIte, Nat.reduceAdd, Bool.not_true, c37, h0, hw, hm]
    unfold overN; rw [if_neg h0, if_neg (fun e => e.1 hm)]
  cases hs : (decide (a < 0) != decide (b < 0)) with
  | true =>
    simp only [eE, eC, eN, reduceCtorEq, Nat.reduceEqDiff, ↓reduceIte, Nat.reduceAdd, Int.reduceEq, Bool.not_false, c37, h0, hw, hw1, hm, hs]
    unfold overN; rw [if_neg h0, if_pos ⟨hm, sgn_yes hs⟩]
  | false =>
    simp only [eE, eC, eN, reduceCtorEq, Nat.reduceEqDiff, ↓reduceIte, Nat.reduceAdd, Bool.not_false, c37, h0, hw, hm, hs]
    unfold overN; rw [if_neg h0, if_neg (fun e => sgn_no hs e.2)]
theorem mul_abs {a b : Int} : ((decide (a < 0) != decide (b < 0)) = true → -(absN a * absN b) = a * b) ∧ ((decide (a < 0) != decide (b < 0)) = false → absN a * absN b = a * b) := by
  unfold absN
  rcases Int.lt_or_le a 0 with q1 | q1 <;> rcases Int.lt_or_le b 0 with q2 | q2
  · rw [show max a (-a) = -a by omega, show max b (-b) = -b by omega]
    simp [q1, q2, Int.neg_mul_neg]
  · rw [show max a (-a) = -a by omega, show max b (-b) = b by omega]
    have : ¬ b < 0 := by omega
    simp [q1, this, Int.neg_mul]
  · rw [show max a (-a) = a by omega, show max b (-b) = -b by omega]
    have : ¬ a < 0 := by omega
    simp [q2, this, Int.mul_neg]
  · rw [show max a (-a) = a by omega, show max b (-b) = b by omega]
    have h1 : ¬ a < 0 := by omega
    have h2 : ¬ b < 0 := by omega
    simp [h1, h2]
theorem p81 {a b : Int} (ha : bdd a) (hb : bdd b) : Pur Tryz.prog 81 [.int .i64 a, .int .i64 b] (.int .i64 (timesN a b)) := by
  refine .mk ⟨trivial, trivial, trivial⟩ trivial (a81 (ev_awp TabOK.tnil (ev_evK ?_)))
  have na := ngw ha
  have nb := ngw hb
  by_cases hz : a = 0
  · have e : timesN a b = 0 := by
      have := times_b ha hb
      unfold timesN
      rw [if_neg (fun e => ?_), hz, Int.zero_mul]
      have h := e.2
      rw [hz, Int.tdiv_eq_ediv_of_nonneg (by decide)] at h
      have := Int.ediv_nonneg (a := 1099511627776) (b := absN b) (by decide) (by unfold absN; omega)
      unfold absN at h this; omega
    rw [e]
    simp only [eE, eC, eN, reduceCtorEq, Nat.reduceEqDiff, ↓reduceIte, Nat.reduceAdd, Bool.not_true, c81, hz]
  by_cases hz2 : b = 0
  · have e : timesN a b = 0 := by
      unfold timesN
      rw [if_neg (fun e => e.1 hz2), hz2, Int.mul_zero]
    rw [e]
    simp only [eE, eC, eN, reduceCtorEq, Nat.reduceEqDiff, ↓reduceIte, Nat.reduceAdd, c81, hz, hz2]
  by_cases hle : absN a ≤ (1099511627776 : Int).tdiv (absN b)
  · have ht : timesN a b = a * b := if_neg (fun e => by omega)
    have hp : absN a * absN b ≤ 1099511627776 := by
      have hab : 0 < absN b := by unfold absN; omega
      rw [Int.tdiv_eq_ediv_of_nonneg (by decide)] at hle
      exact (Int.le_ediv_iff_mul_le hab).1 hle
    have hp0 : 0 ≤ absN a * absN b := Int.mul_nonneg (by unfold absN; omega) (by unfold absN; omega)
    have hw : IntKind.wrap .i64 (absN a * absN b) = absN a * absN b := w64_in (by omega) (by omega)
    have hw2 : IntKind.wrap .i64 (0 - absN a * absN b) = -(absN a * absN b) := by rw [w64_in (by omega) (by omega)]; omega
    rw [ht]
    cases hs : (decide (a < 0) != decide (b < 0)) with
    | true =>
      simp only [eE, eC, eN, reduceCtorEq, Nat.reduceEqDiff, ↓reduceIte, Nat.reduceAdd, c81, hz, hz2, na, nb, mxa, tqw, hle, hs, abs0, hw, hw2]
      exact mul_abs.1 hs
    | false =>
      simp only [eE, eC, eN, reduceCtorEq, Nat.reduceEqDiff, ↓reduceIte, Nat.reduceAdd, c81, hz, hz2, na, nb, mxa, tqw, hle, hs, abs0, hw]
      exact mul_abs.2 hs
  · have hc : b ≠ 0 ∧ (1099511627776 : Int).tdiv (absN b) < absN a := ⟨hz2, by omega⟩
    unfold timesN
    rw [if_pos hc]
    cases hs : (decide (a < 0) != decide (b < 0)) with
    | true =>
      rw [if_pos (sgn_yes hs)]
      simp only [eE, eC, eN, reduceCtorEq, Nat.reduceEqDiff, ↓reduceIte, Nat.reduceAdd, c81, hz, hz2, na, nb, mxa, tqw, hle, hs, abs0]
      rfl
    | false =>
      rw [if_neg (sgn_no hs)]
      simp only [eE, eC, eN, reduceCtorEq, Nat.reduceEqDiff, ↓reduceIte, Nat.reduceAdd, c81, hz, hz2, na, nb, mxa, tqw, hle, hs, abs0]
theorem p82 {a b : Int} (ha : bdd a) (hb : bdd b) : Pur Tryz.prog 82 [.int .i64 a, .int .i64 b] (.int .i64 (overN a b)) := by
  refine .mk ⟨trivial, trivial, trivial⟩ trivial (a82 (ev_awp TabOK.tnil (ev_evK ?_)))
  by_cases h0 : b = 0
  · simp only [eE, eC, eN, reduceCtorEq, Nat.reduceEqDiff, ↓reduceIte, Nat.reduceAdd, c82, h0]
    simp [overN]
  have h1 := tdiv_b (a := a) h0
  have h3 : absN a ≤ 1099511627776 := by unfold absN bdd at *; omega
  have hw : IntKind.wrap .i64 (a.tdiv b) = a.tdiv b := w64_in (by omega) (by omega)
  have hw1 : IntKind.wrap .i64 (a.tdiv b - 1) = a.tdiv b - 1 := w64_in (by omega) (by omega)
  have hd := Int.mul_tdiv_add_tmod a b
  rw [Int.mul_comm] at hd
  have hm1 : (a.tmod b).natAbs ≤ a.natAbs := by rw [Int.natAbs_tmod]; exact Nat.mod_le _ _
  have hw2 : IntKind.wrap .i64 (a.tdiv b * b) = a.tdiv b * b := by
    unfold bdd at ha
    exact w64_in (by omega) (by omega)
  have hq : (a.tdiv b * b = a) = (a.tmod b = 0) := propext ⟨fun h => by omega, fun h => by omega⟩
  by_cases hm : a.tmod b = 0
  · simp only [eE, eC, eN, reduceCtorEq, Nat.reduceEqDiff, ↓reduceIte, Nat.reduceAdd, Bool.not_true, c82, h0, hw, hw2, hq, hm]
    unfold overN; rw [if_neg h0, if_neg (fun e => e.1 hm)]
  cases hs : (decide (a < 0) != decide (b < 0)) with
  | true =>
    simp only [eE, eC, eN, reduceCtorEq, Nat.reduceEqDiff, ↓reduceIte, Nat.reduceAdd, Int.reduceEq, Bool.not_false, c82, h0, hw, hw1, hw2, hq, hm, hs]
    unfold overN; rw [if_neg h0, if_pos ⟨hm, sgn_yes hs⟩]
  | false =>
    simp only [eE, eC, eN, reduceCtorEq, Nat.reduceEqDiff, ↓reduceIte, Nat.reduceAdd, Bool.not_false, c82, h0, hw, hw2, hq, hm, hs]
    unfold overN; rw [if_neg h0, if_neg (fun e => sgn_no hs e.2)]
def sO (f : Int → Int → Int) : List AVal → AHeap → Prop × AVal := fun a H => match a with
  | [.int .i64 a, .int .i64 b] => (bdd a ∧ bdd b, .int .i64 (f a b))
  | _ => (False, .tup [])
theorem qO {fid : FuncId} {f : Int → Int → Int} (h : ∀ a b, bdd a → bdd b → Pur Tryz.prog fid [.int .i64 a, .int .i64 b] (.int .i64 (f a b))) : ∀ args H n, (sO f args H).1 → Quiet Tryz.prog fid args H n (sO f args H).2 := by
  intro args H n hh
  unfold sO at hh ⊢
  split at hh
  · exact (h _ _ hh.1 hh.2).quiet H n
  · exact hh.elim
theorem p33 (a b : Int) (ha : bdd a) (hb : bdd b) : Pur Tryz.prog 33 [.int .i64 a, .int .i64 b] (.int .i64 (opN 3 a b)) := by
  have T1 : ∀ x H, tadd 34 sH tnil 34 x H = sH x H := fun _ _ => rfl
  have hT := (TabOK.tnil (P := Tryz.prog)).add q34
  generalize tadd 34 sH tnil = TT at hT T1
  refine .mk ⟨trivial, trivial, trivial⟩ trivial (a33 (ev_awp hT (ev_evK ?_)))
  have hw : IntKind.wrap .i64 (a + b) = a + b := by unfold bdd at *; exact w64_in (by omega) (by omega)
  simp only [eE, eN, reduceCtorEq, Nat.reduceEqDiff, ↓reduceIte, Nat.reduceAdd, c33, T1, sH, hw]
  rfl
theorem p35 (a b : Int) (ha : bdd a) (hb : bdd b) : Pur Tryz.prog 35 [.int .i64 a, .int .i64 b] (.int .i64 (opN 4 a b)) := by
  have T1 : ∀ x H, tadd 34 sH tnil 34 x H = sH x H := fun _ _ => rfl
  have hT := (TabOK.tnil (P := Tryz.prog)).add q34
  generalize tadd 34 sH tnil = TT at hT T1
  refine .mk ⟨trivial, trivial, trivial⟩ trivial (a35 (ev_awp hT (ev_evK ?_)))
  have hw : IntKind.wrap .i64 (a - b) = a - b := by unfold bdd at *; exact w64_in (by omega) (by omega)
  simp only [eE, eN, reduceCtorEq, Nat.reduceEqDiff, ↓reduceIte, Nat.reduceAdd, c35, T1, sH, hw]
  rfl
theorem p38 (a b : Int) (ha : bdd a) (hb : bdd b) : Pur Tryz.prog 38 [.int .i64 a, .int .i64 b] (.int .i64 (opN 7 a b)) := by
  refine .mk ⟨trivial, trivial, trivial⟩ trivial (a38 (ev_awp TabOK.tnil (ev_evK ?_)))
  simp only [eE, eN, reduceCtorEq, Nat.reduceEqDiff, ↓reduceIte, Nat.reduceAdd, c38]
  rfl
theorem p39 (a b : Int) (ha : bdd a) (hb : bdd b) : Pur Tryz.prog 39 [.int .i64 a, .int .i64 b] (.int .i64 (opN 8 a b)) := by
  refine .mk ⟨trivial, trivial, trivial⟩ trivial (a39 (ev_awp TabOK.tnil (ev_evK ?_)))
  simp only [eE, eN, reduceCtorEq, Nat.reduceEqDiff, ↓reduceIte, Nat.reduceAdd, c39]
  rfl
theorem p40 (a b : Int) (ha : bdd a) (hb : bdd b) : Pur Tryz.prog 40 [.int .i64 a, .int .i64 b] (.int .i64 (opN 9 a b)) := by
  refine .mk ⟨trivial, trivial, trivial⟩ trivial (a40 (ev_awp TabOK.tnil (ev_evK ?_)))
  have e : opN 9 a b = lessN a b := rfl
  rw [e]
  by_cases h : a < b
  · simp only [eE, eC, eN, reduceCtorEq, Nat.reduceEqDiff, ↓reduceIte, Nat.reduceAdd, c40, h, lessN]
  · simp only [eE, eC, eN, reduceCtorEq, Nat.reduceEqDiff, ↓reduceIte, Nat.reduceAdd, c40, h, lessN]
def TO : Tab := tadd 80 sH (tadd 81 (sO timesN) (tadd 82 (sO overN) tnil))
theorem TO_ok : TabOK Tryz.prog TO := ((TabOK.tnil.add (qO fun a b => p82)).add (qO fun a b => p81)).add q80
theorem TO_80 (a : List AVal) (H : AHeap) : TO 80 a H = sH a H := rfl
theorem TO_81 (a : List AVal) (H : AHeap) : TO 81 a H = sO timesN a H := rfl
theorem TO_82 (a : List AVal) (H : AHeap) : TO 82 a H = sO overN a H := rfl
theorem p42 (o a b : Int) (ha : bdd a) (hb : bdd b) : Pur Tryz.prog 42 [.int .i64 o, .int .i64 a, .int .i64 b] (.int .i64 (opN o a b)) := by
  refine .mk ⟨trivial, trivial, trivial, trivial⟩ trivial (a42 (ev_awp TO_ok (ev_evK ?_)))
  have hw : IntKind.wrap .i64 (a + b) = a + b := by unfold bdd at *; exact w64_in (by omega) (by omega)
  have hw2 : IntKind.wrap .i64 (a - b) = a - b := by unfold bdd at *; exact w64_in (by omega) (by omega)
  unfold opN
  by_cases h3 : o = 3
  · simp only [eE, eC, eN, reduceCtorEq, Nat.reduceEqDiff, ↓reduceIte, Nat.reduceAdd, c42, h3, TO_80, sH, hw]
  by_cases h4 : o = 4
  · simp only [eE, eC, eN, reduceCtorEq, Nat.reduceEqDiff, ↓reduceIte, Nat.reduceAdd, Int.reduceEq, c42, h4, TO_80, sH, hw2]
  by_cases h5 : o = 5
  · simp only [eE, eC, eN, reduceCtorEq, Nat.reduceEqDiff, ↓reduceIte, Nat.reduceAdd, Int.reduceEq, c42, h5, TO_81, sO, ha, hb]
  by_cases h6 : o = 6
  · simp only [eE, eC, eN, reduceCtorEq, Nat.reduceEqDiff, ↓reduceIte, Nat.reduceAdd, Int.reduceEq, c42, h6, TO_82, sO, ha, hb]
  by_cases h7 : o = 7
  · simp only [eE, eC, eN, reduceCtorEq, Nat.reduceEqDiff, ↓reduceIte, Nat.reduceAdd, Int.reduceEq, c42, h7]
  by_cases h8 : o = 8
  · simp only [eE, eC, eN, reduceCtorEq, Nat.reduceEqDiff, ↓reduceIte, Nat.reduceAdd, Int.reduceEq, c42, h8]
  by_cases h : a < b
  · simp only [eE, eC, eN, reduceCtorEq, Nat.reduceEqDiff, ↓reduceIte, Nat.reduceAdd, c42, h3, h4, h5, h6, h7, h8, h, lessN]
  · simp only [eE, eC, eN, reduceCtorEq, Nat.reduceEqDiff, ↓reduceIte, Nat.reduceAdd, c42, h3, h4, h5, h6, h7, h8, h, lessN]
end Go.AM
end
section
set_option maxRecDepth 20000
set_option linter.all false
set_option maxHeartbeats 1000000
namespace Go.AM
open Go.Proofs Go.Lib
def LvG {α : Type} (enc : α → AVal) (e lo : Nat) (H : AHeap) (lv : AVal) (qs : List α) : Prop := (lv = .sl .nil [] ∧ qs = []) ∨ ∃ id rest, lv = .ref id e 0 qs.length (qs.length + rest.length) ∧ lo ≤ id ∧ hget H id = some (.arr e (qs.map enc ++ rest))
section
variable {α : Type} {enc : α → AVal} {e lo : Nat}
theorem LvG.cut {H : AHeap} {id : Nat} {q0 q1 : List α} {rest : List AVal} (h2 : lo ≤ id) (h3 : hget H id = some (.arr e ((q0 ++ q1).map enc ++ rest))) : LvG enc e lo H (.ref id e 0 q0.length ((q0 ++ q1).length + rest.length)) q0 := by
  refine .inr ⟨id, q1.map enc ++ rest, ?_, h2, ?_⟩
  · simp; omega
  · rw [h3]; simp
theorem app_lvG {H : AHeap} {m b : Nat} {lv z v : AVal} {qs : List α} {q : α} {K : AHeap → AVal → Prop} (h : LvG enc e lo H lv qs) (hv : v = enc q) (he : 0 < e) (hz : z.cells.length = e) (hb : b ≤ 1000) (hm : hget H m = none) (hm2 : lo ≤ m) (hk : qs.length ≤ 1000)
    (hK : ∀ id rest, lo ≤ id → (id = m ∨ ∃ L, hget H id = some (.arr e L)) → K (hset H id (.arr e ((qs ++ [q]).map enc ++ rest))) (.ref id e 0 (qs ++ [q]).length ((qs ++ [q]).length + rest.length))) : appRK H m e b z K lv (some [v]) := by
  subst hv
  have el : (qs ++ [q]).length = qs.length + 1 := by simp
  have hsm : ∀ k, k ≤ 1001 → small k b := fun k hk => by
    have : k * b ≤ 1001 * 1000 := Nat.mul_le_mul hk hb
    unfold small; omega
  rcases h with ⟨rfl, rfl⟩ | ⟨id, rest, rfl, h2, h3⟩
  · rw [appRK_sl]
    refine ⟨hm, he, hz, .inl rfl, hsm _ (by simp), by simp, (fun e => by cases e), fun _ cap hcap => ?_⟩
    have := hK m (List.replicate (cap - 1) z) hm2 (.inl rfl)
    simp only [List.nil_append, List.map_cons, List.map_nil, List.length_cons, List.length_nil, List.length_replicate] at this hcap ⊢
    rw [show 0 + 1 + (cap - 1) = cap by omega] at this
    exact this
  · rw [appRK_ref h3]
    refine ⟨hm, he, hz, rfl, rfl, hsm _ (by simp; omega), by simp; omega, rfl, by simp, by omega, fun hr => ?_, fun hr cap' hc => ?_⟩
    · have := hK id (rest.drop 1) h2 (.inr ⟨_, h3⟩)
      simp only [List.length_cons, List.length_nil] at hr ⊢
      have e1 : List.take qs.length (qs.map enc ++ rest) = qs.map enc := by rw [List.take_append_of_le_length (by simp), List.take_of_length_le (by simp)]
      have e2 : List.drop (qs.length + (0 + 1)) (qs.map enc ++ rest) = rest.drop 1 := by rw [List.drop_append, List.drop_eq_nil_of_le (by simp)]; simp
      rw [e1, e2]
      rw [el, List.map_append, List.length_drop, show qs.length + 1 + (rest.length - 1) = qs.length + rest.length by omega] at this
      exact this
    · have := hK m (List.replicate (cap' - (qs.length + 1)) z) hm2 (.inl rfl)
      simp only [List.length_cons, List.length_nil] at hr hc ⊢
      have e1 : List.take qs.length (qs.map enc ++ rest) = qs.map enc := by rw [List.take_append_of_le_length (by simp), List.take_of_length_le (by simp)]
      rw [e1]
      rw [el, List.map_append, List.length_replicate, show qs.length + 1 + (cap' - (qs.length + 1)) = cap' by omega] at this
      exact this
end
abbrev eI (n : Int) : AVal := .int .i64 n
theorem eI_map (l : List Int) : (l.map eI).map toI = l := by rw [List.map_map]; exact List.map_id _
def badI (n : Int) : Bool := decide (n < 0) || decide (1048576 < n)
theorem p32 (n : Int) : Pur Tryz.prog 32 [.int .i64 n] (.bool (badI n)) := by
  refine .mk ⟨trivial, trivial⟩ trivial (a32 (ev_awp TabOK.tnil (ev_evK ?_)))
  simp only [eE, eC, eN, reduceCtorEq, Nat.reduceEqDiff, ↓reduceIte, c32]
  rfl
def s32 : List AVal → AHeap → Prop × AVal := fun a H => match a with
  | [.int .i64 n] => (True, .bool (badI n))
  | _ => (False, .tup [])
theorem q32 : ∀ args H n, (s32 args H).1 → Quiet Tryz.prog 32 args H n (s32 args H).2 := by
  intro args H n hh
  unfold s32 at hh ⊢
  split at hh
  · exact (p32 _).quiet H n
  · exact hh.elim
def idxI (l : List Int) : Int := match l.findIdx? badI with
  | some k => k
  | none => -1
def sIf' (f : List Int → AVal) : List AVal → AHeap → Prop × AVal := fun a H => match a with
  | [.sl t L, .fn (.func 32) [] []] => (L = (L.map toI).map eI ∧ (t.esz = 1 ∨ L = []) ∧ L.length ≤ 1000000, f (L.map toI))
  | _ => (False, .tup [])
theorem qIf {fid : FuncId} {f : List Int → AVal} (h : ∀ l : List Int, l.length ≤ 1000000 → Pur Tryz.prog fid [.sl (.none 1) (l.map eI), .fn (.func 32) [] []] (f l)) : ∀ args H n, (sIf' f args H).1 → Quiet Tryz.prog fid args H n (sIf' f args H).2 := by
  intro args H n hh
  unfold sIf' at hh ⊢
  split at hh
  · rename_i t L
    obtain ⟨h1, h2, h3⟩ := hh
    refine ACalls.args ((h (L.map toI) (by simpa using h3)).quiet H n) ?_
    rintro g vs ⟨v, r, rfl, k1, k2⟩
    refine ⟨v, _, rfl, ?_, k2⟩
    rw [← h1]; exact Wk.sl h2 _ _ k1
  · exact hh.elim
theorem eI_under (n : Nat) (l : List Int) : unders n (l.map eI) := unders_map (f := eI) (fun x => trivial) _
theorem p79 (l : List Int) (hl : l.length ≤ 1000000) : Pur Tryz.prog 79 [.sl (.none 1) (l.map eI), .fn (.func 32) [] []] (.int .i64 (idxI l)) := by
  have T1 : ∀ x H, tadd 32 s32 tnil 32 x H = s32 x H := fun _ _ => rfl
  have hT := (TabOK.tnil (P := Tryz.prog)).add q32
  generalize tadd 32 s32 tnil = TT at hT T1
  refine .mk ⟨⟨trivial, eI_under 0 l⟩, by simp [AVal.under, unders], trivial⟩ trivial (a79 (ev_awp hT (ev_evK ?_)))
  simp only [eE, eN, reduceCtorEq, Nat.reduceEqDiff, ↓reduceIte, Nat.reduceAdd, c79]
  refine k_loop (fun i : Nat => ⟨[(0, true, .sl (.none 1) (l.map eI)), (1, true, .fn (.func 32) [] []), (7, true, .int .i64 (l.map eI).length), (8, true, .int .i64 i)], hnil, 0⟩) (fun i => i ≤ l.length ∧ ∀ j (hj : j < l.length), j < i → badI l[j] = false) (fun i => l.length - i) 0 rfl ⟨Nat.zero_le _, fun j hj h => by omega⟩ ?_
  rintro i ⟨hi, hall⟩
  by_cases hlt : i < l.length
  case neg =>
    simp only [eE, eC, eN, reduceCtorEq, Nat.reduceEqDiff, ↓reduceIte, List.length_map, Int.ofNat_lt, hlt]
    have : l.findIdx? badI = none := List.findIdx?_eq_none_iff.2 fun x hx => by
      obtain ⟨j, hj, rfl⟩ := List.mem_iff_getElem.1 hx
      exact hall j hj (by omega)
    unfold idxI; rw [this]
  have hg := List.getElem?_eq_getElem hlt
  have e := w64_succ (k := i) (by omega)
  cases hb : badI l[i] with
  | true =>
    simp only [eE, eC, eN, reduceCtorEq, Nat.reduceEqDiff, ↓reduceIte, List.length_map, Int.ofNat_lt, hlt, List.getElem?_map, hg, Int.toNat_natCast, Option.getD_some, Int.natCast_nonneg, T1, s32, hb]
    have : l.findIdx? badI = some i := List.findIdx?_eq_some_iff_getElem.2 ⟨hlt, hb, fun j hj => by rw [hall j (by omega) hj]; decide⟩
    unfold idxI; rw [this]
  | false =>
    simp only [eE, eC, eN, reduceCtorEq, Nat.reduceEqDiff, ↓reduceIte, Int.reduceEq, List.length_map, Int.ofNat_lt, hlt, List.getElem?_map, hg, Int.toNat_natCast, Option.getD_some, Int.natCast_nonneg, e, T1, s32, hb]
    refine .mk (i + 1) (by simp only []) ⟨hlt, fun j hj h => ?_⟩ (by omega)
    by_cases q : j = i
    · subst q; exact hb
    · exact hall j hj (by omega)
theorem idxI_any (l : List Int) : decide (0 ≤ idxI l) = l.any badI := by
  unfold idxI
  cases h : l.findIdx? badI with
  | none =>
    have := List.findIdx?_eq_none_iff.1 h
    simp only []
    symm
    rw [List.any_eq_false.2 (fun x hx => by rw [this x hx]; decide)]
    rfl
  | some k =>
    obtain ⟨h1, h2, -⟩ := List.findIdx?_eq_some_iff_getElem.1 h
    simp only [Int.natCast_nonneg, decide_true]
    symm
    exact List.any_eq_true.2 ⟨l[k], List.getElem_mem h1, h2⟩
theorem p31 (l : List Int) (hl : l.length ≤ 1000000) : Pur Tryz.prog 31 [.sl (.none 1) (l.map eI), .fn (.func 32) [] []] (.bool (l.any badI)) := by
  have T1 : ∀ x H, tadd 79 (sIf' fun l => .int .i64 (idxI l)) tnil 79 x H = sIf' (fun l => .int .i64 (idxI l)) x H := fun _ _ => rfl
  have hT := (TabOK.tnil (P := Tryz.prog)).add (qIf p79)
  generalize tadd 79 (sIf' fun l => .int .i64 (idxI l)) tnil = TT at hT T1
  refine .mk ⟨⟨trivial, eI_under 0 l⟩, by simp [AVal.under, unders], trivial⟩ trivial (a31 (ev_awp hT (ev_evK ?_)))
  have hl' : (l.length ≤ 1000000) = True := eq_true hl
  simp only [eE, eN, reduceCtorEq, Nat.reduceEqDiff, ↓reduceIte, Nat.reduceAdd, c31, T1, sIf', eI_map, List.length_map, hl', idxI_any]
theorem p41 {c id k cap : Nat} {L : List AVal} {x : Int} {H : AHeap} {n : Nat} (hc : hget H c = some (.box [.ref id 1 0 (k + 1) cap])) (ho : hget H id = some (.arr 1 L)) (hx : L[k]? = some (.int .i64 x)) (hcap : k + 1 ≤ cap) (hb : k ≤ 100000) : ACalls Tryz.prog 41 [.ptr c 0] H n fun o H' n' => o = .ret (.int .i64 x) ∧ H' = hset H c (.box [.ref id 1 0 k cap]) ∧ n' = n := by
  have hk : k < L.length := (List.getElem?_eq_some_iff.1 hx).1
  have w1 : IntKind.wrap .i64 (((k + 1 : Nat) : Int) - 1) = (k : Int) := by rw [w64_in (by omega) (by omega)]; omega
  have k1 : ((k : Int) < ((k + 1 : Nat) : Int)) = True := eq_true (by omega)
  have k2 : ((k : Int) ≤ ((k + 1 : Nat) : Int)) = True := eq_true (by omega)
  have k3 : ((0 : Int) < (cap : Int)) = True := eq_true (by omega)
  refine a41 (ev_awp TabOK.tnil (ev_evK ?_))
  simp only [eE, eN, reduceCtorEq, Nat.reduceEqDiff, ↓reduceIte, Int.reduceEq, Int.reduceLE, Int.reduceToNat, c41, hc, ho, hx, hk, hcap, w1, k1, k2, k3, Option.getD_some, Int.toNat_natCast, Int.natCast_nonneg, Nat.sub_zero]
end Go.AM
end
section
set_option maxRecDepth 20000
set_option linter.all false
set_option maxHeartbeats 1000000
namespace Go.AM
open Go.Proofs Go.Lib
abbrev fns18 : List AVal := [.nilfn, .nilfn, .nilfn, .fn (.func 33) [] [], .fn (.func 35) [] [], .fn (.func 36) [] [], .fn (.func 37) [] [], .fn (.func 38) [] [], .fn (.func 39) [] [], .fn (.func 40) [] []]
def checkV (p : List Wd) : AVal := .int .i64 (checkN p)
def T18 : Tab := tadd 16 (sW okA checkV) (tadd 30 s30' (tadd 31 (sIf' fun l => .bool (l.any badI)) (tadd 33 (sO (opN 3)) (tadd 35 (sO (opN 4)) (tadd 36 (sO (opN 5)) (tadd 37 (sO (opN 6)) (tadd 38 (sO (opN 7)) (tadd 39 (sO (opN 8)) (tadd 40 (sO (opN 9)) tnil)))))))))
theorem T18_ok : TabOK Tryz.prog T18 := (((((((((TabOK.tnil.add (qO p40)).add (qO p39)).add (qO p38)).add (qO fun a b => p37)).add (qO fun a b => p36)).add (qO p35)).add (qO p33)).add (qIf p31)).add q30').add (qW fun p _ => p16 p)
theorem T18_16 (a : List AVal) (H : AHeap) : T18 16 a H = sW okA checkV a H := rfl
theorem T18_31 (a : List AVal) (H : AHeap) : T18 31 a H = sIf' (fun l => .bool (l.any badI)) a H := rfl
theorem T18_33 (a : List AVal) (H : AHeap) : T18 33 a H = sO (opN 3) a H := rfl
theorem T18_35 (a : List AVal) (H : AHeap) : T18 35 a H = sO (opN 4) a H := rfl
theorem T18_36 (a : List AVal) (H : AHeap) : T18 36 a H = sO (opN 5) a H := rfl
theorem T18_37 (a : List AVal) (H : AHeap) : T18 37 a H = sO (opN 6) a H := rfl
theorem T18_38 (a : List AVal) (H : AHeap) : T18 38 a H = sO (opN 7) a H := rfl
theorem T18_39 (a : List AVal) (H : AHeap) : T18 39 a H = sO (opN 8) a H := rfl
theorem T18_40 (a : List AVal) (H : AHeap) : T18 40 a H = sO (opN 9) a H := rfl
structure St18 (p : List Wd) (ins : List Int) (i : Nat) (ns : List Int) (lv : AVal) (H : AHeap) (n : Nat) : Prop where
  hi : i ≤ p.length
  fr : Fresh H n
  n4 : 4 ≤ n
  lvo : LvG eI 1 4 H lv ns
  c1 : hget H 1 = some (.box fns18)
  c3 : hget H 3 = some (.box [lv])
  rn : runN ins [] (p.take i) = ns.reverse
  bd : ∀ v ∈ ns, bdd v
theorem St18.next {p : List Wd} {ins : List Int} {i : Nat} {ns ns' : List Int} {lv : AVal} {H H' : AHeap} {n n' id : Nat} {rest : List AVal} (h : St18 p ins i ns lv H n) (hi : i < p.length) (hs : stepN ins ns.reverse p[i] = ns'.reverse) (hb : ∀ v ∈ ns', bdd v)
    (hid : 4 ≤ id) (hn : 4 ≤ n') (h1 : hget H' 1 = hget H 1) (hfr : Fresh H' n') (h3 : hget H' 3 = some (.box [.ref id 1 0 ns'.length (ns'.length + rest.length)])) (hv : hget H' id = some (.arr 1 (ns'.map eI ++ rest))) :
    St18 p ins (i + 1) ns' (.ref id 1 0 ns'.length (ns'.length + rest.length)) H' n' := by
  refine ⟨hi, hfr, hn, .inr ⟨id, rest, rfl, hid, hv⟩, h1.trans h.c1, h3, ?_, hb⟩
  rw [List.take_add_one, List.getElem?_eq_getElem hi, runN_app, h.rn]
  exact hs
structure V18 where
  i : Nat
  ns : List Int
  lv : AVal
  H : AHeap
  n : Nat
def bodyOf18 : ACode := match c18 with
  | .seq _ (.seq _ (.seq _ (.seq _ (.seq _ (.seq _ (.seq (.seq _ (.block _ (.loop x))) _)))))) => x
  | _ => .skip
abbrev st18 (p : List Wd) (ins : List Int) (v : V18) : AS := ⟨[(1, true, .sl (.none 1) (ins.map eI)), (6, true, .ptr 1 0), (7, true, .ptr 3 0), (8, true, .fn (.func 41) [] [.ptr 3 0]), (32, true, .sl (.none 2) (p.map encW)), (33, true, .int .i64 p.length), (34, true, .int .i64 v.i)], v.H, v.n⟩
abbrev inv18 (p : List Wd) (ins : List Int) (v : V18) : Prop := St18 p ins v.i v.ns v.lv v.H v.n
abbrev m18 (p : List Wd) (v : V18) : Nat := p.length - v.i
def G18 (p : List Wd) (ins : List Int) (Q : AExit → AS → Prop) (v : V18) : Prop := evK Tryz.prog T18 bodyOf18 [] (lpQ (st18 p ins) (inv18 p ins) (m18 p) v Q) (st18 p ins v)
theorem lvG_set {α : Type} {enc : α → AVal} {e lo m : Nat} {H : AHeap} {lv : AVal} {qs : List α} {b : AObj} (h : LvG enc e lo H lv qs) (hm : hget H m = none) : LvG enc e lo (hset H m b) lv qs := by
  rcases h with q | ⟨id, rest, q1, q2, q3⟩
  · exact .inl q
  · refine .inr ⟨id, rest, q1, q2, ?_⟩
    rw [hget_hset_ne _ _ _ _ (fun e => by rw [e] at hm; rw [q3] at hm; cases hm)]; exact q3
theorem lvG_set3 {α : Type} {enc : α → AVal} {e : Nat} {H : AHeap} {lv : AVal} {qs : List α} {b : AObj} (h : LvG enc e 4 H lv qs) : LvG enc e 4 (hset H 3 b) lv qs := by
  rcases h with q | ⟨id, rest, q1, q2, q3⟩
  · exact .inl q
  · exact .inr ⟨id, rest, q1, q2, by rw [hget_hset_ne _ _ _ _ (by omega)]; exact q3⟩
theorem bdd_app {ns : List Int} {x : Int} (h : ∀ v ∈ ns, bdd v) (hx : bdd x) : ∀ v ∈ ns ++ [x], bdd v := fun v hv => by
  rcases List.mem_append.1 hv with hv | hv
  · exact h v hv
  · rw [List.mem_singleton.1 hv]; exact hx
theorem id_okG {H : AHeap} {n m id m' : Nat} {X : List AVal} {e : Nat} (hfr : Fresh H n) (h : id = m ∨ ∃ L, hget (hset H (n + 2) (.box X)) id = some (.arr e L)) (hm : n + 2 < m) : id ≤ m ∧ id ≠ n + 2 := by
  rcases h with rfl | ⟨L, h⟩
  · exact ⟨Nat.le_refl _, by omega⟩
  · by_cases e : id = n + 2
    · subst e; rw [hget_hset_eq] at h; cases h
    · rw [hget_hset_ne _ _ _ _ (by omega)] at h
      have := hfr.lt h
      exact ⟨by omega, e⟩
theorem fr18 {H : AHeap} {n id n' : Nat} {b c d : AObj} (hfr : Fresh H n) (hn : 4 ≤ n) (hid : id < n') (hn' : n + 4 ≤ n') : Fresh (hset (hset (hset H (n + 2) b) id c) 3 d) n' := fun j hj => by
  rw [hget_hset_ne _ _ _ _ (by omega), hget_hset_ne _ _ _ _ (by omega), hget_hset_ne _ _ _ _ (by omega)]; exact hfr j (by omega)
theorem frB {H : AHeap} {n m : Nat} {B Y : AObj} (hfr : Fresh H n) (n4 : 4 ≤ n) (hm : n + 4 ≤ m) : hget (hset (hset H (n + 2) B) 3 Y) m = none := by
  rw [hget_hset_ne _ _ _ _ (by omega), hget_hset_ne _ _ _ _ (by omega)]; exact hfr _ (by omega)
theorem id_okH {H : AHeap} {n m id e : Nat} {X Y : List AVal} (hfr : Fresh H n) (hid : 4 ≤ id) (h : id = m ∨ ∃ L, hget (hset (hset H (n + 2) (.box X)) 3 (.box Y)) id = some (.arr e L)) (hm : n + 2 < m) : id ≤ m ∧ id ≠ n + 2 := by
  rcases h with rfl | ⟨L, h⟩
  · exact ⟨Nat.le_refl _, by omega⟩
  · rw [hget_hset_ne _ _ _ _ (by omega)] at h
    by_cases e : id = n + 2
    · subst e; rw [hget_hset_eq] at h; cases h
    · rw [hget_hset_ne _ _ _ _ (by omega)] at h
      have := hfr.lt h
      exact ⟨by omega, e⟩
theorem fin18 {p : List Wd} {ins : List Int} {i : Nat} {ns n0 : List Int} {x : Int} {lv : AVal} {H : AHeap} {n n' id : Nat} {rest : List AVal} {v : V18} {s : AS} {B Y : AObj} (h : St18 p ins i ns lv H n) (hi : i < p.length) (hs : stepN ins ns.reverse p[i] = (n0 ++ [x]).reverse) (hb : ∀ v ∈ n0 ++ [x], bdd v)
    (hid : 4 ≤ id) (hid' : id < n') (hne : id ≠ n + 2) (hn : n + 4 ≤ n') (hv : v.i = i)
    (he : s = st18 p ins ⟨i + 1, n0 ++ [x], .ref id 1 0 (n0 ++ [x]).length ((n0 ++ [x]).length + rest.length), hset (hset (hset (hset H (n + 2) B) 3 Y) id (.arr 1 ((n0 ++ [x]).map eI ++ rest))) 3 (.box [.ref id 1 0 (n0 ++ [x]).length ((n0 ++ [x]).length + rest.length)]), n'⟩) :
    lpN (st18 p ins) (inv18 p ins) (m18 p) v s := by
  have n4 := h.n4
  refine .mk _ he (h.next hi hs hb hid (by simp only []; omega) ?_ ?_ (hget_hset_eq ..) ?_) (by simp only [m18, hv]; omega)
  · simp only []
    rw [hget_hset_ne _ _ _ _ (by omega), hget_hset_ne _ _ _ _ (by omega), hget_hset_ne _ _ _ _ (by omega), hget_hset_ne _ _ _ _ (by omega)]
  · intro j hj
    simp only [] at hj
    simp only []
    rw [hget_hset_ne _ _ _ _ (by omega), hget_hset_ne _ _ _ _ (by omega), hget_hset_ne _ _ _ _ (by omega), hget_hset_ne _ _ _ _ (by omega)]
    exact h.fr j (by omega)
  · simp only []
    rw [hget_hset_ne _ _ _ _ (by omega), hget_hset_eq]
section
variable {p : List Wd} {ins : List Int} {Q : AExit → AS → Prop} {i : Nat} {ns : List Int} {lv : AVal} {H : AHeap} {n : Nat}
theorem rnA (h : St18 p ins i ns lv H n) (hl : ns.length ≤ 256) (hp : p.length ≤ 256) (hlt : i < p.length) {N : Int} (hw : p[i] = ⟨1, N⟩) (h1 : 0 ≤ N) (h2 : N ≤ 1048576) : G18 p ins Q ⟨i, ns, lv, H, n⟩ := by
  have c3 := h.c3
  have hg : p[i]? = some p[i] := List.getElem?_eq_getElem hlt
  have n4 := h.n4
  have hn2 := h.fr (n + 2) (by omega)
  have z3 : (n + 2 = 3) = False := eq_false (by omega)
  have e := w64_succ (k := i) (by omega)
  rw [hw] at hg
  unfold G18
  simp only [eE, eC, eN, reduceCtorEq, Nat.reduceEqDiff, ↓reduceIte, Nat.reduceAdd, Nat.reduceLeDiff, Nat.reduceMul, Nat.reduceLT, bodyOf18, c18, Int.ofNat_lt, hlt, hg, List.getElem?_map, Option.getD_some, Int.toNat_natCast, Int.natCast_nonneg, List.length_map, c3, hn2, z3, hset_hset]
  refine app_lvG (enc := eI) (lo := 4) (q := N) (lvG_set h.lvo hn2) rfl (by decide) rfl (by decide) (by rw [hget_hset_ne _ _ _ _ (by omega)]; exact h.fr _ (by omega)) (by omega) (by omega) (fun id rest hid hid2 => ?_)
  obtain ⟨i1, i2⟩ := id_okG (m' := 0) h.fr hid2 (by omega)
  have zi : (id = 3) = False := eq_false (by omega)
  simp only [eE, eN, Nat.reduceEqDiff, ↓reduceIte, Int.reduceEq, afterR, zi, z3, c3, e]
  refine .mk ⟨i + 1, ns ++ [N], .ref id 1 0 (ns ++ [N]).length ((ns ++ [N]).length + rest.length), hset (hset (hset H (n + 2) (.box [.int .i64 1, .int .i64 N])) id (.arr 1 ((ns ++ [N]).map eI ++ rest))) 3 (.box [.ref id 1 0 (ns ++ [N]).length ((ns ++ [N]).length + rest.length)]), n + 10⟩ rfl (h.next hlt ?_ (bdd_app h.bd (by unfold bdd; omega)) hid (by simp only []; omega) ?_ (fr18 h.fr n4 (by simp only []; omega) (by simp only []; omega)) (hget_hset_eq ..) ?_) (by simp only [m18]; omega)
  · rw [hw]; simp [stepN]
  · rw [hget_hset_ne _ _ _ _ (by omega), hget_hset_ne _ _ _ _ (by omega), hget_hset_ne _ _ _ _ (by omega)]
  · rw [hget_hset_ne _ _ _ _ (by omega), hget_hset_eq]
theorem rnB (h : St18 p ins i ns lv H n) (hl : ns.length ≤ 256) (hp : p.length ≤ 256) (hlt : i < p.length) {k : Nat} {x : Int} (hw : p[i] = ⟨2, k⟩) (hx : ins[k]? = some x) (hb : bdd x) : G18 p ins Q ⟨i, ns, lv, H, n⟩ := by
  have c3 := h.c3
  have hg : p[i]? = some p[i] := List.getElem?_eq_getElem hlt
  have n4 := h.n4
  have hn2 := h.fr (n + 2) (by omega)
  have z3 : (n + 2 = 3) = False := eq_false (by omega)
  have e := w64_succ (k := i) (by omega)
  have hk := (List.getElem?_eq_some_iff.1 hx).1
  rw [hw] at hg
  unfold G18
  simp only [eE, eC, eN, reduceCtorEq, Nat.reduceEqDiff, ↓reduceIte, Nat.reduceAdd, Nat.reduceLeDiff, Nat.reduceMul, Nat.reduceLT, Int.reduceEq, bodyOf18, c18, Int.ofNat_lt, hlt, hg, List.getElem?_map, Option.getD_some, Int.toNat_natCast, Int.natCast_nonneg, List.length_map, c3, hn2, z3, hset_hset, hx, hk]
  refine app_lvG (enc := eI) (lo := 4) (q := x) (lvG_set h.lvo hn2) rfl (by decide) rfl (by decide) (by rw [hget_hset_ne _ _ _ _ (by omega)]; exact h.fr _ (by omega)) (by omega) (by omega) (fun id rest hid hid2 => ?_)
  obtain ⟨i1, i2⟩ := id_okG (m' := 0) h.fr hid2 (by omega)
  have zi : (id = 3) = False := eq_false (by omega)
  simp only [eE, eN, Nat.reduceEqDiff, ↓reduceIte, Int.reduceEq, afterR, zi, z3, c3, e]
  refine .mk ⟨i + 1, ns ++ [x], .ref id 1 0 (ns ++ [x]).length ((ns ++ [x]).length + rest.length), hset (hset (hset H (n + 2) (.box [.int .i64 2, .int .i64 k])) id (.arr 1 ((ns ++ [x]).map eI ++ rest))) 3 (.box [.ref id 1 0 (ns ++ [x]).length ((ns ++ [x]).length + rest.length)]), n + 13⟩ rfl (h.next hlt ?_ (bdd_app h.bd hb) hid (by simp only []; omega) ?_ (fr18 h.fr n4 (by simp only []; omega) (by simp only []; omega)) (hget_hset_eq ..) ?_) (by simp only [m18]; omega)
  · rw [hw]; simp [stepN, hx]
  · rw [hget_hset_ne _ _ _ _ (by omega), hget_hset_ne _ _ _ _ (by omega), hget_hset_ne _ _ _ _ (by omega)]
  · rw [hget_hset_ne _ _ _ _ (by omega), hget_hset_eq]
theorem gtI (q0 q1 : List Int) (rest : List AVal) (j : Nat) (x : Int) (h : q1[j]? = some x) : ((q0 ++ q1).map eI ++ rest)[q0.length + j]? = some (.int .i64 x) := by
  have hj := (List.getElem?_eq_some_iff.1 h).1
  rw [List.getElem?_append_left (by simp; omega), List.getElem?_map, List.getElem?_append_right (by omega), Nat.add_sub_cancel_left, h]; rfl
theorem rnC {q0 : List Int} {b c d : Int} (h : St18 p ins i (q0 ++ [b, c, d]) lv H n) (hl : (q0 ++ [b, c, d]).length ≤ 256) (hp : p.length ≤ 256) (hlt : i < p.length) (hw : p[i] = ⟨10, 0⟩) : G18 p ins Q ⟨i, q0 ++ [b, c, d], lv, H, n⟩ := by
  have c3 := h.c3
  have hg : p[i]? = some p[i] := List.getElem?_eq_getElem hlt
  have n4 := h.n4
  have hn2 := h.fr (n + 2) (by omega)
  have z3 : (n + 2 = 3) = False := eq_false (by omega)
  have e := w64_succ (k := i) (by omega)
  have len3 : (q0 ++ [b, c, d]).length = q0.length + 3 := by simp
  rw [len3] at hl
  rcases h.lvo with ⟨-, q⟩ | ⟨id, rest, rfl, hid, hob⟩
  · simp at q
  have hidn : id ≠ n + 2 := by have := h.fr.lt hob; omega
  have g0 := gtI q0 [b, c, d] rest 0 b rfl
  have g1 := gtI q0 [b, c, d] rest 1 c rfl
  have g2 := gtI q0 [b, c, d] rest 2 d rfl
  have hcut : ∀ X Y, LvG eI 1 4 (hset (hset H (n + 2) X) 3 Y) (.ref id 1 0 q0.length ((q0 ++ [b, c, d]).length + rest.length)) q0 := fun X Y => lvG_set3 (lvG_set (LvG.cut (q1 := [b, c, d]) hid hob) hn2)
  rw [len3] at c3 hcut
  generalize hcap : q0.length + 3 + rest.length = cap at c3 hcut
  generalize hL : (q0 ++ [b, c, d]).map eI ++ rest = L at hob g0 g1 g2
  simp only [Nat.add_zero] at g0
  rw [hw] at hg
  have hs : ∀ x, x = (if b ≠ 0 then c else d) → stepN ins (q0 ++ [b, c, d]).reverse p[i] = (q0 ++ [x]).reverse := fun x hx => by
    rw [hw, hx]; simp [stepN]
  have hbd : ∀ x, x = (if b ≠ 0 then c else d) → ∀ v ∈ q0 ++ [x], bdd v := fun x hx => bdd_app (fun v hv => h.bd v (by simp [hv])) (by rw [hx]; split <;> exact h.bd _ (by simp))
  have hob1 : ∀ B, hget (hset H (n + 2) B) id = some (.arr 1 L) := fun B => by rw [hget_hset_ne _ _ _ _ (by omega)]; exact hob
  have c31 : ∀ B, hget (hset H (n + 2) B) 3 = some (.box [.ref id 1 0 (q0.length + 2 + 1) cap]) := fun B => by rw [hget_hset_ne _ _ _ _ (by omega)]; exact c3
  have hob2 : ∀ B C, hget (hset (hset H (n + 2) B) 3 C) id = some (.arr 1 L) := fun B C => by rw [hget_hset_ne _ _ _ _ (by omega)]; exact hob1 B
  unfold G18
  simp only [eE, eC, eN, Nat.reduceEqDiff, ↓reduceIte, Nat.reduceAdd, Nat.reduceLeDiff, Int.reduceEq, bodyOf18, c18, Int.ofNat_lt, hlt, hg, List.getElem?_map, Option.getD_some, Int.toNat_natCast, Int.natCast_nonneg, List.length_map, hn2, hset_hset, len3]
  refine (p41 (k := q0.length + 2) (c31 _) (hob1 _) g2 (by omega) (by omega)).mono ?_
  rintro _ _ _ ⟨rfl, rfl, rfl⟩
  simp only [eE, Nat.reduceEqDiff, ↓reduceIte, retK]
  refine (p41 (k := q0.length + 1) (hget_hset_eq ..) (hob2 _ _) g1 (by omega) (by omega)).mono ?_
  rintro _ _ _ ⟨rfl, rfl, rfl⟩
  simp only [eE, Nat.reduceEqDiff, ↓reduceIte, Nat.reduceAdd, retK, hset_hset]
  refine (p41 (k := q0.length) (hget_hset_eq ..) (hob2 _ _) g0 (by omega) (by omega)).mono ?_
  rintro _ _ _ ⟨rfl, rfl, rfl⟩
  by_cases hb : b = 0
  · simp only [eE, eC, eN, reduceCtorEq, Nat.reduceEqDiff, ↓reduceIte, Nat.reduceAdd, Nat.reduceLeDiff, Nat.reduceMul, Nat.reduceLT, Bool.not_true, retK, hset_hset, hb]
    refine app_lvG (enc := eI) (lo := 4) (q := d) (hcut _ _) rfl (by decide) rfl (by decide) (frB h.fr n4 (by omega)) (by omega) (by omega) (fun id2 rest2 hid3 hid2 => ?_)
    obtain ⟨i1, i2⟩ := id_okH h.fr hid3 hid2 (by omega)
    have zi : (id2 = 3) = False := eq_false (by omega)
    simp only [eE, eN, Nat.reduceEqDiff, ↓reduceIte, Int.reduceEq, afterR, zi, e]
    exact fin18 h hlt (hs d (by simp [hb])) (hbd d (by simp [hb])) hid3 (by omega) i2 (by omega) rfl rfl
  · simp only [eE, eC, eN, reduceCtorEq, Nat.reduceEqDiff, ↓reduceIte, Nat.reduceAdd, Nat.reduceLeDiff, Nat.reduceMul, Nat.reduceLT, Bool.not_false, retK, hset_hset, hb]
    refine app_lvG (enc := eI) (lo := 4) (q := c) (hcut _ _) rfl (by decide) rfl (by decide) (frB h.fr n4 (by omega)) (by omega) (by omega) (fun id2 rest2 hid3 hid2 => ?_)
    obtain ⟨i1, i2⟩ := id_okH h.fr hid3 hid2 (by omega)
    have zi : (id2 = 3) = False := eq_false (by omega)
    simp only [eE, eN, Nat.reduceEqDiff, ↓reduceIte, Int.reduceEq, afterR, zi, e]
    exact fin18 h hlt (hs c (by simp [hb])) (hbd c (by simp [hb])) hid3 (by omega) i2 (by omega) rfl rfl
theorem rnD {q0 : List Int} {a b O : Int} (h : St18 p ins i (q0 ++ [a, b]) lv H n) (hl : (q0 ++ [a, b]).length ≤ 256) (hp : p.length ≤ 256) (hlt : i < p.length) (hw : p[i] = ⟨O, 0⟩) (hO : 3 ≤ O ∧ O ≤ 9) : G18 p ins Q ⟨i, q0 ++ [a, b], lv, H, n⟩ := by
  have c3 := h.c3
  have c1 := h.c1
  have hg : p[i]? = some p[i] := List.getElem?_eq_getElem hlt
  have n4 := h.n4
  have hn2 := h.fr (n + 2) (by omega)
  have z3 : (n + 2 = 3) = False := eq_false (by omega)
  have z1 : (n + 2 = 1) = False := eq_false (by omega)
  have zn : (n = 1) = False := eq_false (by omega)
  have e := w64_succ (k := i) (by omega)
  have len3 : (q0 ++ [a, b]).length = q0.length + 2 := by simp
  rw [len3] at hl
  rcases h.lvo with ⟨-, q⟩ | ⟨id, rest, rfl, hid, hob⟩
  · simp at q
  have hidn : id ≠ n + 2 := by have := h.fr.lt hob; omega
  have g0 := gtI q0 [a, b] rest 0 a rfl
  have g1 := gtI q0 [a, b] rest 1 b rfl
  have hcut : ∀ X Y, LvG eI 1 4 (hset (hset H (n + 2) X) 3 Y) (.ref id 1 0 q0.length ((q0 ++ [a, b]).length + rest.length)) q0 := fun X Y => lvG_set3 (lvG_set (LvG.cut (q1 := [a, b]) hid hob) hn2)
  rw [len3] at c3 hcut
  generalize hcap : q0.length + 2 + rest.length = cap at c3 hcut
  generalize hL : (q0 ++ [a, b]).map eI ++ rest = L at hob g0 g1
  simp only [Nat.add_zero] at g0
  rw [hw] at hg
  have ba := h.bd a (by simp)
  have bb := h.bd b (by simp)
  have hs : stepN ins (q0 ++ [a, b]).reverse p[i] = (q0 ++ [opN O a b]).reverse := by
    rw [hw]
    have o1 : ¬ O = 1 := by omega
    have o2 : ¬ O = 2 := by omega
    have o3 : ¬ O = 10 := by omega
    simp [stepN, o1, o2, o3]
  have hbd : ∀ v ∈ q0 ++ [opN O a b], bdd v := bdd_app (fun v hv => h.bd v (by simp [hv])) (op_b ba bb)
  have hob1 : ∀ B, hget (hset H (n + 2) B) id = some (.arr 1 L) := fun B => by rw [hget_hset_ne _ _ _ _ (by omega)]; exact hob
  have c31 : ∀ B, hget (hset H (n + 2) B) 3 = some (.box [.ref id 1 0 (q0.length + 1 + 1) cap]) := fun B => by rw [hget_hset_ne _ _ _ _ (by omega)]; exact c3
  have hob2 : ∀ B C, hget (hset (hset H (n + 2) B) 3 C) id = some (.arr 1 L) := fun B C => by rw [hget_hset_ne _ _ _ _ (by omega)]; exact hob1 B
  have hcase : O = 3 ∨ O = 4 ∨ O = 5 ∨ O = 6 ∨ O = 7 ∨ O = 8 ∨ O = 9 := by omega
  unfold G18
  rcases hcase with q | q | q | q | q | q | q
  all_goals
    subst q
    simp only [eE, eC, eN, Nat.reduceEqDiff, ↓reduceIte, Nat.reduceAdd, Nat.reduceLeDiff, Int.reduceEq, bodyOf18, c18, Int.ofNat_lt, hlt, hg, List.getElem?_map, Option.getD_some, Int.toNat_natCast, Int.natCast_nonneg, List.length_map, hn2, hset_hset, len3]
    refine (p41 (k := q0.length + 1) (c31 _) (hob1 _) g1 (by omega) (by omega)).mono ?_
    rintro _ _ _ ⟨rfl, rfl, rfl⟩
    simp only [eE, Nat.reduceEqDiff, ↓reduceIte, retK]
    refine (p41 (k := q0.length) (hget_hset_eq ..) (hob2 _ _) g0 (by omega) (by omega)).mono ?_
    rintro _ _ _ ⟨rfl, rfl, rfl⟩
    simp only [eE, eN, reduceCtorEq, Nat.reduceEqDiff, ↓reduceIte, Nat.reduceAdd, Nat.reduceLeDiff, Nat.reduceMul, Nat.reduceLT, Int.reduceLE, Int.reduceToNat, retK, hset_hset, z1, zn, c1, T18_33, T18_35, T18_36, T18_37, T18_38, T18_39, T18_40, sO, ba, bb]
    refine ⟨by decide, ?_⟩
    refine app_lvG (enc := eI) (lo := 4) (q := opN _ a b) (hcut _ _) rfl (by decide) rfl (by decide) (frB h.fr n4 (by omega)) (by omega) (by omega) (fun id2 rest2 hid3 hid2 => ?_)
    obtain ⟨i1, i2⟩ := id_okH h.fr hid3 hid2 (by omega)
    have zi : (id2 = 3) = False := eq_false (by omega)
    simp only [eE, eN, Nat.reduceEqDiff, ↓reduceIte, Int.reduceEq, afterR, zi, e]
    exact fin18 h hlt hs hbd hid3 (by omega) i2 (by omega) rfl rfl
end
end Go.AM
end
section
set_option maxRecDepth 20000
set_option linter.all false
set_option maxHeartbeats 1000000
namespace Go.AM
open Go.Proofs Go.Lib
theorem ins_len {ins : List Int} (h : insOK ins = true) : ins.length = 5 := by
  simp only [insOK, Bool.and_eq_true, decide_eq_true_eq] at h; exact h.1
theorem ins_at {ins : List Int} (h : insOK ins = true) {k : Nat} (hk : k < 5) : ∃ x, ins[k]? = some x ∧ bdd x := by
  have hl := ins_len h
  simp only [insOK, Bool.and_eq_true, decide_eq_true_eq, List.all_eq_true] at h
  have hk' : k < ins.length := by omega
  refine ⟨ins[k], List.getElem?_eq_getElem hk', ?_⟩
  have := h.2 ins[k] (List.getElem_mem hk')
  unfold bdd; omega
theorem rev_len {ins : List Int} (hi : insOK ins = true) {q : List Wd} {st : List Prt} {ns : List Int} (hst : runP [] q = some st) (hr : runN ins [] q = ns.reverse) : ns.length = st.length ∧ ns.length ≤ q.length := by
  have h1 := (run_n hi q [] st [] hst rfl (fun v hv => by cases hv)).1
  have h2 := run_len _ _ _ hst
  rw [hr, List.length_reverse] at h1
  simp at h2; omega
theorem word_ways {st st' : List Prt} {w : Wd} (hs : stepP st w = some st') : (∃ N, w = ⟨1, N⟩ ∧ 0 ≤ N ∧ N ≤ 1048576) ∨ (∃ k : Nat, w = ⟨2, k⟩ ∧ k < 5) ∨ (w = ⟨10, 0⟩ ∧ 3 ≤ st.length) ∨ (∃ O, w = ⟨O, 0⟩ ∧ (3 ≤ O ∧ O ≤ 9) ∧ 2 ≤ st.length) := by
  obtain ⟨O, N⟩ := w
  unfold stepP at hs
  simp only at hs
  split at hs
  · rename_i hO
    subst hO
    split at hs
    · rename_i h; exact .inl ⟨N, rfl, h⟩
    · cases hs
  split at hs
  · rename_i hO
    subst hO
    split at hs
    · rename_i h; exact .inr (.inl ⟨N.toNat, by rw [Int.toNat_of_nonneg h.1], by omega⟩)
    · cases hs
  split at hs
  · cases hs
  rename_i hN
  have hN : N = 0 := by simpa using hN
  subst hN
  split at hs
  · rename_i hO
    subst hO
    split at hs
    · exact .inr (.inr (.inl ⟨rfl, by simp⟩))
    · cases hs
  split at hs
  · rename_i hO
    split at hs
    · exact .inr (.inr (.inr ⟨O, rfl, hO, by simp⟩))
    · cases hs
  · cases hs
theorem rnAll {p : List Wd} {ins : List Int} {Q : AExit → AS → Prop} {i : Nat} {ns : List Int} {lv : AVal} {H : AHeap} {n : Nat} (h : St18 p ins i ns lv H n) (hp : p.length ≤ 256) (hi : insOK ins = true) (hlt : i < p.length) {st st' : List Prt} (hst : runP [] (p.take i) = some st) (hs : stepP st p[i] = some st') : G18 p ins Q ⟨i, ns, lv, H, n⟩ := by
  obtain ⟨h1, h2⟩ := rev_len hi hst h.rn
  rw [List.length_take] at h2
  rcases word_ways hs with ⟨N, hw, k1, k2⟩ | ⟨k, hw, hk⟩ | ⟨hw, hk⟩ | ⟨O, hw, hO, hk⟩
  · exact rnA h (by omega) hp hlt hw k1 k2
  · obtain ⟨x, hx, hb⟩ := ins_at hi hk
    exact rnB h (by omega) hp hlt hw hx hb
  · obtain ⟨q0, b, c, d, rfl⟩ := split3 (l := ns) (by omega)
    exact rnC h (by omega) hp hlt hw
  · obtain ⟨q0, a, b, rfl⟩ := split2 (l := ns) (by omega)
    exact rnD h (by omega) hp hlt hw hO
theorem prefix_ok {p : List Wd} {t : List Tkn} (hw : wholeP p = some t) {i : Nat} (hlt : i < p.length) : ∃ st st', runP [] (p.take i) = some st ∧ stepP st p[i] = some st' := by
  have h := (whole_run hw).2
  rw [← List.take_append_drop i p, runP_app] at h
  cases hst : runP [] (p.take i) with
  | none => rw [hst] at h; cases h
  | some st =>
    rw [hst] at h
    simp only at h
    rw [List.drop_eq_getElem_cons hlt, runP] at h
    cases hs : stepP st p[i] with
    | none => rw [hs] at h; cases h
    | some st' => exact ⟨st, st', rfl, hs⟩
def runA (p : List Wd) (ins : List Int) : AVal := .tup [.int .i64 (runV p ins).1, .int .i64 (runV p ins).2]
theorem any_bad {ins : List Int} (h : ins.length = 5) : insOK ins = !ins.any badI := by
  have h5 : decide (ins.length = 5) = true := by simp [h]
  unfold insOK
  rw [h5, Bool.true_and]
  clear h5
  clear h
  induction ins with
  | nil => rfl
  | cons x r ih =>
    rw [List.all_cons, List.any_cons, ih, Bool.not_or]
    congr 1
    unfold badI
    rw [Bool.not_or]
    congr 1
    · by_cases q : 0 ≤ x
      · have : ¬ x < 0 := by omega
        simp [q, this]
      · have : x < 0 := by omega
        simp [q, this]
    · by_cases q : x ≤ 1048576
      · have : ¬ 1048576 < x := by omega
        simp [q, this]
      · have : 1048576 < x := by omega
        simp [q, this]
theorem p18 (p : List Wd) (ins : List Int) : Pur Tryz.prog 18 [.sl (.none 2) (p.map encW), .sl (.none 1) (ins.map eI)] (runA p ins) := by
  refine .mk ⟨⟨trivial, encW_under 0 p⟩, ⟨trivial, eI_under 0 ins⟩, trivial⟩ ⟨trivial, trivial, trivial⟩ (a18 (ev_awp T18_ok (ev_evK ?_)))
  have hlen : ((namesI.map AVal.str).length : Int) = 5 := rfl
  obtain ⟨NM, hNM⟩ : ∃ NM, NM = namesI.map AVal.str := ⟨_, rfl⟩
  have hT : ∀ H', T18 30 [] H' = (True, .sl (.none 1) NM) := fun H' => by rw [hNM]; rfl
  rw [← hNM] at hlen
  have okT' : okA p = True := rfl
  cases hw : wholeP p with
  | none =>
    have e1 : checkV p = .int .i64 520 := by unfold checkV checkN; rw [hw]
    have e2 : runA p ins = .tup [.int .i64 0, .int .i64 520] := by unfold runA runV; rw [hw]
    rw [e2]
    simp only [eE, eC, eN, reduceCtorEq, Nat.reduceEqDiff, ↓reduceIte, Nat.reduceAdd, Int.reduceEq, Bool.not_false, c18, T18_16, sW, encdW_map, decW_map, okT', e1]
    exact Wk.refl _
  | some t =>
    have e1 : checkV p = .int .i64 0 := by unfold checkV checkN; rw [hw]
    by_cases h5 : ins.length = 5
    case neg =>
      have c1 : ((ins.length : Int) = 5) = False := eq_false (by omega)
      have e2 : runA p ins = .tup [.int .i64 0, .int .i64 1] := by
        unfold runA runV; rw [hw]; simp only []
        rw [if_neg (fun h => h5 (ins_len h))]
      rw [e2]
      simp only [eE, eC, eN, reduceCtorEq, Nat.reduceEqDiff, ↓reduceIte, Nat.reduceAdd, Bool.not_true, Bool.not_false, c18, T18_16, sW, encdW_map, decW_map, okT', e1, hT, hlen, c1, List.length_map]
      exact Wk.refl _
    have c1 : ((ins.length : Int) = 5) = True := eq_true (by omega)
    have l1 : (ins.length ≤ 1000000) = True := eq_true (by omega)
    have hab := any_bad h5
    cases hb : ins.any badI with
    | true =>
      have hok : insOK ins = false := by rw [hab, hb]; rfl
      have e2 : runA p ins = .tup [.int .i64 0, .int .i64 1] := by
        unfold runA runV; rw [hw]; simp only []
        rw [if_neg (by rw [hok]; decide)]
      rw [e2]
      simp only [eE, eC, eN, reduceCtorEq, Nat.reduceEqDiff, ↓reduceIte, Nat.reduceAdd, Bool.not_true, c18, T18_16, sW, encdW_map, decW_map, okT', e1, hT, hlen, c1, List.length_map, T18_31, sIf', eI_map, l1, hb]
      exact Wk.refl _
    | false =>
      have hok : insOK ins = true := by rw [hab, hb]; rfl
      have hp := (whole_run hw).1
      obtain ⟨v, hv, hbv⟩ := whole_num hw hok
      have e2 : runA p ins = .tup [.int .i64 (clampN v), .int .i64 0] := by
        unfold runA runV; rw [hw]; simp only []
        rw [if_pos hok, hv]; rfl
      rw [e2]
      simp only [eE, eC, eN, reduceCtorEq, Nat.reduceEqDiff, ↓reduceIte, Nat.reduceAdd, Nat.reduceLeDiff, Bool.not_true, c18, T18_16, sW, encdW_map, decW_map, okT', e1, hT, hlen, c1, List.length_map, T18_31, sIf', eI_map, l1, hb, hset_hset]
      refine k_loop (st18 p ins) (inv18 p ins) (m18 p) ⟨0, [], .sl .nil [], hset (hset hnil 1 (.box fns18)) 3 (.box [.sl .nil []]), 4⟩ rfl
        ⟨Nat.zero_le _, ?_, Nat.le_refl _, .inl ⟨rfl, rfl⟩, rfl, rfl, rfl, fun v hv => by cases hv⟩ ?_
      · intro j hj
        rw [hget_hset_ne _ _ _ _ (by simp only [] at hj; omega), hget_hset_ne _ _ _ _ (by simp only [] at hj; omega)]; rfl
      rintro ⟨i, ns, lv, H, n⟩ h
      simp only [inv18] at h
      by_cases hlt : i < p.length
      · obtain ⟨st, st', h1, h2⟩ := prefix_ok hw hlt
        exact rnAll h hp hok hlt h1 h2
      · have hi' : i = p.length := by have := h.hi; omega
        have hn := h.rn
        rw [hi', List.take_length, hv] at hn
        have hns : ns = [v] := by
          have := congrArg List.reverse hn
          simpa using this.symm
        subst hns
        have c3 := h.c3
        have lt' : ((i : Int) < p.length) = False := eq_false (by omega)
        rcases h.lvo with ⟨-, q⟩ | ⟨id, rest, rfl, hid, hob⟩
        · cases q
        have z : ((0 : Int) < ((1 : Nat) : Int)) = True := eq_true (by decide)
        simp only [eE, eC, eN, Nat.reduceEqDiff, ↓reduceIte, Int.reduceLE, Int.reduceToNat, lt', c3, hob, z, List.getElem?_cons_zero, Option.getD_some]
        exact ⟨by omega, Wk.refl _⟩
end Go.AM
end
section
set_option maxRecDepth 20000
set_option linter.all false
set_option maxHeartbeats 1000000
namespace Go.AM
open Go.Proofs Go.Lib
def s42 : List AVal → AHeap → Prop × AVal := fun a H => match a with
  | [.int .i64 o, .int .i64 a, .int .i64 b] => (bdd a ∧ bdd b, .int .i64 (opN o a b))
  | _ => (False, .tup [])
theorem q42 : ∀ args H n, (s42 args H).1 → Quiet Tryz.prog 42 args H n (s42 args H).2 := by
  intro args H n hh
  unfold s42 at hh ⊢
  split at hh
  · exact (p42 _ _ _ hh.1 hh.2).quiet H n
  · exact hh.elim
def T19 : Tab := tadd 17 (sW okN checkV) (tadd 42 s42 tnil)
theorem T19_ok : TabOK Tryz.prog T19 := (TabOK.tnil.add q42).add (qW fun p hp => p17 p hp.1 hp.2)
theorem T19_17 (a : List AVal) (H : AHeap) : T19 17 a H = sW okN checkV a H := rfl
theorem T19_42 (a : List AVal) (H : AHeap) : T19 42 a H = s42 a H := rfl
structure St19 (p : List Wd) (ins : List Int) (i : Nat) (ns : List Int) (lv : AVal) (H : AHeap) (n : Nat) : Prop where
  hi : i ≤ p.length
  fr : Fresh H n
  lvo : LvG eI 1 0 H lv ns
  rn : runN ins [] (p.take i) = ns.reverse
  bd : ∀ v ∈ ns, bdd v
theorem St19.next {p : List Wd} {ins : List Int} {i : Nat} {ns n0 : List Int} {x : Int} {lv : AVal} {H H' : AHeap} {n n' id : Nat} {rest : List AVal} (h : St19 p ins i ns lv H n) (hi : i < p.length) (hs : stepN ins ns.reverse p[i] = (n0 ++ [x]).reverse) (hb : ∀ v ∈ n0 ++ [x], bdd v)
    (hid : id < n') (hn : n ≤ n') (he : H' = hset H id (.arr 1 ((n0 ++ [x]).map eI ++ rest))) :
    St19 p ins (i + 1) (n0 ++ [x]) (.ref id 1 0 (n0 ++ [x]).length ((n0 ++ [x]).length + rest.length)) H' n' := by
  refine ⟨hi, fun j hj => ?_, .inr ⟨id, rest, rfl, Nat.zero_le _, ?_⟩, ?_, hb⟩
  · rw [he, hget_hset_ne _ _ _ _ (by omega)]; exact h.fr j (by omega)
  · rw [he, hget_hset_eq]
  · rw [List.take_add_one, List.getElem?_eq_getElem hi, runN_app, h.rn]
    exact hs
def bodyOf19 : ACode := match c19 with
  | .seq _ (.seq _ (.seq _ (.seq _ (.seq _ (.seq (.seq _ (.block _ (.loop x))) _))))) => x
  | _ => .skip
abbrev st19 (p : List Wd) (ins : List Int) (v : V18) : AS := ⟨[(0, true, .sl (.none 2) (p.map encW)), (1, true, .sl (.none 1) (ins.map eI)), (7, true, v.lv), (8, true, .int .i64 v.i)], v.H, v.n⟩
abbrev inv19 (p : List Wd) (ins : List Int) (v : V18) : Prop := St19 p ins v.i v.ns v.lv v.H v.n
def G19 (p : List Wd) (ins : List Int) (Q : AExit → AS → Prop) (v : V18) : Prop := evK Tryz.prog T19 bodyOf19 [] (lpQ (st19 p ins) (inv19 p ins) (m18 p) v Q) (st19 p ins v)
theorem len_lv {H : AHeap} {lv : AVal} {ns : List Int} (h : LvG eI 1 0 H lv ns) : (lv = .sl .nil [] ∧ ns = []) ∨ ∃ id cap, lv = .ref id 1 0 ns.length cap := by
  rcases h with h | ⟨id, rest, h, -⟩
  · exact .inl h
  · exact .inr ⟨id, _, h⟩
theorem id_ok9 {H : AHeap} {n m id e : Nat} (hfr : Fresh H n) (h : id = m ∨ ∃ L, hget H id = some (.arr e L)) (hm : n ≤ m) : id ≤ m := by
  rcases h with rfl | ⟨L, h⟩
  · exact Nat.le_refl _
  · have := hfr.lt h; omega
section
variable {p : List Wd} {ins : List Int} {Q : AExit → AS → Prop} {i : Nat} {ns : List Int} {lv : AVal} {H : AHeap} {n : Nat}
theorem fin19 {n0 : List Int} {x : Int} {n' id : Nat} {rest : List AVal} {v : V18} {s : AS} (h : St19 p ins i ns lv H n) (hi : i < p.length) (hs : stepN ins ns.reverse p[i] = (n0 ++ [x]).reverse) (hb : ∀ v ∈ n0 ++ [x], bdd v)
    (hid' : id < n') (hn : n ≤ n') (hv : v.i = i)
    (he : s = st19 p ins ⟨i + 1, n0 ++ [x], .ref id 1 0 (n0 ++ [x]).length ((n0 ++ [x]).length + rest.length), hset H id (.arr 1 ((n0 ++ [x]).map eI ++ rest)), n'⟩) :
    lpN (st19 p ins) (inv19 p ins) (m18 p) v s := .mk _ he (h.next hi hs hb hid' hn rfl) (by simp only [m18, hv]; omega)
theorem rmA (h : St19 p ins i ns lv H n) (hl : ns.length ≤ 256) (hp : p.length ≤ 256) (hlt : i < p.length) {N : Int} (hw : p[i] = ⟨1, N⟩) (h1 : 0 ≤ N) (h2 : N ≤ 1048576) : G19 p ins Q ⟨i, ns, lv, H, n⟩ := by
  have hg : p[i]? = some p[i] := List.getElem?_eq_getElem hlt
  have e := w64_succ (k := i) (by omega)
  rw [hw] at hg
  have hs : stepN ins ns.reverse p[i] = (ns ++ [N]).reverse := by rw [hw]; simp [stepN]
  have hb : ∀ v ∈ ns ++ [N], bdd v := bdd_app h.bd (by unfold bdd; omega)
  have hlv := h.lvo
  unfold G19
  rcases len_lv h.lvo with ⟨rfl, rfl⟩ | ⟨id, cap, rfl⟩
  all_goals
    simp only [eE, eC, eN, reduceCtorEq, Nat.reduceEqDiff, ↓reduceIte, Nat.reduceAdd, Nat.reduceLeDiff, Nat.reduceMul, Nat.reduceLT, bodyOf19, c19, Int.ofNat_lt, hlt, hg, List.getElem?_map, Option.getD_some, Int.toNat_natCast, Int.natCast_nonneg, List.length_map]
    refine app_lvG (enc := eI) (lo := 0) (q := N) hlv rfl (by decide) rfl (by decide) (h.fr _ (by omega)) (by omega) (by omega) (fun id rest hid hid2 => ?_)
    have i1 := id_ok9 h.fr hid2 (by omega)
    simp only [eE, eN, reduceCtorEq, Nat.reduceEqDiff, ↓reduceIte, Int.reduceEq, afterR, e]
    exact fin19 h hlt hs hb (by omega) (by omega) rfl rfl
theorem rmB (h : St19 p ins i ns lv H n) (hl : ns.length ≤ 256) (hp : p.length ≤ 256) (hlt : i < p.length) {k : Nat} {x : Int} (hw : p[i] = ⟨2, k⟩) (hx : ins[k]? = some x) (hb : bdd x) : G19 p ins Q ⟨i, ns, lv, H, n⟩ := by
  have hg : p[i]? = some p[i] := List.getElem?_eq_getElem hlt
  have e := w64_succ (k := i) (by omega)
  have hk := (List.getElem?_eq_some_iff.1 hx).1
  rw [hw] at hg
  have hs : stepN ins ns.reverse p[i] = (ns ++ [x]).reverse := by rw [hw]; simp [stepN, hx]
  have hb : ∀ v ∈ ns ++ [x], bdd v := bdd_app h.bd hb
  have hlv := h.lvo
  unfold G19
  rcases len_lv h.lvo with ⟨rfl, rfl⟩ | ⟨id, cap, rfl⟩
  all_goals
    simp only [eE, eC, eN, reduceCtorEq, Nat.reduceEqDiff, ↓reduceIte, Nat.reduceAdd, Nat.reduceLeDiff, Nat.reduceMul, Nat.reduceLT, Int.reduceEq, bodyOf19, c19, Int.ofNat_lt, hlt, hg, List.getElem?_map, Option.getD_some, Int.toNat_natCast, Int.natCast_nonneg, List.length_map, hx, hk]
    refine app_lvG (enc := eI) (lo := 0) (q := x) hlv rfl (by decide) rfl (by decide) (h.fr _ (by omega)) (by omega) (by omega) (fun id rest hid hid2 => ?_)
    have i1 := id_ok9 h.fr hid2 (by omega)
    simp only [eE, eN, reduceCtorEq, Nat.reduceEqDiff, ↓reduceIte, Int.reduceEq, afterR, e]
    exact fin19 h hlt hs hb (by omega) (by omega) rfl rfl
theorem rmC {q0 : List Int} {b c d : Int} (h : St19 p ins i (q0 ++ [b, c, d]) lv H n) (hl : (q0 ++ [b, c, d]).length ≤ 256) (hp : p.length ≤ 256) (hlt : i < p.length) (hw : p[i] = ⟨10, 0⟩) : G19 p ins Q ⟨i, q0 ++ [b, c, d], lv, H, n⟩ := by
  have hg : p[i]? = some p[i] := List.getElem?_eq_getElem hlt
  have e := w64_succ (k := i) (by omega)
  have len3 : (q0 ++ [b, c, d]).length = q0.length + 3 := by simp
  rw [len3] at hl
  rcases h.lvo with ⟨-, q⟩ | ⟨id, rest, rfl, hid, hob⟩
  · simp at q
  have g0 := gtI q0 [b, c, d] rest 0 b rfl
  have g1 := gtI q0 [b, c, d] rest 1 c rfl
  have g2 := gtI q0 [b, c, d] rest 2 d rfl
  have hcut : LvG eI 1 0 H (.ref id 1 0 q0.length ((q0 ++ [b, c, d]).length + rest.length)) q0 := LvG.cut (q1 := [b, c, d]) hid hob
  have lL : ((q0 ++ [b, c, d]).map eI ++ rest).length = q0.length + 3 + rest.length := by simp; omega
  rw [len3] at hcut
  generalize hcap : q0.length + 3 + rest.length = cap at hcut lL
  generalize hL : (q0 ++ [b, c, d]).map eI ++ rest = L at hob g0 g1 g2 lL
  simp only [Nat.add_zero] at g0
  rw [hw] at hg
  have hs : ∀ x, x = (if b ≠ 0 then c else d) → stepN ins (q0 ++ [b, c, d]).reverse p[i] = (q0 ++ [x]).reverse := fun x hx => by
    rw [hw, hx]; simp [stepN]
  have hbd : ∀ x, x = (if b ≠ 0 then c else d) → ∀ v ∈ q0 ++ [x], bdd v := fun x hx => bdd_app (fun v hv => h.bd v (by simp [hv])) (by rw [hx]; split <;> exact h.bd _ (by simp))
  have w1 : IntKind.wrap .i64 (((q0.length + 3 : Nat) : Int) - 1) = ((q0.length + 2 : Nat) : Int) := by rw [w64_in (by omega) (by omega)]; omega
  have w2 : IntKind.wrap .i64 (((q0.length + 3 : Nat) : Int) - 2) = ((q0.length + 1 : Nat) : Int) := by rw [w64_in (by omega) (by omega)]; omega
  have w3 : IntKind.wrap .i64 (((q0.length + 3 : Nat) : Int) - 3) = (q0.length : Int) := by rw [w64_in (by omega) (by omega)]; omega
  have k1 : (((q0.length + 2 : Nat) : Int) < ((q0.length + 3 : Nat) : Int)) = True := eq_true (by omega)
  have k2 : (((q0.length + 1 : Nat) : Int) < ((q0.length + 3 : Nat) : Int)) = True := eq_true (by omega)
  have k3 : ((q0.length : Int) < ((q0.length + 3 : Nat) : Int)) = True := eq_true (by omega)
  have k4 : ((q0.length : Int) ≤ ((q0.length + 3 : Nat) : Int)) = True := eq_true (by omega)
  have k5 : ((0 : Int) < (cap : Int)) = True := eq_true (by omega)
  have k6 : (q0.length + 3 ≤ cap) = True := eq_true (by omega)
  have m0 : (q0.length < cap) = True := eq_true (by omega)
  have m1 : (q0.length + 1 < cap) = True := eq_true (by omega)
  have m2 : (q0.length + 2 < cap) = True := eq_true (by omega)
  unfold G19
  by_cases hb : b = 0
  · have hbT : (b = 0) = True := eq_true hb
    simp only [eE, eC, eN, reduceCtorEq, Nat.reduceEqDiff, ↓reduceIte, Nat.reduceAdd, Nat.reduceLeDiff, Nat.reduceMul, Nat.reduceLT, Int.reduceEq, Int.reduceLE, Int.reduceToNat, Bool.not_true, bodyOf19, c19, Int.ofNat_lt, hlt, hg, List.getElem?_map, Option.getD_some, Int.toNat_natCast, Int.natCast_nonneg, List.length_map, len3, hcap, hob, g0, g2, lL, w1, w3, k1, k3, k4, k5, k6, m0, m2, hbT, Nat.sub_zero]
    refine app_lvG (enc := eI) (lo := 0) (q := d) hcut rfl (by decide) rfl (by decide) (h.fr _ (by omega)) (by omega) (by omega) (fun id2 rest2 hid3 hid2 => ?_)
    have i1 := id_ok9 h.fr hid2 (by omega)
    simp only [eE, eN, reduceCtorEq, Nat.reduceEqDiff, ↓reduceIte, Int.reduceEq, afterR, e]
    exact fin19 h hlt (hs d (by simp [hb])) (hbd d (by simp [hb])) (by omega) (by omega) rfl rfl
  · simp only [eE, eC, eN, reduceCtorEq, Nat.reduceEqDiff, ↓reduceIte, Nat.reduceAdd, Nat.reduceLeDiff, Nat.reduceMul, Nat.reduceLT, Int.reduceEq, Int.reduceLE, Int.reduceToNat, Bool.not_false, bodyOf19, c19, Int.ofNat_lt, hlt, hg, List.getElem?_map, Option.getD_some, Int.toNat_natCast, Int.natCast_nonneg, List.length_map, len3, hcap, hob, g0, g1, g2, lL, w1, w2, w3, k1, k2, k3, k4, k5, k6, m0, m1, m2, hb, Nat.sub_zero]
    refine app_lvG (enc := eI) (lo := 0) (q := c) hcut rfl (by decide) rfl (by decide) (h.fr _ (by omega)) (by omega) (by omega) (fun id2 rest2 hid3 hid2 => ?_)
    have i1 := id_ok9 h.fr hid2 (by omega)
    simp only [eE, eN, reduceCtorEq, Nat.reduceEqDiff, ↓reduceIte, Int.reduceEq, afterR, e]
    exact fin19 h hlt (hs c (by simp [hb])) (hbd c (by simp [hb])) (by omega) (by omega) rfl rfl
theorem rmD {q0 : List Int} {a b O : Int} (h : St19 p ins i (q0 ++ [a, b]) lv H n) (hl : (q0 ++ [a, b]).length ≤ 256) (hp : p.length ≤ 256) (hlt : i < p.length) (hw : p[i] = ⟨O, 0⟩) (hO : 3 ≤ O ∧ O ≤ 9) : G19 p ins Q ⟨i, q0 ++ [a, b], lv, H, n⟩ := by
  have hg : p[i]? = some p[i] := List.getElem?_eq_getElem hlt
  have e := w64_succ (k := i) (by omega)
  have len3 : (q0 ++ [a, b]).length = q0.length + 2 := by simp
  rw [len3] at hl
  rcases h.lvo with ⟨-, q⟩ | ⟨id, rest, rfl, hid, hob⟩
  · simp at q
  have g0 := gtI q0 [a, b] rest 0 a rfl
  have g1 := gtI q0 [a, b] rest 1 b rfl
  have hcut : LvG eI 1 0 H (.ref id 1 0 q0.length ((q0 ++ [a, b]).length + rest.length)) q0 := LvG.cut (q1 := [a, b]) hid hob
  have lL : ((q0 ++ [a, b]).map eI ++ rest).length = q0.length + 2 + rest.length := by simp; omega
  rw [len3] at hcut
  generalize hcap : q0.length + 2 + rest.length = cap at hcut lL
  generalize hL : (q0 ++ [a, b]).map eI ++ rest = L at hob g0 g1 lL
  simp only [Nat.add_zero] at g0
  rw [hw] at hg
  have ba := h.bd a (by simp)
  have bb := h.bd b (by simp)
  have o1 : ¬ O = 1 := by omega
  have o2 : ¬ O = 2 := by omega
  have o3 : ¬ O = 10 := by omega
  have hs : stepN ins (q0 ++ [a, b]).reverse p[i] = (q0 ++ [opN O a b]).reverse := by
    rw [hw]; simp [stepN, o1, o2, o3]
  have hbd : ∀ v ∈ q0 ++ [opN O a b], bdd v := bdd_app (fun v hv => h.bd v (by simp [hv])) (op_b ba bb)
  have w1 : IntKind.wrap .i64 (((q0.length + 2 : Nat) : Int) - 1) = ((q0.length + 1 : Nat) : Int) := by rw [w64_in (by omega) (by omega)]; omega
  have w2 : IntKind.wrap .i64 (((q0.length + 2 : Nat) : Int) - 2) = (q0.length : Int) := by rw [w64_in (by omega) (by omega)]; omega
  have k2 : (((q0.length + 1 : Nat) : Int) < ((q0.length + 2 : Nat) : Int)) = True := eq_true (by omega)
  have k3 : ((q0.length : Int) < ((q0.length + 2 : Nat) : Int)) = True := eq_true (by omega)
  have k4 : ((q0.length : Int) ≤ ((q0.length + 2 : Nat) : Int)) = True := eq_true (by omega)
  have k5 : ((0 : Int) < (cap : Int)) = True := eq_true (by omega)
  have k6 : (q0.length + 2 ≤ cap) = True := eq_true (by omega)
  have m0 : (q0.length < cap) = True := eq_true (by omega)
  have m1 : (q0.length + 1 < cap) = True := eq_true (by omega)
  unfold G19
  simp only [eE, eC, eN, reduceCtorEq, Nat.reduceEqDiff, ↓reduceIte, Nat.reduceAdd, Nat.reduceLeDiff, Nat.reduceMul, Nat.reduceLT, Int.reduceEq, Int.reduceLE, Int.reduceToNat, bodyOf19, c19, Int.ofNat_lt, hlt, hg, List.getElem?_map, Option.getD_some, Int.toNat_natCast, Int.natCast_nonneg, List.length_map, len3, hcap, hob, g0, g1, lL, w1, w2, k2, k3, k4, k5, k6, m0, m1, o1, o2, o3, T19_42, s42, ba, bb, Nat.sub_zero]
  refine app_lvG (enc := eI) (lo := 0) (q := opN O a b) hcut rfl (by decide) rfl (by decide) (h.fr _ (by omega)) (by omega) (by omega) (fun id2 rest2 hid3 hid2 => ?_)
  have i1 := id_ok9 h.fr hid2 (by omega)
  simp only [eE, eN, reduceCtorEq, Nat.reduceEqDiff, ↓reduceIte, Int.reduceEq, afterR, e]
  exact fin19 h hlt hs hbd (by omega) (by omega) rfl rfl
end
theorem rmAll {p : List Wd} {ins : List Int} {Q : AExit → AS → Prop} {i : Nat} {ns : List Int} {lv : AVal} {H : AHeap} {n : Nat} (h : St19 p ins i ns lv H n) (hp : p.length ≤ 256) (hi : insOK ins = true) (hlt : i < p.length) {st st' : List Prt} (hst : runP [] (p.take i) = some st) (hs : stepP st p[i] = some st') : G19 p ins Q ⟨i, ns, lv, H, n⟩ := by
  obtain ⟨h1, h2⟩ := rev_len hi hst h.rn
  rw [List.length_take] at h2
  rcases word_ways hs with ⟨N, hw, k1, k2⟩ | ⟨k, hw, hk⟩ | ⟨hw, hk⟩ | ⟨O, hw, hO, hk⟩
  · exact rmA h (by omega) hp hlt hw k1 k2
  · obtain ⟨x, hx, hb⟩ := ins_at hi hk
    exact rmB h (by omega) hp hlt hw hx hb
  · obtain ⟨q0, b, c, d, rfl⟩ := split3 (l := ns) (by omega)
    exact rmC h (by omega) hp hlt hw
  · obtain ⟨q0, a, b, rfl⟩ := split2 (l := ns) (by omega)
    exact rmD h (by omega) hp hlt hw hO
theorem p19 (p : List Wd) (ins : List Int) (hN : okN p) : Pur Tryz.prog 19 [.sl (.none 2) (p.map encW), .sl (.none 1) (ins.map eI)] (runA p ins) := by
  refine .mk ⟨⟨trivial, encW_under 0 p⟩, ⟨trivial, eI_under 0 ins⟩, trivial⟩ ⟨trivial, trivial, trivial⟩ (a19 (ev_awp T19_ok (ev_evK ?_)))
  have okT' : okN p = True := eq_true hN
  cases hw : wholeP p with
  | none =>
    have e1 : checkV p = .int .i64 520 := by unfold checkV checkN; rw [hw]
    have e2 : runA p ins = .tup [.int .i64 0, .int .i64 520] := by unfold runA runV; rw [hw]
    rw [e2]
    simp only [eE, eC, eN, reduceCtorEq, Nat.reduceEqDiff, ↓reduceIte, Nat.reduceAdd, Int.reduceEq, Bool.not_false, c19, T19_17, sW, encdW_map, decW_map, okT', e1]
    exact Wk.refl _
  | some t =>
    have e1 : checkV p = .int .i64 0 := by unfold checkV checkN; rw [hw]
    by_cases h5 : ins.length = 5
    case neg =>
      have c1 : ((ins.length : Int) = 5) = False := eq_false (by omega)
      have e2 : runA p ins = .tup [.int .i64 0, .int .i64 1] := by
        unfold runA runV; rw [hw]; simp only []
        rw [if_neg (fun h => h5 (ins_len h))]
      rw [e2]
      simp only [eE, eC, eN, reduceCtorEq, Nat.reduceEqDiff, ↓reduceIte, Nat.reduceAdd, Bool.not_true, Bool.not_false, c19, T19_17, sW, encdW_map, decW_map, okT', e1, c1, List.length_map]
      exact Wk.refl _
    have c1 : ((ins.length : Int) = 5) = True := eq_true (by omega)
    have hab := any_bad h5
    simp only [eE, eC, eN, reduceCtorEq, Nat.reduceEqDiff, ↓reduceIte, Nat.reduceAdd, Bool.not_true, c19, T19_17, sW, encdW_map, decW_map, okT', e1, c1, List.length_map]
    refine k_loop (fun i : Nat => ⟨[(0, true, .sl (.none 2) (p.map encW)), (1, true, .sl (.none 1) (ins.map eI)), (6, true, .int .i64 i)], hnil, 0⟩) (fun i => i ≤ ins.length ∧ ∀ j (hj : j < ins.length), j < i → badI ins[j] = false) (fun i => ins.length - i) 0 rfl ⟨Nat.zero_le _, fun j hj h => by omega⟩ ?_
    rintro i ⟨hi, hall⟩
    by_cases hlt : i < ins.length
    · have hg := List.getElem?_eq_getElem hlt
      have e := w64_succ (k := i) (by omega)
      cases hb : badI ins[i] with
      | true =>
        have hok : insOK ins = false := by
          rw [hab, List.any_eq_true.2 ⟨ins[i], List.getElem_mem hlt, hb⟩]; rfl
        have e2 : runA p ins = .tup [.int .i64 0, .int .i64 1] := by
          unfold runA runV; rw [hw]; simp only []
          rw [if_neg (by rw [hok]; decide)]
        have hb' : (decide (ins[i] < 0) || decide (1048576 < ins[i])) = true := hb
        rw [e2]
        simp only [eE, eC, eN, reduceCtorEq, Nat.reduceEqDiff, ↓reduceIte, List.length_map, Int.ofNat_lt, hlt, List.getElem?_map, hg, Int.toNat_natCast, Option.getD_some, Int.natCast_nonneg, hb']
        exact Wk.refl _
      | false =>
        have hb' : (decide (ins[i] < 0) || decide (1048576 < ins[i])) = false := hb
        simp only [eE, eC, eN, reduceCtorEq, Nat.reduceEqDiff, ↓reduceIte, Int.reduceEq, List.length_map, Int.ofNat_lt, hlt, List.getElem?_map, hg, Int.toNat_natCast, Option.getD_some, Int.natCast_nonneg, e, hb']
        refine .mk (i + 1) rfl ⟨hlt, fun j hj h => ?_⟩ (by omega)
        by_cases q : j = i
        · subst q; exact hb
        · exact hall j hj (by omega)
    have hb : ins.any badI = false := by
      rw [Bool.eq_false_iff]
      intro hh
      obtain ⟨x, hx, hb⟩ := List.any_eq_true.1 hh
      obtain ⟨j, hj, rfl⟩ := List.mem_iff_getElem.1 hx
      rw [hall j hj (by omega)] at hb; cases hb
    have hok : insOK ins = true := by rw [hab, hb]; rfl
    have hp := (whole_run hw).1
    obtain ⟨v, hv, hbv⟩ := whole_num hw hok
    have e2 : runA p ins = .tup [.int .i64 (clampN v), .int .i64 0] := by
      unfold runA runV; rw [hw]; simp only []
      rw [if_pos hok, hv]; rfl
    rw [e2]
    have lt0 : ((i : Int) < ins.length) = False := eq_false (by omega)
    simp only [eE, eC, eN, reduceCtorEq, Nat.reduceEqDiff, ↓reduceIte, List.length_map, lt0]
    refine k_loop (st19 p ins) (inv19 p ins) (m18 p) ⟨0, [], .sl .nil [], hnil, 0⟩ rfl ⟨Nat.zero_le _, fun _ _ => rfl, .inl ⟨rfl, rfl⟩, rfl, fun v hv => by cases hv⟩ ?_
    rintro ⟨i, ns, lv, H, n⟩ h
    simp only [inv19] at h
    by_cases hlt : i < p.length
    · obtain ⟨st, st', h1, h2⟩ := prefix_ok hw hlt
      exact rmAll h hp hok hlt h1 h2
    · have hi' : i = p.length := by have := h.hi; omega
      have hn := h.rn
      rw [hi', List.take_length, hv] at hn
      have hns : ns = [v] := by
        have := congrArg List.reverse hn
        simpa using this.symm
      subst hns
      have lt' : ((i : Int) < p.length) = False := eq_false (by omega)
      rcases h.lvo with ⟨-, q⟩ | ⟨id, rest, rfl, hid, hob⟩
      · cases q
      have z : ((0 : Int) < ((1 : Nat) : Int)) = True := eq_true (by decide)
      simp only [eE, eC, eN, reduceCtorEq, Nat.reduceEqDiff, ↓reduceIte, Int.reduceLE, Int.reduceToNat, lt', hob, z, List.getElem?_cons_zero, Option.getD_some, List.length_map]
      exact ⟨by omega, Wk.refl _⟩
end Go.AM
end
section
set_option maxRecDepth 20000
set_option linter.all false
set_option maxHeartbeats 1000000
namespace Go.AM
open Go.Proofs Go.Lib
def lxN : Nat → List UInt8 → Nat → ScR
  | 0, _, a => .err a
  | f + 1, [], a => .ok a []
  | f + 1, b :: r, a => match st1 (b :: r) with
    | none => .err a
    | some (k, o) => consR o a (lxN f ((b :: r).drop k) (a + k))
theorem lx_N : ∀ (f : Nat) (l : List UInt8) (a : Nat), l.length < f → lx l a = lxN f l a
  | 0, l, a, h => by omega
  | f + 1, [], a, h => by rw [lx_nil]; rfl
  | f + 1, b :: r, a, h => by
    rw [lxN]
    cases hs : st1 (b :: r) with
    | none => rw [lx_none (by simp) hs]
    | some x =>
      obtain ⟨k, o⟩ := x
      have := st1_pos hs
      rw [lx_some hs, lx_N f _ _ (by simp only [List.length_drop]; omega)]
def pN (src : List UInt8) : PT := match lxN (src.length + 1) src 0 with
  | .ok _ ts => parseL src ts
  | .err a => ⟨[], a, 100⟩
theorem parse_N {src : List UInt8} (h : src.length ≤ 65536) : parseV src = (pN src).v := by
  rw [parse_v, parseT, if_neg (by omega), lx_N (src.length + 1) src 0 (by omega)]; rfl
theorem v1 : parseV [49, 48, 48, 32, 47, 32, 112, 108, 97, 99, 101] = .tup [.sl (.none 2) [.agg [.int .i64 1, .int .i64 100], .agg [.int .i64 2, .int .i64 0], .agg [.int .i64 6, .int .i64 0]], .int .i64 0, .int .i64 0] := by
  rw [parse_N (by decide), show pN [49, 48, 48, 32, 47, 32, 112, 108, 97, 99, 101] = ⟨[⟨1, 100⟩, ⟨2, 0⟩, ⟨6, 0⟩], 0, 0⟩ by kernel_rfl]; rfl
theorem v2 : parseV [] = .tup [.sl (.none 2) [], .int .i64 0, .int .i64 150] := by
  rw [parse_N (by decide), show pN [] = ⟨[], 0, 150⟩ by kernel_rfl]; rfl
theorem v3 : parseV [49, 32, 43] = .tup [.sl (.none 2) [], .int .i64 3, .int .i64 150] := by
  rw [parse_N (by decide), show pN [49, 32, 43] = ⟨[], 3, 150⟩ by kernel_rfl]; rfl
theorem v4 : parseV [114, 97, 110, 107] = .tup [.sl (.none 2) [], .int .i64 0, .int .i64 150] := by
  rw [parse_N (by decide), show pN [114, 97, 110, 107] = ⟨[], 0, 150⟩ by kernel_rfl]; rfl
theorem v5 : parseV [105, 102, 32, 112, 108, 97, 99, 101, 32, 60, 32, 52, 32, 116, 104, 101, 110, 32, 49, 48, 32, 101, 108, 115, 101, 32, 48] = .tup [.sl (.none 2) [.agg [.int .i64 2, .int .i64 0], .agg [.int .i64 1, .int .i64 4], .agg [.int .i64 9, .int .i64 0], .agg [.int .i64 1, .int .i64 10], .agg [.int .i64 1, .int .i64 0], .agg [.int .i64 10, .int .i64 0]], .int .i64 0, .int .i64 0] := by
  rw [parse_N (by decide), show pN [105, 102, 32, 112, 108, 97, 99, 101, 32, 60, 32, 52, 32, 116, 104, 101, 110, 32, 49, 48, 32, 101, 108, 115, 101, 32, 48] = ⟨[⟨2, 0⟩, ⟨1, 4⟩, ⟨9, 0⟩, ⟨1, 10⟩, ⟨1, 0⟩, ⟨10, 0⟩], 0, 0⟩ by kernel_rfl]; rfl
theorem v6 : parseV [49, 32, 43, 32, 50, 32, 42, 32, 112, 108, 97, 99, 101] = .tup [.sl (.none 2) [.agg [.int .i64 1, .int .i64 1], .agg [.int .i64 1, .int .i64 2], .agg [.int .i64 2, .int .i64 0], .agg [.int .i64 5, .int .i64 0], .agg [.int .i64 3, .int .i64 0]], .int .i64 0, .int .i64 0] := by
  rw [parse_N (by decide), show pN [49, 32, 43, 32, 50, 32, 42, 32, 112, 108, 97, 99, 101] = ⟨[⟨1, 1⟩, ⟨1, 2⟩, ⟨2, 0⟩, ⟨5, 0⟩, ⟨3, 0⟩], 0, 0⟩ by kernel_rfl]; rfl
theorem v7 : parseV [40, 32, 55, 32, 45, 32, 57, 32, 41, 32, 47, 32, 50, 32, 43, 32, 51] = .tup [.sl (.none 2) [.agg [.int .i64 1, .int .i64 7], .agg [.int .i64 1, .int .i64 9], .agg [.int .i64 4, .int .i64 0], .agg [.int .i64 1, .int .i64 2], .agg [.int .i64 6, .int .i64 0], .agg [.int .i64 1, .int .i64 3], .agg [.int .i64 3, .int .i64 0]], .int .i64 0, .int .i64 0] := by
  rw [parse_N (by decide), show pN [40, 32, 55, 32, 45, 32, 57, 32, 41, 32, 47, 32, 50, 32, 43, 32, 51] = ⟨[⟨1, 7⟩, ⟨1, 9⟩, ⟨4, 0⟩, ⟨1, 2⟩, ⟨6, 0⟩, ⟨1, 3⟩, ⟨3, 0⟩], 0, 0⟩ by kernel_rfl]; rfl
theorem v8 : parseV [55, 32, 45, 32, 57] = .tup [.sl (.none 2) [.agg [.int .i64 1, .int .i64 7], .agg [.int .i64 1, .int .i64 9], .agg [.int .i64 4, .int .i64 0]], .int .i64 0, .int .i64 0] := by
  rw [parse_N (by decide), show pN [55, 32, 45, 32, 57] = ⟨[⟨1, 7⟩, ⟨1, 9⟩, ⟨4, 0⟩], 0, 0⟩ by kernel_rfl]; rfl
theorem v9 : parseV [49, 32, 47, 32, 48] = .tup [.sl (.none 2) [.agg [.int .i64 1, .int .i64 1], .agg [.int .i64 1, .int .i64 0], .agg [.int .i64 6, .int .i64 0]], .int .i64 0, .int .i64 0] := by
  rw [parse_N (by decide), show pN [49, 32, 47, 32, 48] = ⟨[⟨1, 1⟩, ⟨1, 0⟩, ⟨6, 0⟩], 0, 0⟩ by kernel_rfl]; rfl
theorem i_1 : itoa 1 = [49] := by
  rw [itoa, if_neg (by decide), decDigits, dif_pos (by decide)]; rfl
theorem i_2 : itoa 2 = [50] := by
  rw [itoa, if_neg (by decide), decDigits, dif_pos (by decide)]; rfl
theorem w6 : wholeP [⟨1, 1⟩, ⟨1, 2⟩, ⟨2, 0⟩, ⟨5, 0⟩, ⟨3, 0⟩] = some [tS [40], tN 1, tS [43], tS [40], tN 2, tS [42], tI [112, 108, 97, 99, 101], tS [41], tS [41]] := by kernel_rfl
theorem pr6 : printV [⟨1, 1⟩, ⟨1, 2⟩, ⟨2, 0⟩, ⟨5, 0⟩, ⟨3, 0⟩] = .tup [.str [40, 32, 49, 32, 43, 32, 40, 32, 50, 32, 42, 32, 112, 108, 97, 99, 101, 32, 41, 32, 41], .int .i64 0] := by
  unfold printV
  rw [w6]
  simp only [List.map_cons, List.map_nil, wordS, i_1, i_2]; rfl
def sP (f : List UInt8 → AVal) : List AVal → AHeap → Prop × AVal := fun a H => match a with
  | [.str s] => (s.length < 1000000000, f s)
  | _ => (False, .tup [])
theorem qP {fid : FuncId} {f : List UInt8 → AVal} (h : ∀ s, s.length < 1000000000 → Pur Tryz.prog fid [.str s] (f s)) : ∀ args H n, (sP f args H).1 → Quiet Tryz.prog fid args H n (sP f args H).2 := by
  intro args H n hh
  unfold sP at hh ⊢
  split at hh
  · exact (h _ hh).quiet H n
  · exact hh.elim
def s13 : List AVal → AHeap → Prop × AVal := fun a H => match a with
  | [.sl t L, .sl u M] => (encdW L ∧ (t.esz = 2 ∨ L = []) ∧ encdW M ∧ (u.esz = 2 ∨ M = []) ∧ L.length < 1000000000, .bool (sameW (L.map decW) (M.map decW)))
  | _ => (False, .tup [])
theorem q13 : ∀ args H n, (s13 args H).1 → Quiet Tryz.prog 13 args H n (s13 args H).2 := by
  intro args H n hh
  unfold s13 at hh ⊢
  split at hh
  · rename_i t L u M
    obtain ⟨h1, h2, h3, h4, h5⟩ := hh
    refine ACalls.args ((p13 (L.map decW) (M.map decW) (by simpa using h5)).quiet H n) ?_
    rintro g vs ⟨v, r, rfl, k1, v', r', rfl, k2, k3⟩
    refine ⟨v, _, rfl, ?_, v', _, rfl, ?_, k3⟩
    · rw [← h1]; exact Wk.sl h2 _ _ k1
    · rw [← h3]; exact Wk.sl h4 _ _ k2
  · exact hh.elim
def sWI (c : List Wd → Prop) (f : List Wd → List Int → AVal) : List AVal → AHeap → Prop × AVal := fun a H => match a with
  | [.sl t L, .sl u M] => (encdW L ∧ (t.esz = 2 ∨ L = []) ∧ M = (M.map toI).map eI ∧ (u.esz = 1 ∨ M = []) ∧ c (L.map decW), f (L.map decW) (M.map toI))
  | _ => (False, .tup [])
theorem qWI {fid : FuncId} {c : List Wd → Prop} {f : List Wd → List Int → AVal} (h : ∀ p ins, c p → Pur Tryz.prog fid [.sl (.none 2) (p.map encW), .sl (.none 1) (ins.map eI)] (f p ins)) : ∀ args H n, (sWI c f args H).1 → Quiet Tryz.prog fid args H n (sWI c f args H).2 := by
  intro args H n hh
  unfold sWI at hh ⊢
  split at hh
  · rename_i t L u M
    obtain ⟨h1, h2, h3, h4, h5⟩ := hh
    refine ACalls.args ((h (L.map decW) (M.map toI) h5).quiet H n) ?_
    rintro g vs ⟨v, r, rfl, k1, v', r', rfl, k2, k3⟩
    refine ⟨v, _, rfl, ?_, v', _, rfl, ?_, k3⟩
    · rw [← h1]; exact Wk.sl h2 _ _ k1
    · rw [← h3]; exact Wk.sl h4 _ _ k2
  · exact hh.elim
theorem p20 (o a b : Int) (ha : 1 ≤ a ∧ a < 1048576) (hb : 1 ≤ b ∧ b < 1048576) : Pur Tryz.prog 20 [.int .i64 o, .int .i64 a, .int .i64 b] (.int .i64 (applyN o a b)) := by
  refine .mk ⟨trivial, trivial, trivial, trivial⟩ trivial (a20 (ev_awp TabOK.tnil (ev_evK ?_)))
  have w1 : IntKind.wrap .i64 (a + b) = a + b := w64_in (by omega) (by omega)
  have w2 : IntKind.wrap .i64 (a - b) = a - b := w64_in (by omega) (by omega)
  have h1 : 0 ≤ a * b := Int.mul_nonneg (by omega) (by omega)
  have h2 : a * b ≤ 1048576 * 1048576 := Int.mul_le_mul (by omega) (by omega) (by omega) (by omega)
  have w3 : IntKind.wrap .i64 (a * b) = a * b := w64_in (by omega) (by omega)
  have h3 := tdiv_pos (a := a) (b := b) ha.1 hb.1 ha.2
  have w4 : IntKind.wrap .i64 (a.tdiv b) = a.tdiv b := w64_in (by omega) (by omega)
  have b0 : ¬ b = 0 := by omega
  unfold applyN
  by_cases h3 : o = 3
  · simp only [eE, eC, eN, reduceCtorEq, Nat.reduceEqDiff, ↓reduceIte, Nat.reduceAdd, c20, h3, w1]
  by_cases h4 : o = 4
  · simp only [eE, eC, eN, reduceCtorEq, Nat.reduceEqDiff, ↓reduceIte, Nat.reduceAdd, Int.reduceEq, c20, h4, w2]
  by_cases h5 : o = 5
  · simp only [eE, eC, eN, reduceCtorEq, Nat.reduceEqDiff, ↓reduceIte, Nat.reduceAdd, Int.reduceEq, c20, h5, w3]
  by_cases h6 : o = 6
  · simp only [eE, eC, eN, reduceCtorEq, Nat.reduceEqDiff, ↓reduceIte, Nat.reduceAdd, Int.reduceEq, c20, h6, w4, b0]
  by_cases h7 : o = 7
  · simp only [eE, eC, eN, reduceCtorEq, Nat.reduceEqDiff, ↓reduceIte, Nat.reduceAdd, Int.reduceEq, c20, h7]
  · simp only [eE, eC, eN, reduceCtorEq, Nat.reduceEqDiff, ↓reduceIte, Nat.reduceAdd, c20, h3, h4, h5, h6, h7]
def s20 : List AVal → AHeap → Prop × AVal := fun a H => match a with
  | [.int .i64 o, .int .i64 a, .int .i64 b] => ((1 ≤ a ∧ a < 1048576) ∧ (1 ≤ b ∧ b < 1048576), .int .i64 (applyN o a b))
  | _ => (False, .tup [])
theorem q20 : ∀ args H n, (s20 args H).1 → Quiet Tryz.prog 20 args H n (s20 args H).2 := by
  intro args H n hh
  unfold s20 at hh ⊢
  split at hh
  · exact (p20 _ _ _ hh.1 hh.2).quiet H n
  · exact hh.elim
def TLw : Tab := tadd 11 (sP parseV) (tadd 12 (sP parseV) (tadd 13 s13 (tadd 14 (sW okA printV) (tadd 15 (sW okN printV) (tadd 16 (sW okA checkV) (tadd 17 (sW okN checkV) (tadd 18 (sWI okA runA) (tadd 19 (sWI okN runA) (tadd 20 s20 tnil)))))))))
theorem TLw_ok : TabOK Tryz.prog TLw := (((((((((TabOK.tnil.add q20).add (qWI fun p ins h => p19 p ins h)).add (qWI fun p ins _ => p18 p ins)).add (qW fun p hp => p17 p hp.1 hp.2)).add (qW fun p _ => p16 p)).add (qW fun p hp => p15 p hp.1 hp.2)).add (qW fun p _ => p14 p)).add q13).add (qP p12)).add (qP p11)
theorem TLw_11 (a : List AVal) (H : AHeap) : TLw 11 a H = sP parseV a H := rfl
theorem TLw_13 (a : List AVal) (H : AHeap) : TLw 13 a H = s13 a H := rfl
theorem TLw_14 (a : List AVal) (H : AHeap) : TLw 14 a H = sW okA printV a H := rfl
theorem TLw_16 (a : List AVal) (H : AHeap) : TLw 16 a H = sW okA checkV a H := rfl
theorem TLw_18 (a : List AVal) (H : AHeap) : TLw 18 a H = sWI okA runA a H := rfl
theorem okA_t {p : List Wd} : okA p = True := rfl
theorem r7 : runA [⟨1, 7⟩, ⟨1, 9⟩, ⟨4, 0⟩, ⟨1, 2⟩, ⟨6, 0⟩, ⟨1, 3⟩, ⟨3, 0⟩] [0, 0, 0, 0, 0] = .tup [.int .i64 2, .int .i64 0] := by kernel_rfl
theorem r8 : runA [⟨1, 7⟩, ⟨1, 9⟩, ⟨4, 0⟩] [0, 0, 0, 0, 0] = .tup [.int .i64 0, .int .i64 0] := by kernel_rfl
theorem r9 : runA [⟨1, 1⟩, ⟨1, 0⟩, ⟨6, 0⟩] [0, 0, 0, 0, 0] = .tup [.int .i64 0, .int .i64 0] := by kernel_rfl
theorem r1 : runA [⟨1, 100⟩, ⟨2, 0⟩, ⟨6, 0⟩] [3, 0, 0, 0, 0] = .tup [.int .i64 33, .int .i64 0] := by kernel_rfl
theorem r5 : runA [⟨2, 0⟩, ⟨1, 4⟩, ⟨9, 0⟩, ⟨1, 10⟩, ⟨1, 0⟩, ⟨10, 0⟩] [3, 0, 0, 0, 0] = .tup [.int .i64 10, .int .i64 0] := by kernel_rfl
theorem r5b : runA [⟨2, 0⟩, ⟨1, 4⟩, ⟨9, 0⟩, ⟨1, 10⟩, ⟨1, 0⟩, ⟨10, 0⟩] [0, 0, 0, 0] = .tup [.int .i64 0, .int .i64 1] := by kernel_rfl
theorem ck0 : checkV [] = .int .i64 520 := by kernel_rfl
theorem sm1 : sameW [⟨1, 100⟩, ⟨2, 0⟩, ⟨6, 0⟩] [⟨1, 100⟩, ⟨2, 0⟩, ⟨6, 0⟩] = true := by kernel_rfl
theorem p10 : Pur Tryz.prog 10 [] (.bool true) := by
  refine .mk trivial trivial (a10 (ev_awp TLw_ok (ev_evK ?_)))
  have n5 : ((5 : Nat) : Int) = 5 := rfl
  simp only [eE, eC, eN, reduceCtorEq, Nat.reduceEqDiff, ↓reduceIte, Nat.reduceAdd, Nat.reduceLeDiff, Nat.reduceMul, Nat.reduceLT, Int.reduceLE, Int.reduceToNat, Bool.not_true, c10, n5, TLw_11, sP, v1, v2, v3, v4, v5, v6, v7, v8, v9, List.getElem?_cons_zero, List.getElem?_cons_succ, Option.getD_some, TLw_13, s13, TLw_14, TLw_16, TLw_18, sW, sWI, okA_t, encdW, decW, encW, toI, eI, pr6, r7, r8, r9, r1, r5, r5b, ck0, sm1]
  exact ⟨rfl, by decide⟩
end Go.AM
end
section
set_option maxRecDepth 20000
set_option linter.all false
set_option maxHeartbeats 1000000
namespace Go.AM
open Go.Proofs Go.Lib
def s10 : List AVal → AHeap → Prop × AVal := fun a H => match a with
  | [] => (True, .bool true)
  | _ => (False, .tup [])
theorem q10 : ∀ args H n, (s10 args H).1 → Quiet Tryz.prog 10 args H n (s10 args H).2 := by
  intro args H n hh
  unfold s10 at hh ⊢
  split at hh
  · exact p10.quiet H n
  · exact hh.elim
def TL : Tab := tadd 10 s10 TLw
theorem TL_ok : TabOK Tryz.prog TL := TLw_ok.add q10
theorem TL_10 (H : AHeap) : TL 10 [] H = (True, .bool true) := rfl
theorem TL_11 (a : List AVal) (H : AHeap) : TL 11 a H = sP parseV a H := rfl
theorem TL_12 (a : List AVal) (H : AHeap) : TL 12 a H = sP parseV a H := rfl
theorem TL_13 (a : List AVal) (H : AHeap) : TL 13 a H = s13 a H := rfl
theorem TL_14 (a : List AVal) (H : AHeap) : TL 14 a H = sW okA printV a H := rfl
theorem TL_15 (a : List AVal) (H : AHeap) : TL 15 a H = sW okN printV a H := rfl
theorem TL_16 (a : List AVal) (H : AHeap) : TL 16 a H = sW okA checkV a H := rfl
theorem TL_17 (a : List AVal) (H : AHeap) : TL 17 a H = sW okN checkV a H := rfl
theorem TL_18 (a : List AVal) (H : AHeap) : TL 18 a H = sWI okA runA a H := rfl
theorem TL_19 (a : List AVal) (H : AHeap) : TL 19 a H = sWI okN runA a H := rfl
theorem TL_20 (a : List AVal) (H : AHeap) : TL 20 a H = s20 a H := rfl
theorem parse_len (src : List UInt8) : (parseT src).ws.length ≤ 256 := by
  rcases parse_law src with ⟨-, -, t, ht⟩ | ⟨-, h, -⟩
  · exact (whole_run ht).1
  · rw [h]; exact Nat.zero_le _
theorem same_refl (p : List Wd) : sameW p p = true := sameW_eq.2 rfl
theorem p3 (src : List UInt8) : Pur Tryz.prog 3 [.str src] (.bool true) := by
  refine .mk ⟨trivial, trivial⟩ trivial (a3 (ev_awp TL_ok (ev_evK ?_)))
  by_cases h : 3000 < src.length
  · have c1 : ((3000 : Int) < src.length) = True := eq_true (by omega)
    simp only [eE, eC, eN, reduceCtorEq, ↓reduceIte, Bool.not_true, c3, TL_10, c1]
  have c1 : ((3000 : Int) < src.length) = False := eq_false (by omega)
  have c2 : (src.length < 1000000000) = True := eq_true (by omega)
  have c3' : ((parseT src).ws.length < 1000000000) = True := eq_true (by have := parse_len src; omega)
  have hv : parseV src = .tup [.sl (.none 2) ((parseT src).ws.map encW), .int .i64 (parseT src).a, .int .i64 (parseT src).e] := parse_v src
  simp only [eE, eC, eN, reduceCtorEq, Nat.reduceEqDiff, ↓reduceIte, Nat.reduceAdd, Nat.reduceLT, Bool.not_true, c3, TL_10, c1, TL_11, TL_12, sP, c2, hv, List.getElem?_cons_zero, List.getElem?_cons_succ, Option.getD_some, TL_13, s13, encdW_map, decW_map, List.length_map, c3', same_refl]
theorem print_cases (p : List Wd) : (∃ t, wholeP p = some t ∧ printV p = .tup [.str (join (t.map wordS) [32]), .int .i64 0] ∧ checkV p = .int .i64 0) ∨ (wholeP p = none ∧ printV p = .tup [.str [], .int .i64 520] ∧ checkV p = .int .i64 520) := by
  unfold printV checkV checkN
  cases h : wholeP p with
  | none => exact .inr ⟨rfl, rfl, rfl⟩
  | some t => exact .inl ⟨t, rfl, rfl, rfl⟩
theorem p4 (p : List Wd) (hN : okN p) : Pur Tryz.prog 4 [.sl (.none 2) (p.map encW)] (.bool true) := by
  refine .mk ⟨⟨trivial, encW_under 0 p⟩, trivial⟩ trivial (a4 (ev_awp TL_ok (ev_evK ?_)))
  have ok : okN p = True := eq_true hN
  have okT' : okA p = True := rfl
  by_cases h : 300 < p.length
  · have c1 : ((300 : Int) < p.length) = True := eq_true (by omega)
    simp only [eE, eC, eN, reduceCtorEq, ↓reduceIte, Bool.not_true, c4, TL_10, c1, List.length_map]
  have c1 : ((300 : Int) < p.length) = False := eq_false (by omega)
  obtain ⟨s, e, k, hp, hc⟩ : ∃ s e k, printV p = .tup [.str s, .int .i64 e] ∧ checkV p = .int .i64 k := by
    rcases print_cases p with ⟨t, -, h1, h2⟩ | ⟨-, h1, h2⟩ <;> exact ⟨_, _, _, h1, h2⟩
  simp only [eE, eC, eN, reduceCtorEq, Nat.reduceEqDiff, ↓reduceIte, Nat.reduceAdd, Nat.reduceLT, Bool.not_true, c4, TL_10, c1, List.length_map, TL_14, TL_15, TL_16, TL_17, sW, encdW_map, decW_map, ok, okT', hp, hc, List.getElem?_cons_zero, List.getElem?_cons_succ, Option.getD_some, scmp_eql]
theorem p5 (p : List Wd) (ins : List Int) (hN : okN p) : Pur Tryz.prog 5 [.sl (.none 2) (p.map encW), .sl (.none 1) (ins.map eI)] (.bool true) := by
  refine .mk ⟨⟨trivial, encW_under 0 p⟩, ⟨trivial, eI_under 0 ins⟩, trivial⟩ trivial (a5 (ev_awp TL_ok (ev_evK ?_)))
  have ok : okN p = True := eq_true hN
  have okT' : okA p = True := rfl
  by_cases h : 300 < p.length
  · have c1 : ((300 : Int) < p.length) = True := eq_true (by omega)
    simp only [eE, eC, eN, reduceCtorEq, Nat.reduceEqDiff, ↓reduceIte, Nat.reduceAdd, Bool.not_true, c5, TL_10, c1, List.length_map]
  have c1 : ((300 : Int) < p.length) = False := eq_false (by omega)
  by_cases h : 20 < ins.length
  · have c2 : ((20 : Int) < ins.length) = True := eq_true (by omega)
    simp only [eE, eC, eN, reduceCtorEq, Nat.reduceEqDiff, ↓reduceIte, Nat.reduceAdd, Bool.not_true, c5, TL_10, c1, c2, List.length_map]
  have c2 : ((20 : Int) < ins.length) = False := eq_false (by omega)
  have hr : runA p ins = .tup [.int .i64 (runV p ins).1, .int .i64 (runV p ins).2] := rfl
  simp only [eE, eC, eN, reduceCtorEq, Nat.reduceEqDiff, ↓reduceIte, Nat.reduceAdd, Nat.reduceLT, Bool.not_true, c5, TL_10, c1, c2, List.length_map, TL_18, TL_19, sWI, encdW_map, decW_map, eI_map, ok, okT', hr, List.getElem?_cons_zero, List.getElem?_cons_succ, Option.getD_some]
theorem run_range {p : List Wd} {t : List Tkn} (ins : List Int) (h : wholeP p = some t) : 0 ≤ (runV p ins).1 ∧ (runV p ins).1 ≤ 1048576 ∧ ((runV p ins).2 = 0 ∨ (runV p ins).2 = 1) := by
  unfold runV
  rw [h]; simp only []
  split
  · refine ⟨?_, ?_, .inl rfl⟩ <;> (simp only []; unfold clampN; omega)
  · simp
theorem p6 (p : List Wd) (src : List UInt8) (ins : List Int) (hp9 : p.length ≤ 9223372036854775807) : Pur Tryz.prog 6 [.sl (.none 2) (p.map encW), .str src, .sl (.none 1) (ins.map eI)] (.bool true) := by
  refine .mk ⟨⟨trivial, encW_under 0 p⟩, trivial, ⟨trivial, eI_under 0 ins⟩, trivial⟩ trivial (a6 (ev_awp TL_ok (ev_evK ?_)))
  have okT' : ∀ p : List Wd, okA p = True := fun p => rfl
  by_cases h : 300 < p.length
  · have c1 : ((300 : Int) < p.length) = True := eq_true (by omega)
    simp only [eE, eC, eN, reduceCtorEq, Nat.reduceEqDiff, ↓reduceIte, Nat.reduceAdd, Bool.not_true, c6, TL_10, c1, List.length_map]
  have c1 : ((300 : Int) < p.length) = False := eq_false (by omega)
  by_cases h2 : 3000 < src.length
  · have c2 : ((3000 : Int) < src.length) = True := eq_true (by omega)
    simp only [eE, eC, eN, reduceCtorEq, Nat.reduceEqDiff, ↓reduceIte, Nat.reduceAdd, Bool.not_true, c6, TL_10, c1, c2, List.length_map]
  have c2 : ((3000 : Int) < src.length) = False := eq_false (by omega)
  by_cases h3 : 20 < ins.length
  · have c3 : ((20 : Int) < ins.length) = True := eq_true (by omega)
    simp only [eE, eC, eN, reduceCtorEq, Nat.reduceEqDiff, ↓reduceIte, Nat.reduceAdd, Bool.not_true, c6, TL_10, c1, c2, c3, List.length_map]
  have c3 : ((20 : Int) < ins.length) = False := eq_false (by omega)
  have d1 : (src.length < 1000000000) = True := eq_true (by omega)
  have d2 : (p.length < 1000000000) = True := eq_true (by omega)
  have hv : parseV src = .tup [.sl (.none 2) ((parseT src).ws.map encW), .int .i64 (parseT src).a, .int .i64 (parseT src).e] := parse_v src
  have hr : ∀ q, runA q ins = .tup [.int .i64 (runV q ins).1, .int .i64 (runV q ins).2] := fun q => rfl
  obtain ⟨ws, a, e, hv', second⟩ : ∃ ws a e, parseV src = .tup [.sl (.none 2) (ws.map encW), .int .i64 a, .int .i64 e] ∧ ((e = 0 ∧ a = 0 ∧ checkV ws = .int .i64 0 ∧ ∃ x y, runA ws ins = .tup [.int .i64 x, .int .i64 y] ∧ 0 ≤ x ∧ x ≤ 1048576 ∧ (y = 0 ∨ y = 1)) ∨ (e ≠ 0 ∧ ws = [] ∧ 0 ≤ a ∧ a ≤ src.length)) := by
    refine ⟨_, _, _, hv, ?_⟩
    rcases parse_law src with ⟨h1, h2, t, ht⟩ | h
    · refine .inl ⟨h1, h2, ?_, _, _, rfl, run_range ins ht⟩
      unfold checkV checkN; rw [ht]
    · exact .inr h
  rcases print_cases p with ⟨t, hw, h1, h2⟩ | ⟨hw, h1, h2⟩
  · obtain ⟨b1, b2⟩ := parse_back hw
    generalize join (t.map wordS) [32] = s at h1 b1 b2
    have d3 : (s.length < 1000000000) = True := eq_true (by omega)
    have hv2 : parseV s = .tup [.sl (.none 2) (p.map encW), .int .i64 0, .int .i64 0] := by rw [parse_v, b1]; rfl
    rcases second with ⟨rfl, rfl, s3, x, y, hr, s4, s5, s6⟩ | ⟨s1, rfl, s3, s4⟩
    · rcases s6 with rfl | rfl
      · simp only [eE, eC, eN, reduceCtorEq, Nat.reduceEqDiff, ↓reduceIte, Nat.reduceAdd, Nat.reduceLT, Int.reduceEq, Bool.not_true, c6, bne_self_eq_false, TL_10, c1, c2, c3, List.length_map, TL_14, TL_11, TL_13, TL_16, TL_18, sW, sP, s13, sWI, encdW_map, decW_map, eI_map, okT', d1, d2, d3, h1, h2, hv2, hv', hr, s3, s4, s5, same_refl, List.getElem?_cons_zero, List.getElem?_cons_succ, Option.getD_some]
      · simp only [eE, eC, eN, reduceCtorEq, Nat.reduceEqDiff, ↓reduceIte, Nat.reduceAdd, Nat.reduceLT, Int.reduceEq, Bool.not_true, c6, bne_self_eq_false, TL_10, c1, c2, c3, List.length_map, TL_14, TL_11, TL_13, TL_16, TL_18, sW, sP, s13, sWI, encdW_map, decW_map, eI_map, okT', d1, d2, d3, h1, h2, hv2, hv', hr, s3, s4, s5, same_refl, List.getElem?_cons_zero, List.getElem?_cons_succ, Option.getD_some]
    · simp only [eE, eC, eN, reduceCtorEq, Nat.reduceEqDiff, ↓reduceIte, Nat.reduceAdd, Nat.reduceLT, Bool.not_true, Bool.not_false, c6, bne_self_eq_false, TL_10, c1, c2, c3, List.length_map, TL_14, TL_11, TL_13, TL_16, sW, sP, s13, encdW_map, decW_map, okT', d1, d2, d3, h1, h2, hv2, hv', s1, s3, s4, same_refl, List.getElem?_cons_zero, List.getElem?_cons_succ, Option.getD_some]
      rfl
  · rcases second with ⟨rfl, rfl, s3, x, y, hr, s4, s5, s6⟩ | ⟨s1, rfl, s3, s4⟩
    · rcases s6 with rfl | rfl
      · simp only [eE, eC, eN, reduceCtorEq, Nat.reduceEqDiff, ↓reduceIte, Nat.reduceAdd, Nat.reduceLT, Int.reduceEq, Bool.not_true, c6, bne_self_eq_false, TL_10, c1, c2, c3, List.length_map, TL_14, TL_11, TL_16, TL_18, sW, sP, sWI, encdW_map, decW_map, eI_map, okT', d1, h1, h2, hv', hr, s3, s4, s5, List.getElem?_cons_zero, List.getElem?_cons_succ, Option.getD_some]
      · simp only [eE, eC, eN, reduceCtorEq, Nat.reduceEqDiff, ↓reduceIte, Nat.reduceAdd, Nat.reduceLT, Int.reduceEq, Bool.not_true, c6, bne_self_eq_false, TL_10, c1, c2, c3, List.length_map, TL_14, TL_11, TL_16, TL_18, sW, sP, sWI, encdW_map, decW_map, eI_map, okT', d1, h1, h2, hv', hr, s3, s4, s5, List.getElem?_cons_zero, List.getElem?_cons_succ, Option.getD_some]
    · simp only [eE, eC, eN, reduceCtorEq, Nat.reduceEqDiff, ↓reduceIte, Nat.reduceAdd, Nat.reduceLT, Int.reduceEq, Bool.not_true, Bool.not_false, c6, bne_self_eq_false, TL_10, c1, c2, c3, List.length_map, TL_14, TL_11, TL_16, sW, sP, encdW_map, decW_map, okT', d1, h1, h2, hv', s1, s3, s4, List.getElem?_cons_zero, List.getElem?_cons_succ, Option.getD_some]
      rfl
theorem p7 (src : List UInt8) : Pur Tryz.prog 7 [.str src] (.bool true) := by
  refine .mk ⟨trivial, trivial⟩ trivial (a7 (ev_awp TL_ok (ev_evK ?_)))
  by_cases h : 3000 < src.length
  · have c1 : ((3000 : Int) < src.length) = True := eq_true (by omega)
    simp only [eE, eC, eN, reduceCtorEq, ↓reduceIte, Bool.not_true, c7, TL_10, c1]
  have c1 : ((3000 : Int) < src.length) = False := eq_false (by omega)
  have c2 : (src.length < 1000000000) = True := eq_true (by omega)
  have c3' : ((parseT src).ws.length < 1000000000) = True := eq_true (by have := parse_len src; omega)
  have hv : parseV src = .tup [.sl (.none 2) ((parseT src).ws.map encW), .int .i64 (parseT src).a, .int .i64 (parseT src).e] := parse_v src
  obtain ⟨k1, k2⟩ := parse_sp src (by omega)
  have hv2 : parseV (10 :: 9 :: 32 :: (src ++ [10])) = .tup [.sl (.none 2) ((parseT src).ws.map encW), .int .i64 (parseT (10 :: 9 :: 32 :: (src ++ [10]))).a, .int .i64 (parseT src).e] := by rw [parse_v, ← k1, ← k2]; rfl
  simp only [eE, eC, eN, reduceCtorEq, Nat.reduceEqDiff, ↓reduceIte, Nat.reduceAdd, Nat.reduceLT, Bool.not_true, c7, TL_10, c1, TL_11, sP, c2, hv, hv2, List.getElem?_cons_zero, List.getElem?_cons_succ, Option.getD_some, TL_13, s13, encdW_map, decW_map, List.length_map, c3', same_refl]
  exact ⟨by unfold small; omega, by unfold small; omega, by simp; omega⟩
end Go.AM
end
section
set_option maxRecDepth 20000
set_option linter.all false
set_option maxHeartbeats 1000000
namespace Go.AM
open Go.Proofs Go.Lib
theorem p9 (p : List Wd) (ins : List Int) (k x : Int) : Pur Tryz.prog 9 [.sl (.none 2) (p.map encW), .sl (.none 1) (ins.map eI), .int .i64 k, .int .i64 x] (.bool true) := by
  refine .mk ⟨⟨trivial, encW_under 0 p⟩, ⟨trivial, eI_under 0 ins⟩, trivial, trivial, trivial⟩ trivial (a9 (ev_awp TL_ok (ev_evK ?_)))
  have okT' : ∀ p : List Wd, okA p = True := fun p => rfl
  by_cases h : 300 < p.length ∨ 20 < ins.length ∨ k < 0 ∨ ins.length ≤ k ∨ x < 0 ∨ 1048576 < x
  · by_cases h1 : 300 < p.length
    · have c1 : ((300 : Int) < p.length) = True := eq_true (by omega)
      simp only [eE, eC, eN, reduceCtorEq, Nat.reduceEqDiff, ↓reduceIte, Nat.reduceAdd, Bool.not_true, c9, TL_10, c1, List.length_map]
    have c1 : ((300 : Int) < p.length) = False := eq_false (by omega)
    by_cases h2 : 20 < ins.length
    · have c2 : ((20 : Int) < ins.length) = True := eq_true (by omega)
      simp only [eE, eC, eN, reduceCtorEq, Nat.reduceEqDiff, ↓reduceIte, Nat.reduceAdd, Bool.not_true, c9, TL_10, c1, c2, List.length_map]
    have c2 : ((20 : Int) < ins.length) = False := eq_false (by omega)
    by_cases h3 : k < 0
    · simp only [eE, eC, eN, reduceCtorEq, Nat.reduceEqDiff, ↓reduceIte, Nat.reduceAdd, Bool.not_true, c9, TL_10, c1, c2, h3, List.length_map]
    by_cases h4 : (ins.length : Int) ≤ k
    · simp only [eE, eC, eN, reduceCtorEq, Nat.reduceEqDiff, ↓reduceIte, Nat.reduceAdd, Bool.not_true, c9, TL_10, c1, c2, h3, h4, List.length_map]
    by_cases h5 : x < 0
    · simp only [eE, eC, eN, reduceCtorEq, Nat.reduceEqDiff, ↓reduceIte, Nat.reduceAdd, Bool.not_true, c9, TL_10, c1, c2, h3, h4, h5, List.length_map]
    have h6 : (1048576 : Int) < x := by omega
    simp only [eE, eC, eN, reduceCtorEq, Nat.reduceEqDiff, ↓reduceIte, Nat.reduceAdd, Bool.not_true, c9, TL_10, c1, c2, h3, h4, h5, h6, List.length_map]
  obtain ⟨j, rfl⟩ : ∃ j : Nat, k = j := ⟨k.toNat, by omega⟩
  have c1 : ((300 : Int) < p.length) = False := eq_false (by omega)
  have c2 : ((20 : Int) < ins.length) = False := eq_false (by omega)
  have c3 : ((j : Int) < 0) = False := eq_false (by omega)
  have c4 : ((ins.length : Int) ≤ j) = False := eq_false (by omega)
  have c5 : (x < 0) = False := eq_false (by omega)
  have c6 : ((1048576 : Int) < x) = False := eq_false (by omega)
  simp only [eE, eC, eN, reduceCtorEq, Nat.reduceEqDiff, ↓reduceIte, Nat.reduceAdd, Bool.not_true, c9, TL_10, c1, c2, c3, c4, c5, c6, List.length_map]
  refine k_loop (fun i : Nat => ⟨[(0, true, .sl (.none 2) (p.map encW)), (1, true, .sl (.none 1) (ins.map eI)), (2, true, .int .i64 j), (3, true, .int .i64 x), (9, true, .int .i64 i)], hnil, 0⟩) (fun i => i ≤ p.length ∧ ∀ m (hm : m < p.length), m < i → ¬ (p[m].O = 2 ∧ p[m].N = j)) (fun i => p.length - i) 0 rfl ⟨Nat.zero_le _, fun m hm h => by omega⟩ ?_
  rintro i ⟨hi, hall⟩
  by_cases hlt : i < p.length
  · have hg := List.getElem?_eq_getElem hlt
    have e := w64_succ (k := i) (by omega)
    by_cases hb : p[i].O = 2 ∧ p[i].N = j
    · obtain ⟨b1, b2⟩ := hb
      have b1' : (p[i].O = 2) = True := eq_true b1
      have b2' : (p[i].N = (j : Int)) = True := eq_true b2
      simp only [eE, eC, eN, reduceCtorEq, Nat.reduceEqDiff, ↓reduceIte, Nat.reduceAdd, Nat.reduceLeDiff, List.length_map, Int.ofNat_lt, hlt, List.getElem?_map, hg, Int.toNat_natCast, Option.getD_some, Int.natCast_nonneg, b1', b2']
    · have nx : ∀ m (hm : m < p.length), m < i + 1 → ¬ (p[m].O = 2 ∧ p[m].N = j) := fun m hm h => by
        by_cases q : m = i
        · subst q; exact hb
        · exact hall m hm (by omega)
      by_cases b1 : p[i].O = 2
      · have b2 : ¬ p[i].N = (j : Int) := fun q => hb ⟨b1, q⟩
        have b1' : (p[i].O = 2) = True := eq_true b1
        simp only [eE, eC, eN, reduceCtorEq, Nat.reduceEqDiff, ↓reduceIte, Nat.reduceAdd, Nat.reduceLeDiff, Int.reduceEq, List.length_map, Int.ofNat_lt, hlt, List.getElem?_map, hg, Int.toNat_natCast, Option.getD_some, Int.natCast_nonneg, e, b1', b2]
        exact .mk (i + 1) rfl ⟨hlt, nx⟩ (by omega)
      · simp only [eE, eC, eN, reduceCtorEq, Nat.reduceEqDiff, ↓reduceIte, Nat.reduceAdd, Nat.reduceLeDiff, Int.reduceEq, List.length_map, Int.ofNat_lt, hlt, List.getElem?_map, hg, Int.toNat_natCast, Option.getD_some, Int.natCast_nonneg, e, b1]
        exact .mk (i + 1) rfl ⟨hlt, nx⟩ (by omega)
  have lt0 : ((i : Int) < p.length) = False := eq_false (by omega)
  have hn : ∀ w ∈ p, w.O = 2 → w.N ≠ (j : Int) := fun w hw h1 h2 => by
    obtain ⟨m, hm, rfl⟩ := List.mem_iff_getElem.1 hw
    exact hall m hm (by omega) ⟨h1, h2⟩
  have hjl : j < ins.length := by omega
  have hr : runA p ins = .tup [.int .i64 (runV p ins).1, .int .i64 (runV p ins).2] := rfl
  simp only [eE, eC, eN, reduceCtorEq, Nat.reduceEqDiff, ↓reduceIte, Nat.reduceAdd, Nat.reduceLeDiff, Nat.reduceMul, Nat.reduceLT, List.length_map, lt0, TL_18, sWI, encdW_map, decW_map, eI_map, okT', hr, List.getElem?_cons_zero, List.getElem?_cons_succ, Option.getD_some]
  rw [appRK_sl]
  refine ⟨rfl, by decide, rfl, .inr rfl, by unfold small; simp; omega, by simp; omega, (fun q => ?_), fun _ cap hcap => ?_⟩
  · have := congrArg List.length q
    simp at this; rw [this] at hjl; simp at hjl
  simp only [List.length_nil, List.length_map, Nat.zero_add, List.nil_append] at hcap ⊢
  have hS : ∀ r, ((ins.map eI ++ r).set j (.int .i64 x)).take ins.length = (ins.set j x).map eI := fun r => by
    rw [List.set_append_left _ _ (by simpa using hjl), List.take_append_of_le_length (by simp), List.take_of_length_le (by simp), List.map_set]
  have hl1 : ∀ r, (ins.map eI ++ r).length = ins.length + r.length := fun r => by simp
  have hj1 : (((j : Int) < (ins.length : Int))) = True := eq_true (by omega)
  have hle : (ins.length ≤ cap) = True := eq_true hcap
  have hadd : ins.length + (cap - ins.length) = cap := by omega
  have hjc : (j < cap) = True := eq_true (by omega)
  have law : (runV p ins).2 = 0 → (runV p (ins.set j x)).2 = 0 ∧ (runV p ins).1 = (runV p (ins.set j x)).1 := fun h0 => by
    have hh : runV p ins = ((runV p ins).1, 0) := by rw [← h0]
    have := inputs_law (k := j) (x := x) hh ⟨by omega, by omega⟩ (fun w hw h1 => by
      have := hn w hw h1; exact this)
    rw [this]; exact ⟨rfl, rfl⟩
  have hr2 : runA p (ins.set j x) = .tup [.int .i64 (runV p (ins.set j x)).1, .int .i64 (runV p (ins.set j x)).2] := rfl
  generalize hrr : List.replicate (cap - ins.length) (AVal.int .i64 0) = r
  have hrl : r.length = cap - ins.length := by rw [← hrr]; simp
  by_cases hc : ins.length = cap
  · have hcT : (ins.length = cap) = True := eq_true hc
    simp only [eE, eC, eN, reduceCtorEq, Nat.reduceEqDiff, ↓reduceIte, Nat.reduceAdd, Nat.reduceLT, afterR, hl1, hrl, hadd, hj1, hle, hjc, hS, hcT, Int.toNat_natCast, Int.natCast_nonneg, List.length_set, TL_18, sWI, encdW_map, decW_map, eI_map, okT', hr2, List.getElem?_cons_zero, List.getElem?_cons_succ, Option.getD_some]
    by_cases h0 : (runV p ins).2 = 0
    · exact .inr (law h0)
    · exact .inl h0
  · simp only [eE, eC, eN, reduceCtorEq, Nat.reduceEqDiff, ↓reduceIte, Nat.reduceAdd, Nat.reduceLT, afterR, hl1, hrl, hadd, hj1, hle, hjc, hS, hc, Int.toNat_natCast, Int.natCast_nonneg, List.length_set, TL_18, sWI, encdW_map, decW_map, eI_map, okT', hr2, List.getElem?_cons_zero, List.getElem?_cons_succ, Option.getD_some]
    by_cases h0 : (runV p ins).2 = 0
    · exact .inr (law h0)
    · exact .inl h0
structure V8 where
  o : Nat
  H : AHeap
  n : Nat
theorem p8 (p q : List Wd) (ins : List Int) (hp9 : p.length ≤ 9223372036854775807) : Pur Tryz.prog 8 [.sl (.none 2) (p.map encW), .sl (.none 2) (q.map encW), .sl (.none 1) (ins.map eI)] (.bool true) := by
  refine .mk ⟨⟨trivial, encW_under 0 p⟩, ⟨trivial, encW_under 0 q⟩, ⟨trivial, eI_under 0 ins⟩, trivial⟩ trivial (a8 (ev_awp TL_ok (ev_evK ?_)))
  have okT' : ∀ p : List Wd, okA p = True := fun p => rfl
  by_cases h : 100 < p.length ∨ 100 < q.length ∨ 20 < ins.length
  · by_cases h1 : 100 < p.length
    · have c1 : ((100 : Int) < p.length) = True := eq_true (by omega)
      simp only [eE, eC, eN, reduceCtorEq, Nat.reduceEqDiff, ↓reduceIte, Nat.reduceAdd, Bool.not_true, c8, TL_10, c1, List.length_map]
    have c1 : ((100 : Int) < p.length) = False := eq_false (by omega)
    by_cases h2 : 100 < q.length
    · have c2 : ((100 : Int) < q.length) = True := eq_true (by omega)
      simp only [eE, eC, eN, reduceCtorEq, Nat.reduceEqDiff, ↓reduceIte, Nat.reduceAdd, Bool.not_true, c8, TL_10, c1, c2, List.length_map]
    have c2 : ((100 : Int) < q.length) = False := eq_false (by omega)
    have c3 : ((20 : Int) < ins.length) = True := eq_true (by omega)
    simp only [eE, eC, eN, reduceCtorEq, Nat.reduceEqDiff, ↓reduceIte, Nat.reduceAdd, Bool.not_true, c8, TL_10, c1, c2, c3, List.length_map]
  have c1 : ((100 : Int) < p.length) = False := eq_false (by omega)
  have c2 : ((100 : Int) < q.length) = False := eq_false (by omega)
  have c3 : ((20 : Int) < ins.length) = False := eq_false (by omega)
  obtain ⟨a, e, hra⟩ : ∃ a e, runV p ins = (a, e) := ⟨_, _, rfl⟩
  obtain ⟨b, f, hrb⟩ : ∃ b f, runV q ins = (b, f) := ⟨_, _, rfl⟩
  have hr1 : runA p ins = .tup [.int .i64 a, .int .i64 e] := by unfold runA; rw [hra]
  have hr2 : runA q ins = .tup [.int .i64 b, .int .i64 f] := by unfold runA; rw [hrb]
  have hw : IntKind.wrap .i64 ((p.length : Int) + q.length) = ((p.length + q.length : Nat) : Int) := by rw [w64_in (by omega) (by omega)]; omega
  by_cases hg : e = 0 ∧ f = 0 ∧ 1 ≤ a ∧ a < 1048576 ∧ 1 ≤ b ∧ b < 1048576 ∧ p.length + q.length ≤ 100
  case neg =>
    have hB : (!decide (e = 0) || !decide (f = 0) || decide (a < 1) || decide (1048576 ≤ a) || decide (b < 1) || decide (1048576 ≤ b) || decide ((100 : Int) < ((p.length + q.length : Nat) : Int))) = true := by
      cases hb : (!decide (e = 0) || !decide (f = 0) || decide (a < 1) || decide (1048576 ≤ a) || decide (b < 1) || decide (1048576 ≤ b) || decide ((100 : Int) < ((p.length + q.length : Nat) : Int))) with
      | true => rfl
      | false =>
        simp only [Bool.or_eq_false_iff, Bool.not_eq_false', decide_eq_true_eq, decide_eq_false_iff_not] at hb
        exact absurd ⟨hb.1.1.1.1.1.1, hb.1.1.1.1.1.2, by omega, by omega, by omega, by omega, by omega⟩ hg
    simp only [eE, eC, eN, reduceCtorEq, Nat.reduceEqDiff, ↓reduceIte, Nat.reduceAdd, Nat.reduceLT, Bool.not_true, c8, TL_10, c1, c2, c3, List.length_map, TL_18, sWI, encdW_map, decW_map, eI_map, okT', hr1, hr2, hw, hB, List.getElem?_cons_zero, List.getElem?_cons_succ, Option.getD_some]
  obtain ⟨rfl, rfl, g1, g2, g3, g4, g5⟩ := hg
  have d1 : (a < 1) = False := eq_false (by omega)
  have d2 : (1048576 ≤ a) = False := eq_false (by omega)
  have d3 : (b < 1) = False := eq_false (by omega)
  have d4 : (1048576 ≤ b) = False := eq_false (by omega)
  have d5 : ((100 : Int) < ((p.length + q.length : Nat) : Int)) = False := eq_false (by omega)
  simp only [eE, eC, eN, reduceCtorEq, Nat.reduceEqDiff, ↓reduceIte, Nat.reduceAdd, Nat.reduceLeDiff, Nat.reduceMul, Nat.reduceLT, Bool.not_true, c8, TL_10, c1, c2, c3, List.length_map, TL_18, sWI, encdW_map, decW_map, eI_map, okT', hr1, hr2, hw, d1, d2, d3, d4, d5, List.getElem?_cons_zero, List.getElem?_cons_succ, Option.getD_some, hset_hset]
  refine ⟨⟨sm (by omega) (by decide), by omega⟩, ⟨sm (by omega) (by decide), by omega⟩, ?_⟩
  refine k_loop (fun v : V8 => ⟨[(2, true, .sl (.none 1) (ins.map eI)), (7, true, .int .i64 a), (9, true, .int .i64 b), (11, true, .sl (.own 4 2) (p.map encW ++ q.map encW)), (12, true, .int .i64 v.o)], v.H, v.n⟩) (fun v => 3 ≤ v.o ∧ v.o ≤ 9 ∧ Fresh v.H v.n ∧ 6 ≤ v.n ∧ hget v.H 4 = some .tok) (fun v => 9 - v.o)
    ⟨3, hset (hset hnil 2 .dead) 4 .tok, 6⟩ rfl ⟨Nat.le_refl _, by decide, fun k hk => ?_, Nat.le_refl _, rfl⟩ ?_
  · simp only [] at hk
    rw [hget_hset_ne _ _ _ _ (by omega), hget_hset_ne _ _ _ _ (by omega)]; rfl
  rintro ⟨o, H, n⟩ ⟨ho1, ho2, hfr, hn, h4⟩
  simp only at ho1 ho2 hfr hn h4
  have hf := frN hfr
  have n4 : (4 = n + 2) = False := eq_false (by omega)
  have hlen : (p.map encW ++ q.map encW).length = p.length + q.length := by simp
  by_cases hlt : o ≤ 8
  · have hlT : ((o : Int) ≤ 8) = True := eq_true (by omega)
    have e := w64_succ (k := o) (by omega)
    have hR : runA (p ++ q ++ [⟨o, 0⟩]) ins = .tup [.int .i64 (applyN o a b), .int .i64 0] := by
      unfold runA; rw [join_op hra hrb ⟨g1, g2⟩ ⟨g3, g4⟩ g5 ⟨by omega, by omega⟩]
    have hE : p.map encW ++ q.map encW ++ [.agg [.int .i64 o, .int .i64 0]] = (p ++ q ++ [(⟨o, 0⟩ : Wd)]).map encW := by simp
    simp only [eE, eC, eN, reduceCtorEq, Nat.reduceEqDiff, ↓reduceIte, Nat.reduceAdd, Nat.reduceLeDiff, Nat.reduceMul, Nat.reduceLT, Int.reduceEq, Bool.not_true, hlT, hf, hlen, hE, TL_18, sWI, encdW_map, decW_map, eI_map, okT', hR, TL_20, s20, g1, g2, g3, g4, e, List.getElem?_cons_zero, List.getElem?_cons_succ, Option.getD_some, hset_hset]
    refine ⟨⟨sm (by omega) (by decide), by omega⟩, ⟨sm (by omega) (by decide), by omega⟩, .mk ⟨o + 1, hset (hset H (n + 2) .dead) (n + 6) .tok, n + 14⟩ rfl ⟨by simp only []; omega, by simp only []; omega, fun k hk => ?_, by simp only []; omega, ?_⟩ (by simp only []; omega)⟩
    · simp only [] at hk
      rw [hget_hset_ne _ _ _ _ (by omega), hget_hset_ne _ _ _ _ (by omega)]; exact hfr k (by omega)
    · simp only []
      rw [hget_hset_ne _ _ _ _ (by omega), hget_hset_ne _ _ _ _ (by omega)]; exact h4
  have ho : o = 9 := by omega
  subst ho
  have hlT : (((9 : Nat) : Int) ≤ 8) = False := eq_false (by decide)
  have hR : runA (p ++ q ++ [⟨9, 0⟩] ++ (p ++ q ++ [⟨10, 0⟩])) ins = .tup [.int .i64 (min a b), .int .i64 0] := by
    unfold runA; rw [join_if hra hrb ⟨g1, g2⟩ ⟨g3, g4⟩ g5]
  have hE : p.map encW ++ q.map encW ++ [.agg [.int .i64 9, .int .i64 0]] ++ (p.map encW ++ q.map encW ++ [.agg [.int .i64 10, .int .i64 0]]) = (p ++ q ++ [(⟨9, 0⟩ : Wd)] ++ (p ++ q ++ [(⟨10, 0⟩ : Wd)])).map encW := by simp
  have n2 : (n = 2) = False := eq_false (by omega)
  simp only [eE, eC, eN, reduceCtorEq, Nat.reduceEqDiff, ↓reduceIte, Nat.reduceAdd, Nat.reduceLeDiff, Nat.reduceMul, Nat.reduceLT, hlT, hf, h4, hlen, n2, hE, TL_18, sWI, encdW_map, decW_map, eI_map, okT', hR, List.getElem?_cons_zero, List.getElem?_cons_succ, Option.getD_some, hset_hset]
  exact ⟨⟨sm (by omega) (by decide), by omega⟩, ⟨sm (by omega) (by decide), by omega⟩, ⟨sm (by omega) (by decide), by omega⟩, sm (by simp; omega) (by decide), by simp; omega⟩
end Go.AM
end
section
set_option maxRecDepth 20000
set_option linter.all false
set_option maxHeartbeats 1000000
namespace Go.AM
open Go.Proofs Go.Lib Go.ChangeShapes Go.WideShapes Go.ChangeAt Go.WideMaps Go.WideElems Go.RowKit
theorem own : ownKnob Tryz.prog.godebug = none := by kernel_rfl
abbrev laid3 : List (String × DataW Unit) := Go.Proofs.YtbeenbbefcdbgaaGreatDoor.Rows.pointsParseSpecRow.laid
theorem gPow : Tryz.prog.globalNamed ((laid3[2]?.map (·.1)).getD "") = some 3 := by kernel_rfl
theorem gRng : Tryz.prog.globalNamed ((laid3[3]?.map (·.1)).getD "") = some 1 := by kernel_rfl
theorem gSyn : Tryz.prog.globalNamed ((laid3[4]?.map (·.1)).getD "") = some 0 := by kernel_rfl
theorem door_met (os : Os) (args : Array Value) : laidMetH Tryz.prog laid3 ((World.doorLaid Tryz.prog 400 os).forCall (fun _ _ => 0) ⟨#[], args, []⟩).memory :=
  laidMetH_of_parts3 (fuel := 8) (laidMet_of_run' 8 (by kernel_rfl) (by kernel_rfl)) (by kernel_rfl) (by kernel_rfl)
theorem starE : "*" ++ "errors.errorString" = "*errors.errorString" := by decide
theorem row159 (u : TypeId) (h : Tryz.prog.typeName? 3 u = some "*errors.errorString") : u = 159 :=
  typeName_ptr_named (nm := "errors.errorString") (by rw [starE]; kernel_rfl) (by kernel_rfl) (by decide) u (by rw [starE]; exact h)
theorem spot_of {W : World} {a : Addr} (h : Value.okWide Tryz.prog W .any 0 159 (.pointer (some a))) : a.spot = none := by
  unfold Value.okWide at h
  simp only [Tryz.underlying159] at h
  unfold Cell.okWide at h
  simp only [Tryz.underlying159, Cell.ok] at h
  exact h.2.1
def pow10 : List Int := [1, 10, 100, 1000, 10000, 100000, 1000000, 10000000, 100000000, 1000000000, 10000000000, 100000000000, 1000000000000, 10000000000000, 100000000000000, 1000000000000000, 10000000000000000, 100000000000000000, 1000000000000000000, 10000000000000000000]
theorem pstab_err {W : World} {gi fuel : Nat} {cs : Array Value} {text : List UInt8} {p : List MemPlace} {nm : String} (hnm : nm = "*errors.errorString") (hcell : ∀ off, W.cell? ⟨gi, off, none⟩ = cs[off]?)
    (h : DataW.trod (fun _ => ()) Tryz.prog W 0 (fun _ => true) false fuel 108 cs.toList = some (.iface nm (.ptr (.agg [.lit (.string text)])), p))
    (hok : ∀ u v, cs.toList = [.iface u v] → Value.okWide Tryz.prog W .any 0 u v) : PStab (gW W) ((gW W).σ gi) 0 [.ifc 159 (.ep [.str text])] ∧ cs.size = 1 := by
  subst hnm
  obtain ⟨a, s, e1, e2, e3, _, _⟩ := errorString_of_trod Tryz.underlying108 row159 Tryz.underlying159 Tryz.underlying161 rfl rfl Tryz.underlying9 (by kernel_rfl) (by kernel_rfl) h hok
  have hsp := spot_of (hok _ _ e1)
  obtain ⟨b, o, sp⟩ := a
  have hsp' : sp = none := hsp
  subst hsp'
  have hc0 : cs[0]? = some (.iface 159 (.pointer (some ⟨b, o, none⟩))) := by
    rw [← Array.getElem?_toList, e1]; rfl
  refine ⟨⟨⟨_, (hcell 0).trans hc0, ⟨_, rfl, b, o, rfl, ⟨_, e2, ?_, rfl⟩, trivial⟩, rfl⟩, trivial⟩, by rw [← Array.length_toList, e1]; rfl⟩
  show Value.string s = Value.string ⟨text.toArray⟩
  rw [← e3]
theorem var_cells {W : World} {n : String} {g : Nat} {cs : Array Value} (hg : Tryz.prog.globalNamed n = some g) (h : W.var? Tryz.prog n = some cs) : ∃ e fz, W.heap[g]? = some (.cells cs e fz) := by
  simp only [World.var?, hg, Option.bind_some] at h
  split at h
  · rename_i c e fz hh
    cases h; exact ⟨e, fz, hh⟩
  · cases h
theorem glob_all {W : World} (h : laidMetH Tryz.prog laid3 W) : GlobOK (gW W) ∧ GlobZ W := by
  rw [MakeChecks.laidMetH_plain _ _ _ (by kernel_rfl)] at h
  obtain ⟨ps, ⟨g0, t0, cs0, f0, p0, q0, hg0, ht0, hv0, hd0, ⟨g1, t1, cs1, f1, p1, q1, hg1, ht1, hv1, hd1, ⟨g2, t2, cs2, f2, p2, q2, hg2, ht2, hv2, hd2, ⟨g3, t3, cs3, f3, p3, q3, hg3, ht3, hv3, hd3, ⟨g4, t4, cs4, f4, p4, q4, hg4, ht4, hv4, hd4, z4, w4⟩, w3⟩, w2⟩, w1⟩, w0⟩, hnd, hrows⟩ := h
  obtain rfl := Option.some.inj (gPow.symm.trans hg2)
  obtain rfl := Option.some.inj (gRng.symm.trans hg3)
  obtain rfl := Option.some.inj (gSyn.symm.trans hg4)
  obtain rfl := Option.some.inj ((show (Tryz.prog.globals[3]?).map (·.type) = some 154 by kernel_rfl).symm.trans ht2)
  obtain rfl := Option.some.inj ((show (Tryz.prog.globals[1]?).map (·.type) = some 108 by kernel_rfl).symm.trans ht3)
  obtain rfl := Option.some.inj ((show (Tryz.prog.globals[0]?).map (·.type) = some 108 by kernel_rfl).symm.trans ht4)
  have c2 := fun off => World.var?_cell hg2 hv2 off
  have c3 := fun off => World.var?_cell hg3 hv3 off
  have c4 := fun off => World.var?_cell hg4 hv4 off
  have ok3 : ∀ u v, cs3.toList = [.iface u v] → Value.okWide Tryz.prog W .any 0 u v := fun u v e => by
    have hs : cs3.size = 1 := by rw [← Array.length_toList, e]; rfl
    refine (hrows 1 0 (by rw [w0, w1, w2, w3, hs]; simp [MemPlace.row])).2 u v ?_
    rw [c3 0, ← Array.getElem?_toList, e]; rfl
  have ok4 : ∀ u v, cs4.toList = [.iface u v] → Value.okWide Tryz.prog W .any 0 u v := fun u v e => by
    have hs : cs4.size = 1 := by rw [← Array.length_toList, e]; rfl
    refine (hrows 0 0 (by rw [w0, w1, w2, w3, w4, hs]; simp [MemPlace.row])).2 u v ?_
    rw [c4 0, ← Array.getElem?_toList, e]; rfl
  obtain ⟨s3, z3⟩ := pstab_err rfl c3 hd3 ok3
  obtain ⟨s4, z4'⟩ := pstab_err rfl c4 hd4 ok4
  have s2 : PStab (gW W) ((gW W).σ 3) 0 (pow10.map (.int .u64)) := pstab_array (ns := pow10) Tryz.underlying154 Tryz.underlying138 (by kernel_rfl) c2 hd2
  have z2 : cs2.size = 20 := by
    have := Go.Lib.cells_of_tab (zs := pow10) (k := .u64) Tryz.underlying154 Tryz.underlying138 (by kernel_rfl) (by kernel_rfl) hd2
    rw [← Array.length_toList, this]; rfl
  constructor
  · intro i cs hi
    match i, hi with
    | 0, hi => obtain rfl := Option.some.inj hi; exact s4
    | 1, hi => obtain rfl := Option.some.inj hi; exact s3
    | 3, hi => obtain rfl := Option.some.inj hi; exact s2
  · intro i cs hi
    match i, hi with
    | 0, hi => obtain rfl := Option.some.inj hi; obtain ⟨e, fz, k⟩ := var_cells hg4 hv4; exact ⟨_, _, _, k, z4'⟩
    | 1, hi => obtain rfl := Option.some.inj hi; obtain ⟨e, fz, k⟩ := var_cells hg3 hv3; exact ⟨_, _, _, k, z3⟩
    | 3, hi => obtain rfl := Option.some.inj hi; obtain ⟨e, fz, k⟩ := var_cells hg2 hv2; exact ⟨_, _, _, k, z2⟩
abbrev shW : Sh := .st [.int .i64, .int .i64]
theorem rdW {av : List AVal} (h : shW.rd av) : ∃ t : Wd, shW.wrap av = encW t ∧ t.N ≤ 9223372036854775807 := by
  simp only [Sh.rd, Sh.rdL] at h
  obtain ⟨_, _, rfl, ⟨a, rfl, _⟩, _, _, rfl, ⟨b, rfl, hb⟩, rfl⟩ := h
  have hw : IntKind.i64.min ≤ b ∧ b ≤ IntKind.i64.max := by simpa [Lit.wf] using hb
  exact ⟨⟨a, b⟩, rfl, hw.2⟩
theorem rdWs {av : List AVal} (h : (Sh.sl shW).rd av) : ∃ l : List Wd, (Sh.sl shW).wrap av = .sl (.none 2) (l.map encW) ∧ okN l := by
  simp only [Sh.rd] at h
  obtain ⟨l, rfl, hln, h⟩ := h
  suffices ∃ m : List Wd, l.map shW.wrap = m.map encW ∧ ∀ w ∈ m, w.N ≤ 9223372036854775807 by
    obtain ⟨m, hm, hx⟩ := this
    refine ⟨m, by rw [← hm]; rfl, hx, ?_⟩
    have := congrArg List.length hm
    rw [List.length_map, List.length_map] at this
    rw [← this]; exact hln
  clear hln
  induction l with
  | nil => exact ⟨[], rfl, fun _ h => by cases h⟩
  | cons x l ih =>
    obtain ⟨m, hm, hx⟩ := ih fun y hy => h y (by simp [hy])
    obtain ⟨t, ht, hn⟩ := rdW (av := x) (by simpa only [Sh.rd] using h x (by simp))
    refine ⟨t :: m, by rw [List.map_cons, List.map_cons, hm, ht], fun w hw => ?_⟩
    rcases List.mem_cons.1 hw with rfl | hw
    · exact hn
    · exact hx w hw
theorem rdIs {av : List AVal} (h : (Sh.sl (.int .i64)).rd av) : ∃ l : List Int, (Sh.sl (.int .i64)).wrap av = .sl (.none 1) (l.map eI) := by
  simp only [Sh.rd] at h
  obtain ⟨l, rfl, hln, h⟩ := h
  suffices ∃ m : List Int, l.map (Sh.int .i64).wrap = m.map eI by
    obtain ⟨m, hm⟩ := this
    exact ⟨m, by rw [← hm]; rfl⟩
  clear hln
  induction l with
  | nil => exact ⟨[], rfl⟩
  | cons x l ih =>
    obtain ⟨m, hm⟩ := ih fun y hy => h y (by simp [hy])
    obtain ⟨n, e, -⟩ := h x (by simp)
    exact ⟨n :: m, by rw [List.map_cons, List.map_cons, hm, e]; rfl⟩
theorem argS {av : List AVal} (h : Sh.rdA [.str] av) : ∃ s : List UInt8, av = [.str s] := by
  simp only [Sh.rdA, Sh.rd] at h
  obtain ⟨x, _, rfl, ⟨s, rfl, _⟩, rfl⟩ := h
  exact ⟨s, rfl⟩
theorem argW {av : List AVal} (h : Sh.rdA [.sl shW] av) : ∃ p : List Wd, av = [.sl (.none 2) (p.map encW)] ∧ okN p := by
  simp only [Sh.rdA] at h
  obtain ⟨x, _, rfl, hx, rfl⟩ := h
  obtain ⟨p, hp, hn⟩ := rdWs hx
  exact ⟨p, by rw [hp], hn⟩
theorem argWI {av : List AVal} (h : Sh.rdA [.sl shW, .sl (.int .i64)] av) : ∃ (p : List Wd) (ins : List Int), av = [.sl (.none 2) (p.map encW), .sl (.none 1) (ins.map eI)] ∧ okN p := by
  simp only [Sh.rdA] at h
  obtain ⟨x, _, rfl, hx, y, _, rfl, hy, rfl⟩ := h
  obtain ⟨p, hp, hn⟩ := rdWs hx
  obtain ⟨l, hl⟩ := rdIs hy
  exact ⟨p, l, by rw [hp, hl], hn⟩
theorem argWSI {av : List AVal} (h : Sh.rdA [.sl shW, .str, .sl (.int .i64)] av) : ∃ (p : List Wd) (s : List UInt8) (ins : List Int), av = [.sl (.none 2) (p.map encW), .str s, .sl (.none 1) (ins.map eI)] ∧ okN p := by
  simp only [Sh.rdA] at h
  obtain ⟨x, _, rfl, hx, y, _, rfl, hy, z, _, rfl, hz, rfl⟩ := h
  obtain ⟨p, hp, hn⟩ := rdWs hx
  obtain ⟨s, rfl, _⟩ := hy
  obtain ⟨l, hl⟩ := rdIs hz
  exact ⟨p, s, l, by rw [hp, hl]; rfl, hn⟩
theorem argWWI {av : List AVal} (h : Sh.rdA [.sl shW, .sl shW, .sl (.int .i64)] av) : ∃ (p q : List Wd) (ins : List Int), av = [.sl (.none 2) (p.map encW), .sl (.none 2) (q.map encW), .sl (.none 1) (ins.map eI)] ∧ okN p := by
  simp only [Sh.rdA] at h
  obtain ⟨x, _, rfl, hx, y, _, rfl, hy, z, _, rfl, hz, rfl⟩ := h
  obtain ⟨p, hp, hn⟩ := rdWs hx
  obtain ⟨q, hq, _⟩ := rdWs hy
  obtain ⟨l, hl⟩ := rdIs hz
  exact ⟨p, q, l, by rw [hp, hq, hl], hn⟩
theorem argWIII {av : List AVal} (h : Sh.rdA [.sl shW, .sl (.int .i64), .int .i64, .int .i64] av) : ∃ (p : List Wd) (ins : List Int) (k x : Int), av = [.sl (.none 2) (p.map encW), .sl (.none 1) (ins.map eI), .int .i64 k, .int .i64 x] := by
  simp only [Sh.rdA] at h
  obtain ⟨x, _, rfl, hx, y, _, rfl, hy, z, _, rfl, hz, u, _, rfl, hu, rfl⟩ := h
  obtain ⟨p, hp, hn⟩ := rdWs hx
  obtain ⟨l, hl⟩ := rdIs hy
  obtain ⟨k, rfl, _⟩ := hz
  obtain ⟨v, rfl, _⟩ := hu
  exact ⟨p, l, k, v, by rw [hp, hl]; rfl⟩
end Go.AM
end
