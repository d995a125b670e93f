/-
  Scoring programs: tokens' texts, the grammar, plainly · Scoring programs: the parser's small steps · Scoring programs: parts with signs between them · Scoring programs: sums, products, units · Scoring programs: expressions; the whole grammar · Scoring programs: Parse · Scoring programs: the reference's small functions and its products · Scoring programs: the reference's units and expressions · Scoring programs: the reference's expressions, its whole grammar, and Parse · Scoring programs: an empty slice with room, as the library lays it · Scoring programs, plainly: the expressions that a program leaves, how they are written, and that they are read again · Scoring programs, plainly: a valid program is what is read from its tokens; what is read is valid; the numbers that programs give.
  Conditions: none beyond those of its parts.
-/
import Derived.Test.YtbeenbbefcdbgaaGreatDoorB6
import Derived.Test.YtbeenbbefcdbgaaGreatDoorB5
import Derived.Shelf.Spec.SlicesGrow
import Derived.Test.YtbeenbbefcdbgaaGreatDoorShelf

section
set_option maxRecDepth 20000
set_option linter.all false
set_option maxHeartbeats 1000000
namespace Go.AM
open Go.Proofs Go.Lib
structure Wd where
  O : Int
  N : Int
abbrev encW (w : Wd) : AVal := .agg [.int .i64 w.O, .int .i64 w.N]
theorem encW_under (n : Nat) (l : List Wd) : unders n (l.map encW) := unders_map (fun x => by simp [AVal.under, unders]) l
def isT (l : List Tkn) (a : Nat) (s : List UInt8) : Bool := match l[a]? with
  | some t => decide (t.K ≠ 2) && decide (t.T = s)
  | none => false
inductive PR where
  | ok (ws : List Wd) (a : Nat)
  | bad (a : Nat)
  | out
def bindR : PR → (List Wd → Nat → PR) → PR
  | .ok ws a, f => f ws a
  | .bad a, _ => .bad a
  | .out, _ => .out
def wantR (l : List Tkn) (a : Nat) (s : List UInt8) (r : PR) : PR := if isT l a s then r else .bad a
abbrev sIf : List UInt8 := [105, 102]
abbrev sThen : List UInt8 := [116, 104, 101, 110]
abbrev sElse : List UInt8 := [101, 108, 115, 101]
abbrev sMin : List UInt8 := [109, 105, 110]
abbrev sMax : List UInt8 := [109, 97, 120]
abbrev namesI : List (List UInt8) := [[112, 108, 97, 99, 101], [115, 111, 108, 118, 101, 114, 115], [108, 101, 118, 101, 108], [99, 108, 117, 101, 115], [116, 114, 105, 101, 115]]
def chainF (l : List Tkn) (g : Nat → PR) (s1 : List UInt8) (o1 : Int) (s2 : List UInt8) (o2 : Int) : Nat → List Wd → Nat → PR
  | 0, _, _ => .out
  | f + 1, ws, a =>
    if isT l a s1 || isT l a s2 then
      bindR (g (a + 1)) fun q i => chainF l g s1 o1 s2 o2 f (ws ++ q ++ [⟨if isT l a s2 then o2 else o1, 0⟩]) i
    else .ok ws a
def idxF (p : List UInt8 → Bool) : List (List UInt8) → Option Nat
  | [] => none
  | s :: r => if p s then some 0 else (idxF p r).map (· + 1)
structure Grm where
  e : Nat → PR
  s : Nat → PR
  p : Nat → PR
  u : Nat → PR
def exprR (l : List Tkn) (g : Grm) (a : Nat) : PR :=
  if isT l a sIf then
    bindR (g.s (a + 1)) fun x i => wantR l i [60] (bindR (g.s (i + 1)) fun y j => wantR l j sThen (bindR (g.e (j + 1)) fun z k => wantR l k sElse (bindR (g.e (k + 1)) fun w m => .ok (x ++ y ++ [⟨9, 0⟩] ++ z ++ w ++ [⟨10, 0⟩]) m)))
  else g.s a
def sumR (l : List Tkn) (g : Grm) (a : Nat) : PR := bindR (g.p a) fun ws i => chainF l g.p [43] 3 [45] 4 (l.length + 1) ws i
def prodR (l : List Tkn) (g : Grm) (a : Nat) : PR := bindR (g.u a) fun ws i => chainF l g.u [42] 5 [47] 6 (l.length + 1) ws i
def numW (l : List Tkn) (a : Nat) : Option Int := match l[a]? with
  | some t => if t.K = 2 ∧ t.N ≤ 1048576 then some t.N else none
  | none => none
def unitR3 (l : List Tkn) (g : Grm) (a : Nat) : PR :=
  if isT l a sMin || isT l a sMax then
    wantR l (a + 1) [40] (bindR (g.e (a + 2)) fun x i => wantR l i [44] (bindR (g.e (i + 1)) fun y j => wantR l j [41] (.ok (x ++ y ++ [⟨if isT l a sMax then 8 else 7, 0⟩]) (j + 1))))
  else wantR l a [40] (bindR (g.e (a + 1)) fun x i => wantR l i [41] (.ok x (i + 1)))
def unitR2 (l : List Tkn) (g : Grm) (a : Nat) : PR := match idxF (isT l a) namesI with
  | some i => .ok [⟨2, i⟩] (a + 1)
  | none => unitR3 l g a
def unitR (l : List Tkn) (g : Grm) (a : Nat) : PR := match numW l a with
  | some v => .ok [⟨1, v⟩] (a + 1)
  | none => unitR2 l g a
def gram (l : List Tkn) : Nat → Grm
  | 0 => ⟨fun _ => .out, fun _ => .out, fun _ => .out, fun _ => .out⟩
  | f + 1 => ⟨exprR l (gram l f), sumR l (gram l f), prodR l (gram l f), unitR l (gram l f)⟩
theorem isT_lt {l : List Tkn} {a : Nat} {s : List UInt8} (h : isT l a s = true) : a < l.length := by
  unfold isT at h
  split at h
  · rename_i t ht; exact (List.getElem?_eq_some_iff.1 ht).1
  · cases h
theorem isT_one {l : List Tkn} {a : Nat} {s t : List UInt8} (h : isT l a s = true) (hne : s ≠ t) : isT l a t = false := by
  unfold isT at h ⊢
  split at h
  · rename_i x hx
    simp only [Bool.and_eq_true, decide_eq_true_eq] at h
    simp [h.2, hne]
  · cases h
def Prog (l : List Tkn) (a : Nat) (r : PR) : Prop := ∀ ws i, r = .ok ws i → a < i ∧ i ≤ l.length ∧ a + ws.length ≤ i
theorem chain_prog {l : List Tkn} {g : Nat → PR} (hg : ∀ a, Prog l a (g a)) {s1 s2 : List UInt8} {o1 o2 : Int} : ∀ (f : Nat) (ws : List Wd) (a b : Nat), b < a → a ≤ l.length → b + ws.length ≤ a → Prog l b (chainF l g s1 o1 s2 o2 f ws a)
  | 0, ws, a, b, _, _, _ => fun _ _ h => by rw [chainF] at h; cases h
  | f + 1, ws, a, b, h1, h2, h3 => fun vs i h => by
    rw [chainF] at h
    split at h
    · cases hq : g (a + 1) with
      | ok q j =>
        rw [hq] at h
        obtain ⟨k1, k2, k3⟩ := hg (a + 1) q j hq
        exact chain_prog hg f _ j b (by omega) k2 (by simp only [List.length_append, List.length_cons, List.length_nil]; omega) vs i h
      | bad j => rw [hq] at h; cases h
      | out => rw [hq] at h; cases h
    · cases h; exact ⟨h1, h2, h3⟩
theorem bind_ok {r : PR} {f : List Wd → Nat → PR} {ws : List Wd} {i : Nat} (h : bindR r f = .ok ws i) : ∃ q j, r = .ok q j ∧ f q j = .ok ws i := by
  cases r with
  | ok q j => exact ⟨q, j, rfl, h⟩
  | bad j => cases h
  | out => cases h
theorem want_ok {l : List Tkn} {a : Nat} {s : List UInt8} {r : PR} {ws : List Wd} {i : Nat} (h : wantR l a s r = .ok ws i) : isT l a s = true ∧ r = .ok ws i := by
  unfold wantR at h
  split at h
  · exact ⟨by assumption, h⟩
  · cases h
theorem gram_prog (l : List Tkn) : ∀ f, (∀ a, Prog l a ((gram l f).e a)) ∧ (∀ a, Prog l a ((gram l f).s a)) ∧ (∀ a, Prog l a ((gram l f).p a)) ∧ (∀ a, Prog l a ((gram l f).u a))
  | 0 => ⟨fun _ _ _ h => (by cases h), fun _ _ _ h => (by cases h), fun _ _ _ h => (by cases h), fun _ _ _ h => (by cases h)⟩
  | f + 1 => by
    obtain ⟨he, hs, hp, hu⟩ := gram_prog l f
    refine ⟨fun a ws i h => ?_, fun a ws i h => ?_, fun a ws i h => ?_, fun a ws i h => ?_⟩
    · have h : exprR l (gram l f) a = .ok ws i := h
      unfold exprR at h
      split at h
      · obtain ⟨x, i1, h1, h⟩ := bind_ok h
        obtain ⟨t1, h⟩ := want_ok h
        obtain ⟨y, i2, h2, h⟩ := bind_ok h
        obtain ⟨t2, h⟩ := want_ok h
        obtain ⟨z, i3, h3, h⟩ := bind_ok h
        obtain ⟨t3, h⟩ := want_ok h
        obtain ⟨w, i4, h4, h⟩ := bind_ok h
        cases h
        have k1 := hs _ _ _ h1
        have k2 := hs _ _ _ h2
        have k3 := he _ _ _ h3
        have k4 := he _ _ _ h4
        simp only [List.length_append, List.length_cons, List.length_nil]
        omega
      · exact hs a ws i h
    · obtain ⟨q, j, h1, h⟩ := bind_ok (show bindR _ _ = _ from h)
      obtain ⟨k1, k2, k3⟩ := hp _ _ _ h1
      exact chain_prog hp _ q j a k1 k2 k3 ws i h
    · obtain ⟨q, j, h1, h⟩ := bind_ok (show bindR _ _ = _ from h)
      obtain ⟨k1, k2, k3⟩ := hu _ _ _ h1
      exact chain_prog hu _ q j a k1 k2 k3 ws i h
    · have h : unitR l (gram l f) a = .ok ws i := h
      unfold unitR unitR2 unitR3 at h
      split at h
      · rename_i v hv
        cases h
        unfold numW at hv
        split at hv
        · rename_i t ht
          have := (List.getElem?_eq_some_iff.1 ht).1
          simp; omega
        · cases hv
      · split at h
        · rename_i j hj
          cases h
          have : ∀ (ss : List (List UInt8)) (k : Nat), idxF (isT l a) ss = some k → a < l.length := by
            intro ss
            induction ss with
            | nil => intro k hk; cases hk
            | cons s r ih =>
              intro k hk
              rw [idxF] at hk
              split at hk
              · rename_i q; exact isT_lt q
              · cases hr : idxF (isT l a) r with
                | none => rw [hr] at hk; cases hk
                | some m => exact ih m hr
          have := this _ _ hj
          simp; omega
        · split at h
          · obtain ⟨t1, h⟩ := want_ok h
            obtain ⟨x, i1, h1, h⟩ := bind_ok h
            obtain ⟨t2, h⟩ := want_ok h
            obtain ⟨y, i2, h2, h⟩ := bind_ok h
            obtain ⟨t3, h⟩ := want_ok h
            cases h
            have k1 := he _ _ _ h1
            have k2 := he _ _ _ h2
            have := isT_lt t3
            simp only [List.length_append, List.length_cons, List.length_nil]
            omega
          · obtain ⟨t1, h⟩ := want_ok h
            obtain ⟨x, i1, h1, h⟩ := bind_ok h
            obtain ⟨t2, h⟩ := want_ok h
            cases h
            have k1 := he _ _ _ h1
            have := isT_lt t2
            omega
theorem chain_out {l : List Tkn} {g : Nat → PR} (hg : ∀ a, Prog l a (g a)) {s1 s2 : List UInt8} {o1 o2 : Int} {b : Nat} (hn : ∀ a, b < a → g a ≠ .out) : ∀ (f : Nat) (ws : List Wd) (a : Nat), b ≤ a → l.length - a < f → chainF l g s1 o1 s2 o2 f ws a ≠ .out
  | 0, ws, a, _, h => by omega
  | f + 1, ws, a, hb, h => by
    rw [chainF]
    split
    · rename_i ht
      have hlt : a < l.length := by
        rw [Bool.or_eq_true] at ht
        rcases ht with q | q
        · exact isT_lt q
        · exact isT_lt q
      cases hq : g (a + 1) with
      | ok q j =>
        obtain ⟨k1, k2, k3⟩ := hg (a + 1) q j hq
        exact chain_out hg hn f _ j (by omega) (by omega)
      | bad j => exact fun e => by cases e
      | out => exact absurd hq (hn _ (by omega))
    · exact fun e => by cases e
theorem bind_out {r : PR} {f : List Wd → Nat → PR} (h1 : r ≠ .out) (h2 : ∀ q j, r = .ok q j → f q j ≠ .out) : bindR r f ≠ .out := by
  cases r with
  | ok q j => exact h2 q j rfl
  | bad j => exact fun e => by cases e
  | out => exact absurd rfl h1
theorem want_out {l : List Tkn} {a : Nat} {s : List UInt8} {r : PR} (h : isT l a s = true → r ≠ .out) : wantR l a s r ≠ .out := by
  unfold wantR
  split
  · exact h (by assumption)
  · exact fun e => by cases e
theorem gram_deep (l : List Tkn) : ∀ m a, l.length - a ≤ m → (∀ f, 4 * m + 4 ≤ f → (gram l f).e a ≠ .out) ∧ (∀ f, 4 * m + 3 ≤ f → (gram l f).s a ≠ .out) ∧ (∀ f, 4 * m + 2 ≤ f → (gram l f).p a ≠ .out) ∧ (∀ f, 4 * m + 1 ≤ f → (gram l f).u a ≠ .out) := by
  intro m
  induction m using Nat.strongRecOn with
  | _ m ih =>
  intro a ha
  have later : ∀ b, a < b → a < l.length → (∀ f, 4 * m ≤ f → (gram l f).e b ≠ .out) ∧ (∀ f, 4 * m ≤ f → (gram l f).s b ≠ .out) ∧ (∀ f, 4 * m ≤ f → (gram l f).p b ≠ .out) ∧ (∀ f, 4 * m ≤ f → (gram l f).u b ≠ .out) := by
    intro b hb hl
    obtain ⟨h1, h2, h3, h4⟩ := ih (m - 1) (by omega) b (by omega)
    exact ⟨fun f hf => h1 f (by omega), fun f hf => h2 f (by omega), fun f hf => h3 f (by omega), fun f hf => h4 f (by omega)⟩
  have hu : ∀ f, 4 * m + 1 ≤ f → (gram l f).u a ≠ .out := by
    intro f hf
    obtain ⟨f, rfl⟩ : ∃ k, f = k + 1 := ⟨f - 1, by omega⟩
    show unitR l (gram l f) a ≠ .out
    unfold unitR unitR2 unitR3
    split
    · exact fun e => by cases e
    · split
      · exact fun e => by cases e
      · split
        · rename_i q
          have hlt : a < l.length := by
            rw [Bool.or_eq_true] at q
            rcases q with q | q <;> exact isT_lt q
          refine want_out fun t1 => bind_out ((later _ (by omega) hlt).1 f (by omega)) fun x i h1 => want_out fun t2 => ?_
          have k1 := (gram_prog l f).1 _ _ _ h1
          refine bind_out ((later _ (by omega) hlt).1 f (by omega)) fun y j h2 => want_out fun t3 => fun e => by cases e
        · refine want_out fun t1 => bind_out ((later _ (by omega) (isT_lt t1)).1 f (by omega)) fun x i h1 => want_out fun t2 => fun e => by cases e
  have hp : ∀ f, 4 * m + 2 ≤ f → (gram l f).p a ≠ .out := by
    intro f hf
    obtain ⟨f, rfl⟩ : ∃ k, f = k + 1 := ⟨f - 1, by omega⟩
    refine bind_out (hu f (by omega)) fun ws i h1 => ?_
    have k1 := (gram_prog l f).2.2.2 _ _ _ h1
    exact chain_out (gram_prog l f).2.2.2 (b := i) (fun b hb => (later b (by omega) (by omega)).2.2.2 f (by omega)) _ _ _ (Nat.le_refl _) (by omega)
  have hs : ∀ f, 4 * m + 3 ≤ f → (gram l f).s a ≠ .out := by
    intro f hf
    obtain ⟨f, rfl⟩ : ∃ k, f = k + 1 := ⟨f - 1, by omega⟩
    refine bind_out (hp f (by omega)) fun ws i h1 => ?_
    have k1 := (gram_prog l f).2.2.1 _ _ _ h1
    exact chain_out (gram_prog l f).2.2.1 (b := i) (fun b hb => (later b (by omega) (by omega)).2.2.1 f (by omega)) _ _ _ (Nat.le_refl _) (by omega)
  refine ⟨fun f hf => ?_, hs, hp, hu⟩
  obtain ⟨f, rfl⟩ : ∃ k, f = k + 1 := ⟨f - 1, by omega⟩
  show exprR l (gram l f) a ≠ .out
  unfold exprR
  split
  · rename_i q
    have hlt := isT_lt q
    refine bind_out ((later _ (by omega) hlt).2.1 f (by omega)) fun x i h1 => want_out fun t1 => ?_
    have k1 := (gram_prog l f).2.1 _ _ _ h1
    refine bind_out ((later _ (by omega) hlt).2.1 f (by omega)) fun y j h2 => want_out fun t2 => ?_
    have k2 := (gram_prog l f).2.1 _ _ _ h2
    refine bind_out ((later _ (by omega) hlt).1 f (by omega)) fun z k h3 => want_out fun t3 => ?_
    have k3 := (gram_prog l f).1 _ _ _ h3
    exact bind_out ((later _ (by omega) hlt).1 f (by omega)) fun w m' h4 e => by cases e
  · exact hs f (by omega)
end Go.AM
end
section
set_option maxRecDepth 20000
set_option linter.all false
set_option maxHeartbeats 1000000
namespace Go.AM
open Go.Proofs Go.Lib
abbrev pBox (l : List Tkn) (a : Nat) (tk : Tok) (ws : List Wd) : AObj := .box [.sl (.none 4) (l.map encK), .int .i64 a, .sl tk (ws.map encW)]
def tokW (H : AHeap) (tok : Tok) (out : List Wd) : Prop := (tok = .nil ∧ out = []) ∨ ∃ id, tok = .own id 2 ∧ hget H id = some .tok
def s50 : List AVal → AHeap → Prop × AVal := fun a H => match a with
  | [.ptr id 0, .str s] => match hget H id with
    | some (.box [.sl t L, .int .i64 p, x]) => (encdK L ∧ (t.esz = 4 ∨ L = []) ∧ t.esz = 4 ∧ 0 ≤ p, .bool (isT (L.map decK) p.toNat s))
    | _ => (False, .tup [])
  | _ => (False, .tup [])
theorem p50 {id : Nat} {H : AHeap} {n : Nat} {t : Tok} {l : List Tkn} {a : Nat} {x : AVal} {s : List UInt8} (ht : t.esz = 4) (ho : hget H id = some (.box [.sl t (l.map encK), .int .i64 a, x])) : Quiet Tryz.prog 50 [.ptr id 0, .str s] H n (.bool (isT l a s)) := by
  refine Quiet.of l50 trivial fun hf => a50 (ev_awp TabOK.tnil (ev_evK ?_))
  by_cases hlt : a < l.length
  · have hg := List.getElem?_eq_getElem hlt
    simp only [kont_nil, kont_n, k_ret, k_seq, k_reg, r_nil, r_v, r_vg, r_pick, penv, postC, rcs, rc1, rvS, gok, gvb, eget, lk, lkv, oks, AS.put, AS.keep, evk, Opk.opds, aload, isI, isInt, toI, isB, toB, isS, toS, sel, mk, icmp, AVal.cells, Tok.esz, List.length_cons, List.length_nil, List.filterMap, Option.map_some, reduceCtorEq, and_true, true_and, forall_const, Nat.reduceEqDiff, ↓reduceIte, Bool.false_eq_true, Nat.reduceAdd, List.drop, List.take, List.take_succ_cons, Nat.reduceLeDiff, List.headD_cons, Bool.true_and, Bool.and_true, beq_self_eq_true, implies_true, Nat.zero_add, Bool.cond_false_right, imp_self, beq_true, Bool.not_eq_true', Bool.not_eq_false', decide_eq_true_eq, decide_eq_false_iff_not, impA1, and_self, qret_eq, Nat.add_zero, wk_bool, decide_true, cond_true, c50, ho, List.length_map, Int.ofNat_lt, hlt, List.getElem?_map, hg, Option.getD_some, Int.toNat_natCast, Int.natCast_nonneg, scmp_eql]
    have e : (!decide (l[a].K = 2) && decide (l[a].T = s)) = isT l a s := by rw [isT, hg]; simp
    exact ⟨ht, fun _ => ht, e, Keeps.refl _⟩
  · simp only [kont_nil, kont_n, k_ret, k_seq, k_reg, r_nil, r_v, r_vg, r_pick, penv, postC, rcs, rc1, rvS, gok, gvb, eget, lk, lkv, oks, AS.put, AS.keep, evk, Opk.opds, aload, isI, isInt, toI, isB, toB, isS, toS, sel, mk, icmp, AVal.cells, Tok.esz, List.length_cons, List.length_nil, List.filterMap, Option.map_some, reduceCtorEq, and_true, true_and, forall_const, Nat.reduceEqDiff, ↓reduceIte, Bool.false_eq_true, Nat.reduceAdd, List.drop, List.take, List.take_succ_cons, Nat.reduceLeDiff, List.headD_cons, false_implies, implies_true, Nat.zero_add, imp_self, beq_true, impA1, and_self, qret_eq, Nat.add_zero, wk_bool, decide_false, Bool.and_false, cond_false, c50, ho, List.length_map, Int.ofNat_lt, hlt]
    exact ⟨by rw [isT, List.getElem?_eq_none (by omega)], Keeps.refl _⟩
theorem q50 : ∀ args H n, (s50 args H).1 → Quiet Tryz.prog 50 args H n (s50 args H).2 := by
  intro args H n hh
  unfold s50 at hh ⊢
  split at hh
  · rename_i id s
    split at hh
    · rename_i t L p x ho
      obtain ⟨h1, h2, h3, h4⟩ := hh
      obtain ⟨k, rfl⟩ : ∃ k : Nat, p = k := ⟨p.toNat, by omega⟩
      simp only []
      rw [h1] at ho
      exact p50 (a := k) h3 ho
    · exact hh.elim
  · exact hh.elim
theorem p30 : Pur Tryz.prog 30 [] (.sl (.none 1) (namesI.map .str)) := by
  refine .mk trivial ⟨trivial, unders_map (f := AVal.str) (fun x => trivial) _⟩ (a30 (ev_awp TabOK.tnil (ev_evK ?_)))
  simp only [kont_nil, kont_n, k_ret, k_seq, k_reg, r_nil, r_v, penv, postC, rcs, rc1, rvS, eget, lk, lkv, oks, AS.put, AS.keep, evk, evS_eq, allS, fillS, Opk.opds, nT, AVal.cells, List.length_cons, List.length_nil, List.filterMap, List.map_cons, List.map_nil, Option.map_some, true_and, ↓reduceIte, Nat.reduceLeDiff, Nat.reduceMul, Nat.reduceLT, List.set_cons_zero, List.set_cons_succ, List.replicate_succ, List.replicate_zero, Nat.zero_add, and_self, ret_eq, Nat.add_zero, c30]
  exact Wk.sl (.inl rfl)
def s30' : List AVal → AHeap → Prop × AVal := fun a H => match a with
  | [] => (True, .sl (.none 1) (namesI.map .str))
  | _ => (False, .tup [])
theorem q30' : ∀ args H n, (s30' args H).1 → Quiet Tryz.prog 30 args H n (s30' args H).2 := by
  intro args H n hh
  unfold s30' at hh ⊢
  split at hh
  · exact p30.quiet H n
  · exact hh.elim
def TA : Tab := tadd 50 s50 (tadd 30 s30' (fun _ _ _ => (False, .tup [])))
theorem TA_ok : TabOK Tryz.prog TA := (TabOK.tnil.add q30').add q50
theorem TA_50 (a : List AVal) (H : AHeap) : TA 50 a H = s50 a H := rfl
def idxW : Option Nat → Int
  | some i => i
  | none => -1
theorem idxF_some {p : List UInt8 → Bool} : ∀ (i : Nat) (ss : List (List UInt8)) (h : i < ss.length), p ss[i] = true → (∀ j (hj : j < ss.length), j < i → p ss[j] = false) → idxF p ss = some i
  | _, [], h, _, _ => by simp at h
  | 0, s :: r, h, h1, _ => by rw [idxF, if_pos (show p s = true from h1)]
  | i + 1, s :: r, h, h1, h2 => by
    have h0 : p s = false := h2 0 (by simp) (by omega)
    rw [idxF, if_neg (by rw [h0]; decide), idxF_some i r (by simpa using h) (by simpa using h1) fun j hj hji => by have := h2 (j + 1) (by simpa using hj) (by omega); simpa using this]
    rfl
theorem idxF_none {p : List UInt8 → Bool} : ∀ (ss : List (List UInt8)), (∀ j (hj : j < ss.length), p ss[j] = false) → idxF p ss = none
  | [], _ => rfl
  | s :: r, h => by
    have h0 : p s = false := h 0 (by simp)
    rw [idxF, if_neg (by rw [h0]; decide), idxF_none r fun j hj => by have := h (j + 1) (by simpa using hj); simpa using this]
    rfl
theorem p119 {id : Nat} {H : AHeap} {n : Nat} {l : List Tkn} {a : Nat} {x : AVal} {ss : List (List UInt8)} (ho : hget H id = some (.box [.sl (.none 4) (l.map encK), .int .i64 a, x])) (hl : ss.length ≤ 1000) :
    Quiet Tryz.prog 119 [.sl (.none 1) (ss.map .str), .fn (.func 50) [.ptr id 0] []] H n (.int .i64 (idxW (idxF (isT l a) ss))) := by
  refine Quiet.of l119 trivial fun hf => a119 (ev_awp TA_ok (ev_evK ?_))
  simp only [kont_n, k_seq, k_block, k_reg, r_nil, r_v, penv, eget, lk, lkv, oks, AS.put, AS.keep, evk, Opk.opds, List.filterMap, Option.map_some, reduceCtorEq, true_and, Nat.reduceEqDiff, ↓reduceIte, Nat.zero_add, and_self, Nat.add_zero, c119, List.length_map]
  refine k_loop (fun i : Nat => ⟨[(0, true, .sl (.none 1) (ss.map .str)), (1, true, .fn (.func 50) [.ptr id 0] []), (7, true, .int .i64 ss.length), (8, true, .int .i64 i)], H, n⟩)
    (fun i => i ≤ ss.length ∧ ∀ j (hj : j < ss.length), j < i → isT l a ss[j] = false) (fun i => ss.length - i) 0 rfl ⟨by omega, fun j _ hj => by omega⟩ ?_
  rintro i ⟨hi, hall⟩
  by_cases hlt : i < ss.length
  · have e := w64_succ (k := i) (by omega)
    have hg := List.getElem?_eq_getElem hlt
    simp only [kont_nil, kont_n, kont_e, kont_r, kont_bn, kont_be, kont_br, k_skip, k_exit, k_ret, k_seq, k_block, k_cond, k_reg, r_nil, r_v, r_call, callT, lpQ_n, lpQ_e, lpQ_r, postC, rcs, rc1, rvS, eget, lk, lkv, oks, AS.put, AS.keep, evk, Opk.opds, aload, isI, isInt, toI, isB, toB, mk, icmp, iarith, AVal.cells, Tok.esz, List.length_cons, List.length_nil, List.filterMap, List.map_cons, List.map_nil, List.append_nil, List.nil_append, List.cons_append, Option.map_some, reduceCtorEq, and_true, true_and, forall_const, Nat.reduceEqDiff, ↓reduceIte, Bool.false_eq_true, List.take, Int.reduceEq, Nat.le_refl, List.headD_cons, isDiv, false_implies, implies_true, Nat.zero_add, ne_eq, not_false_eq_true, and_self, true_or, qret_eq, Nat.add_zero, wk_int, decide_true, List.length_map, Int.ofNat_lt, hlt, List.getElem?_map, hg, Option.getD_some, Int.toNat_natCast, Int.natCast_nonneg, e, TA_50, s50, ho, encdK_map, decK_map]
    refine ⟨fun q => ⟨?_, Keeps.refl _⟩, fun q => .mk (i + 1) rfl ⟨hlt, fun j hj h1 => ?_⟩ (by omega)⟩
    · rw [idxF_some i ss hlt q hall]; rfl
    · by_cases h2 : j = i
      · subst h2; exact q
      · exact hall j hj (by omega)
  · simp only [kont_nil, kont_n, kont_e, kont_r, kont_bn, kont_be, kont_br, k_skip, k_exit, k_ret, k_seq, k_block, k_cond, k_reg, r_nil, r_v, r_call, callT, lpQ_n, lpQ_e, lpQ_r, postC, rcs, rc1, rvS, eget, lk, lkv, oks, AS.put, AS.keep, evk, Opk.opds, aload, isI, isInt, toI, isB, toB, mk, icmp, iarith, AVal.cells, Tok.esz, List.filterMap, List.map_cons, List.map_nil, List.append_nil, List.nil_append, List.cons_append, Option.map_some, reduceCtorEq, true_and, forall_const, Nat.reduceEqDiff, ↓reduceIte, Bool.false_eq_true, Int.reduceEq, isDiv, false_implies, implies_true, ne_eq, not_false_eq_true, and_self, qret_eq, Nat.add_zero, wk_int, decide_false, List.length_map, Int.ofNat_lt, hlt]
    refine ⟨?_, Keeps.refl _⟩
    rw [idxF_none ss fun j hj => hall j hj (by omega)]; rfl
structure Ps (H : AHeap) (n pid : Nat) (l : List Tkn) (a : Nat) (tk : Tok) (ws : List Wd) : Prop where
  box : hget H pid = some (pBox l a tk ws)
  tok : tokW H tk ws
  fr : Fresh H n
  al : a ≤ l.length
  ll : l.length ≤ 65536
def PPost (H : AHeap) (n pid : Nat) (l : List Tkn) (w0 : List Wd) : PR → AOut → AHeap → Nat → Prop
  | .ok ws a => fun o H' n' => o = .ret (.tup []) ∧ n ≤ n' ∧ FrameK pid H H' ∧ ∃ tk, Ps H' n' pid l a tk (w0 ++ ws)
  | .bad a => fun o H' n' => o = .pan (.ifc 46 (.int .i64 a)) ∧ n ≤ n' ∧ FrameK pid H H' ∧ Fresh H' n'
  | .out => fun _ _ _ => True
theorem Ps.move {H : AHeap} {n pid : Nat} {l : List Tkn} {a : Nat} {tk : Tok} {ws : List Wd} (h : Ps H n pid l a tk ws) (hlt : a < l.length) : Ps (hset H pid (pBox l (a + 1) tk ws)) n pid l (a + 1) tk ws ∧ FrameK pid H (hset H pid (pBox l (a + 1) tk ws)) := by
  have hp := h.fr.lt h.box
  refine ⟨⟨hget_hset_eq .., ?_, fun j hj => by rw [hget_hset_ne _ _ _ _ (by omega)]; exact h.fr j hj, hlt, h.ll⟩, fun j ob ho hj hne => by rw [hget_hset_ne _ _ _ _ (by omega)]; exact ho⟩
  rcases h.tok with q | ⟨id, rfl, hid⟩
  · exact .inl q
  · refine .inr ⟨id, rfl, ?_⟩
    rw [hget_hset_ne _ _ _ _ (by rintro rfl; rw [h.box] at hid; cases hid)]; exact hid
theorem p52 {H : AHeap} {n pid : Nat} {l : List Tkn} {a : Nat} {tk : Tok} {ws : List Wd} (h : Ps H n pid l a tk ws) (s : List UInt8) :
    ACalls Tryz.prog 52 [.ptr pid 0, .str s] H n (PPost H n pid l ws (if isT l a s then .ok [] (a + 1) else .bad a)) := by
  refine a52 (ev_awp TA_ok (ev_evK ?_))
  have hb := h.box
  have e := w64_succ (k := a) (by have := h.al; have := h.ll; omega)
  by_cases ht : isT l a s = true
  · obtain ⟨m1, m2⟩ := h.move (isT_lt ht)
    simp only [kont_nil, kont_n, kont_p, k_skip, k_seq, k_cond, k_reg, r_nil, r_v, r_st, r_call, r_pan, stE, callT, penv, postC, rcs, rvS, eget, lk, lkv, oks, AS.put, AS.keep, evk, splice, Opk.opds, aload, isI, toI, isB, toB, mk, iarith, nT, AVal.cells, Tok.esz, List.length_cons, List.length_nil, List.filterMap, List.map_cons, List.map_nil, List.append_nil, List.nil_append, List.cons_append, Option.map_some, reduceCtorEq, true_and, forall_const, Nat.reduceEqDiff, ↓reduceIte, Bool.false_eq_true, Nat.reduceAdd, List.drop, List.take, List.drop_succ_cons, List.take_succ_cons, Nat.reduceLeDiff, Int.reduceEq, List.headD_cons, isDiv, false_implies, implies_true, Nat.zero_add, Bool.not_eq_true', Bool.not_eq_false', ne_eq, not_false_eq_true, and_self, true_or, Nat.add_zero, c52, TA_50, s50, hb, encdK_map, decK_map, Int.natCast_nonneg, Int.toNat_natCast, ht, e]
    exact ⟨rfl, Nat.le_refl _, m2, tk, by rw [List.append_nil]; exact m1⟩
  · have ht' : isT l a s = false := by simpa using ht
    simp only [kont_nil, kont_n, kont_p, k_skip, k_seq, k_cond, k_reg, r_nil, r_v, r_st, r_call, r_pan, stE, callT, penv, postC, rcs, rvS, eget, lk, lkv, oks, AS.put, AS.keep, evk, splice, Opk.opds, aload, isI, toI, isB, toB, mk, iarith, nT, AVal.cells, Tok.esz, List.length_cons, List.length_nil, List.filterMap, List.map_cons, List.map_nil, List.append_nil, List.nil_append, List.cons_append, Option.map_some, reduceCtorEq, and_true, true_and, forall_const, Nat.reduceEqDiff, ↓reduceIte, Bool.false_eq_true, Nat.reduceAdd, List.drop, List.take, List.drop_succ_cons, List.take_succ_cons, Nat.reduceLeDiff, Int.reduceEq, List.headD_cons, isDiv, false_implies, implies_true, Nat.zero_add, Bool.not_eq_true', Bool.not_eq_false', ne_eq, not_false_eq_true, and_self, true_or, Nat.add_zero, c52, TA_50, s50, hb, encdK_map, decK_map, Int.natCast_nonneg, Int.toNat_natCast, ht', isF]
    exact ⟨rfl, Nat.le_refl _, .refl _ _, h.fr⟩
def EPost (H : AHeap) (n pid : Nat) (l : List Tkn) (a : Nat) (ws : List Wd) (o : AOut) (H' : AHeap) (n' : Nat) : Prop := o = .ret (.tup []) ∧ n ≤ n' ∧ FrameK pid H H' ∧ ∃ tk, Ps H' n' pid l a tk ws
theorem p53 {H : AHeap} {n pid : Nat} {l : List Tkn} {a : Nat} {tk : Tok} {ws : List Wd} (h : Ps H n pid l a tk ws) (o v : Int) (hw : ws.length ≤ 100000) :
    ACalls Tryz.prog 53 [.ptr pid 0, .int .i64 o, .int .i64 v] H n (EPost H n pid l a (ws ++ [⟨o, v⟩])) := by
  refine a53 (ev_awp TabOK.tnil (ev_evK ?_))
  have hb := h.box
  have hp := h.fr.lt hb
  have hn9 := h.fr (n + 9) (by omega)
  have f1 : (n + 9 = pid) = False := eq_false (by omega)
  have f2 : (pid = n + 9) = False := eq_false (by omega)
  have l1 : (ws.length ≤ 35184372088831) = True := eq_true (by omega)
  have l2 : small (ws.length + 1) 16 = True := eq_true (by unfold small; omega)
  have fin : ∀ H', hget H' pid = some (pBox l a (.own (n + 9) 2) (ws ++ [⟨o, v⟩])) → hget H' (n + 9) = some .tok → Fresh H' (n + 13) → FrameK pid H H' → EPost H n pid l a (ws ++ [⟨o, v⟩]) (.ret (.tup [])) H' (n + 13) :=
    fun H' k1 k2 k3 k4 => ⟨rfl, by omega, k4, .own (n + 9) 2, k1, .inr ⟨_, rfl, k2⟩, k3, h.al, h.ll⟩
  rcases h.tok with ⟨rfl, rfl⟩ | ⟨id, rfl, hid⟩
  · simp only [kont_nil, k_reg, r_nil, r_v, r_st, r_app, stE, appE, penv, postC, rcs, rvS, eget, lk, lkv, oks, AS.put, AS.keep, evk, evB_eq, allB, fillB, evS_eq, allS, fillS, splice, Opk.opds, aload, mk, nT, hget_hset, AVal.cells, Tok.esz, List.length_cons, List.length_nil, List.filterMap, List.map_cons, List.map_nil, List.append_nil, List.nil_append, List.cons_append, reduceCtorEq, and_true, true_and, Nat.reduceEqDiff, ↓reduceIte, Bool.false_eq_true, Nat.reduceAdd, List.drop, List.take, List.drop_succ_cons, List.take_succ_cons, Nat.reduceLeDiff, Nat.reduceMul, Nat.reduceLT, List.set_cons_zero, List.replicate_succ, List.replicate_zero, Nat.le_refl, List.headD_cons, Nat.zero_add, and_self, or_false, killTok, appOK, srcOf, c53, hb, hn9, f1]
    refine ⟨by unfold small; omega, fin _ (hget_hset_eq ..) ?_ ?_ ?_⟩
    · rw [hget_hset_ne _ _ _ _ (by omega)]; exact hget_hset_eq ..
    · intro j hj
      simp only [hget_hset]
      rw [if_neg (by omega), if_neg (by omega)]; exact h.fr j (by omega)
    · intro j ob ho hj hne
      have := h.fr.lt ho
      simp only [hget_hset]
      rw [if_neg (by omega), if_neg (by omega)]; exact ho
  · have hidn := h.fr.lt hid
    have g1 : (id = pid) = False := eq_false (by rintro rfl; rw [hb] at hid; cases hid)
    have g2 : (n + 9 = id) = False := eq_false (by omega)
    have g3 : (id = n + 9) = False := eq_false (by omega)
    have hids : id ≠ pid := by rintro rfl; rw [hb] at hid; cases hid
    simp only [kont_nil, k_reg, r_nil, r_v, r_st, r_app, stE, appE, penv, postC, rcs, rvS, eget, lk, lkv, oks, AS.put, AS.keep, evk, evB_eq, allB, fillB, evS_eq, allS, fillS, splice, Opk.opds, aload, mk, nT, hget_hset, AVal.cells, Tok.esz, List.length_cons, List.length_nil, List.filterMap, List.map_cons, List.map_nil, List.append_nil, List.nil_append, List.cons_append, reduceCtorEq, true_and, Nat.reduceEqDiff, ↓reduceIte, Bool.false_eq_true, Nat.reduceAdd, List.drop, List.take, List.drop_succ_cons, List.take_succ_cons, Nat.reduceLeDiff, Nat.reduceMul, Nat.reduceLT, List.set_cons_zero, List.replicate_succ, List.replicate_zero, Nat.le_refl, List.headD_cons, Nat.zero_add, and_self, or_false, killTok, appOK, srcOf, c53, hb, hn9, f1, l1, l2, g1, hid, List.length_map]
    refine fin _ ?_ ?_ ?_ ?_
    · rw [hget_hset_eq]; simp only [pBox, List.map_append, List.map_cons, List.map_nil]
    · rw [hget_hset_ne _ _ _ _ (by omega)]; exact hget_hset_eq ..
    · intro j hj
      simp only [hget_hset]
      rw [if_neg (by omega), if_neg (by omega), if_neg (by omega)]; exact h.fr j (by omega)
    · intro j ob ho hj hne
      have := h.fr.lt ho
      have hji : id ≠ j := by rintro rfl; rw [hid] at ho; cases ho; exact hne rfl
      simp only [hget_hset]
      rw [if_neg (by omega), if_neg (by omega), if_neg hji]; exact ho
theorem PPost.from {H H1 : AHeap} {n n1 pid : Nat} {l : List Tkn} {w0 v : List Wd} {r : PR} {o : AOut} {H' : AHeap} {m : Nat} (hn : n ≤ n1) (hf : FrameK pid H H1) (h : PPost H1 n1 pid l (w0 ++ v) r o H' m) :
    PPost H n pid l w0 (bindR r fun ws i => .ok (v ++ ws) i) o H' m := by
  cases r with
  | ok ws a => obtain ⟨h1, h2, h3, tk, h4⟩ := h; exact ⟨h1, by omega, hf.trans h3, tk, by rw [← List.append_assoc]; exact h4⟩
  | bad a => obtain ⟨h1, h2, h3, h4⟩ := h; exact ⟨h1, by omega, hf.trans h3, h4⟩
  | out => trivial
theorem pp_call {H : AHeap} {n pid : Nat} {l : List Tkn} {w : List Wd} {r : PR} {f : FuncId} {args : List AVal} {b : Nat} {d : Option Nat} {kp : List Nat} {ops : List AOp} {k : List Item} {s : AS} {T : Tab} {Q : AExit → AS → Prop}
    (h : ACalls Tryz.prog f args H n (PPost H n pid l w r)) (ho : r ≠ .out)
    (go : ∀ ws i tk H' n', r = .ok ws i → n ≤ n' → FrameK pid H H' → Ps H' n' pid l i tk (w ++ ws) → retK Tryz.prog T b d ops kp k Q s (.ret (.tup [])) H' n')
    (stop : ∀ a H' n', r = .bad a → n ≤ n' → FrameK pid H H' → Fresh H' n' → kont Tryz.prog T Q k (.pan (.ifc 46 (.int .i64 a))) ⟨[], H', n'⟩) :
    ACalls Tryz.prog f args H n (retK Tryz.prog T b d ops kp k Q s) := by
  refine h.mono fun o H' m hp => ?_
  cases r with
  | ok ws a =>
    obtain ⟨rfl, h2, h3, tk, h4⟩ := hp
    exact go ws a tk H' m rfl h2 h3 h4
  | bad a =>
    obtain ⟨rfl, h2, h3, h4⟩ := hp
    exact stop a H' m rfl h2 h3 h4
  | out => exact absurd rfl ho
theorem pp_emit {H : AHeap} {n pid : Nat} {l : List Tkn} {a : Nat} {w : List Wd} {f : FuncId} {args : List AVal} {b : Nat} {d : Option Nat} {kp : List Nat} {ops : List AOp} {k : List Item} {s : AS} {T : Tab} {Q : AExit → AS → Prop}
    (h : ACalls Tryz.prog f args H n (EPost H n pid l a w))
    (go : ∀ tk H' n', n ≤ n' → FrameK pid H H' → Ps H' n' pid l a tk w → retK Tryz.prog T b d ops kp k Q s (.ret (.tup [])) H' n') : ACalls Tryz.prog f args H n (retK Tryz.prog T b d ops kp k Q s) := by
  refine h.mono fun o H' m hp => ?_
  obtain ⟨rfl, h2, h3, tk, h4⟩ := hp
  exact go tk H' m h2 h3 h4
end Go.AM
end
section
set_option maxRecDepth 20000
set_option linter.all false
set_option maxHeartbeats 1000000
namespace Go.AM
open Go.Proofs Go.Lib
structure V88 where
  f : Nat
  i : Nat
  ws : List Wd
  tk : Tok
  H : AHeap
  n : Nat
def PartOK (fid : FuncId) (l : List Tkn) (g : Nat → PR) : Prop := ∀ pid a tk w H n, Ps H n pid l a tk w → w.length ≤ a → g a ≠ .out → ACalls Tryz.prog fid [.ptr pid 0] H n (PPost H n pid l w (g a))
theorem p88 {fid : FuncId} {l : List Tkn} {g : Nat → PR} (hg : PartOK fid l g) (hp : ∀ a, Prog l a (g a)) (s1 : List UInt8) (o1 : Int) (s2 : List UInt8) (o2 : Int)
    {pid a : Nat} {tk : Tok} {w : List Wd} {H : AHeap} {n : Nat} (h : Ps H n pid l a tk w) (hw : w.length ≤ a) (ho : (bindR (g a) fun ws i => chainF l g s1 o1 s2 o2 (l.length + 1) ws i) ≠ .out) :
    ACalls Tryz.prog 88 [.ptr pid 0, .fn (.func fid) [.ptr pid 0] [], .str s1, .int .i64 o1, .str s2, .int .i64 o2] H n (PPost H n pid l w (bindR (g a) fun ws i => chainF l g s1 o1 s2 o2 (l.length + 1) ws i)) := by
  refine a88 (ev_awp TA_ok (ev_evK ?_))
  simp only [eE, reduceCtorEq, ↓reduceIte, Nat.reduceAdd, c88, callI]
  have ho1 : g a ≠ .out := fun q => ho (by rw [q]; rfl)
  refine pp_call (hg pid a tk w H n h hw ho1) ho1 (fun ws i tk1 H1 n1 hr hn1 hf1 h1 => ?_) (fun b H1 n1 hr hn1 hf1 h1 => ?_)
  · rw [hr] at ho ⊢
    have hb0 : (bindR (PR.ok ws i) fun ws i => chainF l g s1 o1 s2 o2 (l.length + 1) ws i) = chainF l g s1 o1 s2 o2 (l.length + 1) ws i := rfl
    rw [hb0] at ho ⊢
    obtain ⟨k1, k2, k3⟩ := hp _ _ _ hr
    generalize hT : chainF l g s1 o1 s2 o2 (l.length + 1) ws i = tgt at ho ⊢
    simp only [eE, eN, reduceCtorEq, Nat.reduceEqDiff, ↓reduceIte, retK]
    refine k_loop (fun v : V88 => ⟨[(0, true, .ptr pid 0), (1, true, .fn (.func fid) [.ptr pid 0] []), (2, true, .str s1), (3, true, .int .i64 o1), (4, true, .str s2), (5, true, .int .i64 o2)], v.H, v.n⟩)
      (fun v => n ≤ v.n ∧ FrameK pid H v.H ∧ Ps v.H v.n pid l v.i v.tk (w ++ v.ws) ∧ a < v.i ∧ a + v.ws.length ≤ v.i ∧ chainF l g s1 o1 s2 o2 v.f v.ws v.i = tgt) (fun v => v.f)
      ⟨l.length + 1, i, ws, tk1, H1, n1⟩ rfl ⟨hn1, hf1, h1, k1, k3, hT⟩ ?_
    rintro ⟨f, j, vs, tk2, H2, n2⟩ ⟨hn2, hf2, h2, hj, hlen, heq⟩
    simp only at hn2 hf2 h2 hj hlen heq
    have hb := h2.box
    have hal := h2.al
    have hll := h2.ll
    have e := w64_succ (k := j) (by omega)
    cases f with
    | zero => exact absurd heq.symm (by rw [chainF]; exact ho)
    | succ f =>
      rw [chainF] at heq
      by_cases t : (isT l j s1 || isT l j s2) = true
      · rw [if_pos t] at heq
        have hlt : j < l.length := by
          rw [Bool.or_eq_true] at t
          rcases t with q | q <;> exact isT_lt q
        obtain ⟨m1, m2⟩ := h2.move hlt
        have ho2 : g (j + 1) ≠ .out := fun q => ho (heq.symm.trans (by rw [q]; rfl))
        have hw1 : (w ++ vs).length ≤ j + 1 := by rw [List.length_append]; omega
        have cases3 : (isT l j s1 = true ∧ isT l j s2 = true) ∨ (isT l j s1 = true ∧ isT l j s2 = false) ∨ (isT l j s1 = false ∧ isT l j s2 = true) := by
          cases q1 : isT l j s1 <;> cases q2 : isT l j s2 <;> simp_all
        rcases cases3 with ⟨t1, t2⟩ | ⟨t1, t2⟩ | ⟨t1, t2⟩
        all_goals
          rw [t2] at heq
          simp only [eE, eN, k_cond, sel, reduceCtorEq, Nat.reduceEqDiff, ↓reduceIte, Nat.reduceAdd, Nat.reduceLeDiff, Int.reduceEq, TA_50, s50, hb, encdK_map, decK_map, Int.natCast_nonneg, Int.toNat_natCast, t1, t2, e, callI]
          refine pp_call (hg pid (j + 1) tk2 (w ++ vs) _ n2 m1 hw1 ho2) ho2 (fun q j' tk3 H3 n3 hr3 hn3 hf3 h3 => ?_) (fun b H3 n3 hr3 hn3 hf3 h3 => ?_)
          · rw [hr3] at heq
            obtain ⟨k4, k5, k6⟩ := hp _ _ _ hr3
            have hsz : (w ++ vs ++ q).length ≤ 100000 := by simp only [List.length_append] at hw1 ⊢; omega
            simp only [eE, eN, reduceCtorEq, Nat.reduceEqDiff, ↓reduceIte, retK, callI]
            refine pp_emit (p53 h3 _ 0 hsz) (fun tk4 H4 n4 hn4 hf4 h4 => ?_)
            simp only [eE, eN, reduceCtorEq, Nat.reduceEqDiff, ↓reduceIte, retK]
            refine .mk ⟨f, j', _, tk4, H4, n4⟩ rfl ⟨by simp only []; omega, hf2.trans (m2.trans (hf3.trans hf4)), ?_, by simp only []; omega, ?_, heq⟩ (by simp only []; omega)
            · simp only [← List.append_assoc]; exact h4
            · simp only [List.length_append, List.length_cons, List.length_nil]; omega
          · rw [hr3] at heq
            rw [← heq]
            simp only [eE, eN, ↓reduceIte]
            exact ⟨rfl, by omega, hf2.trans (m2.trans hf3), h3⟩
      · rw [if_neg t] at heq
        have t1 : isT l j s1 = false := by cases q : isT l j s1 <;> simp_all
        have t2 : isT l j s2 = false := by cases q : isT l j s2 <;> simp_all
        rw [← heq]
        simp only [eE, eN, k_cond, sel, reduceCtorEq, Nat.reduceEqDiff, ↓reduceIte, Nat.reduceAdd, Nat.reduceLeDiff, Int.reduceEq, TA_50, s50, hb, encdK_map, decK_map, Int.natCast_nonneg, Int.toNat_natCast, t1, t2]
        exact ⟨rfl, hn2, hf2, tk2, h2⟩
  · rw [hr]
    simp only [eE, eN]
    exact ⟨rfl, hn1, hf1, h1⟩
end Go.AM
end
section
set_option maxRecDepth 20000
set_option linter.all false
set_option maxHeartbeats 1000000
namespace Go.AM
open Go.Proofs Go.Lib
def sndA : ACode → ACode
  | .seq _ y => y
  | c => c
theorem pp_tail {H : AHeap} {n pid : Nat} {l : List Tkn} {w : List Wd} {r : PR} (hr : r ≠ .out) {T : Tab} {b : Nat} {d : Option Nat} {kp : List Nat} {s : AS} {o : AOut} {H' : AHeap} {m : Nat} (hp : PPost H n pid l w r o H' m) :
    retK Tryz.prog T b d [] kp [] (postC [] (PPost H n pid l w r)) s o H' m := by
  have hp' := hp
  cases r with
  | ok a ts => obtain ⟨rfl, -⟩ := hp'; simp only [eE, eN, retK]; cases d <;> exact hp
  | bad a => obtain ⟨rfl, -⟩ := hp'; simp only [eE, eN, retK]; exact hp
  | out => exact absurd rfl hr
theorem p51 {l : List Tkn} {g : Nat → PR} (hg : PartOK 89 l g) (hp : ∀ a, Prog l a (g a)) : PartOK 51 l fun a => bindR (g a) fun ws i => chainF l g [43] 3 [45] 4 (l.length + 1) ws i := by
  intro pid a tk w H n h hw ho
  refine a51 (ev_awp TA_ok (ev_evK ?_))
  simp only [eE, reduceCtorEq, Nat.reduceEqDiff, ↓reduceIte, c51, callI]
  exact (p88 hg hp [43] 3 [45] 4 h hw ho).mono fun o H' m q => pp_tail ho q
theorem p89 {l : List Tkn} {g : Nat → PR} (hg : PartOK 107 l g) (hp : ∀ a, Prog l a (g a)) : PartOK 89 l fun a => bindR (g a) fun ws i => chainF l g [42] 5 [47] 6 (l.length + 1) ws i := by
  intro pid a tk w H n h hw ho
  refine a89 (ev_awp TA_ok (ev_evK ?_))
  simp only [eE, reduceCtorEq, Nat.reduceEqDiff, ↓reduceIte, c89, callI]
  exact (p88 hg hp [42] 5 [47] 6 h hw ho).mono fun o H' m q => pp_tail ho q
theorem kont_pan {P : Program} {T : Tab} {Q : AExit → AS → Prop} {v : AVal} {s : AS} : ∀ (k : List Item), kont P T Q k (.pan v) s = Q (.pan v) s
  | [] => kont_nil
  | .c c :: k => by rw [kont_p]; exact kont_pan k
  | .blk i :: k => by rw [kont_bp]; exact kont_pan k
section
variable {l : List Tkn} {pid a n n1 : Nat} {tk : Tok} {w w1 : List Wd} {H H1 : AHeap} {T : Tab} {b : Nat} {d : Option Nat} {kp : List Nat} {ops : List AOp} {k : List Item} {st : AS}
theorem pp_want {s : List UInt8} {R : PR} (h : Ps H1 n1 pid l a tk w1) (hn : n ≤ n1) (hf : FrameK pid H H1) (ho : wantR l a s R ≠ .out)
    (go : isT l a s = true → R ≠ .out → ∀ tk' H' n', n ≤ n' → FrameK pid H H' → Ps H' n' pid l (a + 1) tk' w1 → retK Tryz.prog T b d ops kp k (postC [] (PPost H n pid l w R)) st (.ret (.tup [])) H' n') :
    ACalls Tryz.prog 52 [.ptr pid 0, .str s] H1 n1 (retK Tryz.prog T b d ops kp k (postC [] (PPost H n pid l w (wantR l a s R))) st) := by
  refine (p52 h s).mono fun o H' m hp => ?_
  by_cases t : isT l a s = true
  · rw [if_pos t] at hp
    obtain ⟨rfl, h2, h3, tk', h4⟩ := hp
    rw [List.append_nil] at h4
    have e : wantR l a s R = R := by unfold wantR; rw [if_pos t]
    rw [e] at ho ⊢
    exact go t ho tk' H' m (by omega) (hf.trans h3) h4
  · rw [if_neg t] at hp
    obtain ⟨rfl, h2, h3, h4⟩ := hp
    have e : wantR l a s R = .bad a := by unfold wantR; rw [if_neg t]
    rw [e]
    show kont _ _ _ _ _ _
    rw [kont_pan]
    exact ⟨rfl, Nat.le_trans hn h2, hf.trans h3, h4⟩
theorem pp_part {fid : FuncId} {g : Nat → PR} {K : List Wd → Nat → PR} (hg : PartOK fid l g) (h : Ps H1 n1 pid l a tk w1) (hw : w1.length ≤ a) (hn : n ≤ n1) (hf : FrameK pid H H1) (ho : bindR (g a) K ≠ .out)
    (go : ∀ x i, g a = .ok x i → K x i ≠ .out → ∀ tk' H' n', n ≤ n' → FrameK pid H H' → Ps H' n' pid l i tk' (w1 ++ x) → retK Tryz.prog T b d ops kp k (postC [] (PPost H n pid l w (K x i))) st (.ret (.tup [])) H' n') :
    ACalls Tryz.prog fid [.ptr pid 0] H1 n1 (retK Tryz.prog T b d ops kp k (postC [] (PPost H n pid l w (bindR (g a) K))) st) := by
  have ho1 : g a ≠ .out := fun q => ho (by rw [q]; rfl)
  refine (hg pid a tk w1 H1 n1 h hw ho1).mono fun o H' m hp => ?_
  cases hr : g a with
  | ok x i =>
    rw [hr] at hp ho
    obtain ⟨rfl, h2, h3, tk', h4⟩ := hp
    exact go x i hr ho tk' H' m (by omega) (hf.trans h3) h4
  | bad i =>
    rw [hr] at hp
    obtain ⟨rfl, h2, h3, h4⟩ := hp
    show kont _ _ _ _ _ _
    rw [kont_pan]
    exact ⟨rfl, Nat.le_trans hn h2, hf.trans h3, h4⟩
  | out => exact absurd hr ho1
end
def s119 : List AVal → AHeap → Prop × AVal := fun a H => match a with
  | [.sl (.none 1) L, .fn (.func 50) [.ptr id 0] []] => match hget H id with
    | some (.box [.sl (.none 4) M, .int .i64 p, x]) => (L = namesI.map .str ∧ encdK M ∧ 0 ≤ p, .int .i64 (idxW (idxF (isT (M.map decK) p.toNat) namesI)))
    | _ => (False, .tup [])
  | _ => (False, .tup [])
theorem q119 : ∀ args H n, (s119 args H).1 → Quiet Tryz.prog 119 args H n (s119 args H).2 := by
  intro args H n hh
  unfold s119 at hh ⊢
  split at hh
  · rename_i L id
    split at hh
    · rename_i M p x ho
      obtain ⟨rfl, h2, h3⟩ := hh
      obtain ⟨k, rfl⟩ : ∃ k : Nat, p = k := ⟨p.toNat, by omega⟩
      simp only []
      rw [h2] at ho
      exact p119 (a := k) ho (by decide)
    · exact hh.elim
  · exact hh.elim
def TB : Tab := tadd 119 s119 TA
theorem TB_ok : TabOK Tryz.prog TB := TA_ok.add q119
theorem TB_50 (a : List AVal) (H : AHeap) : TB 50 a H = s50 a H := rfl
theorem TB_30 (a : List AVal) (H : AHeap) : TB 30 a H = s30' a H := rfl
theorem TB_119 (a : List AVal) (H : AHeap) : TB 119 a H = s119 a H := rfl
theorem p107 {l : List Tkn} {g : Grm} (hg : PartOK 23 l g.e) (hp : ∀ a, Prog l a (g.e a)) : PartOK 107 l (unitR l g) := by
  intro pid a tk w H n h hw ho
  refine a107 (ev_awp TB_ok (ev_evK ?_))
  have hb := h.box
  have hal := h.al
  have hll := h.ll
  have e := w64_succ (k := a) (by omega)
  have hw5 : w.length ≤ 100000 := by omega
  cases hnum : numW l a with
  | some v =>
    obtain ⟨hlt, hK, hN, rfl⟩ : ∃ hlt : a < l.length, l[a].K = 2 ∧ l[a].N ≤ 1048576 ∧ l[a].N = v := by
      unfold numW at hnum
      split at hnum
      · rename_i t ht
        obtain ⟨hlt, rfl⟩ := List.getElem?_eq_some_iff.1 ht
        split at hnum
        · rename_i q; cases hnum; exact ⟨hlt, q.1, q.2, rfl⟩
        · cases hnum
      · cases hnum
    have hg' := List.getElem?_eq_getElem hlt
    have hKT : (l[a].K = 2) = True := eq_true hK
    have hNT : (l[a].N ≤ 1048576) = True := eq_true hN
    have hres : unitR l g a = .ok [⟨1, l[a].N⟩] (a + 1) := by unfold unitR; rw [hnum]
    rw [hres]
    simp only [eE, eN, k_cond, sel, reduceCtorEq, Nat.reduceEqDiff, ↓reduceIte, Nat.reduceAdd, Nat.reduceLeDiff, Int.reduceEq, c107, hb, List.length_map, Int.ofNat_lt, hlt, List.getElem?_map, hg', Option.getD_some, Int.toNat_natCast, Int.natCast_nonneg, hKT, hNT, callI]
    refine pp_emit (p53 h 1 l[a].N hw5) (fun tk1 H1 n1 hn1 hf1 h1 => ?_)
    have hb1 := h1.box
    obtain ⟨m1, m2⟩ := h1.move hlt
    simp only [eE, eN, reduceCtorEq, Nat.reduceEqDiff, ↓reduceIte, Nat.reduceAdd, Nat.reduceLeDiff, Int.reduceEq, retK, hb1, e]
    exact ⟨rfl, hn1, hf1.trans m2, tk1, m1⟩
  | none =>
    have hres : unitR l g a = unitR2 l g a := by unfold unitR; rw [hnum]
    rw [hres] at ho ⊢
    have rest : kont Tryz.prog TB (postC [] (PPost H n pid l w (unitR2 l g a))) [.c (sndA c107)] .normal ⟨[(0, true, .ptr pid 0), (41, true, .bool false)], H, n⟩ := by
      cases hidx : idxF (isT l a) namesI with
      | some i =>
        have hlt : a < l.length := by
          have : ∀ (ss : List (List UInt8)) (k : Nat), idxF (isT l a) ss = some k → a < l.length := by
            intro ss
            induction ss with
            | nil => intro k hk; cases hk
            | cons s r ih =>
              intro k hk
              rw [idxF] at hk
              split at hk
              · rename_i q; exact isT_lt q
              · cases hr : idxF (isT l a) r with
                | none => rw [hr] at hk; cases hk
                | some m => exact ih m hr
          exact this _ _ hidx
        have hr2 : unitR2 l g a = .ok [⟨2, i⟩] (a + 1) := by unfold unitR2; rw [hidx]
        rw [hr2]
        simp only [eE, eN, k_cond, reduceCtorEq, Nat.reduceEqDiff, ↓reduceIte, Nat.reduceAdd, Nat.reduceLeDiff, Int.reduceEq, c107, sndA, TB_30, s30', TB_119, s119, hb, encdK_map, decK_map, Int.natCast_nonneg, Int.toNat_natCast, hidx, idxW, callI]
        refine pp_emit (p53 h 2 i hw5) (fun tk1 H1 n1 hn1 hf1 h1 => ?_)
        have hb1 := h1.box
        obtain ⟨m1, m2⟩ := h1.move hlt
        simp only [eE, eN, reduceCtorEq, Nat.reduceEqDiff, ↓reduceIte, Nat.reduceAdd, Nat.reduceLeDiff, Int.reduceEq, retK, hb1, e]
        exact ⟨rfl, hn1, hf1.trans m2, tk1, m1⟩
      | none =>
        have hr2 : unitR2 l g a = unitR3 l g a := by unfold unitR2; rw [hidx]
        rw [hr2] at ho ⊢
        by_cases tm : (isT l a sMin || isT l a sMax) = true
        · have hlt : a < l.length := by
            rw [Bool.or_eq_true] at tm
            rcases tm with q | q <;> exact isT_lt q
          have hr3 : unitR3 l g a = wantR l (a + 1) [40] (bindR (g.e (a + 2)) fun x i => wantR l i [44] (bindR (g.e (i + 1)) fun y j => wantR l j [41] (.ok (x ++ y ++ [⟨if isT l a sMax then 8 else 7, 0⟩]) (j + 1)))) := by unfold unitR3; rw [if_pos tm]
          rw [hr3] at ho ⊢
          obtain ⟨m1, m2⟩ := h.move hlt
          have cases2 : (isT l a sMin = true ∧ isT l a sMax = false) ∨ (isT l a sMin = false ∧ isT l a sMax = true) := by
            cases q1 : isT l a sMin with
            | true => exact .inl ⟨rfl, isT_one q1 (by decide)⟩
            | false => exact .inr ⟨rfl, by simpa [q1] using tm⟩
          rcases cases2 with ⟨t1, t2⟩ | ⟨t1, t2⟩
          all_goals
            rw [t2] at ho ⊢
            simp only [eE, eN, k_cond, reduceCtorEq, Nat.reduceEqDiff, ↓reduceIte, Nat.reduceAdd, Nat.reduceLeDiff, Int.reduceEq, Int.reduceLE, c107, sndA, TB_30, s30', TB_119, s119, TB_50, s50, hb, encdK_map, decK_map, Int.natCast_nonneg, Int.toNat_natCast, hidx, idxW, callI, t1, t2, e]
            refine pp_want m1 (Nat.le_refl _) m2 ho fun u1 ho1 tk1 H1 n1 hn1 hf1 h1 => ?_
            simp only [eE, eN, reduceCtorEq, Nat.reduceEqDiff, ↓reduceIte, retK, callI]
            refine pp_part hg h1 (by omega) hn1 hf1 ho1 fun x i hx ho2 tk2 H2 n2 hn2 hf2 h2 => ?_
            obtain ⟨k1, k2, k3⟩ := hp _ _ _ hx
            simp only [eE, eN, reduceCtorEq, Nat.reduceEqDiff, ↓reduceIte, retK, callI]
            refine pp_want h2 hn2 hf2 ho2 fun u2 ho3 tk3 H3 n3 hn3 hf3 h3 => ?_
            simp only [eE, eN, reduceCtorEq, Nat.reduceEqDiff, ↓reduceIte, retK, callI]
            refine pp_part hg h3 (by simp only [List.length_append]; omega) hn3 hf3 ho3 fun y j hy ho4 tk4 H4 n4 hn4 hf4 h4 => ?_
            obtain ⟨k4, k5, k6⟩ := hp _ _ _ hy
            simp only [eE, eN, reduceCtorEq, Nat.reduceEqDiff, ↓reduceIte, retK, callI]
            refine pp_want h4 hn4 hf4 ho4 fun u3 ho5 tk5 H5 n5 hn5 hf5 h5 => ?_
            simp only [eE, eN, reduceCtorEq, Nat.reduceEqDiff, ↓reduceIte, retK, callI]
            refine pp_emit (p53 h5 _ 0 (by simp only [List.length_append]; omega)) fun tk6 H6 n6 hn6 hf6 h6 => ?_
            simp only [eE, eN, retK]
            exact ⟨rfl, by omega, hf5.trans hf6, tk6, by simpa only [List.append_assoc] using h6⟩
        · have hr3 : unitR3 l g a = wantR l a [40] (bindR (g.e (a + 1)) fun x i => wantR l i [41] (.ok x (i + 1))) := by unfold unitR3; rw [if_neg tm]
          rw [hr3] at ho ⊢
          have t1 : isT l a sMin = false := by cases q : isT l a sMin <;> simp_all
          have t2 : isT l a sMax = false := by cases q : isT l a sMax <;> simp_all
          simp only [eE, eN, k_cond, reduceCtorEq, Nat.reduceEqDiff, ↓reduceIte, Nat.reduceAdd, Nat.reduceLeDiff, Int.reduceEq, Int.reduceLE, c107, sndA, TB_30, s30', TB_119, s119, TB_50, s50, hb, encdK_map, decK_map, Int.natCast_nonneg, Int.toNat_natCast, hidx, idxW, callI, t1, t2, e]
          refine pp_want h (Nat.le_refl _) (.refl _ _) ho fun u1 ho1 tk1 H1 n1 hn1 hf1 h1 => ?_
          simp only [eE, eN, reduceCtorEq, ↓reduceIte, retK, callI]
          refine pp_part hg h1 (by omega) hn1 hf1 ho1 fun x i hx ho2 tk2 H2 n2 hn2 hf2 h2 => ?_
          simp only [eE, eN, reduceCtorEq, ↓reduceIte, retK, callI]
          refine pp_want h2 hn2 hf2 ho2 fun u2 ho3 tk3 H3 n3 hn3 hf3 h3 => ?_
          simp only [eE, eN, retK]
          exact ⟨rfl, by omega, hf3, tk3, h3⟩
    by_cases hlt : a < l.length
    · have hg' := List.getElem?_eq_getElem hlt
      by_cases hK : l[a].K = 2
      · have hKT : (l[a].K = 2) = True := eq_true hK
        have hNT : (l[a].N ≤ 1048576) = False := eq_false fun q => by unfold numW at hnum; rw [hg'] at hnum; simp [hK, q] at hnum
        simp only [eE, sel, reduceCtorEq, Nat.reduceEqDiff, ↓reduceIte, Nat.reduceAdd, Nat.reduceLeDiff, c107, hb, List.length_map, Int.ofNat_lt, hlt, List.getElem?_map, hg', Option.getD_some, Int.toNat_natCast, Int.natCast_nonneg, hKT, hNT]
        rw [kont_n]
        simp only [eE, k_cond, reduceCtorEq, Nat.reduceEqDiff, ↓reduceIte, Nat.reduceAdd]
        exact rest
      · have hKT : (l[a].K = 2) = False := eq_false hK
        simp only [eE, sel, reduceCtorEq, Nat.reduceEqDiff, ↓reduceIte, Nat.reduceAdd, Nat.reduceLeDiff, c107, hb, List.length_map, Int.ofNat_lt, hlt, List.getElem?_map, hg', Option.getD_some, Int.toNat_natCast, Int.natCast_nonneg, hKT]
        rw [kont_n]
        simp only [eE, k_cond, reduceCtorEq, Nat.reduceEqDiff, ↓reduceIte, Nat.reduceAdd]
        exact rest
    · simp only [eE, sel, reduceCtorEq, Nat.reduceEqDiff, ↓reduceIte, Nat.reduceAdd, Nat.reduceLeDiff, c107, hb, List.length_map, Int.ofNat_lt, hlt, false_and, and_false]
      rw [kont_n]
      simp only [eE, k_cond, reduceCtorEq, Nat.reduceEqDiff, ↓reduceIte, Nat.reduceAdd]
      exact rest
end Go.AM
end
section
set_option maxRecDepth 20000
set_option linter.all false
set_option maxHeartbeats 1000000
namespace Go.AM
open Go.Proofs Go.Lib
theorem Ps.ext {H G : AHeap} {n m i pid : Nat} {l : List Tkn} {a : Nat} {tk : Tok} {ws : List Wd} (h : Ps H n pid l a tk ws) (hG : ∀ j, j ≠ i → hget G j = hget H j) (hi : n ≤ i) (hm : i < m) : Ps G m pid l a tk ws ∧ FrameK pid H G := by
  have hp := h.fr.lt h.box
  refine ⟨⟨by rw [hG _ (by omega)]; exact h.box, ?_, fun j hj => by rw [hG _ (by omega)]; exact h.fr j (by omega), h.al, h.ll⟩, fun j ob ho hj hne => by have := h.fr.lt ho; rw [hG _ (by omega)]; exact ho⟩
  rcases h.tok with q | ⟨id, rfl, hid⟩
  · exact .inl q
  · have := h.fr.lt hid
    exact .inr ⟨id, rfl, by rw [hG _ (by omega)]; exact hid⟩
section
variable {l : List Tkn} {pid a n n1 : Nat} {tk : Tok} {w w1 : List Wd} {H H1 : AHeap} {T : Tab} {b : Nat} {d : Option Nat} {kp : List Nat} {ops : List AOp} {k : List Item} {st : AS} {Q : AExit → AS → Prop} {tgt : PR}
theorem pq_want {s : List UInt8} {R : PR} (h : Ps H1 n1 pid l a tk w1) (hn : n ≤ n1) (hf : FrameK pid H H1) (heq : wantR l a s R = tgt)
    (hQ : ∀ v H' n', PPost H n pid l w tgt (.pan v) H' n' → Q (.pan v) ⟨[], H', n'⟩)
    (go : isT l a s = true → R = tgt → ∀ tk' H' n', n ≤ n' → FrameK pid H H' → FrameK pid H1 H' → n1 ≤ n' → Ps H' n' pid l (a + 1) tk' w1 → retK Tryz.prog T b d ops kp k Q st (.ret (.tup [])) H' n') :
    ACalls Tryz.prog 52 [.ptr pid 0, .str s] H1 n1 (retK Tryz.prog T b d ops kp k Q st) := by
  refine (p52 h s).mono fun o H' m hp => ?_
  by_cases t : isT l a s = true
  · rw [if_pos t] at hp
    obtain ⟨rfl, h2, h3, tk', h4⟩ := hp
    rw [List.append_nil] at h4
    exact go t (by rw [← heq]; unfold wantR; rw [if_pos t]) tk' H' m (Nat.le_trans hn h2) (hf.trans h3) h3 h2 h4
  · rw [if_neg t] at hp
    obtain ⟨rfl, h2, h3, h4⟩ := hp
    have e : tgt = .bad a := by rw [← heq]; unfold wantR; rw [if_neg t]
    show kont _ _ _ _ _ _
    rw [kont_pan]
    exact hQ _ _ _ (by rw [e]; exact ⟨rfl, Nat.le_trans hn h2, hf.trans h3, h4⟩)
theorem pq_part {fid : FuncId} {g : Nat → PR} {K : List Wd → Nat → PR} (hg : PartOK fid l g) (h : Ps H1 n1 pid l a tk w1) (hw : w1.length ≤ a) (hn : n ≤ n1) (hf : FrameK pid H H1) (heq : bindR (g a) K = tgt) (ho : tgt ≠ .out)
    (hQ : ∀ v H' n', PPost H n pid l w tgt (.pan v) H' n' → Q (.pan v) ⟨[], H', n'⟩)
    (go : ∀ x i, g a = .ok x i → K x i = tgt → ∀ tk' H' n', n ≤ n' → FrameK pid H H' → FrameK pid H1 H' → n1 ≤ n' → Ps H' n' pid l i tk' (w1 ++ x) → retK Tryz.prog T b d ops kp k Q st (.ret (.tup [])) H' n') :
    ACalls Tryz.prog fid [.ptr pid 0] H1 n1 (retK Tryz.prog T b d ops kp k Q st) := by
  have ho1 : g a ≠ .out := fun q => ho (by rw [← heq, q]; rfl)
  refine (hg pid a tk w1 H1 n1 h hw ho1).mono fun o H' m hp => ?_
  cases hr : g a with
  | ok x i =>
    rw [hr] at hp heq
    obtain ⟨rfl, h2, h3, tk', h4⟩ := hp
    exact go x i hr heq tk' H' m (Nat.le_trans hn h2) (hf.trans h3) h3 h2 h4
  | bad i =>
    rw [hr] at hp heq
    obtain ⟨rfl, h2, h3, h4⟩ := hp
    show kont _ _ _ _ _ _
    rw [kont_pan]
    exact hQ _ _ _ (by rw [← heq]; exact ⟨rfl, Nat.le_trans hn h2, hf.trans h3, h4⟩)
  | out => exact absurd hr ho1
end
def ex3 (l : List Tkn) (g : Grm) (i : Nat) (ws : List Wd) : PR := bindR (g.e i) fun z m => .ok (ws ++ z ++ [⟨10, 0⟩]) m
def ex2 (l : List Tkn) (g : Grm) (i : Nat) (ws : List Wd) : PR := bindR (g.e i) fun z k => wantR l k sElse (ex3 l g (k + 1) (ws ++ z))
def ex1 (l : List Tkn) (g : Grm) (i : Nat) (ws : List Wd) : PR := bindR (g.s i) fun y j => wantR l j sThen (ex2 l g (j + 1) (ws ++ y ++ [⟨9, 0⟩]))
def ex0 (l : List Tkn) (g : Grm) (i : Nat) (ws : List Wd) : PR := bindR (g.s i) fun x j => wantR l j [60] (ex1 l g (j + 1) (ws ++ x))
def exR (l : List Tkn) (g : Grm) : Nat → Nat → List Wd → PR
  | 0 => ex0 l g
  | 1 => ex1 l g
  | 2 => ex2 l g
  | _ => ex3 l g
theorem ex_if {l : List Tkn} {g : Grm} {a : Nat} (h : isT l a sIf = true) : exprR l g a = ex0 l g (a + 1) [] := by
  unfold exprR
  rw [if_pos h]
  simp only [ex0, ex1, ex2, ex3, List.nil_append]
abbrev lsE (pid : Nat) : List AVal := [.agg [.fn (.func 51) [.ptr pid 0] [], .str [60]], .agg [.fn (.func 51) [.ptr pid 0] [], .str sThen], .agg [.fn (.func 23) [.ptr pid 0] [], .str sElse]]
structure V23 where
  x : Nat
  i : Nat
  ws : List Wd
  tk : Tok
  H : AHeap
  n : Nat
theorem p23 {l : List Tkn} {g : Grm} (he : PartOK 23 l g.e) (hs : PartOK 51 l g.s) (pe : ∀ a, Prog l a (g.e a)) (ps : ∀ a, Prog l a (g.s a)) : PartOK 23 l (exprR l g) := by
  intro pid a tk w H n h hw ho
  refine a23 (ev_awp TB_ok (ev_evK ?_))
  have hb := h.box
  have hal := h.al
  have hll := h.ll
  have e := w64_succ (k := a) (by omega)
  by_cases t : isT l a sIf = true
  case neg =>
    have t' : isT l a sIf = false := by simpa using t
    have hres : exprR l g a = g.s a := by unfold exprR; rw [if_neg t]
    rw [hres] at ho ⊢
    simp only [eE, eN, k_cond, reduceCtorEq, Nat.reduceEqDiff, ↓reduceIte, Nat.reduceAdd, Nat.reduceLeDiff, Nat.reduceMul, Nat.reduceLT, Int.reduceEq, c23, TB_50, s50, hb, encdK_map, decK_map, Int.natCast_nonneg, Int.toNat_natCast, t', callI]
    refine pp_call (hs pid a tk w H n h hw ho) ho (fun ws i tk1 H1 n1 hr hn1 hf1 h1 => ?_) (fun b H1 n1 hr hn1 hf1 h1 => ?_)
    · rw [hr]
      simp only [eE, eN, retK]
      exact ⟨rfl, hn1, hf1, tk1, h1⟩
    · rw [hr, kont_pan]
      exact ⟨rfl, hn1, hf1, h1⟩
  obtain ⟨m1, m2⟩ := h.move (isT_lt t)
  rw [ex_if t] at ho ⊢
  generalize hT : ex0 l g (a + 1) [] = tgt at ho ⊢
  simp only [eE, eN, k_cond, reduceCtorEq, Nat.reduceEqDiff, ↓reduceIte, Nat.reduceAdd, Nat.reduceLeDiff, Nat.reduceMul, Nat.reduceLT, Int.reduceEq, c23, TB_50, s50, hb, encdK_map, decK_map, Int.natCast_nonneg, Int.toNat_natCast, t, e]
  refine k_loop (fun v : V23 => ⟨[(0, true, .ptr pid 0), (25, true, .sl (.exact 2) (lsE pid)), (26, true, .int .i64 (3 : Nat)), (27, true, .int .i64 v.x)], v.H, v.n⟩)
    (fun v => v.x ≤ 3 ∧ n ≤ v.n ∧ FrameK pid H v.H ∧ Ps v.H v.n pid l v.i v.tk (w ++ v.ws) ∧ a < v.i ∧ a + v.ws.length + 1 ≤ v.i ∧ exR l g v.x v.i v.ws = tgt) (fun v => 3 - v.x) ⟨0, a + 1, [], tk, _, n⟩ rfl
    ⟨Nat.zero_le _, Nat.le_refl _, m2, by rw [List.append_nil]; exact m1, by simp, by simp, (show exR l g 0 (a + 1) [] = tgt from hT)⟩ ?_
  rintro ⟨x, i, ws, tk2, H2, n2⟩ ⟨hx, hn2, hf2, h2, hi, hlen, heq⟩
  simp only at hx hn2 hf2 h2 hi hlen heq
  have hn2f := h2.fr (n2 + 2) (by omega)
  have hp := h2.fr.lt h2.box
  have hsz : (w ++ ws).length ≤ i := by rw [List.length_append]; omega
  have ls0 : (lsE pid)[0]? = some (.agg [.fn (.func 51) [.ptr pid 0] [], .str [60]]) := rfl
  have ls1 : (lsE pid)[1]? = some (.agg [.fn (.func 51) [.ptr pid 0] [], .str sThen]) := rfl
  have ls2 : (lsE pid)[2]? = some (.agg [.fn (.func 23) [.ptr pid 0] [], .str sElse]) := rfl
  match x, hx with
  | 0, _ =>
    simp only [eE, eN, k_cond, reduceCtorEq, Nat.reduceEqDiff, ↓reduceIte, Nat.reduceAdd, Nat.reduceLeDiff, Nat.reduceLT, hn2f, callI, ls0, Int.ofNat_lt, Int.toNat_natCast, Int.natCast_nonneg, Option.getD_some]
    obtain ⟨n1', n2'⟩ := Ps.ext (G := hset (hset H2 (n2 + 2) (.box [.nilfn, .str []])) (n2 + 2) (.box [.fn (.func 51) [.ptr pid 0] [], .str [60]])) (m := n2 + 4) (i := n2 + 2) h2 (fun j hj => by rw [hget_hset_ne _ _ _ _ (fun q => hj q.symm), hget_hset_ne _ _ _ _ (fun q => hj q.symm)]) (Nat.le_add_right _ _) (Nat.add_lt_add_left (by decide) _)
    refine pq_part hs n1' hsz (n := n) (H := H) (w := w) (tgt := tgt) (Nat.le_trans hn2 (Nat.le_add_right _ _)) (hf2.trans n2') (show (bindR (g.s i) fun y j => wantR l j [60] (ex1 l g (j + 1) (ws ++ y))) = tgt from heq) ho (fun v H' n' q => by rw [lpQ_p, kont_pan]; exact q) fun y j hy heq2 tk3 H3 n3 hn3 hf3 hg3 hm3 h3 => ?_
    obtain ⟨k1, k2, k3⟩ := ps _ _ _ hy
    have hbx := hg3 _ _ (hget_hset_eq ..) (Nat.ne_of_gt (Nat.lt_of_lt_of_le hp (Nat.le_add_right _ _))) (by simp)
    simp only [eE, eN, reduceCtorEq, Nat.reduceEqDiff, ↓reduceIte, Nat.reduceAdd, retK, callI, hbx]
    refine pq_want h3 (n := n) (H := H) (w := w) (tgt := tgt) hn3 hf3 heq2 (fun v H' n' q => by rw [lpQ_p, kont_pan]; exact q) fun u1 heq3 tk4 H4 n4 hn4 hf4 hg4 hm4 h4 => ?_
    have hbx4 := hg4 _ _ hbx (Nat.ne_of_gt (Nat.lt_of_lt_of_le hp (Nat.le_add_right _ _))) (by simp)
    have cv : scmp .eql [60] [116, 104, 101, 110] = false := rfl
    have ex : IntKind.wrap .i64 (((0 : Nat) : Int) + 1) = ((1 : Nat) : Int) := rfl
    simp only [eE, eN, k_cond, reduceCtorEq, Nat.reduceEqDiff, ↓reduceIte, Nat.reduceAdd, Int.reduceEq, retK, hbx4, cv, ex]
    exact .mk ⟨1, j + 1, ws ++ y, tk4, H4, n4⟩ rfl ⟨by simp only []; omega, hn4, hf4, by simpa only [List.append_assoc] using h4, by simp only []; omega, by simp only [List.length_append]; omega, heq3⟩ (by simp only []; omega)
  | 1, _ =>
    simp only [eE, eN, k_cond, reduceCtorEq, Nat.reduceEqDiff, ↓reduceIte, Nat.reduceAdd, Nat.reduceLeDiff, Nat.reduceLT, hn2f, callI, ls1, Int.ofNat_lt, Int.toNat_natCast, Int.natCast_nonneg, Option.getD_some]
    obtain ⟨n1', n2'⟩ := Ps.ext (G := hset (hset H2 (n2 + 2) (.box [.nilfn, .str []])) (n2 + 2) (.box [.fn (.func 51) [.ptr pid 0] [], .str sThen])) (m := n2 + 4) (i := n2 + 2) h2 (fun j hj => by rw [hget_hset_ne _ _ _ _ (fun q => hj q.symm), hget_hset_ne _ _ _ _ (fun q => hj q.symm)]) (Nat.le_add_right _ _) (Nat.add_lt_add_left (by decide) _)
    refine pq_part hs n1' hsz (n := n) (H := H) (w := w) (tgt := tgt) (Nat.le_trans hn2 (Nat.le_add_right _ _)) (hf2.trans n2') (show (bindR (g.s i) fun y j => wantR l j sThen (ex2 l g (j + 1) (ws ++ y ++ [⟨9, 0⟩]))) = tgt from heq) ho (fun v H' n' q => by rw [lpQ_p, kont_pan]; exact q) fun y j hy heq2 tk3 H3 n3 hn3 hf3 hg3 hm3 h3 => ?_
    obtain ⟨k1, k2, k3⟩ := ps _ _ _ hy
    have hbx := hg3 _ _ (hget_hset_eq ..) (Nat.ne_of_gt (Nat.lt_of_lt_of_le hp (Nat.le_add_right _ _))) (by simp)
    simp only [eE, eN, reduceCtorEq, Nat.reduceEqDiff, ↓reduceIte, Nat.reduceAdd, retK, callI, hbx]
    refine pq_want h3 (n := n) (H := H) (w := w) (tgt := tgt) hn3 hf3 heq2 (fun v H' n' q => by rw [lpQ_p, kont_pan]; exact q) fun u1 heq3 tk4 H4 n4 hn4 hf4 hg4 hm4 h4 => ?_
    have hbx4 := hg4 _ _ hbx (Nat.ne_of_gt (Nat.lt_of_lt_of_le hp (Nat.le_add_right _ _))) (by simp)
    have cv : scmp .eql sThen [116, 104, 101, 110] = true := rfl
    have ex : IntKind.wrap .i64 (((1 : Nat) : Int) + 1) = ((2 : Nat) : Int) := rfl
    simp only [eE, eN, k_cond, reduceCtorEq, Nat.reduceEqDiff, ↓reduceIte, Nat.reduceAdd, Int.reduceEq, retK, hbx4, cv, ex, callI]
    refine pp_emit (p53 h4 9 0 (by simp only [List.length_append]; omega)) fun tk5 H5 n5 hn5 hf5 h5 => ?_
    simp only [eE, eN, reduceCtorEq, Nat.reduceEqDiff, ↓reduceIte, Int.reduceEq, retK, ex]
    exact .mk ⟨2, j + 1, ws ++ y ++ [(⟨9, 0⟩ : Wd)], tk5, H5, n5⟩ rfl ⟨by simp only []; omega, Nat.le_trans hn4 hn5, hf4.trans hf5, by simpa only [List.append_assoc] using h5, by simp only []; omega, by simp only [List.length_append, List.length_cons, List.length_nil]; omega, (show exR l g 2 (j + 1) (ws ++ y ++ [(⟨9, 0⟩ : Wd)]) = tgt from heq3)⟩ (by simp only []; omega)
  | 2, _ =>
    simp only [eE, eN, k_cond, reduceCtorEq, Nat.reduceEqDiff, ↓reduceIte, Nat.reduceAdd, Nat.reduceLeDiff, Nat.reduceLT, hn2f, callI, ls2, Int.ofNat_lt, Int.toNat_natCast, Int.natCast_nonneg, Option.getD_some]
    obtain ⟨n1', n2'⟩ := Ps.ext (G := hset (hset H2 (n2 + 2) (.box [.nilfn, .str []])) (n2 + 2) (.box [.fn (.func 23) [.ptr pid 0] [], .str sElse])) (m := n2 + 4) (i := n2 + 2) h2 (fun j hj => by rw [hget_hset_ne _ _ _ _ (fun q => hj q.symm), hget_hset_ne _ _ _ _ (fun q => hj q.symm)]) (Nat.le_add_right _ _) (Nat.add_lt_add_left (by decide) _)
    refine pq_part he n1' hsz (n := n) (H := H) (w := w) (tgt := tgt) (Nat.le_trans hn2 (Nat.le_add_right _ _)) (hf2.trans n2') (show (bindR (g.e i) fun y j => wantR l j sElse (ex3 l g (j + 1) (ws ++ y))) = tgt from heq) ho (fun v H' n' q => by rw [lpQ_p, kont_pan]; exact q) fun y j hy heq2 tk3 H3 n3 hn3 hf3 hg3 hm3 h3 => ?_
    obtain ⟨k1, k2, k3⟩ := pe _ _ _ hy
    have hbx := hg3 _ _ (hget_hset_eq ..) (Nat.ne_of_gt (Nat.lt_of_lt_of_le hp (Nat.le_add_right _ _))) (by simp)
    simp only [eE, eN, reduceCtorEq, Nat.reduceEqDiff, ↓reduceIte, Nat.reduceAdd, retK, callI, hbx]
    refine pq_want h3 (n := n) (H := H) (w := w) (tgt := tgt) hn3 hf3 heq2 (fun v H' n' q => by rw [lpQ_p, kont_pan]; exact q) fun u1 heq3 tk4 H4 n4 hn4 hf4 hg4 hm4 h4 => ?_
    have hbx4 := hg4 _ _ hbx (Nat.ne_of_gt (Nat.lt_of_lt_of_le hp (Nat.le_add_right _ _))) (by simp)
    have cv : scmp .eql sElse [116, 104, 101, 110] = false := rfl
    have ex : IntKind.wrap .i64 (((2 : Nat) : Int) + 1) = ((3 : Nat) : Int) := rfl
    simp only [eE, eN, k_cond, reduceCtorEq, Nat.reduceEqDiff, ↓reduceIte, Nat.reduceAdd, Int.reduceEq, retK, hbx4, cv, ex]
    exact .mk ⟨3, j + 1, ws ++ y, tk4, H4, n4⟩ rfl ⟨by simp only []; omega, hn4, hf4, by simpa only [List.append_assoc] using h4, by simp only []; omega, by simp only [List.length_append]; omega, heq3⟩ (by simp only []; omega)
  | 3, _ =>
    simp only [eE, eN, k_cond, reduceCtorEq, Nat.reduceEqDiff, ↓reduceIte, Nat.reduceAdd, Int.ofNat_lt, Nat.lt_irrefl, callI]
    refine pq_part he h2 hsz (n := n) (H := H) (w := w) (tgt := tgt) hn2 hf2 (show (bindR (g.e i) fun z m => .ok (ws ++ z ++ [⟨10, 0⟩]) m) = tgt from heq) ho (fun v H' n' q => q) fun y j hy heq2 tk3 H3 n3 hn3 hf3 hg3 hm3 h3 => ?_
    obtain ⟨k1, k2, k3⟩ := pe _ _ _ hy
    have hj := h3.al
    simp only [eE, eN, reduceCtorEq, ↓reduceIte, retK, callI]
    refine pp_emit (p53 h3 10 0 (by simp only [List.length_append]; omega)) fun tk5 H5 n5 hn5 hf5 h5 => ?_
    rw [← heq2]
    simp only [eE, eN, retK]
    exact ⟨rfl, Nat.le_trans hn3 hn5, hf3.trans hf5, tk5, by simpa only [List.append_assoc] using h5⟩
theorem parts_ok (l : List Tkn) : ∀ f, PartOK 23 l (gram l f).e ∧ PartOK 51 l (gram l f).s ∧ PartOK 89 l (gram l f).p ∧ PartOK 107 l (gram l f).u
  | 0 => ⟨fun _ _ _ _ _ _ _ _ h => absurd rfl h, fun _ _ _ _ _ _ _ _ h => absurd rfl h, fun _ _ _ _ _ _ _ _ h => absurd rfl h, fun _ _ _ _ _ _ _ _ h => absurd rfl h⟩
  | f + 1 => by
    obtain ⟨he, hs, hp, hu⟩ := parts_ok l f
    obtain ⟨qe, qs, qp, qu⟩ := gram_prog l f
    exact ⟨p23 he hs qe qs, p51 hp qp, p89 hu qu, p107 he qe⟩
end Go.AM
end
section
set_option maxRecDepth 20000
set_option linter.all false
set_option maxHeartbeats 1000000
namespace Go.AM
open Go.Proofs Go.Lib
def placeN (src : List UInt8) (ts : List Tkn) (i : Nat) : Int := match ts[i]? with
  | some t => t.A
  | none => src.length
def parseR (src : List UInt8) (ts : List Tkn) : AVal := match (gram ts (4 * ts.length + 4)).e 0 with
  | .ok ws i => if i < ts.length then .tup [.sl (.none 2) [], .int .i64 (placeN src ts i), .int .i64 150]
    else if 256 < ws.length then .tup [.sl (.none 2) [], .int .i64 0, .int .i64 2] else .tup [.sl (.none 2) (ws.map encW), .int .i64 0, .int .i64 0]
  | .bad i => .tup [.sl (.none 2) [], .int .i64 (placeN src ts i), .int .i64 150]
  | .out => .tup [.sl (.none 2) [], .int .i64 0, .int .i64 0]
def parseV (src : List UInt8) : AVal :=
  if 65536 < src.length then .tup [.sl (.none 2) [], .int .i64 0, .int .i64 2] else
    match lexR src with
    | .ok _ ts => parseR src ts
    | .err a => .tup [.sl (.none 2) [], .int .i64 a, .int .i64 100]
theorem lexV_cases (src : List UInt8) : (65536 < src.length ∧ lexV src = .tup [.sl (.none 4) [], .int .i64 0, .int .i64 2]) ∨
    (src.length ≤ 65536 ∧ ∃ a ts, lexR src = .ok a ts ∧ lexV src = .tup [.sl (.none 4) (ts.map encK), .int .i64 0, .int .i64 0]) ∨
    (src.length ≤ 65536 ∧ ∃ a, lexR src = .err a ∧ lexV src = .tup [.sl (.none 4) [], .int .i64 a, .int .i64 100]) := by
  unfold lexV
  split
  · rename_i h; exact .inl ⟨h, rfl⟩
  · rename_i h
    cases hr : lexR src with
    | ok a ts => exact .inr (.inl ⟨by omega, a, ts, rfl, rfl⟩)
    | err a => exact .inr (.inr ⟨by omega, a, rfl, rfl⟩)
theorem lexL_few {src : List UInt8} : ∀ (f a : Nat) (ts : List Tkn) (a' : Nat) (ts' : List Tkn), ts.length ≤ a → a ≤ src.length → lexL f src a ts = .ok a' ts' → ts'.length ≤ a' ∧ a' ≤ src.length
  | 0, a, ts, a', ts', h1, h2, h => by rw [lexL] at h; cases h; exact ⟨h1, h2⟩
  | f + 1, a, ts, a', ts', h1, h2, h => by
    rw [lexL] at h
    split at h
    · rename_i hlt
      cases hs : stepR src a ts with
      | err e => rw [hs] at h; cases h
      | ok b us =>
        rw [hs] at h
        obtain ⟨p1, p2, p3⟩ := step_progress hlt h1 hs
        exact lexL_few f b us a' ts' p3 p2 h
    · cases h; exact ⟨h1, h2⟩
theorem lexR_few {src : List UInt8} {a : Nat} {ts : List Tkn} (h : lexR src = .ok a ts) : ts.length ≤ src.length := by
  have := lexL_few _ _ _ _ _ (Nat.le_refl 0) (Nat.zero_le _) h
  omega
theorem T11_lex (a : List AVal) (H : AHeap) : T11 21 a H = s21 a H := rfl
theorem d22n {H : AHeap} {n i0 i1 i2 i3 i4 : Nat} : ADefer Tryz.prog 22 [.ptr i0 0, .ptr i1 0, .ptr i2 0, .ptr i3 0, .ptr i4 0] .nilifc H n (fun H' n' => H' = H ∧ n' = n) := by
  refine a22 (ev_awp T11_ok (ev_evK ?_))
  simp only [eE, eN, k_cond, reduceCtorEq, Nat.reduceEqDiff, ↓reduceIte, Nat.reduceAdd, c22, xe_n0, Bool.not_true]
theorem d22p {H : AHeap} {n : Nat} {x y z : AVal} {src : List UInt8} {ts : List Tkn} {i : Nat} (h0 : hget H 0 = some (.box [.str src])) (h1 : hget H 1 = some (.box [x])) (h2 : hget H 2 = some (.box [y])) (h3 : hget H 3 = some (.box [z])) (h10 : hget H 10 = some (.box [.sl (.none 4) (ts.map encK)])) :
    ADefer Tryz.prog 22 [.ptr 0 0, .ptr 1 0, .ptr 2 0, .ptr 3 0, .ptr 10 0] (.ifc 46 (.int .i64 i)) H n (fun H' n' => hget H' 1 = some (.box [.sl .nil []]) ∧ hget H' 2 = some (.box [.int .i64 (placeN src ts i)]) ∧ hget H' 3 = some (.box [.int .i64 150])) := by
  refine a22 (ev_awp T11_ok (ev_evK ?_))
  by_cases hlt : i < ts.length
  · have hg := List.getElem?_eq_getElem hlt
    have hp : placeN src ts i = ts[i].A := by unfold placeN; rw [hg]
    rw [hp]
    simp only [eE, eN, k_cond, reduceCtorEq, Nat.reduceEqDiff, ↓reduceIte, Nat.reduceAdd, c22, xe_n1, xe_tas, h0, h1, h2, h3, h10, List.length_map, Int.ofNat_lt, hlt, List.getElem?_map, hg, Option.getD_some, Int.toNat_natCast, Int.natCast_nonneg]
  · have hp : placeN src ts i = src.length := by unfold placeN; rw [List.getElem?_eq_none (by omega)]
    rw [hp]
    simp only [eE, eN, k_cond, reduceCtorEq, Nat.reduceEqDiff, ↓reduceIte, Nat.reduceAdd, c22, xe_n1, xe_tas, h0, h1, h2, h3, h10, List.length_map, Int.ofNat_lt, hlt]
abbrev envQ : List (Nat × Bool × AVal) := [(1, true, .ptr 0 0), (2, true, .ptr 1 0), (3, true, .ptr 2 0), (4, true, .ptr 3 0)]
abbrev argsQ : List AVal := [.ptr 0 0, .ptr 1 0, .ptr 2 0, .ptr 3 0, .ptr 10 0]
theorem rc_okQ {H : AHeap} {n : Nat} {x y z r : AVal} (h1 : hget H 1 = some (.box [x])) (h2 : hget H 2 = some (.box [y])) (h3 : hget H 3 = some (.box [z])) (hw : Wk (.tup [x, y, z]) r) : RcOf rs3 envQ (Ret r) H n := by
  unfold RcOf
  simp only [eE, Nat.reduceEqDiff, ↓reduceIte, rcell, h1, h2, h3]
  exact hw
theorem px_pan {H : AHeap} {m : Nat} {x y z r : AVal} {src : List UInt8} {ts : List Tkn} {i : Nat} (h0 : hget H 0 = some (.box [.str src])) (h1 : hget H 1 = some (.box [x])) (h2 : hget H 2 = some (.box [y])) (h3 : hget H 3 = some (.box [z])) (h10 : hget H 10 = some (.box [.sl (.none 4) (ts.map encK)]))
    (hr : r = .tup [.sl (.none 2) [], .int .i64 (placeN src ts i), .int .i64 150]) :
    postX Tryz.prog 22 argsQ rs3 envQ (Ret r) (.pan (.ifc 46 (.int .i64 i))) ⟨[], H, m⟩ := by
  subst hr
  refine ADefer.mono (d22p h0 h1 h2 h3 h10) ?_
  rintro H2 n2 ⟨k1, k2, k3⟩
  exact rc_okQ k1 k2 k3 (wk_tup3 (Wk.sl (.inr rfl)) (Wk.refl _) (Wk.refl _))
theorem px_ret {H : AHeap} {m : Nat} {env : List (Nat × Bool × AVal)} {x y z r : AVal} (h1 : hget H 1 = some (.box [x])) (h2 : hget H 2 = some (.box [y])) (h3 : hget H 3 = some (.box [z])) (hw : Wk (.tup [x, y, z]) r) :
    postX Tryz.prog 22 argsQ rs3 envQ (Ret r) .ret ⟨env, H, m⟩ := by
  refine ADefer.mono d22n ?_
  rintro H2 n2 ⟨rfl, -⟩
  exact rc_okQ h1 h2 h3 hw
theorem p11 (src : List UInt8) (hs : src.length < 1000000000) : Pur Tryz.prog 11 [.str src] (parseV src) := by
  refine .mk ⟨trivial, trivial⟩ ?_ (a11 (ev_awp T11_ok (ev_evK ?_)))
  · unfold parseV parseR
    split <;> (try split) <;> (try split) <;> (try split) <;> (try split) <;> simp [AVal.under, unders, Tok.under, encW_under]
  rcases lexV_cases src with ⟨h6, hv⟩ | ⟨h6, a, ts, hr, hv⟩ | ⟨h6, a, hr, hv⟩
  · have hp : parseV src = .tup [.sl (.none 2) [], .int .i64 0, .int .i64 2] := by rw [parseV, if_pos h6]
    rw [hp]
    simp only [eE, eN, k_cond, reduceCtorEq, Nat.reduceEqDiff, ↓reduceIte, Nat.reduceAdd, Nat.reduceLT, Int.reduceEq, c11_0, c11_1, c11_2, aspine, postD, stepOp, rcell, T11_lex, s21, hs, hv, List.getElem?_cons_zero, List.getElem?_cons_succ, Option.getD_some]
    exact wk_tup3 (Wk.sl (.inr rfl)) (Wk.refl _) (Wk.refl _)
  · have hp : parseV src = parseR src ts := by rw [parseV, if_neg (by omega), hr]
    rw [hp]
    simp only [eE, eN, k_cond, reduceCtorEq, Nat.reduceEqDiff, ↓reduceIte, Nat.reduceAdd, Nat.reduceLT, c11_0, c11_1, c11_2, aspine, postD, stepOp, rcell, T11_lex, s21, hs, hv, List.getElem?_cons_zero, List.getElem?_cons_succ, Option.getD_some]
    refine ⟨_, _, rfl, ev_awp T11_ok (ev_evK ?_)⟩
    generalize hE : List.filter (fun (e : Nat × Bool × AVal) => Nat.blt e.1 5) _ = E
    have hE' : E = envQ := by rw [← hE]; rfl
    subst hE'
    clear hE
    have hfew := lexR_few hr
    have hD : (gram ts (4 * ts.length + 4)).e 0 ≠ .out := (gram_deep ts ts.length 0 (by omega)).1 _ (Nat.le_refl _)
    have hpt := (parts_ok ts (4 * ts.length + 4)).1
    simp only [eE, eN, reduceCtorEq, Nat.reduceEqDiff, ↓reduceIte, Nat.reduceAdd, Nat.reduceLeDiff, c11, callI]
    refine pp_call (hpt 16 0 .nil [] _ 18 ⟨rfl, .inl ⟨rfl, rfl⟩, fun j hj => ?_, Nat.zero_le _, by omega⟩ (Nat.le_refl _) hD) hD (fun ws i tk H' n' hx hn hf h => ?_) (fun b H' n' hx hn hf h => ?_)
    · simp only [hget_hset]
      repeat rw [if_neg (by omega)]
      rfl
    · have g0 := hf 0 _ rfl (by decide) (by simp)
      have g1 := hf 1 _ rfl (by decide) (by simp)
      have g2 := hf 2 _ rfl (by decide) (by simp)
      have g3 := hf 3 _ rfl (by decide) (by simp)
      have g10 := hf 10 _ rfl (by decide) (by simp)
      have hb := h.box
      rw [List.nil_append] at hb h
      by_cases hi : i < ts.length
      · have hres : parseR src ts = .tup [.sl (.none 2) [], .int .i64 (placeN src ts i), .int .i64 150] := by unfold parseR; rw [hx]; simp only; rw [if_pos hi]
        simp only [eE, eN, k_cond, reduceCtorEq, Nat.reduceEqDiff, ↓reduceIte, Nat.reduceAdd, Nat.reduceLeDiff, retK, hb, g10, List.length_map, Int.ofNat_lt, hi, isF]
        exact px_pan g0 g1 g2 g3 g10 hres
      · by_cases hw : 256 < ws.length
        · have hres : parseR src ts = .tup [.sl (.none 2) [], .int .i64 0, .int .i64 2] := by unfold parseR; rw [hx]; simp only; rw [if_neg hi, if_pos hw]
          have hwT : ((256 : Int) < ws.length) = True := eq_true (by omega)
          simp only [eE, eN, k_cond, reduceCtorEq, Nat.reduceEqDiff, ↓reduceIte, Nat.reduceAdd, Nat.reduceLeDiff, retK, hb, g1, g2, g3, g10, List.length_map, Int.ofNat_lt, hi, hwT]
          refine px_ret (x := .sl .nil []) (y := .int .i64 0) (z := .int .i64 2) ?_ ?_ ?_ (by rw [hres]; exact wk_tup3 (Wk.sl (.inr rfl)) (Wk.refl _) (Wk.refl _))
          · rfl
          · rfl
          · rfl
        · have hres : parseR src ts = .tup [.sl (.none 2) (ws.map encW), .int .i64 0, .int .i64 0] := by unfold parseR; rw [hx]; simp only; rw [if_neg hi, if_neg hw]
          have hwT : ((256 : Int) < ws.length) = False := eq_false (by omega)
          simp only [eE, eN, k_cond, Nat.reduceEqDiff, ↓reduceIte, Nat.reduceAdd, Nat.reduceLeDiff, retK, hb, g1, g2, g3, g10, List.length_map, Int.ofNat_lt, hi, hwT]
          refine px_ret (x := .sl tk (ws.map encW)) (y := .int .i64 0) (z := .int .i64 0) ?_ ?_ ?_ (by
            rw [hres]
            refine wk_tup3 (Wk.sl ?_) (Wk.refl _) (Wk.refl _)
            rcases h.tok with ⟨_, q⟩ | ⟨id, q, _⟩
            · right; rw [q]; rfl
            · left; rw [q]; rfl)
          · rfl
          · rfl
          · rfl
    · have g0 := hf 0 _ rfl (by decide) (by simp)
      have g1 := hf 1 _ rfl (by decide) (by simp)
      have g2 := hf 2 _ rfl (by decide) (by simp)
      have g3 := hf 3 _ rfl (by decide) (by simp)
      have g10 := hf 10 _ rfl (by decide) (by simp)
      have hres : parseR src ts = .tup [.sl (.none 2) [], .int .i64 (placeN src ts b), .int .i64 150] := by unfold parseR; rw [hx]
      rw [kont_pan]
      exact px_pan g0 g1 g2 g3 g10 hres
  · have hp : parseV src = .tup [.sl (.none 2) [], .int .i64 a, .int .i64 100] := by rw [parseV, if_neg (by omega), hr]
    rw [hp]
    simp only [eE, eN, k_cond, reduceCtorEq, Nat.reduceEqDiff, ↓reduceIte, Nat.reduceAdd, Nat.reduceLT, Int.reduceEq, c11_0, c11_1, c11_2, aspine, postD, stepOp, rcell, T11_lex, s21, hs, hv, List.getElem?_cons_zero, List.getElem?_cons_succ, Option.getD_some]
    exact wk_tup3 (Wk.sl (.inr rfl)) (Wk.refl _) (Wk.refl _)
end Go.AM
end
section
set_option maxRecDepth 20000
set_option linter.all false
set_option maxHeartbeats 1000000
namespace Go.AM
open Go.Proofs Go.Lib
theorem p61 (l : List Tkn) (a : Nat) (s : List UInt8) : Pur Tryz.prog 61 [.sl (.none 4) (l.map encK), .int .i64 a, .str s] (.bool (isT l a s)) := by
  refine .mk ⟨⟨trivial, encK_under 0 l⟩, trivial, trivial, trivial⟩ trivial (a61 (ev_awp TabOK.tnil (ev_evK ?_)))
  by_cases hlt : a < l.length
  · have hg := List.getElem?_eq_getElem hlt
    have e : (!decide (l[a].K = 2) && decide (l[a].T = s)) = isT l a s := by rw [isT, hg]; simp
    simp only [eE, eN, sel, reduceCtorEq, Nat.reduceEqDiff, ↓reduceIte, Nat.reduceAdd, Nat.reduceLeDiff, c61, List.length_map, Int.ofNat_lt, hlt, List.getElem?_map, hg, Option.getD_some, Int.toNat_natCast, Int.natCast_nonneg, scmp_eql]
    exact e
  · simp only [eE, eN, sel, reduceCtorEq, Nat.reduceEqDiff, ↓reduceIte, Nat.reduceAdd, c61, List.length_map, Int.ofNat_lt, hlt]
    rw [isT, List.getElem?_eq_none (by omega)]
def s61 : List AVal → AHeap → Prop × AVal := fun a H => match a with
  | [.sl t L, .int .i64 p, .str s] => (encdK L ∧ (t.esz = 4 ∨ L = []) ∧ 0 ≤ p, .bool (isT (L.map decK) p.toNat s))
  | _ => (False, .tup [])
theorem q61 : ∀ args H n, (s61 args H).1 → Quiet Tryz.prog 61 args H n (s61 args H).2 := by
  intro args H n hh
  unfold s61 at hh ⊢
  split at hh
  · rename_i t L p s
    obtain ⟨h1, h2, h3⟩ := hh
    obtain ⟨k, rfl⟩ : ∃ k : Nat, p = k := ⟨p.toNat, by omega⟩
    refine ACalls.args ((p61 (L.map decK) k s).quiet H n) ?_
    rintro g vs ⟨v, r, rfl, k1, k2⟩
    refine ⟨v, _, rfl, ?_, k2⟩
    rw [← h1]; exact Wk.sl h2 _ _ k1
  · exact hh.elim
theorem p63 (o : Int) : Pur Tryz.prog 63 [.int .i64 o] (.sl (.none 2) [encW ⟨o, 0⟩]) := by
  refine .mk ⟨trivial, trivial⟩ (by simp [AVal.under, unders, Tok.under]) (a63 (ev_awp TabOK.tnil (ev_evK ?_)))
  simp only [eE, eN, reduceCtorEq, ↓reduceIte, Nat.reduceAdd, Nat.reduceLeDiff, Nat.reduceMul, Nat.reduceLT, c63]
  exact Wk.sl (.inl rfl)
def s63 : List AVal → AHeap → Prop × AVal := fun a H => match a with
  | [.int .i64 o] => (True, .sl (.none 2) [encW ⟨o, 0⟩])
  | _ => (False, .tup [])
theorem q63 : ∀ args H n, (s63 args H).1 → Quiet Tryz.prog 63 args H n (s63 args H).2 := by
  intro args H n hh
  unfold s63 at hh ⊢
  split at hh
  · exact (p63 _).quiet H n
  · exact hh.elim
theorem p99 : Pur Tryz.prog 99 [] (.sl (.none 1) (namesI.map .str)) := by
  refine .mk trivial ⟨trivial, unders_map (f := AVal.str) (fun x => trivial) _⟩ (a99 (ev_awp TabOK.tnil (ev_evK ?_)))
  simp only [eE, eN, ↓reduceIte, Nat.reduceLeDiff, Nat.reduceMul, Nat.reduceLT, c99]
  exact Wk.sl (.inl rfl)
theorem q99 : ∀ args H n, (s30' args H).1 → Quiet Tryz.prog 99 args H n (s30' args H).2 := by
  intro args H n hh
  unfold s30' at hh ⊢
  split at hh
  · exact p99.quiet H n
  · exact hh.elim
def TC : Tab := tadd 61 s61 (tadd 63 s63 (tadd 99 s30' (fun _ _ _ => (False, .tup []))))
theorem TC_ok : TabOK Tryz.prog TC := ((TabOK.tnil.add q99).add q63).add q61
def outV : PR → AVal
  | .ok ws i => .tup [.sl (.none 2) (ws.map encW), .int .i64 i, .bool true]
  | .bad i => .tup [.sl (.none 2) [], .int .i64 i, .bool false]
  | .out => .tup []
theorem outV_under (r : PR) : (outV r).under 0 := by
  cases r <;> simp [outV, AVal.under, unders, Tok.under, encW_under]
def RefOK (fid : FuncId) (l : List Tkn) (g : Nat → PR) : Prop := ∀ a : Nat, a ≤ l.length + 2 → g a ≠ .out → Pur Tryz.prog fid [.sl (.none 4) (l.map encK), .int .i64 a] (outV (g a))
def sR (l : List Tkn) (g : Nat → PR) : List AVal → AHeap → Prop × AVal := fun a H => match a with
  | [.sl t L, .int .i64 p] => (L = l.map encK ∧ (t.esz = 4 ∨ L = []) ∧ 0 ≤ p ∧ p ≤ l.length + 2 ∧ g p.toNat ≠ .out, outV (g p.toNat))
  | _ => (False, .tup [])
theorem qR {fid : FuncId} {l : List Tkn} {g : Nat → PR} (h : RefOK fid l g) : ∀ args H n, (sR l g args H).1 → Quiet Tryz.prog fid args H n (sR l g args H).2 := by
  intro args H n hh
  unfold sR at hh ⊢
  split at hh
  · rename_i t L p
    obtain ⟨rfl, h2, h3, h4, h5⟩ := hh
    obtain ⟨k, rfl⟩ : ∃ k : Nat, p = k := ⟨p.toNat, by omega⟩
    refine ACalls.args ((h k (by omega) h5).quiet H n) ?_
    rintro g vs ⟨v, r, rfl, k1, k2⟩
    exact ⟨v, _, rfl, Wk.sl h2 _ _ k1, k2⟩
  · exact hh.elim
structure V90 where
  f : Nat
  i : Nat
  ws : List Wd
  tk : Tok
  ok : Bool
  H : AHeap
  n : Nat
theorem p90 {l : List Tkn} {g : Nat → PR} (hll : l.length ≤ 65536) (hg : RefOK 108 l g) (hp : ∀ a, Prog l a (g a)) : RefOK 90 l fun a => bindR (g a) fun ws i => chainF l g [42] 5 [47] 6 (l.length + 1) ws i := by
  intro a ha ho
  simp only [] at ho ⊢
  have hT := TC_ok.add (qR hg)
  have T1 : ∀ x H, tadd 108 (sR l g) TC 108 x H = sR l g x H := fun _ _ => rfl
  have T2 : ∀ x H, tadd 108 (sR l g) TC 61 x H = s61 x H := fun _ _ => rfl
  have T3 : ∀ x H, tadd 108 (sR l g) TC 63 x H = s63 x H := fun _ _ => rfl
  generalize hTT : tadd 108 (sR l g) TC = TT at hT T1 T2 T3
  refine .mk ⟨⟨trivial, encK_under 0 l⟩, trivial, trivial⟩ (outV_under _) (a90 (ev_awp hT (ev_evK ?_)))
  have ho1 : g a ≠ .out := fun q => ho (by rw [q]; rfl)
  have ha' : ((a : Int) ≤ l.length + 2) = True := eq_true (by omega)
  have hres : ∃ ws i ok, outV (g a) = .tup [.sl (.none 2) (ws.map encW), .int .i64 (i : Nat), .bool ok] ∧ (ok = true → g a = .ok ws i) ∧ (ok = false → g a = .bad i ∧ ws = []) := by
    cases hr : g a with
    | ok ws i => exact ⟨ws, i, true, rfl, fun _ => rfl, fun q => (by cases q)⟩
    | bad i => exact ⟨[], i, false, rfl, fun q => (by cases q), fun _ => ⟨rfl, rfl⟩⟩
    | out => exact absurd hr ho1
  obtain ⟨ws, i, ok, hv, hok, hbad⟩ := hres
  simp only [eE, eN, reduceCtorEq, Nat.reduceEqDiff, ↓reduceIte, Nat.reduceAdd, Nat.reduceLT, c90, T1, sR, Int.natCast_nonneg, Int.toNat_natCast, ha', ho1, hv, List.getElem?_cons_zero, List.getElem?_cons_succ, Option.getD_some]
  generalize htg : (bindR (g a) fun ws i => chainF l g [42] 5 [47] 6 (l.length + 1) ws i) = tgt at ho ⊢
  refine k_loop (fun v : V90 => ⟨[(0, true, .sl (.none 4) (l.map encK)), (7, true, .sl v.tk (v.ws.map encW)), (8, true, .int .i64 v.i), (9, true, .bool v.ok)], v.H, v.n⟩)
    (fun v => Fresh v.H v.n ∧ (v.tk = .none 2 ∨ ∃ id, v.tk = .own id 2) ∧ v.ws.length ≤ 70000 ∧ (v.ok = true → v.i ≤ l.length ∧ v.ws.length ≤ v.i ∧ chainF l g [42] 5 [47] 6 v.f v.ws v.i = tgt) ∧ (v.ok = false → tgt = .bad v.i)) (fun v => v.f)
    ⟨l.length + 1, i, ws, .none 2, ok, hnil, 0⟩ rfl ⟨fun _ _ => rfl, .inl rfl, ?_, fun q => ?_, fun q => ?_⟩ ?_
  · simp only []
    cases ok with
    | true => obtain ⟨k1, k2, k3⟩ := hp _ _ _ (hok rfl); omega
    | false => rw [(hbad rfl).2]; exact Nat.zero_le _
  · have q' := hok q
    obtain ⟨k1, k2, k3⟩ := hp _ _ _ q'
    rw [q'] at htg
    exact ⟨k2, by simp only []; omega, htg⟩
  · rw [(hbad q).1] at htg; exact htg.symm
  rintro ⟨f, j, vs, tk, ok2, H, n⟩ ⟨hfr, htk, hvs, hyes, hno⟩
  simp only at hfr htk hvs hyes hno
  cases ok2 with
  | false =>
    rw [hno rfl]
    simp only [eE, eN, k_cond, sel, reduceCtorEq, Nat.reduceEqDiff, ↓reduceIte, Nat.reduceAdd, Nat.reduceLeDiff, Nat.reduceMul, Int.reduceEq, outV, T2, s61, encdK_map, decK_map, Int.natCast_nonneg, Int.toNat_natCast]
    exact wk_tup3 (Wk.sl (.inr rfl)) (Wk.refl _) (Wk.refl _)
  | true =>
    obtain ⟨hj, hvl, heq⟩ := hyes rfl
    have hjn : (0 : Int) ≤ j := by omega
    have e := w64_succ (k := j) (by omega)
    cases f with
    | zero => exact absurd heq.symm (by rw [chainF]; exact ho)
    | succ f =>
      rw [chainF] at heq
      by_cases t : (isT l j [42] || isT l j [47]) = true
      · rw [if_pos t] at heq
        have hlt : j < l.length := by
          rw [Bool.or_eq_true] at t
          rcases t with q | q <;> exact isT_lt q
        have ho2 : g (j + 1) ≠ .out := fun q => ho (heq.symm.trans (by rw [q]; rfl))
        have hres : ∃ qs i2 ok3, outV (g (j + 1)) = .tup [.sl (.none 2) (qs.map encW), .int .i64 (i2 : Nat), .bool ok3] ∧ (ok3 = true → g (j + 1) = .ok qs i2) ∧ (ok3 = false → g (j + 1) = .bad i2 ∧ qs = []) := by
          cases hr : g (j + 1) with
          | ok ws i => exact ⟨ws, i, true, rfl, fun _ => rfl, fun q => (by cases q)⟩
          | bad i => exact ⟨[], i, false, rfl, fun q => (by cases q), fun _ => ⟨rfl, rfl⟩⟩
          | out => exact absurd hr ho2
        obtain ⟨qs, i2, ok3, hv2, hok2, hbad2⟩ := hres
        have hql : qs.length ≤ 70000 := by
          cases ok3 with
          | true => obtain ⟨k1, k2, k3⟩ := hp _ _ _ (hok2 rfl); omega
          | false => rw [(hbad2 rfl).2]; exact Nat.zero_le _
        have ha2 : (((j + 1 : Nat) : Int) ≤ l.length + 2) = True := eq_true (by omega)
        have hn2 := hfr (n + 2) (by omega)
        have hn4 := hfr (n + 4) (by omega)
        have hn7 := hfr (n + 7) (by omega)
        have nx : ∀ G (o : Int), (∀ m, n + 9 ≤ m → hget G m = none) → o = (if isT l j [47] = true then 6 else 5) →
            lpN (fun v : V90 => (⟨[(0, true, .sl (.none 4) (l.map encK)), (7, true, .sl v.tk (v.ws.map encW)), (8, true, .int .i64 v.i), (9, true, .bool v.ok)], v.H, v.n⟩ : AS))
              (fun v => Fresh v.H v.n ∧ (v.tk = .none 2 ∨ ∃ id, v.tk = .own id 2) ∧ v.ws.length ≤ 70000 ∧ (v.ok = true → v.i ≤ l.length ∧ v.ws.length ≤ v.i ∧ chainF l g [42] 5 [47] 6 v.f v.ws v.i = tgt) ∧ (v.ok = false → tgt = .bad v.i)) (fun v => v.f) ⟨f + 1, j, vs, tk, true, H, n⟩
              ⟨[(0, true, .sl (.none 4) (l.map encK)), (7, true, .sl (.own (n + 7) 2) (vs.map encW ++ qs.map encW ++ [encW ⟨o, 0⟩])), (8, true, .int .i64 i2), (9, true, .bool ok3)], G, n + 9⟩ := by
          intro G o hG hO
          refine .mk ⟨f, i2, vs ++ qs ++ [⟨o, 0⟩], .own (n + 7) 2, ok3, G, n + 9⟩ (by simp only [List.map_append, List.map_cons, List.map_nil]) ⟨hG, .inr ⟨_, rfl⟩, ?_, fun q => ?_, fun q => ?_⟩ (by simp only []; omega)
          · simp only [List.length_append, List.length_cons, List.length_nil]
            cases ok3 with
            | true => obtain ⟨k1, k2, k3⟩ := hp _ _ _ (hok2 rfl); omega
            | false => rw [(hbad2 rfl).2]; simp only [List.length_nil]; omega
          · have q' := hok2 q
            obtain ⟨k1, k2, k3⟩ := hp _ _ _ q'
            rw [q'] at heq
            refine ⟨k2, by simp only [List.length_append, List.length_cons, List.length_nil]; omega, ?_⟩
            rw [hO]; exact heq
          · rw [(hbad2 q).1] at heq; exact heq.symm
        have cases3 : (isT l j [42] = true ∧ isT l j [47] = false) ∨ (isT l j [42] = false ∧ isT l j [47] = true) := by
          cases q1 : isT l j [42] with
          | true => exact .inl ⟨rfl, isT_one q1 (by decide)⟩
          | false => exact .inr ⟨rfl, by simpa [q1] using t⟩
        rcases cases3 with ⟨t1, t2⟩ | ⟨t1, t2⟩ <;> rcases htk with rfl | ⟨id, rfl⟩
        all_goals
          rw [t2] at nx
          simp only [eE, eN, k_cond, sel, reduceCtorEq, Nat.reduceEqDiff, ↓reduceIte, Nat.reduceAdd, Nat.reduceLeDiff, Nat.reduceMul, Nat.reduceLT, Int.reduceEq, T1, T2, T3, s61, s63, sR, encdK_map, decK_map, Int.natCast_nonneg, Int.toNat_natCast, t1, t2, e, ha2, ho2, hv2, List.getElem?_cons_zero, List.getElem?_cons_succ, Option.getD_some, hn2, hn4, hn7]
          refine ⟨?_, ?_, ?_, nx _ _ (fun m hm => ?_) rfl⟩
          · unfold small; simp only [List.length_map]; omega
          · unfold small; simp only [List.length_map]; omega
          · unfold small; simp only [List.length_append, List.length_map]; omega
          · simp only [hget_hset]
            repeat rw [if_neg (by omega)]
            exact hfr m (by omega)
      · rw [if_neg t] at heq
        have t1 : isT l j [42] = false := by cases q : isT l j [42] <;> simp_all
        have t2 : isT l j [47] = false := by cases q : isT l j [47] <;> simp_all
        rw [← heq]
        simp only [eE, eN, k_cond, sel, reduceCtorEq, Nat.reduceEqDiff, ↓reduceIte, Nat.reduceAdd, Nat.reduceLeDiff, Nat.reduceMul, Int.reduceEq, outV, T2, s61, encdK_map, decK_map, Int.natCast_nonneg, Int.toNat_natCast, t1, t2]
        exact wk_tup3 (Wk.sl (by rcases htk with rfl | ⟨id, rfl⟩ <;> exact .inl rfl)) (Wk.refl _) (Wk.refl _)
theorem p62 {l : List Tkn} {g : Nat → PR} (hll : l.length ≤ 65536) (hg : RefOK 90 l g) (hp : ∀ a, Prog l a (g a)) : RefOK 62 l fun a => bindR (g a) fun ws i => chainF l g [43] 3 [45] 4 (l.length + 1) ws i := by
  intro a ha ho
  simp only [] at ho ⊢
  have hT := TC_ok.add (qR hg)
  have T1 : ∀ x H, tadd 90 (sR l g) TC 90 x H = sR l g x H := fun _ _ => rfl
  have T2 : ∀ x H, tadd 90 (sR l g) TC 61 x H = s61 x H := fun _ _ => rfl
  have T3 : ∀ x H, tadd 90 (sR l g) TC 63 x H = s63 x H := fun _ _ => rfl
  generalize hTT : tadd 90 (sR l g) TC = TT at hT T1 T2 T3
  refine .mk ⟨⟨trivial, encK_under 0 l⟩, trivial, trivial⟩ (outV_under _) (a62 (ev_awp hT (ev_evK ?_)))
  have ho1 : g a ≠ .out := fun q => ho (by rw [q]; rfl)
  have ha' : ((a : Int) ≤ l.length + 2) = True := eq_true (by omega)
  have hres : ∃ ws i ok, outV (g a) = .tup [.sl (.none 2) (ws.map encW), .int .i64 (i : Nat), .bool ok] ∧ (ok = true → g a = .ok ws i) ∧ (ok = false → g a = .bad i ∧ ws = []) := by
    cases hr : g a with
    | ok ws i => exact ⟨ws, i, true, rfl, fun _ => rfl, fun q => (by cases q)⟩
    | bad i => exact ⟨[], i, false, rfl, fun q => (by cases q), fun _ => ⟨rfl, rfl⟩⟩
    | out => exact absurd hr ho1
  obtain ⟨ws, i, ok, hv, hok, hbad⟩ := hres
  simp only [eE, eN, reduceCtorEq, Nat.reduceEqDiff, ↓reduceIte, Nat.reduceAdd, Nat.reduceLT, c62, T1, sR, Int.natCast_nonneg, Int.toNat_natCast, ha', ho1, hv, List.getElem?_cons_zero, List.getElem?_cons_succ, Option.getD_some]
  generalize htg : (bindR (g a) fun ws i => chainF l g [43] 3 [45] 4 (l.length + 1) ws i) = tgt at ho ⊢
  refine k_loop (fun v : V90 => ⟨[(0, true, .sl (.none 4) (l.map encK)), (7, true, .sl v.tk (v.ws.map encW)), (8, true, .int .i64 v.i), (9, true, .bool v.ok)], v.H, v.n⟩)
    (fun v => Fresh v.H v.n ∧ (v.tk = .none 2 ∨ ∃ id, v.tk = .own id 2) ∧ v.ws.length ≤ 70000 ∧ (v.ok = true → v.i ≤ l.length ∧ v.ws.length ≤ v.i ∧ chainF l g [43] 3 [45] 4 v.f v.ws v.i = tgt) ∧ (v.ok = false → tgt = .bad v.i)) (fun v => v.f)
    ⟨l.length + 1, i, ws, .none 2, ok, hnil, 0⟩ rfl ⟨fun _ _ => rfl, .inl rfl, ?_, fun q => ?_, fun q => ?_⟩ ?_
  · simp only []
    cases ok with
    | true => obtain ⟨k1, k2, k3⟩ := hp _ _ _ (hok rfl); omega
    | false => rw [(hbad rfl).2]; exact Nat.zero_le _
  · have q' := hok q
    obtain ⟨k1, k2, k3⟩ := hp _ _ _ q'
    rw [q'] at htg
    exact ⟨k2, by simp only []; omega, htg⟩
  · rw [(hbad q).1] at htg; exact htg.symm
  rintro ⟨f, j, vs, tk, ok2, H, n⟩ ⟨hfr, htk, hvs, hyes, hno⟩
  simp only at hfr htk hvs hyes hno
  cases ok2 with
  | false =>
    rw [hno rfl]
    simp only [eE, eN, k_cond, sel, reduceCtorEq, Nat.reduceEqDiff, ↓reduceIte, Nat.reduceAdd, Nat.reduceLeDiff, Nat.reduceMul, Int.reduceEq, outV, T2, s61, encdK_map, decK_map, Int.natCast_nonneg, Int.toNat_natCast]
    exact wk_tup3 (Wk.sl (.inr rfl)) (Wk.refl _) (Wk.refl _)
  | true =>
    obtain ⟨hj, hvl, heq⟩ := hyes rfl
    have hjn : (0 : Int) ≤ j := by omega
    have e := w64_succ (k := j) (by omega)
    cases f with
    | zero => exact absurd heq.symm (by rw [chainF]; exact ho)
    | succ f =>
      rw [chainF] at heq
      by_cases t : (isT l j [43] || isT l j [45]) = true
      · rw [if_pos t] at heq
        have hlt : j < l.length := by
          rw [Bool.or_eq_true] at t
          rcases t with q | q <;> exact isT_lt q
        have ho2 : g (j + 1) ≠ .out := fun q => ho (heq.symm.trans (by rw [q]; rfl))
        have hres : ∃ qs i2 ok3, outV (g (j + 1)) = .tup [.sl (.none 2) (qs.map encW), .int .i64 (i2 : Nat), .bool ok3] ∧ (ok3 = true → g (j + 1) = .ok qs i2) ∧ (ok3 = false → g (j + 1) = .bad i2 ∧ qs = []) := by
          cases hr : g (j + 1) with
          | ok ws i => exact ⟨ws, i, true, rfl, fun _ => rfl, fun q => (by cases q)⟩
          | bad i => exact ⟨[], i, false, rfl, fun q => (by cases q), fun _ => ⟨rfl, rfl⟩⟩
          | out => exact absurd hr ho2
        obtain ⟨qs, i2, ok3, hv2, hok2, hbad2⟩ := hres
        have hql : qs.length ≤ 70000 := by
          cases ok3 with
          | true => obtain ⟨k1, k2, k3⟩ := hp _ _ _ (hok2 rfl); omega
          | false => rw [(hbad2 rfl).2]; exact Nat.zero_le _
        have ha2 : (((j + 1 : Nat) : Int) ≤ l.length + 2) = True := eq_true (by omega)
        have hn2 := hfr (n + 2) (by omega)
        have hn4 := hfr (n + 4) (by omega)
        have hn7 := hfr (n + 7) (by omega)
        have nx : ∀ G (o : Int), (∀ m, n + 9 ≤ m → hget G m = none) → o = (if isT l j [45] = true then 4 else 3) →
            lpN (fun v : V90 => (⟨[(0, true, .sl (.none 4) (l.map encK)), (7, true, .sl v.tk (v.ws.map encW)), (8, true, .int .i64 v.i), (9, true, .bool v.ok)], v.H, v.n⟩ : AS))
              (fun v => Fresh v.H v.n ∧ (v.tk = .none 2 ∨ ∃ id, v.tk = .own id 2) ∧ v.ws.length ≤ 70000 ∧ (v.ok = true → v.i ≤ l.length ∧ v.ws.length ≤ v.i ∧ chainF l g [43] 3 [45] 4 v.f v.ws v.i = tgt) ∧ (v.ok = false → tgt = .bad v.i)) (fun v => v.f) ⟨f + 1, j, vs, tk, true, H, n⟩
              ⟨[(0, true, .sl (.none 4) (l.map encK)), (7, true, .sl (.own (n + 7) 2) (vs.map encW ++ qs.map encW ++ [encW ⟨o, 0⟩])), (8, true, .int .i64 i2), (9, true, .bool ok3)], G, n + 9⟩ := by
          intro G o hG hO
          refine .mk ⟨f, i2, vs ++ qs ++ [⟨o, 0⟩], .own (n + 7) 2, ok3, G, n + 9⟩ (by simp only [List.map_append, List.map_cons, List.map_nil]) ⟨hG, .inr ⟨_, rfl⟩, ?_, fun q => ?_, fun q => ?_⟩ (by simp only []; omega)
          · simp only [List.length_append, List.length_cons, List.length_nil]
            cases ok3 with
            | true => obtain ⟨k1, k2, k3⟩ := hp _ _ _ (hok2 rfl); omega
            | false => rw [(hbad2 rfl).2]; simp only [List.length_nil]; omega
          · have q' := hok2 q
            obtain ⟨k1, k2, k3⟩ := hp _ _ _ q'
            rw [q'] at heq
            refine ⟨k2, by simp only [List.length_append, List.length_cons, List.length_nil]; omega, ?_⟩
            rw [hO]; exact heq
          · rw [(hbad2 q).1] at heq; exact heq.symm
        have cases3 : (isT l j [43] = true ∧ isT l j [45] = false) ∨ (isT l j [43] = false ∧ isT l j [45] = true) := by
          cases q1 : isT l j [43] with
          | true => exact .inl ⟨rfl, isT_one q1 (by decide)⟩
          | false => exact .inr ⟨rfl, by simpa [q1] using t⟩
        rcases cases3 with ⟨t1, t2⟩ | ⟨t1, t2⟩ <;> rcases htk with rfl | ⟨id, rfl⟩
        all_goals
          rw [t2] at nx
          simp only [eE, eN, k_cond, sel, reduceCtorEq, Nat.reduceEqDiff, ↓reduceIte, Nat.reduceAdd, Nat.reduceLeDiff, Nat.reduceMul, Nat.reduceLT, Int.reduceEq, T1, T2, T3, s61, s63, sR, encdK_map, decK_map, Int.natCast_nonneg, Int.toNat_natCast, t1, t2, e, ha2, ho2, hv2, List.getElem?_cons_zero, List.getElem?_cons_succ, Option.getD_some, hn2, hn4, hn7]
          refine ⟨?_, ?_, ?_, nx _ _ (fun m hm => ?_) rfl⟩
          · unfold small; simp only [List.length_map]; omega
          · unfold small; simp only [List.length_map]; omega
          · unfold small; simp only [List.length_append, List.length_map]; omega
          · simp only [hget_hset]
            repeat rw [if_neg (by omega)]
            exact hfr m (by omega)
      · rw [if_neg t] at heq
        have t1 : isT l j [43] = false := by cases q : isT l j [43] <;> simp_all
        have t2 : isT l j [45] = false := by cases q : isT l j [45] <;> simp_all
        rw [← heq]
        simp only [eE, eN, k_cond, sel, reduceCtorEq, Nat.reduceEqDiff, ↓reduceIte, Nat.reduceAdd, Nat.reduceLeDiff, Nat.reduceMul, Int.reduceEq, outV, T2, s61, encdK_map, decK_map, Int.natCast_nonneg, Int.toNat_natCast, t1, t2]
        exact wk_tup3 (Wk.sl (by rcases htk with rfl | ⟨id, rfl⟩ <;> exact .inl rfl)) (Wk.refl _) (Wk.refl _)
end Go.AM
end
section
set_option maxRecDepth 20000
set_option linter.all false
set_option maxHeartbeats 1000000
namespace Go.AM
open Go.Proofs Go.Lib
theorem out_cases {r : PR} (h : r ≠ .out) : (∃ ws i, r = .ok ws i ∧ outV r = .tup [.sl (.none 2) (ws.map encW), .int .i64 (i : Nat), .bool true]) ∨ ∃ i, r = .bad i ∧ outV r = .tup [.sl (.none 2) [], .int .i64 (i : Nat), .bool false] := by
  cases r with
  | ok ws i => exact .inl ⟨ws, i, rfl, rfl⟩
  | bad i => exact .inr ⟨i, rfl, rfl⟩
  | out => exact absurd rfl h
def bothR (l : List Tkn) (g : Grm) (a : Nat) : PR := wantR l (a + 1) [40] (bindR (g.e (a + 2)) fun x i => wantR l i [44] (bindR (g.e (i + 1)) fun y j => wantR l j [41] (.ok (x ++ y ++ [⟨if isT l a sMax then 8 else 7, 0⟩]) (j + 1))))
theorem want_yes {l : List Tkn} {a : Nat} {s : List UInt8} {r : PR} (h : isT l a s = true) : wantR l a s r = r := by unfold wantR; rw [if_pos h]
theorem want_no {l : List Tkn} {a : Nat} {s : List UInt8} {r : PR} (h : isT l a s = false) : wantR l a s r = .bad a := by unfold wantR; rw [if_neg (by rw [h]; decide)]
theorem wkv {x : Tok} {e : Nat} {l : List AVal} {b c : AVal} (h : x.esz = e ∨ l = []) : Wk (.tup [.sl x l, b, c]) (.tup [.sl (.none e) l, b, c]) := wk_tup3 (Wk.sl h) (Wk.refl _) (Wk.refl _)
theorem p120 {l : List Tkn} {g : Grm} (hll : l.length ≤ 65536) (hg : RefOK 25 l g.e) (hp : ∀ a, Prog l a (g.e a)) : RefOK 120 l (bothR l g) := by
  intro a ha ho
  have hT := TC_ok.add (qR hg)
  have T1 : ∀ x H, tadd 25 (sR l g.e) TC 25 x H = sR l g.e x H := fun _ _ => rfl
  have T2 : ∀ x H, tadd 25 (sR l g.e) TC 61 x H = s61 x H := fun _ _ => rfl
  have T3 : ∀ x H, tadd 25 (sR l g.e) TC 63 x H = s63 x H := fun _ _ => rfl
  generalize hTT : tadd 25 (sR l g.e) TC = TT at hT T1 T2 T3
  refine .mk ⟨⟨trivial, encK_under 0 l⟩, trivial, trivial⟩ (outV_under _) (a120 (ev_awp hT (ev_evK ?_)))
  have e1 := w64_succ (k := a) (by omega)
  have e2 : IntKind.wrap .i64 ((a : Int) + 2) = ((a + 2 : Nat) : Int) := by rw [w64_in (by omega) (by omega)]; rfl
  by_cases u1 : isT l (a + 1) [40] = true
  case neg =>
    have u1' : isT l (a + 1) [40] = false := by simpa using u1
    have hr : bothR l g a = .bad (a + 1) := by unfold bothR; exact want_no u1'
    rw [hr]; simp only [outV]
    cases t2 : isT l a sMax <;>
    · simp only [kont_nil, kont_n, kont_r, k_skip, k_ret, k_seq, k_cond, k_reg, r_nil, r_v, r_vg, r_pick, r_call, r_callg, r_app, appE, callT, penv, postC, rcs, rc1, rvS, gok, gvb, eget, lk, lkv, oks, AS.put, AS.keep, evk, evS_eq, allS, fillS, Opk.opds, isI, toI, isB, toB, sel, iarith, hget_nil, AVal.cells, Tok.esz, List.length_cons, List.length_nil, List.filterMap, List.map_cons, List.map_nil, List.append_nil, List.nil_append, Option.map_some, reduceCtorEq, and_true, true_and, forall_const, Nat.reduceEqDiff, ↓reduceIte, Bool.false_eq_true, Nat.reduceAdd, Nat.reduceLeDiff, Nat.reduceMul, Nat.reduceLT, Int.reduceEq, List.replicate_zero, Bool.true_and, isDiv, false_implies, implies_true, Nat.zero_add, Bool.cond_true_left, imp_self, beq_false, Bool.not_eq_true', Bool.not_eq_false', Bool.or_eq_true, Bool.or_eq_false_iff, ne_eq, not_false_eq_true, impA1, and_self, true_or, ret_eq, Nat.add_zero, killTok, appOK, srcOf, c120, and_false, T2, s61, encdK_map, decK_map, Int.natCast_nonneg, Int.toNat_natCast, t2, e1, u1']
      exact wkv (.inr rfl)
  have hlt := isT_lt u1
  have ha2 : (((a + 2 : Nat) : Int) ≤ l.length + 2) = True := eq_true (by omega)
  have b1 : bothR l g a = bindR (g.e (a + 2)) fun x i => wantR l i [44] (bindR (g.e (i + 1)) fun y j => wantR l j [41] (.ok (x ++ y ++ [⟨if isT l a sMax then 8 else 7, 0⟩]) (j + 1))) := by unfold bothR; exact want_yes u1
  have ho1 : g.e (a + 2) ≠ .out := fun q => ho (by rw [b1, q]; rfl)
  rcases out_cases ho1 with ⟨x, i, hx, vx⟩ | ⟨i, hx, vx⟩
  case inr =>
    have hr : bothR l g a = .bad i := by rw [b1, hx]; rfl
    rw [hr]; simp only [outV]
    cases t2 : isT l a sMax <;>
    · simp only [kont_nil, kont_n, kont_r, k_skip, k_ret, k_seq, k_cond, k_reg, r_nil, r_v, r_vg, r_pick, r_call, r_callg, r_app, appE, callT, penv, postC, rcs, rc1, rvS, gok, gvb, eget, lk, lkv, oks, AS.put, AS.keep, evk, evS_eq, allS, fillS, Opk.opds, isI, toI, isB, toB, sel, iarith, hget_hset, hget_nil, AVal.cells, Tok.esz, List.length_cons, List.length_nil, List.filterMap, List.map_cons, List.map_nil, List.append_nil, List.nil_append, Option.map_some, reduceCtorEq, and_true, true_and, forall_const, Nat.reduceEqDiff, ↓reduceIte, Bool.false_eq_true, Nat.reduceAdd, Nat.reduceLeDiff, Nat.reduceMul, Nat.reduceLT, Int.reduceEq, List.replicate_zero, Bool.true_and, isDiv, false_implies, implies_true, Nat.zero_add, Bool.cond_true_left, imp_self, beq_false, Bool.not_eq_true', Bool.not_eq_false', Bool.or_eq_true, Bool.or_eq_false_iff, ne_eq, not_false_eq_true, impA1, and_self, or_true, true_or, ret_eq, Nat.add_zero, killTok, appOK, srcOf, c120, false_and, and_false, T1, sR, T2, s61, encdK_map, decK_map, Int.natCast_nonneg, Int.toNat_natCast, t2, e1, e2, u1, ha2, ho1, vx, List.getElem?_cons_zero, List.getElem?_cons_succ, Option.getD_some]
      exact wkv (.inr rfl)
  obtain ⟨k1, k2, k3⟩ := hp _ _ _ hx
  have b2 : bothR l g a = wantR l i [44] (bindR (g.e (i + 1)) fun y j => wantR l j [41] (.ok (x ++ y ++ [⟨if isT l a sMax then 8 else 7, 0⟩]) (j + 1))) := by rw [b1, hx]; rfl
  by_cases u2 : isT l i [44] = true
  case neg =>
    have u2' : isT l i [44] = false := by simpa using u2
    have hr : bothR l g a = .bad i := by rw [b2]; exact want_no u2'
    rw [hr]; simp only [outV]
    cases t2 : isT l a sMax <;>
    · simp only [kont_nil, kont_n, kont_r, k_skip, k_ret, k_seq, k_cond, k_reg, r_nil, r_v, r_vg, r_pick, r_call, r_callg, r_app, appE, callT, penv, postC, rcs, rc1, rvS, gok, gvb, eget, lk, lkv, oks, AS.put, AS.keep, evk, evS_eq, allS, fillS, Opk.opds, isI, toI, isB, toB, sel, iarith, hget_hset, hget_nil, AVal.cells, Tok.esz, List.length_cons, List.length_nil, List.filterMap, List.map_cons, List.map_nil, List.append_nil, List.nil_append, Option.map_some, reduceCtorEq, and_true, true_and, forall_const, Nat.reduceEqDiff, ↓reduceIte, Bool.false_eq_true, Nat.reduceAdd, Nat.reduceLeDiff, Nat.reduceMul, Nat.reduceLT, Int.reduceEq, List.replicate_zero, Bool.true_and, isDiv, false_implies, implies_true, Nat.zero_add, Bool.cond_true_left, imp_self, beq_false, Bool.not_eq_true', Bool.not_eq_false', Bool.or_eq_true, Bool.or_eq_false_iff, ne_eq, not_false_eq_true, impA1, and_self, or_true, true_or, ret_eq, Nat.add_zero, killTok, appOK, srcOf, c120, and_false, T1, sR, T2, s61, encdK_map, decK_map, Int.natCast_nonneg, Int.toNat_natCast, t2, e1, e2, u1, ha2, ho1, vx, List.getElem?_cons_zero, List.getElem?_cons_succ, Option.getD_some, u2']
      exact wkv (.inr rfl)
  have hlt2 := isT_lt u2
  have e3 := w64_succ (k := i) (by omega)
  have ha3 : (((i + 1 : Nat) : Int) ≤ l.length + 2) = True := eq_true (by omega)
  have b3 : bothR l g a = bindR (g.e (i + 1)) fun y j => wantR l j [41] (.ok (x ++ y ++ [⟨if isT l a sMax then 8 else 7, 0⟩]) (j + 1)) := by rw [b2]; exact want_yes u2
  have ho2 : g.e (i + 1) ≠ .out := fun q => ho (by rw [b3, q]; rfl)
  rcases out_cases ho2 with ⟨y, j, hy, vy⟩ | ⟨j, hy, vy⟩
  case inr =>
    have hr : bothR l g a = .bad j := by rw [b3, hy]; rfl
    rw [hr]; simp only [outV]
    cases t2 : isT l a sMax <;>
    · simp only [kont_nil, kont_n, kont_r, k_skip, k_ret, k_seq, k_cond, k_reg, r_nil, r_v, r_vg, r_pick, r_call, r_callg, r_app, appE, callT, penv, postC, rcs, rc1, rvS, gok, gvb, eget, lk, lkv, oks, AS.put, AS.keep, evk, evS_eq, allS, fillS, Opk.opds, isI, toI, isB, toB, sel, iarith, hget_hset, hget_nil, AVal.cells, Tok.esz, List.length_cons, List.length_nil, List.filterMap, List.map_cons, List.map_nil, List.append_nil, List.nil_append, Option.map_some, reduceCtorEq, and_true, true_and, forall_const, Nat.reduceEqDiff, ↓reduceIte, Bool.false_eq_true, Nat.reduceAdd, Nat.reduceLeDiff, Nat.reduceMul, Nat.reduceLT, Int.reduceEq, List.replicate_zero, Bool.true_and, isDiv, false_implies, implies_true, Nat.zero_add, Bool.cond_true_left, imp_self, beq_false, Bool.not_eq_true', Bool.not_eq_false', Bool.or_eq_true, Bool.or_eq_false_iff, ne_eq, not_false_eq_true, and_self, or_true, true_or, or_false, ret_eq, Nat.add_zero, killTok, appOK, srcOf, c120, false_and, and_false, T1, sR, T2, s61, encdK_map, decK_map, Int.natCast_nonneg, Int.toNat_natCast, t2, e1, e2, u1, ha2, ho1, vx, List.getElem?_cons_zero, List.getElem?_cons_succ, Option.getD_some, u2, e3, ha3, ho2, vy]
      exact wkv (.inr rfl)
  obtain ⟨k4, k5, k6⟩ := hp _ _ _ hy
  have b4 : bothR l g a = wantR l j [41] (.ok (x ++ y ++ [⟨if isT l a sMax then 8 else 7, 0⟩]) (j + 1)) := by rw [b3, hy]; rfl
  by_cases u3 : isT l j [41] = true
  case neg =>
    have u3' : isT l j [41] = false := by simpa using u3
    have hr : bothR l g a = .bad j := by rw [b4]; exact want_no u3'
    rw [hr]; simp only [outV]
    cases t2 : isT l a sMax <;>
    · simp only [kont_nil, kont_n, kont_r, k_skip, k_ret, k_seq, k_cond, k_reg, r_nil, r_v, r_vg, r_pick, r_call, r_callg, r_app, appE, callT, penv, postC, rcs, rc1, rvS, gok, gvb, eget, lk, lkv, oks, AS.put, AS.keep, evk, evS_eq, allS, fillS, Opk.opds, isI, toI, isB, toB, sel, iarith, hget_hset, hget_nil, AVal.cells, Tok.esz, List.length_cons, List.length_nil, List.filterMap, List.map_cons, List.map_nil, List.append_nil, List.nil_append, Option.map_some, reduceCtorEq, and_true, true_and, forall_const, Nat.reduceEqDiff, ↓reduceIte, Bool.false_eq_true, Nat.reduceAdd, Nat.reduceLeDiff, Nat.reduceMul, Nat.reduceLT, Int.reduceEq, List.replicate_zero, Bool.true_and, isDiv, false_implies, implies_true, Nat.zero_add, Bool.cond_true_left, beq_false, Bool.not_eq_true', Bool.not_eq_false', Bool.or_eq_true, Bool.or_eq_false_iff, ne_eq, not_false_eq_true, and_self, or_true, true_or, or_false, ret_eq, Nat.add_zero, killTok, appOK, srcOf, c120, and_false, T1, sR, T2, s61, encdK_map, decK_map, Int.natCast_nonneg, Int.toNat_natCast, t2, e1, e2, u1, ha2, ho1, vx, List.getElem?_cons_zero, List.getElem?_cons_succ, Option.getD_some, u2, e3, ha3, ho2, vy, u3']
      exact wkv (.inr rfl)
  have hlt3 := isT_lt u3
  have e4 := w64_succ (k := j) (by omega)
  have hr : bothR l g a = .ok (x ++ y ++ [⟨if isT l a sMax then 8 else 7, 0⟩]) (j + 1) := by rw [b4]; exact want_yes u3
  rw [hr]; simp only [outV]
  cases t2 : isT l a sMax
  all_goals
    simp only [kont_nil, kont_n, kont_r, k_skip, k_ret, k_seq, k_cond, k_reg, r_nil, r_v, r_vg, r_pick, r_call, r_callg, r_app, appE, callT, penv, postC, rcs, rc1, rvS, gok, gvb, eget, lk, lkv, oks, AS.put, AS.keep, evk, evS_eq, allS, fillS, Opk.opds, isI, toI, isB, toB, sel, iarith, hget_hset, hget_nil, AVal.cells, Tok.esz, List.length_cons, List.length_nil, List.filterMap, List.map_cons, List.map_nil, List.append_nil, List.nil_append, Option.map_some, reduceCtorEq, and_true, true_and, forall_const, Nat.reduceEqDiff, ↓reduceIte, Bool.false_eq_true, Nat.reduceAdd, Nat.reduceLeDiff, Nat.reduceMul, Nat.reduceLT, Int.reduceEq, List.replicate_zero, Bool.true_and, isDiv, false_implies, implies_true, Nat.zero_add, Bool.cond_true_left, beq_false, Bool.not_eq_true', Bool.not_eq_false', Bool.or_eq_true, Bool.or_eq_false_iff, ne_eq, not_false_eq_true, and_self, true_or, or_false, ret_eq, Nat.add_zero, killTok, appOK, srcOf, c120, T1, T3, s63, sR, T2, s61, encdK_map, decK_map, Int.natCast_nonneg, Int.toNat_natCast, t2, e1, e2, u1, ha2, ho1, vx, List.getElem?_cons_zero, List.getElem?_cons_succ, Option.getD_some, u2, e3, ha3, ho2, vy, u3, e4]
    have hx1 : x.length ≤ 70000 := by omega
    have hy1 : y.length ≤ 70000 := by omega
    refine ⟨?_, ?_, ?_, ?_⟩
    · unfold small; simp only [List.length_map]; omega
    · unfold small; simp only [List.length_map]; omega
    · unfold small; simp only [List.length_append, List.length_map]; omega
    · simp only [List.map_append, List.map_cons, List.map_nil]; exact wkv (.inl rfl)
theorem p108 {l : List Tkn} {g : Grm} (hll : l.length ≤ 65536) (hg : RefOK 25 l g.e) (hb : RefOK 120 l (bothR l g)) (hp : ∀ a, Prog l a (g.e a)) : RefOK 108 l (unitR l g) := by
  intro a ha ho
  have hT := (TC_ok.add (qR hg)).add (qR hb)
  have T1 : ∀ x H, tadd 120 (sR l (bothR l g)) (tadd 25 (sR l g.e) TC) 25 x H = sR l g.e x H := fun _ _ => rfl
  have T2 : ∀ x H, tadd 120 (sR l (bothR l g)) (tadd 25 (sR l g.e) TC) 61 x H = s61 x H := fun _ _ => rfl
  have T4 : ∀ x H, tadd 120 (sR l (bothR l g)) (tadd 25 (sR l g.e) TC) 99 x H = s30' x H := fun _ _ => rfl
  have T5 : ∀ x H, tadd 120 (sR l (bothR l g)) (tadd 25 (sR l g.e) TC) 120 x H = sR l (bothR l g) x H := fun _ _ => rfl
  generalize hTT : tadd 120 (sR l (bothR l g)) (tadd 25 (sR l g.e) TC) = TT at hT T1 T2 T4 T5
  refine .mk ⟨⟨trivial, encK_under 0 l⟩, trivial, trivial⟩ (outV_under _) (a108 (ev_awp hT (ev_evK ?_)))
  have e1 := w64_succ (k := a) (by omega)
  have none_of : (∀ s, isT l a s = false) → numW l a = none → unitR l g a = .bad a := fun h hn => by
    have hi : idxF (isT l a) namesI = none := idxF_none _ fun j hj => h _
    unfold unitR unitR2 unitR3
    rw [hn, hi]
    simp only [h, Bool.or_self, Bool.false_eq_true, if_false]
    exact want_no (h _)
  by_cases hlt : a < l.length
  case neg =>
    have hn : numW l a = none := by unfold numW; rw [List.getElem?_eq_none (by omega)]
    rw [none_of (fun s => by unfold isT; rw [List.getElem?_eq_none (by omega)]) hn]; simp only [outV]
    have c1 : ((l.length : Int) ≤ a) = True := eq_true (by omega)
    simp only [kont_nil, kont_n, kont_r, k_skip, k_ret, k_seq, k_block, k_cond, k_reg, r_nil, r_v, r_vg, r_pick, r_call, r_callg, callT, penv, postC, rcs, rc1, rvS, gok, gvb, eget, lk, lkv, oks, AS.put, AS.keep, evk, evB_eq, allB, fillB, evS_eq, allS, fillS, splice, Opk.opds, aload, isI, isInt, toI, isB, toB, sel, mk, icmp, iarith, nT, AVal.cells, Tok.esz, List.length_cons, List.length_nil, List.filterMap, List.map_cons, List.map_nil, List.append_nil, List.nil_append, List.cons_append, Option.map_some, reduceCtorEq, and_true, true_and, forall_const, Nat.reduceEqDiff, ↓reduceIte, Bool.false_eq_true, Nat.reduceAdd, List.drop, List.take, List.drop_succ_cons, List.take_succ_cons, Nat.reduceLeDiff, Nat.reduceMul, Nat.reduceLT, Int.reduceEq, List.set_cons_zero, List.replicate_succ, List.replicate_zero, Nat.le_refl, Bool.true_and, isDiv, false_implies, implies_true, Nat.zero_add, Bool.cond_true_left, imp_self, beq_false, Bool.not_eq_true', Bool.not_eq_false', Bool.or_eq_true, Bool.or_eq_false_iff, decide_eq_true_eq, decide_eq_false_iff_not, ne_eq, not_false_eq_true, impA1, and_self, ret_eq, Nat.add_zero, decide_true, c108, List.length_map, c1]
    exact wkv (.inr rfl)
  have c1 : ((l.length : Int) ≤ a) = False := eq_false (by omega)
  have hg' := List.getElem?_eq_getElem hlt
  by_cases hK : l[a].K = 2
  · have hKT : (l[a].K = 2) = True := eq_true hK
    by_cases hN : l[a].N ≤ 1048576
    · have hNT : ((1048576 : Int) < l[a].N) = False := eq_false (by omega)
      have hr : unitR l g a = .ok [⟨1, l[a].N⟩] (a + 1) := by unfold unitR numW; rw [hg']; simp only; rw [if_pos ⟨hK, hN⟩]
      rw [hr]; simp only [outV]
      simp only [kont_nil, kont_n, kont_r, k_skip, k_ret, k_seq, k_block, k_cond, k_reg, r_nil, r_v, r_vg, r_pick, r_call, r_callg, callT, penv, postC, rcs, rc1, rvS, gok, gvb, eget, lk, lkv, oks, AS.put, AS.keep, evk, evB_eq, allB, fillB, evS_eq, allS, fillS, splice, Opk.opds, aload, isI, isInt, toI, isB, toB, sel, mk, icmp, iarith, nT, AVal.cells, Tok.esz, List.length_cons, List.length_nil, List.filterMap, List.map_cons, List.map_nil, List.append_nil, List.nil_append, List.cons_append, Option.map_some, reduceCtorEq, and_true, true_and, forall_const, Nat.reduceEqDiff, ↓reduceIte, Bool.false_eq_true, Nat.reduceAdd, List.drop, List.take, List.drop_succ_cons, List.take_succ_cons, Nat.reduceLeDiff, Nat.reduceMul, Nat.reduceLT, Int.reduceEq, List.set_cons_zero, List.replicate_succ, List.replicate_zero, Nat.le_refl, List.headD_cons, Bool.true_and, isDiv, false_implies, implies_true, Nat.zero_add, Bool.cond_true_left, imp_self, beq_false, Bool.not_eq_true', Bool.not_eq_false', Bool.or_eq_true, Bool.or_eq_false_iff, ne_eq, not_false_eq_true, impA1, and_self, ret_eq, Nat.add_zero, decide_true, decide_false, c108, List.length_map, c1, Int.ofNat_lt, hlt, List.getElem?_map, hg', Option.getD_some, Int.toNat_natCast, Int.natCast_nonneg, hKT, hNT, e1]
      exact wkv (.inl rfl)
    · have hNT : ((1048576 : Int) < l[a].N) = True := eq_true (by omega)
      have hn : numW l a = none := by unfold numW; rw [hg']; simp only; rw [if_neg (fun q => hN q.2)]
      rw [none_of (fun s => by unfold isT; rw [hg']; simp [hK]) hn]; simp only [outV]
      simp only [kont_nil, kont_n, kont_r, k_skip, k_ret, k_seq, k_block, k_cond, k_reg, r_nil, r_v, r_vg, r_pick, r_call, r_callg, callT, penv, postC, rcs, rc1, rvS, gok, gvb, eget, lk, lkv, oks, AS.put, AS.keep, evk, evB_eq, allB, fillB, evS_eq, allS, fillS, splice, Opk.opds, aload, isI, isInt, toI, isB, toB, sel, mk, icmp, iarith, nT, AVal.cells, Tok.esz, List.length_cons, List.length_nil, List.filterMap, List.map_cons, List.map_nil, List.append_nil, List.nil_append, List.cons_append, Option.map_some, reduceCtorEq, and_true, true_and, forall_const, Nat.reduceEqDiff, ↓reduceIte, Bool.false_eq_true, Nat.reduceAdd, List.drop, List.take, List.drop_succ_cons, List.take_succ_cons, Nat.reduceLeDiff, Nat.reduceMul, Nat.reduceLT, Int.reduceEq, List.set_cons_zero, List.replicate_succ, List.replicate_zero, Nat.le_refl, List.headD_cons, Bool.true_and, isDiv, false_implies, implies_true, Nat.zero_add, Bool.cond_true_left, imp_self, beq_false, Bool.not_eq_true', Bool.not_eq_false', Bool.or_eq_true, Bool.or_eq_false_iff, ne_eq, not_false_eq_true, impA1, and_self, ret_eq, Nat.add_zero, decide_true, decide_false, c108, List.length_map, c1, Int.ofNat_lt, hlt, List.getElem?_map, hg', Option.getD_some, Int.toNat_natCast, Int.natCast_nonneg, hKT, hNT]
      exact wkv (.inr rfl)
  have hKT : (l[a].K = 2) = False := eq_false hK
  have hn : numW l a = none := by unfold numW; rw [hg']; simp only; rw [if_neg (fun q => hK q.1)]
  have hu1 : unitR l g a = unitR2 l g a := by unfold unitR; rw [hn]
  by_cases t40 : isT l a [40] = true
  · have tn : ∀ s, s ≠ [40] → isT l a s = false := fun s hs => isT_one t40 (fun q => hs q.symm)
    have hi : idxF (isT l a) namesI = none := idxF_none _ fun j hj => tn _ (by
      have : ∀ k : Fin 5, namesI[k.val] ≠ [40] := by decide
      exact this ⟨j, hj⟩)
    have hu2 : unitR l g a = bindR (g.e (a + 1)) fun x i => wantR l i [41] (.ok x (i + 1)) := by
      rw [hu1]; unfold unitR2 unitR3
      rw [hi, tn sMin (by decide), tn sMax (by decide)]
      exact want_yes t40
    have ha2 : (((a + 1 : Nat) : Int) ≤ l.length + 2) = True := eq_true (by omega)
    have ho1 : g.e (a + 1) ≠ .out := fun q => ho (by rw [hu2, q]; rfl)
    rcases out_cases ho1 with ⟨x, i, hx, vx⟩ | ⟨i, hx, vx⟩
    case inr =>
      have hr : unitR l g a = .bad i := by rw [hu2, hx]; rfl
      rw [hr]; simp only [outV]
      simp only [kont_nil, kont_n, kont_r, k_skip, k_ret, k_seq, k_block, k_cond, k_reg, r_nil, r_v, r_vg, r_pick, r_call, r_callg, callT, penv, postC, rcs, rc1, rvS, gok, gvb, eget, lk, lkv, oks, AS.put, AS.keep, evk, evB_eq, allB, fillB, evS_eq, allS, fillS, splice, Opk.opds, aload, isI, isInt, toI, isB, toB, sel, mk, icmp, iarith, nT, AVal.cells, Tok.esz, List.length_cons, List.length_nil, List.filterMap, List.map_cons, List.map_nil, List.append_nil, List.nil_append, List.cons_append, Option.map_some, reduceCtorEq, and_true, true_and, forall_const, Nat.reduceEqDiff, ↓reduceIte, Bool.false_eq_true, Nat.reduceAdd, List.drop, List.take, List.drop_succ_cons, List.take_succ_cons, Nat.reduceLeDiff, Nat.reduceMul, Nat.reduceLT, Int.reduceEq, List.set_cons_zero, List.replicate_succ, List.replicate_zero, Nat.le_refl, List.headD_cons, Bool.true_and, isDiv, false_implies, implies_true, Nat.zero_add, Bool.cond_true_left, imp_self, beq_false, Bool.not_eq_true', Bool.not_eq_false', Bool.or_eq_true, Bool.or_eq_false_iff, decide_eq_true_eq, decide_eq_false_iff_not, ne_eq, not_false_eq_true, and_self, true_or, ret_eq, Nat.add_zero, decide_false, c108, List.length_map, c1, Int.ofNat_lt, hlt, List.getElem?_map, hg', Option.getD_some, Int.toNat_natCast, Int.natCast_nonneg, hKT, T2, s61, encdK_map, decK_map, t40, T1, sR, e1, ha2, ho1, vx, List.getElem?_cons_zero, List.getElem?_cons_succ, false_and, and_false]
      exact wkv (.inr rfl)
    obtain ⟨k1, k2, k3⟩ := hp _ _ _ hx
    by_cases u : isT l i [41] = true
    · have hlt2 := isT_lt u
      have e3 := w64_succ (k := i) (by omega)
      have hr : unitR l g a = .ok x (i + 1) := by rw [hu2, hx]; exact want_yes u
      rw [hr]; simp only [outV]
      simp only [kont_nil, kont_n, kont_r, k_skip, k_ret, k_seq, k_block, k_cond, k_reg, r_nil, r_v, r_vg, r_pick, r_call, r_callg, callT, penv, postC, rcs, rc1, rvS, gok, gvb, eget, lk, lkv, oks, AS.put, AS.keep, evk, evB_eq, allB, fillB, evS_eq, allS, fillS, splice, Opk.opds, aload, isI, isInt, toI, isB, toB, sel, mk, icmp, iarith, nT, AVal.cells, Tok.esz, List.length_cons, List.length_nil, List.filterMap, List.map_cons, List.map_nil, List.append_nil, List.nil_append, List.cons_append, Option.map_some, reduceCtorEq, and_true, true_and, forall_const, Nat.reduceEqDiff, ↓reduceIte, Bool.false_eq_true, Nat.reduceAdd, List.drop, List.take, List.drop_succ_cons, List.take_succ_cons, Nat.reduceLeDiff, Nat.reduceMul, Nat.reduceLT, Int.reduceEq, List.set_cons_zero, List.replicate_succ, List.replicate_zero, Nat.le_refl, List.headD_cons, Bool.true_and, isDiv, false_implies, implies_true, Nat.zero_add, Bool.cond_true_left, imp_self, beq_false, Bool.not_eq_true', Bool.not_eq_false', Bool.or_eq_true, Bool.or_eq_false_iff, decide_eq_true_eq, decide_eq_false_iff_not, ne_eq, not_false_eq_true, and_self, true_or, or_false, ret_eq, Nat.add_zero, decide_false, c108, List.length_map, c1, Int.ofNat_lt, hlt, List.getElem?_map, hg', Option.getD_some, Int.toNat_natCast, Int.natCast_nonneg, hKT, T2, s61, encdK_map, decK_map, t40, T1, sR, e1, ha2, ho1, vx, List.getElem?_cons_zero, List.getElem?_cons_succ, u, e3]
      exact Wk.refl _
    · have u' : isT l i [41] = false := by simpa using u
      have hr : unitR l g a = .bad i := by rw [hu2, hx]; exact want_no u'
      rw [hr]; simp only [outV]
      simp only [kont_nil, kont_n, kont_r, k_skip, k_ret, k_seq, k_block, k_cond, k_reg, r_nil, r_v, r_vg, r_pick, r_call, r_callg, callT, penv, postC, rcs, rc1, rvS, gok, gvb, eget, lk, lkv, oks, AS.put, AS.keep, evk, evB_eq, allB, fillB, evS_eq, allS, fillS, splice, Opk.opds, aload, isI, isInt, toI, isB, toB, sel, mk, icmp, iarith, nT, AVal.cells, Tok.esz, List.length_cons, List.length_nil, List.filterMap, List.map_cons, List.map_nil, List.append_nil, List.nil_append, List.cons_append, Option.map_some, reduceCtorEq, and_true, true_and, forall_const, Nat.reduceEqDiff, ↓reduceIte, Bool.false_eq_true, Nat.reduceAdd, List.drop, List.take, List.drop_succ_cons, List.take_succ_cons, Nat.reduceLeDiff, Nat.reduceMul, Nat.reduceLT, Int.reduceEq, List.set_cons_zero, List.replicate_succ, List.replicate_zero, Nat.le_refl, List.headD_cons, Bool.true_and, isDiv, false_implies, implies_true, Nat.zero_add, Bool.cond_true_left, imp_self, beq_false, Bool.not_eq_true', Bool.not_eq_false', Bool.or_eq_true, Bool.or_eq_false_iff, decide_eq_true_eq, decide_eq_false_iff_not, ne_eq, not_false_eq_true, and_self, or_true, true_or, ret_eq, Nat.add_zero, decide_false, c108, List.length_map, c1, Int.ofNat_lt, hlt, List.getElem?_map, hg', Option.getD_some, Int.toNat_natCast, Int.natCast_nonneg, hKT, T2, s61, encdK_map, decK_map, t40, T1, sR, e1, ha2, ho1, vx, List.getElem?_cons_zero, List.getElem?_cons_succ, u', and_false]
      exact wkv (.inr rfl)
  have t40' : isT l a [40] = false := by simpa using t40
  by_cases tm : (isT l a sMin || isT l a sMax) = true
  · have tx : ∃ s, isT l a s = true ∧ (s = sMin ∨ s = sMax) := by
      rw [Bool.or_eq_true] at tm
      rcases tm with q | q
      · exact ⟨_, q, .inl rfl⟩
      · exact ⟨_, q, .inr rfl⟩
    have hi : idxF (isT l a) namesI = none := by
      obtain ⟨s, hs, hs2⟩ := tx
      refine idxF_none _ fun j hj => isT_one hs ?_
      have k1 : ∀ k : Fin 5, sMin ≠ namesI[k.val] := by decide
      have k2 : ∀ k : Fin 5, sMax ≠ namesI[k.val] := by decide
      rcases hs2 with rfl | rfl
      · exact k1 ⟨j, hj⟩
      · exact k2 ⟨j, hj⟩
    have hu2 : unitR l g a = bothR l g a := by
      rw [hu1]; unfold unitR2 unitR3
      rw [hi]; simp only; rw [if_pos tm]; rfl
    have ha3 : ((a : Int) ≤ l.length + 2) = True := eq_true (by omega)
    rw [hu2] at ho ⊢
    have hv : ∃ x b c, outV (bothR l g a) = .tup [.sl (.none 2) x, b, c] := by
      rcases out_cases ho with ⟨x, i, hx, vx⟩ | ⟨i, hx, vx⟩
      · exact ⟨_, _, _, vx⟩
      · exact ⟨_, _, _, vx⟩
    obtain ⟨x, b, c, hv⟩ := hv
    rw [hv]
    have cases2 : (isT l a sMin = true) ∨ (isT l a sMin = false ∧ isT l a sMax = true) := by
      cases q1 : isT l a sMin with
      | true => exact .inl rfl
      | false => exact .inr ⟨rfl, by simpa [q1] using tm⟩
    rcases cases2 with t1 | ⟨t1, t2⟩
    · simp only [kont_nil, kont_n, kont_r, k_skip, k_ret, k_seq, k_block, k_cond, k_reg, r_nil, r_v, r_vg, r_pick, r_call, r_callg, callT, penv, postC, rcs, rc1, rvS, gok, gvb, eget, lk, lkv, oks, AS.put, AS.keep, evk, evB_eq, allB, fillB, evS_eq, allS, fillS, splice, Opk.opds, aload, isI, isInt, toI, isB, toB, sel, mk, icmp, iarith, nT, AVal.cells, Tok.esz, List.length_cons, List.length_nil, List.filterMap, List.map_cons, List.map_nil, List.append_nil, List.nil_append, List.cons_append, Option.map_some, reduceCtorEq, and_true, true_and, forall_const, Nat.reduceEqDiff, ↓reduceIte, Bool.false_eq_true, Nat.reduceAdd, List.drop, List.take, List.drop_succ_cons, List.take_succ_cons, Nat.reduceLeDiff, Nat.reduceMul, Nat.reduceLT, Int.reduceEq, List.set_cons_zero, List.replicate_succ, List.replicate_zero, Nat.le_refl, List.headD_cons, Bool.true_and, isDiv, false_implies, implies_true, Nat.zero_add, Bool.cond_true_left, imp_self, beq_false, Bool.not_eq_true', Bool.not_eq_false', Bool.or_eq_true, Bool.or_eq_false_iff, decide_eq_true_eq, decide_eq_false_iff_not, ne_eq, not_false_eq_true, impA1, and_self, true_or, ret_eq, Nat.add_zero, decide_false, cond_true, c108, List.length_map, c1, Int.ofNat_lt, hlt, List.getElem?_map, hg', Option.getD_some, Int.toNat_natCast, Int.natCast_nonneg, hKT, T2, s61, encdK_map, decK_map, t40', t1, T5, sR, ha3, ho, hv, List.getElem?_cons_zero, List.getElem?_cons_succ, and_false]
      exact Wk.refl _
    · simp only [kont_nil, kont_n, kont_r, k_skip, k_ret, k_seq, k_block, k_cond, k_reg, r_nil, r_v, r_vg, r_pick, r_call, r_callg, callT, penv, postC, rcs, rc1, rvS, gok, gvb, eget, lk, lkv, oks, AS.put, AS.keep, evk, evB_eq, allB, fillB, evS_eq, allS, fillS, splice, Opk.opds, aload, isI, isInt, toI, isB, toB, sel, mk, icmp, iarith, nT, AVal.cells, Tok.esz, List.length_cons, List.length_nil, List.filterMap, List.map_cons, List.map_nil, List.append_nil, List.nil_append, List.cons_append, Option.map_some, reduceCtorEq, and_true, true_and, forall_const, Nat.reduceEqDiff, ↓reduceIte, Bool.false_eq_true, Nat.reduceAdd, List.drop, List.take, List.drop_succ_cons, List.take_succ_cons, Nat.reduceLeDiff, Nat.reduceMul, Nat.reduceLT, Int.reduceEq, List.set_cons_zero, List.replicate_succ, List.replicate_zero, Nat.le_refl, List.headD_cons, Bool.true_and, Bool.and_true, beq_self_eq_true, isDiv, false_implies, implies_true, Nat.zero_add, Bool.cond_true_left, imp_self, beq_false, Bool.not_eq_true', Bool.not_eq_false', Bool.or_eq_true, Bool.or_eq_false_iff, decide_eq_true_eq, decide_eq_false_iff_not, ne_eq, not_false_eq_true, impA1, and_self, true_or, ret_eq, Nat.add_zero, decide_false, cond_false, c108, List.length_map, c1, Int.ofNat_lt, hlt, List.getElem?_map, hg', Option.getD_some, Int.toNat_natCast, Int.natCast_nonneg, hKT, T2, s61, encdK_map, decK_map, t40', t1, t2, T5, sR, ha3, ho, hv, List.getElem?_cons_zero, List.getElem?_cons_succ]
      exact Wk.refl _
  have t1 : isT l a sMin = false := by cases q : isT l a sMin <;> simp_all
  have t2 : isT l a sMax = false := by cases q : isT l a sMax <;> simp_all
  simp only [kont_nil, kont_n, kont_r, k_skip, k_ret, k_seq, k_block, k_cond, k_reg, r_nil, r_v, r_vg, r_pick, r_call, r_callg, callT, penv, postC, rcs, rc1, rvS, gok, gvb, eget, lk, lkv, oks, AS.put, AS.keep, evk, evB_eq, allB, fillB, evS_eq, allS, fillS, splice, Opk.opds, aload, isI, isInt, toI, isB, toB, sel, mk, icmp, iarith, nT, AVal.cells, Tok.esz, List.length_cons, List.length_nil, List.filterMap, List.map_cons, List.map_nil, List.append_nil, List.nil_append, List.cons_append, Option.map_some, reduceCtorEq, and_true, true_and, forall_const, Nat.reduceEqDiff, ↓reduceIte, Bool.false_eq_true, Nat.reduceAdd, List.drop, List.take, List.drop_succ_cons, List.take_succ_cons, Nat.reduceLeDiff, Nat.reduceMul, Nat.reduceLT, Int.reduceEq, List.set_cons_zero, List.replicate_succ, List.replicate_zero, Nat.le_refl, List.headD_cons, Bool.true_and, Bool.and_true, beq_self_eq_true, isDiv, false_implies, implies_true, Nat.zero_add, Bool.cond_true_left, imp_self, beq_false, Bool.not_eq_true', Bool.not_eq_false', Bool.or_eq_true, Bool.or_eq_false_iff, decide_eq_true_eq, decide_eq_false_iff_not, ne_eq, not_false_eq_true, impA1, and_self, true_or, ret_eq, Nat.add_zero, decide_false, cond_false, c108, List.length_map, c1, Int.ofNat_lt, hlt, List.getElem?_map, hg', Option.getD_some, Int.toNat_natCast, Int.natCast_nonneg, hKT, T2, s61, encdK_map, decK_map, t40', t1, t2, T4, s30']
  refine k_loop (fun i : Nat => ⟨[(0, true, .sl (.none 4) (l.map encK)), (1, true, .int .i64 a), (13, true, .sl (.none 1) (namesI.map .str)), (14, true, .int .i64 i)], hnil, 0⟩)
    (fun i => i ≤ namesI.length ∧ ∀ j (hj : j < namesI.length), j < i → isT l a namesI[j] = false) (fun i => namesI.length - i) 0 rfl ⟨by omega, fun j _ hj => by omega⟩ ?_
  rintro i ⟨hi, hall⟩
  have hlen : namesI.length = 5 := rfl
  generalize hNS : namesI = NS at hi hall hlen
  by_cases hlt2 : i < NS.length
  · have e3 := w64_succ (k := i) (by omega)
    have hgi := List.getElem?_eq_getElem hlt2
    simp only [kont_nil, kont_n, kont_e, kont_r, kont_bn, kont_be, kont_br, k_skip, k_exit, k_ret, k_seq, k_block, k_cond, k_reg, r_nil, r_v, r_call, callT, lpQ_n, lpQ_e, lpQ_r, postC, rcs, rc1, rvS, eget, lk, lkv, oks, AS.put, AS.keep, evk, evB_eq, allB, fillB, evS_eq, allS, fillS, splice, Opk.opds, aload, isI, isInt, toI, isB, toB, mk, icmp, iarith, nT, AVal.cells, Tok.esz, List.length_cons, List.length_nil, List.filterMap, List.map_cons, List.map_nil, List.append_nil, List.nil_append, List.cons_append, Option.map_some, reduceCtorEq, and_true, true_and, forall_const, Nat.reduceEqDiff, ↓reduceIte, Bool.false_eq_true, Nat.reduceAdd, List.drop, List.take, List.drop_succ_cons, List.take_succ_cons, Nat.reduceLeDiff, Nat.reduceMul, Nat.reduceLT, Int.reduceEq, List.set_cons_zero, List.replicate_succ, List.replicate_zero, Nat.le_refl, List.headD_cons, isDiv, false_implies, implies_true, Nat.zero_add, ne_eq, not_false_eq_true, and_self, true_or, ret_eq, Nat.add_zero, decide_true, List.length_map, Int.ofNat_lt, hlt2, List.getElem?_map, hgi, Option.getD_some, Int.toNat_natCast, Int.natCast_nonneg, e3, T2, s61, encdK_map, decK_map, e1]
    refine ⟨fun q => ?_, fun q => .mk (i + 1) rfl ⟨hlt2, fun j hj h1 => ?_⟩ (by omega)⟩
    · have hr : unitR l g a = .ok [⟨2, i⟩] (a + 1) := by rw [hu1]; unfold unitR2; rw [hNS, idxF_some i NS hlt2 q hall]
      rw [hr]
      exact wkv (.inl rfl)
    · by_cases h2 : j = i
      · subst h2; exact q
      · exact hall j hj (by omega)
  · simp only [kont_nil, kont_n, kont_e, kont_r, kont_bn, kont_be, kont_br, k_skip, k_exit, k_ret, k_seq, k_block, k_cond, k_reg, r_nil, r_v, r_call, callT, lpQ_n, lpQ_e, lpQ_r, postC, rcs, rc1, rvS, eget, lk, lkv, oks, AS.put, AS.keep, evk, evB_eq, allB, fillB, evS_eq, allS, fillS, splice, Opk.opds, aload, isI, isInt, toI, isB, toB, mk, icmp, iarith, nT, AVal.cells, Tok.esz, List.length_cons, List.length_nil, List.filterMap, List.map_cons, List.map_nil, List.append_nil, List.nil_append, List.cons_append, Option.map_some, reduceCtorEq, true_and, forall_const, Nat.reduceEqDiff, ↓reduceIte, Bool.false_eq_true, Nat.reduceAdd, List.drop, List.take, List.drop_succ_cons, List.take_succ_cons, Nat.reduceLeDiff, Nat.reduceMul, Nat.reduceLT, Int.reduceEq, List.set_cons_zero, List.replicate_succ, List.replicate_zero, Nat.le_refl, isDiv, false_implies, implies_true, Nat.zero_add, ne_eq, not_false_eq_true, and_self, ret_eq, Nat.add_zero, decide_false, List.length_map, Int.ofNat_lt, hlt2]
    have hr : unitR l g a = .bad a := by
      rw [hu1]; unfold unitR2 unitR3
      rw [hNS, idxF_none NS fun j hj => hall j hj (by omega), t1, t2]
      exact want_no t40'
    rw [hr]
    exact wkv (.inr rfl)
end Go.AM
end
section
set_option maxRecDepth 20000
set_option linter.all false
set_option maxHeartbeats 1000000
namespace Go.AM
open Go.Proofs Go.Lib
theorem p25 {l : List Tkn} {g : Grm} (hll : l.length ≤ 65536) (he : RefOK 25 l g.e) (hs : RefOK 62 l g.s) (pe : ∀ a, Prog l a (g.e a)) (ps : ∀ a, Prog l a (g.s a)) : RefOK 25 l (exprR l g) := by
  intro a ha ho
  have hT := (TC_ok.add (qR he)).add (qR hs)
  have T1 : ∀ x H, tadd 62 (sR l g.s) (tadd 25 (sR l g.e) TC) 25 x H = sR l g.e x H := fun _ _ => rfl
  have T1s : ∀ x H, tadd 62 (sR l g.s) (tadd 25 (sR l g.e) TC) 62 x H = sR l g.s x H := fun _ _ => rfl
  have T2 : ∀ x H, tadd 62 (sR l g.s) (tadd 25 (sR l g.e) TC) 61 x H = s61 x H := fun _ _ => rfl
  have T3 : ∀ x H, tadd 62 (sR l g.s) (tadd 25 (sR l g.e) TC) 63 x H = s63 x H := fun _ _ => rfl
  generalize hTT : tadd 62 (sR l g.s) (tadd 25 (sR l g.e) TC) = TT at hT T1 T1s T2 T3
  refine .mk ⟨⟨trivial, encK_under 0 l⟩, trivial, trivial⟩ (outV_under _) (a25 (ev_awp hT (ev_evK ?_)))
  by_cases t : isT l a sIf = true
  case neg =>
    have t' : isT l a sIf = false := by simpa using t
    have hr : exprR l g a = g.s a := by unfold exprR; rw [if_neg t]
    rw [hr] at ho ⊢
    have ha0 : ((a : Int) ≤ l.length + 2) = True := eq_true (by omega)
    have hv : ∃ x b c, outV (g.s a) = .tup [.sl (.none 2) x, b, c] := by
      rcases out_cases ho with ⟨x, i, hx, vx⟩ | ⟨i, hx, vx⟩
      · exact ⟨_, _, _, vx⟩
      · exact ⟨_, _, _, vx⟩
    obtain ⟨x, b, c, hv⟩ := hv
    rw [hv]
    simp only [eE, eN, k_cond, sel, reduceCtorEq, Nat.reduceEqDiff, ↓reduceIte, Nat.reduceAdd, Nat.reduceLeDiff, Nat.reduceMul, Nat.reduceLT, Int.reduceEq, c25, T1s, sR, T2, s61, encdK_map, decK_map, Int.natCast_nonneg, Int.toNat_natCast, List.getElem?_cons_zero, List.getElem?_cons_succ, Option.getD_some, t', ha0, ho, hv]
    exact Wk.refl _
  have hlt0 := isT_lt t
  have e0 := w64_succ (k := a) (by omega)
  have b0 : exprR l g a = bindR (g.s (a + 1)) fun x i => wantR l i [60] (bindR (g.s (i + 1)) fun y j => wantR l j sThen (bindR (g.e (j + 1)) fun z k => wantR l k sElse (bindR (g.e (k + 1)) fun w m => .ok (x ++ y ++ [⟨9, 0⟩] ++ z ++ w ++ [⟨10, 0⟩]) m))) := by unfold exprR; rw [if_pos t]
  have ha0 : (((a + 1 : Nat) : Int) ≤ l.length + 2) = True := eq_true (by omega)
  have ho0 : g.s (a + 1) ≠ .out := fun q => ho (by rw [b0, q]; rfl)
  rcases out_cases ho0 with ⟨x, i, h0, v0⟩ | ⟨i, h0, v0⟩
  case inr =>
    have hr : exprR l g a = .bad i := by rw [b0, h0]; rfl
    rw [hr]; simp only [outV]
    simp only [eE, eN, k_cond, sel, reduceCtorEq, Nat.reduceEqDiff, ↓reduceIte, Nat.reduceAdd, Nat.reduceLeDiff, Nat.reduceMul, Nat.reduceLT, Int.reduceEq, c25, false_and, and_false, T1, T1s, sR, T2, s61, encdK_map, decK_map, Int.natCast_nonneg, Int.toNat_natCast, List.getElem?_cons_zero, List.getElem?_cons_succ, Option.getD_some, t, e0, ha0, ho0, v0]
    exact wkv (.inr rfl)
  obtain ⟨k01, k02, k03⟩ := ps _ _ _ h0
  have c0 : exprR l g a = wantR l i [60] (bindR (g.s (i + 1)) fun y j => wantR l j sThen (bindR (g.e (j + 1)) fun z k => wantR l k sElse (bindR (g.e (k + 1)) fun w m => .ok (x ++ y ++ [⟨9, 0⟩] ++ z ++ w ++ [⟨10, 0⟩]) m))) := by rw [b0, h0]; rfl
  by_cases u0 : isT l i [60] = true
  case neg =>
    have u' : isT l i [60] = false := by simpa using u0
    have hr : exprR l g a = .bad i := by rw [c0]; exact want_no u'
    rw [hr]; simp only [outV]
    simp only [eE, eN, k_cond, sel, reduceCtorEq, Nat.reduceEqDiff, ↓reduceIte, Nat.reduceAdd, Nat.reduceLeDiff, Nat.reduceMul, Nat.reduceLT, Int.reduceEq, c25, and_false, T1, T1s, sR, T2, s61, encdK_map, decK_map, Int.natCast_nonneg, Int.toNat_natCast, List.getElem?_cons_zero, List.getElem?_cons_succ, Option.getD_some, t, e0, ha0, ho0, v0, u']
    exact wkv (.inr rfl)
  have hlt1 := isT_lt u0
  have e1 := w64_succ (k := i) (by omega)
  have b1 : exprR l g a = bindR (g.s (i + 1)) fun y j => wantR l j sThen (bindR (g.e (j + 1)) fun z k => wantR l k sElse (bindR (g.e (k + 1)) fun w m => .ok (x ++ y ++ [⟨9, 0⟩] ++ z ++ w ++ [⟨10, 0⟩]) m)) := by rw [c0]; exact want_yes u0
  have ha1 : (((i + 1 : Nat) : Int) ≤ l.length + 2) = True := eq_true (by omega)
  have ho1 : g.s (i + 1) ≠ .out := fun q => ho (by rw [b1, q]; rfl)
  rcases out_cases ho1 with ⟨y, j, h1, v1⟩ | ⟨j, h1, v1⟩
  case inr =>
    have hr : exprR l g a = .bad j := by rw [b1, h1]; rfl
    rw [hr]; simp only [outV]
    simp only [eE, eN, k_cond, sel, reduceCtorEq, Nat.reduceEqDiff, ↓reduceIte, Nat.reduceAdd, Nat.reduceLeDiff, Nat.reduceMul, Nat.reduceLT, Int.reduceEq, c25, false_and, and_false, T1, T1s, sR, T2, s61, encdK_map, decK_map, Int.natCast_nonneg, Int.toNat_natCast, List.getElem?_cons_zero, List.getElem?_cons_succ, Option.getD_some, t, e0, ha0, ho0, v0, u0, e1, ha1, ho1, v1]
    exact wkv (.inr rfl)
  obtain ⟨k11, k12, k13⟩ := ps _ _ _ h1
  have c1 : exprR l g a = wantR l j sThen (bindR (g.e (j + 1)) fun z k => wantR l k sElse (bindR (g.e (k + 1)) fun w m => .ok (x ++ y ++ [⟨9, 0⟩] ++ z ++ w ++ [⟨10, 0⟩]) m)) := by rw [b1, h1]; rfl
  by_cases u1 : isT l j sThen = true
  case neg =>
    have u' : isT l j sThen = false := by simpa using u1
    have hr : exprR l g a = .bad j := by rw [c1]; exact want_no u'
    rw [hr]; simp only [outV]
    simp only [eE, eN, k_cond, sel, reduceCtorEq, Nat.reduceEqDiff, ↓reduceIte, Nat.reduceAdd, Nat.reduceLeDiff, Nat.reduceMul, Nat.reduceLT, Int.reduceEq, c25, and_false, T1, T1s, sR, T2, s61, encdK_map, decK_map, Int.natCast_nonneg, Int.toNat_natCast, List.getElem?_cons_zero, List.getElem?_cons_succ, Option.getD_some, t, e0, ha0, ho0, v0, u0, e1, ha1, ho1, v1, u']
    exact wkv (.inr rfl)
  have hlt2 := isT_lt u1
  have e2 := w64_succ (k := j) (by omega)
  have b2 : exprR l g a = bindR (g.e (j + 1)) fun z k => wantR l k sElse (bindR (g.e (k + 1)) fun w m => .ok (x ++ y ++ [⟨9, 0⟩] ++ z ++ w ++ [⟨10, 0⟩]) m) := by rw [c1]; exact want_yes u1
  have ha2 : (((j + 1 : Nat) : Int) ≤ l.length + 2) = True := eq_true (by omega)
  have ho2 : g.e (j + 1) ≠ .out := fun q => ho (by rw [b2, q]; rfl)
  rcases out_cases ho2 with ⟨z, k, h2, v2⟩ | ⟨k, h2, v2⟩
  case inr =>
    have hr : exprR l g a = .bad k := by rw [b2, h2]; rfl
    rw [hr]; simp only [outV]
    simp only [eE, eN, k_cond, sel, reduceCtorEq, Nat.reduceEqDiff, ↓reduceIte, Nat.reduceAdd, Nat.reduceLeDiff, Nat.reduceMul, Nat.reduceLT, Int.reduceEq, c25, false_and, and_false, T1, T1s, sR, T2, s61, encdK_map, decK_map, Int.natCast_nonneg, Int.toNat_natCast, List.getElem?_cons_zero, List.getElem?_cons_succ, Option.getD_some, t, e0, ha0, ho0, v0, u0, e1, ha1, ho1, v1, u1, e2, ha2, ho2, v2]
    exact wkv (.inr rfl)
  obtain ⟨k21, k22, k23⟩ := pe _ _ _ h2
  have c2 : exprR l g a = wantR l k sElse (bindR (g.e (k + 1)) fun w m => .ok (x ++ y ++ [⟨9, 0⟩] ++ z ++ w ++ [⟨10, 0⟩]) m) := by rw [b2, h2]; rfl
  by_cases u2 : isT l k sElse = true
  case neg =>
    have u' : isT l k sElse = false := by simpa using u2
    have hr : exprR l g a = .bad k := by rw [c2]; exact want_no u'
    rw [hr]; simp only [outV]
    simp only [eE, eN, k_cond, sel, reduceCtorEq, Nat.reduceEqDiff, ↓reduceIte, Nat.reduceAdd, Nat.reduceLeDiff, Nat.reduceMul, Nat.reduceLT, Int.reduceEq, c25, and_false, T1, T1s, sR, T2, s61, encdK_map, decK_map, Int.natCast_nonneg, Int.toNat_natCast, List.getElem?_cons_zero, List.getElem?_cons_succ, Option.getD_some, t, e0, ha0, ho0, v0, u0, e1, ha1, ho1, v1, u1, e2, ha2, ho2, v2, u']
    exact wkv (.inr rfl)
  have hlt3 := isT_lt u2
  have e3 := w64_succ (k := k) (by omega)
  have b3 : exprR l g a = bindR (g.e (k + 1)) fun w m => .ok (x ++ y ++ [⟨9, 0⟩] ++ z ++ w ++ [⟨10, 0⟩]) m := by rw [c2]; exact want_yes u2
  have ha3 : (((k + 1 : Nat) : Int) ≤ l.length + 2) = True := eq_true (by omega)
  have ho3 : g.e (k + 1) ≠ .out := fun q => ho (by rw [b3, q]; rfl)
  rcases out_cases ho3 with ⟨w, m, h3, v3⟩ | ⟨m, h3, v3⟩
  case inr =>
    have hr : exprR l g a = .bad m := by rw [b3, h3]; rfl
    rw [hr]; simp only [outV]
    simp only [eE, eN, k_cond, sel, reduceCtorEq, Nat.reduceEqDiff, ↓reduceIte, Nat.reduceAdd, Nat.reduceLeDiff, Nat.reduceMul, Nat.reduceLT, Int.reduceEq, c25, T1, T1s, sR, T2, s61, encdK_map, decK_map, Int.natCast_nonneg, Int.toNat_natCast, List.getElem?_cons_zero, List.getElem?_cons_succ, Option.getD_some, t, e0, ha0, ho0, v0, u0, e1, ha1, ho1, v1, u1, e2, ha2, ho2, v2, u2, e3, ha3, ho3, v3]
    exact wkv (.inr rfl)
  obtain ⟨k31, k32, k33⟩ := pe _ _ _ h3
  have c3 : exprR l g a = .ok (x ++ y ++ [⟨9, 0⟩] ++ z ++ w ++ [⟨10, 0⟩]) m := by rw [b3, h3]; rfl
  rw [c3]; simp only [outV]
  simp only [eE, eN, k_cond, sel, reduceCtorEq, Nat.reduceEqDiff, ↓reduceIte, Nat.reduceAdd, Nat.reduceLeDiff, Nat.reduceMul, Nat.reduceLT, Int.reduceEq, c25, T3, s63, T1, T1s, sR, T2, s61, encdK_map, decK_map, Int.natCast_nonneg, Int.toNat_natCast, List.getElem?_cons_zero, List.getElem?_cons_succ, Option.getD_some, t, e0, ha0, ho0, v0, u0, e1, ha1, ho1, v1, u1, e2, ha2, ho2, v2, u2, e3, ha3, ho3, v3]
  have z0 : x.length ≤ 70000 := by omega
  have z1 : y.length ≤ 70000 := by omega
  have z2 : z.length ≤ 70000 := by omega
  have z3 : w.length ≤ 70000 := by omega
  refine ⟨?_, ?_, ?_, ?_, ?_, ?_, ?_⟩
  all_goals try (unfold small; simp only [List.length_append, List.length_map, List.length_cons, List.length_nil]; omega)
  simp only [List.map_append, List.map_cons, List.map_nil]; exact wkv (.inl rfl)
theorem refs_ok (l : List Tkn) (hll : l.length ≤ 65536) : ∀ f, RefOK 25 l (gram l f).e ∧ RefOK 62 l (gram l f).s ∧ RefOK 90 l (gram l f).p ∧ RefOK 108 l (gram l f).u
  | 0 => ⟨fun _ _ h => absurd rfl h, fun _ _ h => absurd rfl h, fun _ _ h => absurd rfl h, fun _ _ h => absurd rfl h⟩
  | f + 1 => by
    obtain ⟨he, hs, hp, hu⟩ := refs_ok l hll f
    obtain ⟨qe, qs, qp, qu⟩ := gram_prog l f
    exact ⟨p25 hll he hs qe qs, p62 hll hp qp, p90 hll hu qu, p108 hll he (p120 hll he qe) qe⟩
theorem p26 (src : List UInt8) (l : List Tkn) (i : Nat) : Pur Tryz.prog 26 [.str src, .sl (.none 4) (l.map encK), .int .i64 i] (.int .i64 (placeN src l i)) := by
  refine .mk ⟨trivial, ⟨trivial, encK_under 0 l⟩, trivial, trivial⟩ trivial (a26 (ev_awp TabOK.tnil (ev_evK ?_)))
  by_cases hlt : i < l.length
  · have hg := List.getElem?_eq_getElem hlt
    have c1 : ((l.length : Int) ≤ i) = False := eq_false (by omega)
    simp only [eE, eN, k_cond, reduceCtorEq, Nat.reduceEqDiff, ↓reduceIte, Nat.reduceAdd, c26, List.length_map, c1, Int.ofNat_lt, hlt, List.getElem?_map, hg, Option.getD_some, Int.toNat_natCast, Int.natCast_nonneg]
    unfold placeN; rw [hg]
  · have c1 : ((l.length : Int) ≤ i) = True := eq_true (by omega)
    simp only [eE, eN, k_cond, reduceCtorEq, Nat.reduceEqDiff, ↓reduceIte, Nat.reduceAdd, c26, List.length_map, c1]
    unfold placeN; rw [List.getElem?_eq_none (by omega)]
def s26 : List AVal → AHeap → Prop × AVal := fun a H => match a with
  | [.str src, .sl t L, .int .i64 p] => (encdK L ∧ (t.esz = 4 ∨ L = []) ∧ 0 ≤ p, .int .i64 (placeN src (L.map decK) p.toNat))
  | _ => (False, .tup [])
theorem q26 : ∀ args H n, (s26 args H).1 → Quiet Tryz.prog 26 args H n (s26 args H).2 := by
  intro args H n hh
  unfold s26 at hh ⊢
  split at hh
  · rename_i src t L p
    obtain ⟨h1, h2, h3⟩ := hh
    obtain ⟨k, rfl⟩ : ∃ k : Nat, p = k := ⟨p.toNat, by omega⟩
    refine ACalls.args ((p26 src (L.map decK) k).quiet H n) ?_
    rintro g vs ⟨v0, r0, rfl, k0, v, r, rfl, k1, k2⟩
    refine ⟨v0, _, rfl, k0, v, _, rfl, ?_, k2⟩
    rw [← h1]; exact Wk.sl h2 _ _ k1
  · exact hh.elim
def s24v : List AVal → AHeap → Prop × AVal := s21
theorem q24v : ∀ args H n, (s24v args H).1 → Quiet Tryz.prog 24 args H n (s24v args H).2 := by
  intro args H n h
  unfold s24v s21 at h ⊢
  split at h
  · exact (p24 _ h).quiet H n
  · exact h.elim
theorem p12 (src : List UInt8) (hs : src.length < 1000000000) : Pur Tryz.prog 12 [.str src] (parseV src) := by
  have under : (parseV src).under 0 := by
    unfold parseV parseR
    split <;> (try split) <;> (try split) <;> (try split) <;> (try split) <;> simp [AVal.under, unders, Tok.under, encW_under]
  rcases lexV_cases src with ⟨h6, hv⟩ | ⟨h6, a, ts, hr, hv⟩ | ⟨h6, a, hr, hv⟩
  · have hT := ((TabOK.tnil (P := Tryz.prog)).add q26).add q24v
    have hp : parseV src = .tup [.sl (.none 2) [], .int .i64 0, .int .i64 2] := by rw [parseV, if_pos h6]
    have T1 : ∀ x H, tadd 24 s24v (tadd 26 s26 (fun _ _ _ => (False, .tup []))) 24 x H = s21 x H := fun _ _ => rfl
    generalize hTT : tadd 24 s24v (tadd 26 s26 (fun _ _ _ => (False, .tup []))) = TT at hT T1
    refine .mk ⟨trivial, trivial⟩ under (a12 (ev_awp hT (ev_evK ?_)))
    rw [hp]
    simp only [eE, eN, k_cond, sel, reduceCtorEq, Nat.reduceEqDiff, ↓reduceIte, Nat.reduceAdd, Nat.reduceLT, Int.reduceEq, c12, s24v, s21, hs, hv, List.getElem?_cons_zero, List.getElem?_cons_succ, Option.getD_some]
    exact wkv (.inr rfl)
  · have hfew := lexR_few hr
    have hD : (gram ts (4 * ts.length + 4)).e 0 ≠ .out := (gram_deep ts ts.length 0 (by omega)).1 _ (Nat.le_refl _)
    have hR := (refs_ok ts (by omega) (4 * ts.length + 4)).1
    have hT := (((TabOK.tnil (P := Tryz.prog)).add q26).add q24v).add (qR hR)
    have hp : parseV src = parseR src ts := by rw [parseV, if_neg (by omega), hr]
    have T1 : ∀ x H, tadd 25 (sR ts (gram ts (4 * ts.length + 4)).e) (tadd 24 s24v (tadd 26 s26 (fun _ _ _ => (False, .tup [])))) 24 x H = s21 x H := fun _ _ => rfl
    have T2 : ∀ x H, tadd 25 (sR ts (gram ts (4 * ts.length + 4)).e) (tadd 24 s24v (tadd 26 s26 (fun _ _ _ => (False, .tup [])))) 25 x H = sR ts (gram ts (4 * ts.length + 4)).e x H := fun _ _ => rfl
    have T3 : ∀ x H, tadd 25 (sR ts (gram ts (4 * ts.length + 4)).e) (tadd 24 s24v (tadd 26 s26 (fun _ _ _ => (False, .tup [])))) 26 x H = s26 x H := fun _ _ => rfl
    generalize hTT : tadd 25 (sR ts (gram ts (4 * ts.length + 4)).e) (tadd 24 s24v (tadd 26 s26 (fun _ _ _ => (False, .tup [])))) = TT at hT T1 T2 T3
    refine .mk ⟨trivial, trivial⟩ under (a12 (ev_awp hT (ev_evK ?_)))
    rw [hp]
    have z0 : (0 : Int).toNat = 0 := rfl
    have z1 : ((0 : Int) ≤ (ts.length : Int) + 2) = True := eq_true (by omega)
    have hpr := (gram_prog ts (4 * ts.length + 4)).1 0
    rcases out_cases hD with ⟨ws, i, hx, vx⟩ | ⟨i, hx, vx⟩
    · obtain ⟨k1, k2, k3⟩ := hpr _ _ hx
      by_cases hi : i < ts.length
      · have hres : parseR src ts = .tup [.sl (.none 2) [], .int .i64 (placeN src ts i), .int .i64 150] := by unfold parseR; rw [hx]; simp only; rw [if_pos hi]
        have c1 : ((i : Int) = ts.length) = False := eq_false (by omega)
        rw [hres]
        simp only [eE, eN, k_cond, sel, reduceCtorEq, Nat.reduceEqDiff, ↓reduceIte, Nat.reduceAdd, Nat.reduceLT, Int.reduceLE, c12, s24v, s21, hs, hv, List.getElem?_cons_zero, List.getElem?_cons_succ, Option.getD_some, sR, z0, z1, hD, vx, List.length_map, c1, s26, encdK_map, decK_map, Int.natCast_nonneg, Int.toNat_natCast, and_false]
        exact wkv (.inr rfl)
      · have c1 : ((i : Int) = ts.length) = True := eq_true (by omega)
        by_cases hw : 256 < ws.length
        · have hres : parseR src ts = .tup [.sl (.none 2) [], .int .i64 0, .int .i64 2] := by unfold parseR; rw [hx]; simp only; rw [if_neg hi, if_pos hw]
          have hwT : ((256 : Int) < ws.length) = True := eq_true (by omega)
          rw [hres]
          simp only [eE, eN, k_cond, sel, reduceCtorEq, Nat.reduceEqDiff, ↓reduceIte, Nat.reduceAdd, Nat.reduceLT, Int.reduceLE, c12, s24v, s21, hs, hv, List.getElem?_cons_zero, List.getElem?_cons_succ, Option.getD_some, sR, z0, z1, hD, vx, List.length_map, c1, hwT]
          exact wkv (.inr rfl)
        · have hres : parseR src ts = .tup [.sl (.none 2) (ws.map encW), .int .i64 0, .int .i64 0] := by unfold parseR; rw [hx]; simp only; rw [if_neg hi, if_neg hw]
          have hwT : ((256 : Int) < ws.length) = False := eq_false (by omega)
          rw [hres]
          simp only [eE, eN, k_cond, sel, reduceCtorEq, Nat.reduceEqDiff, ↓reduceIte, Nat.reduceAdd, Nat.reduceLT, Int.reduceLE, c12, s24v, s21, hs, hv, List.getElem?_cons_zero, List.getElem?_cons_succ, Option.getD_some, sR, z0, z1, hD, vx, List.length_map, c1, hwT]
          exact Wk.refl _
    · have hres : parseR src ts = .tup [.sl (.none 2) [], .int .i64 (placeN src ts i), .int .i64 150] := by unfold parseR; rw [hx]
      rw [hres]
      simp only [eE, eN, k_cond, sel, reduceCtorEq, Nat.reduceEqDiff, ↓reduceIte, Nat.reduceAdd, Nat.reduceLT, Int.reduceLE, c12, s24v, s21, hs, hv, List.getElem?_cons_zero, List.getElem?_cons_succ, Option.getD_some, sR, z0, z1, hD, vx, List.length_map, s26, encdK_map, decK_map, Int.natCast_nonneg, Int.toNat_natCast, false_and]
      exact wkv (.inr rfl)
  · have hT := ((TabOK.tnil (P := Tryz.prog)).add q26).add q24v
    have hp : parseV src = .tup [.sl (.none 2) [], .int .i64 a, .int .i64 100] := by rw [parseV, if_neg (by omega), hr]
    have T1 : ∀ x H, tadd 24 s24v (tadd 26 s26 (fun _ _ _ => (False, .tup []))) 24 x H = s21 x H := fun _ _ => rfl
    generalize hTT : tadd 24 s24v (tadd 26 s26 (fun _ _ _ => (False, .tup []))) = TT at hT T1
    refine .mk ⟨trivial, trivial⟩ under (a12 (ev_awp hT (ev_evK ?_)))
    rw [hp]
    simp only [eE, eN, k_cond, sel, reduceCtorEq, Nat.reduceEqDiff, ↓reduceIte, Nat.reduceAdd, Nat.reduceLT, Int.reduceEq, c12, s24v, s21, hs, hv, List.getElem?_cons_zero, List.getElem?_cons_succ, Option.getD_some]
    exact wkv (.inr rfl)
end Go.AM
end
section
set_option maxRecDepth 20000
set_option linter.all false
set_option maxHeartbeats 1000000
namespace Go.AM
open Go.Proofs Go.Lib Go.Shelf
def growRen : Go.Shelf.Ren := ⟨fun | 4 => 91 | n => n, fun | 22 => 43 | 25 => 48 | n => n, fun n => n⟩
theorem growL : Lays8.n4 Tryz.prog growRen := {
  mixed := by kernel_rfl
  f4 := ⟨ "slices.Grow[[]gridwright/api.Token,gridwright/api.Token]", by decide, by kernel_rfl⟩
  t0 := Tryz.underlying0
  a0 := Tryz.isAgg0
  z0 := Tryz.sizeOf0
  v0 := Tryz.zeroValue0
  t3 := Tryz.underlying3
  a3 := Tryz.isAgg3
  z3 := Tryz.sizeOf3
  v3 := Tryz.zeroValue3
  t4 := Tryz.underlying4
  a4 := Tryz.isAgg4
  z4 := Tryz.sizeOf4
  v4 := Tryz.zeroValue4
  t9 := Tryz.underlying9
  a9 := Tryz.isAgg9
  z9 := Tryz.sizeOf9
  v9 := Tryz.zeroValue9
  t20 := Tryz.underlying20
  a20 := Tryz.isAgg20
  z20 := Tryz.sizeOf20
  v20 := Tryz.zeroValue20
  t22 := Tryz.underlying43
  a22 := Tryz.isAgg43
  z22 := Tryz.sizeOf43
  v22 := Tryz.zeroValue43 }
theorem tok_z : zeroT Tryz.prog 48 = some (.agg [.int .i64 0, .str [], .int .i64 0, .int .i64 0]) := by kernel_rfl
theorem tok_sz : (Tryz.prog.info? 48).map (fun i => (i.size, i.bytes)) = some (4, 40) := by kernel_rfl
theorem tok_info : ∃ i, Tryz.prog.info? 48 = some i ∧ i.size = 4 ∧ i.bytes = 40 ∧ ∃ z, i.zero = some z ∧ z.cells.size = 4 := by
  obtain ⟨i, zv, h1, h2, -, h4, -⟩ := zeroT_spec tok_z
  have h := tok_sz
  rw [h1] at h
  simp only [Option.map_some, Option.some.injEq, Prod.mk.injEq] at h
  exact ⟨i, h1, h.1, h.2, zv, h2, by rw [h4, h.1]⟩
theorem rel_up {g : Ghost} {H : AHeap} {n m : Nat} {w : World} (r : Rel g H n w) (h : n ≤ m) : Rel g H m w :=
  ⟨r.σw, r.obj, r.dom, fun id ob e => Nat.lt_of_lt_of_le (r.hd id ob e) h, r.ap, r.un, r.gl, r.gz⟩
theorem p91 (l91 : Callable Tryz.prog 91) (k : Nat) (hk : k ≤ 1000000000) (H : AHeap) (n : Nat) : ACalls Tryz.prog 91 [.sl .nil [], .int .i64 k] H n fun o H' n' => o = .ret (.sl (.own n 4) []) ∧ H' = hset H n .tok ∧ n' = n + 1 := by
  refine ⟨l91, fun g w vs R V => ?_⟩
  have h0 : hget H n = none := by
    cases e : hget H n with
    | none => rfl
    | some ob => exact absurd (R.hd n ob e) (Nat.lt_irrefl n)
  have hvs : vs = [.slice none 0 0, .int .i64 k] := by
    obtain ⟨a, r, rfl, v1, b, r2, rfl, v2, v3⟩ := V
    have e3 : r2 = [] := v3
    subst e3
    rcases v1 with ⟨-, rfl, -⟩ | ⟨q, -⟩
    · cases v2; rfl
    · exact q.elim
  subst hvs
  obtain ⟨i, hi, hs, hb, z, hz, hzs⟩ := tok_info
  have R1 := rel_up R (Nat.le_succ n)
  rcases Nat.eq_zero_or_pos k with rfl | hpos
  · refine (Any8.slices_Grow_room growL none 0 0 0 w (Nat.le_refl _) (by omega) (by omega) (by omega)).mono ?_
    rintro e w' ⟨rfl, rfl⟩
    obtain ⟨r1, r2, r3⟩ := R1.split (m := n) h0 (Nat.lt_succ_self n) (Nat.le_refl n) (L := ⟨0, 0, 0⟩) (H' := H) (.inl ⟨rfl, Nat.le_refl _⟩) (σ' := g.σ) (fun _ _ _ h => h) (fun _ _ _ h => .inl h)
    exact ⟨_, _, _, _, ⟨rfl, rfl, rfl⟩, .inl ⟨rfl, rfl, _, by simp; rfl⟩, r1, Nat.le_succ n, r2⟩
  · have hc := Any8.slices_Grow_grow growL i z hi hz (by omega) none 0 0 k [] w (Nat.le_refl _) (by omega) (by rw [hb]; omega) (by omega) (by simp) (fun _ => rfl) (fun a e => by cases e)
    refine hc.mono ?_
    rintro e w' ⟨rfl, rfl⟩
    generalize hcap : grownCap w (0 + k) 0 (growRen.t 25) = cap
    have hge : 0 + k ≤ cap := by rw [← hcap]; exact grownCap_ge _ _ _ _
    generalize hcs : (([] : List Value).toArray ++ Builtin.zeroCells z.cells (0 + k - 0) ++ Builtin.zeroCells z.cells (cap - (0 + k)) : Array Value) = cs
    have hcsz : cs.size = cap * 4 := by
      subst hcs
      simp only [Array.size_append, List.size_toArray, size_zeroCells, hzs, List.length_nil]
      omega
    have hnewb : (w.drew.alloc (.cells cs (growRen.t 25))).heap[w.heap.size]? = some (.cells cs (growRen.t 25) (0, 0)) := by show (w.heap.push _)[w.heap.size]? = _; simp
    obtain ⟨r1, r2, r3⟩ := R1.new' (m := n) (w' := w.drew.alloc (.cells cs (growRen.t 25))) (x := .cells cs (growRen.t 25)) rfl rfl rfl rfl h0 (Nat.lt_succ_self n) (Nat.le_refl n) (L := ⟨w.heap.size, 0, cap * 4⟩) rfl (ob := .tok)
      (σ' := g.σ) (fun _ _ _ h => h) (fun _ _ _ h => .inl h) ⟨_, by simp; rfl, fun _ => ⟨cs, _, hnewb, by rw [hcsz]; exact Nat.le_refl _⟩⟩
    exact ⟨_, _, _, _, ⟨rfl, rfl, rfl⟩, .inr ⟨trivial, w.heap.size, 0, cap, rfl, Nat.zero_le _, trivial, by simp⟩, r1, Nat.le_succ n, r2⟩
end Go.AM
end
section
set_option maxRecDepth 20000
set_option linter.all false
set_option maxHeartbeats 1000000
namespace Go.AM
open Go.Proofs Go.Lib
structure Prt where
  c : Bool
  t : List Tkn
abbrev tN (v : Int) : Tkn := ⟨2, [], v, 0⟩
abbrev tI (s : List UInt8) : Tkn := ⟨1, s, 0, 0⟩
abbrev tS (s : List UInt8) : Tkn := ⟨3, s, 0, 0⟩
def sgnO (o : Int) : List UInt8 := if o = 3 then [43] else if o = 4 then [45] else if o = 5 then [42] else [47]
def fnO (o : Int) : List UInt8 := if o = 8 then sMax else sMin
def lessT (a b : List Tkn) : List Tkn := a ++ [tS [60]] ++ b
def fcT (s : List UInt8) (a b : List Tkn) : List Tkn := [tI s] ++ [tS [40]] ++ a ++ [tS [44]] ++ b ++ [tS [41]]
def infT (s : List UInt8) (a b : List Tkn) : List Tkn := [tS [40]] ++ a ++ [tS s] ++ b ++ [tS [41]]
def binT (o : Int) (a b : List Tkn) : List Tkn := if o = 9 then lessT a b else if o = 7 ∨ o = 8 then fcT (fnO o) a b else infT (sgnO o) a b
def ifT (b c d : List Tkn) : List Tkn := [tS [40]] ++ [tI sIf] ++ b ++ [tI sThen] ++ c ++ [tI sElse] ++ d ++ [tS [41]]
def stepP (st : List Prt) (w : Wd) : Option (List Prt) :=
  if w.O = 1 then (if 0 ≤ w.N ∧ w.N ≤ 1048576 then some (⟨false, [tN w.N]⟩ :: st) else none)
  else if w.O = 2 then (if 0 ≤ w.N ∧ w.N < 5 then some (⟨false, [tI (namesI[w.N.toNat]?.getD [])]⟩ :: st) else none)
  else if w.N ≠ 0 then none
  else if w.O = 10 then (match st with
    | d :: c :: b :: r => if b.c = true ∧ c.c = false ∧ d.c = false then some (⟨false, ifT b.t c.t d.t⟩ :: r) else none
    | _ => none)
  else if 3 ≤ w.O ∧ w.O ≤ 9 then (match st with
    | b :: a :: r => if a.c = false ∧ b.c = false then some (⟨decide (w.O = 9), binT w.O a.t b.t⟩ :: r) else none
    | _ => none)
  else none
def runP : List Prt → List Wd → Option (List Prt)
  | st, [] => some st
  | st, w :: r => match stepP st w with
    | some st' => runP st' r
    | none => none
def wholeP (p : List Wd) : Option (List Tkn) := if 256 < p.length then none else match runP [] p with
  | some [x] => if x.c = true then none else some x.t
  | _ => none
theorem runP_app : ∀ (p : List Wd) (st : List Prt) (q : List Wd), runP st (p ++ q) = match runP st p with | some st' => runP st' q | none => none
  | [], st, q => rfl
  | w :: r, st, q => by
    rw [List.cons_append, runP, runP]
    cases stepP st w with
    | none => rfl
    | some st' => exact runP_app r st' q
def At (l : List Tkn) (a : Nat) (x : List Tkn) : Prop := ∀ j t, x[j]? = some t → ∃ s, l[a + j]? = some s ∧ s.K = t.K ∧ s.T = t.T ∧ s.N = t.N
theorem At.app {l : List Tkn} {a : Nat} {x y : List Tkn} (h : At l a (x ++ y)) : At l a x ∧ At l (a + x.length) y := by
  refine ⟨fun j t ht => h j t ?_, fun j t ht => ?_⟩
  · rw [List.getElem?_append_left (List.getElem?_eq_some_iff.1 ht).1]; exact ht
  · have := h (x.length + j) t (by rw [List.getElem?_append_right (by omega), Nat.add_sub_cancel_left]; exact ht)
    rwa [← Nat.add_assoc] at this
theorem At.is {l : List Tkn} {a : Nat} {t : Tkn} {r : List Tkn} (h : At l a (t :: r)) (s : List UInt8) : isT l a s = (decide (t.K ≠ 2) && decide (t.T = s)) := by
  obtain ⟨u, h1, h2, h3, -⟩ := h 0 t rfl
  rw [Nat.add_zero] at h1
  rw [isT, h1]; simp [h2, h3]
theorem At.lt {l : List Tkn} {a : Nat} {t : Tkn} {r : List Tkn} (h : At l a (t :: r)) : a < l.length := by
  obtain ⟨u, h1, -⟩ := h 0 t rfl
  exact (List.getElem?_eq_some_iff.1 h1).1
structure Un (t : List Tkn) (ws : List Wd) : Prop where
  ne : t ≠ []
  nif : ∀ l a, At l a t → isT l a sIf = false
  rd : ∀ l a, At l a t → ∀ f, 4 * t.length ≤ f → (gram l f).u a = .ok ws (a + t.length)
def stopP (l : List Tkn) (a : Nat) : Prop := isT l a [42] = false ∧ isT l a [47] = false
def stopS (l : List Tkn) (a : Nat) : Prop := isT l a [43] = false ∧ isT l a [45] = false
theorem chain_stop {l : List Tkn} {g : Nat → PR} {s1 s2 : List UInt8} {o1 o2 : Int} {f : Nat} {ws : List Wd} {a : Nat} (h1 : isT l a s1 = false) (h2 : isT l a s2 = false) (hf : 1 ≤ f) : chainF l g s1 o1 s2 o2 f ws a = .ok ws a := by
  obtain ⟨f, rfl⟩ : ∃ k, f = k + 1 := ⟨f - 1, by omega⟩
  rw [chainF, h1, h2]; rfl
theorem Un.p {t : List Tkn} {ws : List Wd} (h : Un t ws) {l : List Tkn} {a f : Nat} (ha : At l a t) (hf : 4 * t.length + 1 ≤ f) (hs : stopP l (a + t.length)) : (gram l f).p a = .ok ws (a + t.length) := by
  obtain ⟨f, rfl⟩ : ∃ k, f = k + 1 := ⟨f - 1, by omega⟩
  show prodR l (gram l f) a = _
  rw [prodR, h.rd l a ha f (by omega)]
  exact chain_stop hs.1 hs.2 (by omega)
theorem Un.s {t : List Tkn} {ws : List Wd} (h : Un t ws) {l : List Tkn} {a f : Nat} (ha : At l a t) (hf : 4 * t.length + 2 ≤ f) (hp : stopP l (a + t.length)) (hs : stopS l (a + t.length)) : (gram l f).s a = .ok ws (a + t.length) := by
  obtain ⟨f, rfl⟩ : ∃ k, f = k + 1 := ⟨f - 1, by omega⟩
  show sumR l (gram l f) a = _
  rw [sumR, h.p ha (f := f) (by omega) hp]
  exact chain_stop hs.1 hs.2 (by omega)
theorem Un.e {t : List Tkn} {ws : List Wd} (h : Un t ws) {l : List Tkn} {a f : Nat} (ha : At l a t) (hf : 4 * t.length + 3 ≤ f) (hp : stopP l (a + t.length)) (hs : stopS l (a + t.length)) : (gram l f).e a = .ok ws (a + t.length) := by
  obtain ⟨f, rfl⟩ : ∃ k, f = k + 1 := ⟨f - 1, by omega⟩
  show exprR l (gram l f) a = _
  rw [exprR, h.nif l a ha, if_neg (by decide)]
  exact h.s ha (by omega) hp hs
theorem stop_sign {l : List Tkn} {a : Nat} {s : List UInt8} {r : List Tkn} {K N : Int} (h : At l a (⟨K, s, N, 0⟩ :: r)) (h1 : s ≠ [42]) (h2 : s ≠ [47]) (h3 : s ≠ [43]) (h4 : s ≠ [45]) : stopP l a ∧ stopS l a := by
  refine ⟨⟨?_, ?_⟩, ?_, ?_⟩ <;> rw [h.is] <;> simp_all
theorem namesI_at {k : Nat} (h : k < 5) : ∃ s, namesI[k]? = some s ∧ nameS s = true ∧ s ≠ sIf ∧ ∀ l a, (∀ s', isT l a s' = decide (s = s')) → idxF (isT l a) namesI = some k := by
  have : k = 0 ∨ k = 1 ∨ k = 2 ∨ k = 3 ∨ k = 4 := by omega
  rcases this with rfl | rfl | rfl | rfl | rfl
  all_goals
    refine ⟨_, rfl, by decide, by decide, fun l a h => ?_⟩
    simp [idxF, h]
theorem un_num {v : Int} (h1 : 0 ≤ v) (h2 : v ≤ 1048576) : Un [tN v] [⟨1, v⟩] := by
  refine ⟨by simp, fun l a ha => by rw [ha.is]; simp, fun l a ha f hf => ?_⟩
  obtain ⟨f, rfl⟩ : ∃ k, f = k + 1 := ⟨f - 1, by simp at hf; omega⟩
  show unitR l (gram l f) a = _
  obtain ⟨u, q1, q2, q3, q4⟩ := ha 0 _ rfl
  rw [Nat.add_zero] at q1
  have : numW l a = some v := by
    rw [numW, q1]; simp only
    rw [if_pos ⟨q2, by rw [q4]; exact h2⟩, q4]
  rw [unitR, this]; rfl
theorem numW_no {l : List Tkn} {a : Nat} {s : List UInt8} (h : isT l a s = true) : numW l a = none := by
  unfold isT at h
  unfold numW
  split at h
  · rename_i t ht
    simp only [Bool.and_eq_true, decide_eq_true_eq] at h
    rw [if_neg (fun q => h.1 q.1)]
  · cases h
theorem un_inp {k : Nat} (h : k < 5) : Un [tI (namesI[k]?.getD [])] [⟨2, k⟩] := by
  obtain ⟨s, h1, h2, h3, h4⟩ := namesI_at h
  rw [h1, Option.getD_some]
  refine ⟨by simp, fun l a ha => by rw [ha.is]; simp [h3], fun l a ha f hf => ?_⟩
  obtain ⟨f, rfl⟩ : ∃ k, f = k + 1 := ⟨f - 1, by simp at hf; omega⟩
  show unitR l (gram l f) a = _
  have hi : ∀ s', isT l a s' = decide (s = s') := fun s' => by rw [ha.is]; simp
  rw [unitR, numW_no (s := s) (by rw [hi]; simp), unitR2, h4 l a hi]; rfl
theorem idx_none {l : List Tkn} {a : Nat} {s : List UInt8} (hi : ∀ s', isT l a s' = decide (s = s')) (h : s ∉ namesI) : idxF (isT l a) namesI = none := by
  simp only [namesI, List.mem_cons, not_or] at h
  simp [idxF, hi, h]
theorem hi_of {l : List Tkn} {a : Nat} {t : Tkn} {r : List Tkn} (h : At l a (t :: r)) (hk : t.K ≠ 2) : ∀ s', isT l a s' = decide (t.T = s') := fun s' => by rw [h.is]; simp [hk]
theorem un_paren {x : List Tkn} {ws : List Wd} (h : ∀ l a, At l a x → isT l (a + x.length) [41] = true → stopP l (a + x.length) → stopS l (a + x.length) → ∀ f, 4 * x.length + 3 ≤ f → (gram l f).e a = .ok ws (a + x.length)) :
    Un ([tS [40]] ++ x ++ [tS [41]]) ws := by
  refine ⟨by simp, fun l a ha => by rw [List.append_assoc] at ha; rw [At.is ha]; simp, fun l a ha f hf => ?_⟩
  simp only [List.length_append, List.length_cons, List.length_nil] at hf ⊢
  obtain ⟨f, rfl⟩ : ∃ k, f = k + 1 := ⟨f - 1, by omega⟩
  obtain ⟨a1, a3⟩ := ha.app
  obtain ⟨a1, a2⟩ := a1.app
  simp only [List.length_append, List.length_cons, List.length_nil] at a2 a3
  have hi := hi_of a1 (by decide)
  have i3 := hi_of a3 (by decide)
  obtain ⟨s1, s2⟩ := stop_sign a3 (by decide) (by decide) (by decide) (by decide)
  rw [show a + (0 + 1 + x.length) = a + (0 + 1) + x.length by omega] at i3 s1 s2
  have he := h l (a + (0 + 1)) a2 (by rw [i3]; decide) s1 s2 f (by omega)
  show unitR l (gram l f) a = _
  rw [unitR, numW_no (s := [40]) (by rw [hi]; decide), unitR2, idx_none hi (by decide), unitR3, if_neg (by rw [hi, hi]; decide), wantR, if_pos (by rw [hi]; decide)]
  rw [show a + 1 = a + (0 + 1) from rfl, he]
  show wantR l (a + (0 + 1) + x.length) [41] _ = _
  rw [wantR, if_pos (by rw [i3]; decide)]
  congr 1; omega
theorem un_if {b1 b2 c d : List Tkn} {w1 w2 wc wd : List Wd} (h1 : Un b1 w1) (h2 : Un b2 w2) (h3 : Un c wc) (h4 : Un d wd) : Un (ifT (lessT b1 b2) c d) (w1 ++ w2 ++ [⟨9, 0⟩] ++ wc ++ wd ++ [⟨10, 0⟩]) := by
  have e : ifT (lessT b1 b2) c d = [tS [40]] ++ ([tI sIf] ++ b1 ++ [tS [60]] ++ b2 ++ [tI sThen] ++ c ++ [tI sElse] ++ d) ++ [tS [41]] := by simp [ifT, lessT]
  rw [e]
  refine un_paren fun l a ha ht hp hs f hf => ?_
  simp only [List.length_append, List.length_cons, List.length_nil] at hf ht hp hs ⊢
  obtain ⟨a1, k8⟩ := ha.app
  obtain ⟨a1, k7⟩ := a1.app
  obtain ⟨a1, k6⟩ := a1.app
  obtain ⟨a1, k5⟩ := a1.app
  obtain ⟨a1, k4⟩ := a1.app
  obtain ⟨a1, k3⟩ := a1.app
  obtain ⟨k1, k2⟩ := a1.app
  simp only [List.length_append, List.length_cons, List.length_nil] at k2 k3 k4 k5 k6 k7 k8
  have i1 := hi_of k1 (by decide)
  have i3 := hi_of k3 (by decide)
  have i5 := hi_of k5 (by decide)
  have i7 := hi_of k7 (by decide)
  obtain ⟨p3, s3⟩ := stop_sign k3 (by decide) (by decide) (by decide) (by decide)
  obtain ⟨p5, s5⟩ := stop_sign k5 (by decide) (by decide) (by decide) (by decide)
  obtain ⟨p7, s7⟩ := stop_sign k7 (by decide) (by decide) (by decide) (by decide)
  obtain ⟨f, rfl⟩ : ∃ k, f = k + 1 := ⟨f - 1, by omega⟩
  show exprR l (gram l f) a = _
  rw [exprR, if_pos (by rw [i1]; decide)]
  have z1 := h1.s k2 (f := f) (by omega) (by rw [show a + (0 + 1) + b1.length = a + (0 + 1 + b1.length) by omega]; exact p3) (by rw [show a + (0 + 1) + b1.length = a + (0 + 1 + b1.length) by omega]; exact s3)
  have z2 := h2.s k4 (f := f) (by omega) (by rw [show a + (0 + 1 + b1.length + (0 + 1)) + b2.length = a + (0 + 1 + b1.length + (0 + 1) + b2.length) by omega]; exact p5) (by rw [show a + (0 + 1 + b1.length + (0 + 1)) + b2.length = a + (0 + 1 + b1.length + (0 + 1) + b2.length) by omega]; exact s5)
  have z3 := h3.e k6 (f := f) (by omega) (by rw [show a + (0 + 1 + b1.length + (0 + 1) + b2.length + (0 + 1)) + c.length = a + (0 + 1 + b1.length + (0 + 1) + b2.length + (0 + 1) + c.length) by omega]; exact p7) (by rw [show a + (0 + 1 + b1.length + (0 + 1) + b2.length + (0 + 1)) + c.length = a + (0 + 1 + b1.length + (0 + 1) + b2.length + (0 + 1) + c.length) by omega]; exact s7)
  have z4 := h4.e k8 (f := f) (by omega) (by rw [show a + (0 + 1 + b1.length + (0 + 1) + b2.length + (0 + 1) + c.length + (0 + 1)) + d.length = a + (0 + 1 + b1.length + (0 + 1) + b2.length + (0 + 1) + c.length + (0 + 1) + d.length) by omega]; exact hp) (by rw [show a + (0 + 1 + b1.length + (0 + 1) + b2.length + (0 + 1) + c.length + (0 + 1)) + d.length = a + (0 + 1 + b1.length + (0 + 1) + b2.length + (0 + 1) + c.length + (0 + 1) + d.length) by omega]; exact hs)
  rw [show a + 1 = a + (0 + 1) from rfl, z1, bindR, wantR, if_pos (by rw [show a + (0 + 1) + b1.length = a + (0 + 1 + b1.length) by omega, i3]; decide)]
  rw [show a + (0 + 1) + b1.length + 1 = a + (0 + 1 + b1.length + (0 + 1)) by omega, z2, bindR, wantR, if_pos (by rw [show a + (0 + 1 + b1.length + (0 + 1)) + b2.length = a + (0 + 1 + b1.length + (0 + 1) + b2.length) by omega, i5]; decide)]
  rw [show a + (0 + 1 + b1.length + (0 + 1)) + b2.length + 1 = a + (0 + 1 + b1.length + (0 + 1) + b2.length + (0 + 1)) by omega, z3, bindR, wantR, if_pos (by rw [show a + (0 + 1 + b1.length + (0 + 1) + b2.length + (0 + 1)) + c.length = a + (0 + 1 + b1.length + (0 + 1) + b2.length + (0 + 1) + c.length) by omega, i7]; decide)]
  rw [show a + (0 + 1 + b1.length + (0 + 1) + b2.length + (0 + 1)) + c.length + 1 = a + (0 + 1 + b1.length + (0 + 1) + b2.length + (0 + 1) + c.length + (0 + 1)) by omega, z4, bindR]
  congr 1; omega
theorem un_call {m : Bool} {x y : List Tkn} {wx wy : List Wd} (h1 : Un x wx) (h2 : Un y wy) : Un (fcT (if m then sMax else sMin) x y) (wx ++ wy ++ [⟨if m then 8 else 7, 0⟩]) := by
  unfold fcT
  refine ⟨by simp, fun l a ha => ?_, fun l a ha f hf => ?_⟩
  · simp only [List.append_assoc] at ha
    rw [At.is ha]; cases m <;> simp
  simp only [List.length_append, List.length_cons, List.length_nil] at hf ⊢
  obtain ⟨a1, k6⟩ := ha.app
  obtain ⟨a1, k5⟩ := a1.app
  obtain ⟨a1, k4⟩ := a1.app
  obtain ⟨a1, k3⟩ := a1.app
  obtain ⟨k1, k2⟩ := a1.app
  simp only [List.length_append, List.length_cons, List.length_nil] at k2 k3 k4 k5 k6
  have i1 := hi_of k1 (by simp)
  have i2 := hi_of k2 (by simp)
  have i4 := hi_of k4 (by decide)
  have i6 := hi_of k6 (by decide)
  obtain ⟨p4, s4⟩ := stop_sign k4 (by decide) (by decide) (by decide) (by decide)
  obtain ⟨p6, s6⟩ := stop_sign k6 (by decide) (by decide) (by decide) (by decide)
  obtain ⟨f, rfl⟩ : ∃ k, f = k + 1 := ⟨f - 1, by omega⟩
  show unitR l (gram l f) a = _
  have hm : isT l a sMax = m := by rw [i1]; cases m <;> decide
  have hn : (isT l a sMin || isT l a sMax) = true := by rw [i1, i1]; cases m <;> decide
  have z1 := h1.e k3 (f := f) (by omega) (by rw [show a + (0 + 1 + (0 + 1)) + x.length = a + (0 + 1 + (0 + 1) + x.length) by omega]; exact p4) (by rw [show a + (0 + 1 + (0 + 1)) + x.length = a + (0 + 1 + (0 + 1) + x.length) by omega]; exact s4)
  have z2 := h2.e k5 (f := f) (by omega) (by rw [show a + (0 + 1 + (0 + 1) + x.length + (0 + 1)) + y.length = a + (0 + 1 + (0 + 1) + x.length + (0 + 1) + y.length) by omega]; exact p6) (by rw [show a + (0 + 1 + (0 + 1) + x.length + (0 + 1)) + y.length = a + (0 + 1 + (0 + 1) + x.length + (0 + 1) + y.length) by omega]; exact s6)
  rw [unitR, numW_no (s := if m then sMax else sMin) (by rw [i1]; simp), unitR2, idx_none i1 (by cases m <;> decide), unitR3, if_pos hn, wantR, if_pos (by rw [show a + 1 = a + (0 + 1) from rfl, i2]; decide)]
  simp only []
  rw [show a + 2 = a + (0 + 1 + (0 + 1)) from rfl, z1, bindR, wantR, if_pos (by rw [show a + (0 + 1 + (0 + 1)) + x.length = a + (0 + 1 + (0 + 1) + x.length) by omega, i4]; decide)]
  rw [show a + (0 + 1 + (0 + 1)) + x.length + 1 = a + (0 + 1 + (0 + 1) + x.length + (0 + 1)) by omega, z2, bindR, wantR, if_pos (by rw [show a + (0 + 1 + (0 + 1) + x.length + (0 + 1)) + y.length = a + (0 + 1 + (0 + 1) + x.length + (0 + 1) + y.length) by omega, i6]; decide), hm]
  congr 1; omega
theorem un_inf {o : Int} (ho : o = 3 ∨ o = 4 ∨ o = 5 ∨ o = 6) {x y : List Tkn} {wx wy : List Wd} (h1 : Un x wx) (h2 : Un y wy) : Un (infT (sgnO o) x y) (wx ++ wy ++ [⟨o, 0⟩]) := by
  have e : infT (sgnO o) x y = [tS [40]] ++ (x ++ [tS (sgnO o)] ++ y) ++ [tS [41]] := by simp [infT]
  rw [e]
  refine un_paren fun l a ha ht hp hs f hf => ?_
  simp only [List.length_append, List.length_cons, List.length_nil] at hf ht hp hs ⊢
  obtain ⟨a1, k3⟩ := ha.app
  obtain ⟨k1, k2⟩ := a1.app
  simp only [List.length_append, List.length_cons, List.length_nil] at k3
  have i2 := hi_of k2 (by simp)
  rw [show a + (x.length + (0 + 1) + y.length) = a + (x.length + (0 + 1)) + y.length by omega] at hp hs ⊢
  have hl := At.lt k2
  obtain ⟨f, rfl⟩ : ∃ k, f = k + 1 := ⟨f - 1, by omega⟩
  show exprR l (gram l f) a = _
  rw [exprR, h1.nif l a k1, if_neg (by decide)]
  obtain ⟨f, rfl⟩ : ∃ k, f = k + 1 := ⟨f - 1, by omega⟩
  show sumR l (gram l f) a = _
  obtain ⟨L, hL⟩ : ∃ k, l.length + 1 = k + 2 := ⟨l.length - 1, by omega⟩
  rcases ho with rfl | rfl | rfl | rfl
  · have z1 := h1.p k1 (f := f) (by omega) ⟨by rw [i2]; decide, by rw [i2]; decide⟩
    have z2 := h2.p k3 (f := f) (by omega) hp
    rw [sumR, z1, bindR, hL, chainF, i2, i2, if_pos (by decide)]
    rw [show a + x.length + 1 = a + (x.length + (0 + 1)) by omega, z2, bindR, chain_stop hs.1 hs.2 (by omega)]; rfl
  · have z1 := h1.p k1 (f := f) (by omega) ⟨by rw [i2]; decide, by rw [i2]; decide⟩
    have z2 := h2.p k3 (f := f) (by omega) hp
    rw [sumR, z1, bindR, hL, chainF, i2, i2, if_pos (by decide)]
    rw [show a + x.length + 1 = a + (x.length + (0 + 1)) by omega, z2, bindR, chain_stop hs.1 hs.2 (by omega)]; rfl
  · have hpz : (gram l f).p a = .ok (wx ++ wy ++ [⟨5, 0⟩]) (a + (x.length + (0 + 1)) + y.length) := by
      obtain ⟨f, rfl⟩ : ∃ k, f = k + 1 := ⟨f - 1, by omega⟩
      show prodR l (gram l f) a = _
      rw [prodR, h1.rd l a k1 f (by omega), bindR, hL, chainF, i2, i2, if_pos (by decide)]
      rw [show a + x.length + 1 = a + (x.length + (0 + 1)) by omega, h2.rd l _ k3 f (by omega), bindR, chain_stop hp.1 hp.2 (by omega)]; rfl
    rw [sumR, hpz, bindR, chain_stop hs.1 hs.2 (by omega)]
  · have hpz : (gram l f).p a = .ok (wx ++ wy ++ [⟨6, 0⟩]) (a + (x.length + (0 + 1)) + y.length) := by
      obtain ⟨f, rfl⟩ : ∃ k, f = k + 1 := ⟨f - 1, by omega⟩
      show prodR l (gram l f) a = _
      rw [prodR, h1.rd l a k1 f (by omega), bindR, hL, chainF, i2, i2, if_pos (by decide)]
      rw [show a + x.length + 1 = a + (x.length + (0 + 1)) by omega, h2.rd l _ k3 f (by omega), bindR, chain_stop hp.1 hp.2 (by omega)]; rfl
    rw [sumR, hpz, bindR, chain_stop hs.1 hs.2 (by omega)]
end Go.AM
end
section
set_option maxRecDepth 20000
set_option linter.all false
set_option maxHeartbeats 1000000
namespace Go.AM
open Go.Proofs Go.Lib
def El (x : Prt) (ws : List Wd) : Prop := (x.c = false ∧ Un x.t ws) ∨ (x.c = true ∧ ∃ a b wa wb, x.t = lessT a b ∧ ws = wa ++ wb ++ [⟨9, 0⟩] ∧ Un a wa ∧ Un b wb)
theorem El.no {x : Prt} {ws : List Wd} (h : El x ws) (hc : x.c = false) : Un x.t ws := by
  rcases h with ⟨-, h⟩ | ⟨h, -⟩
  · exact h
  · rw [hc] at h; cases h
theorem El.yes {x : Prt} {ws : List Wd} (h : El x ws) (hc : x.c = true) : ∃ a b wa wb, x.t = lessT a b ∧ ws = wa ++ wb ++ [⟨9, 0⟩] ∧ Un a wa ∧ Un b wb := by
  rcases h with ⟨h, -⟩ | ⟨-, h⟩
  · rw [hc] at h; cases h
  · exact h
inductive Stk : List Prt → List Wd → Prop where
  | nil : Stk [] []
  | cons {st : List Prt} {p ws : List Wd} {x : Prt} : Stk st p → El x ws → Stk (x :: st) (p ++ ws)
theorem stk_step {st st' : List Prt} {p : List Wd} {w : Wd} (h : Stk st p) (hs : stepP st w = some st') : Stk st' (p ++ [w]) := by
  unfold stepP at hs
  split at hs
  · rename_i hO
    split at hs
    · rename_i hN
      cases hs
      have : w = ⟨1, w.N⟩ := by cases w; simp_all
      rw [this]
      exact h.cons (.inl ⟨rfl, un_num hN.1 hN.2⟩)
    · cases hs
  split at hs
  · rename_i hO
    split at hs
    · rename_i hN
      cases hs
      have : w = ⟨2, (w.N.toNat : Nat)⟩ := by cases w; simp only at hO hN ⊢; rw [hO, Int.toNat_of_nonneg hN.1]
      have u := un_inp (k := w.N.toNat) (by omega)
      rw [← this] at u
      exact h.cons (.inl ⟨rfl, u⟩)
    · cases hs
  split at hs
  · cases hs
  rename_i hN
  have hN : w.N = 0 := by omega
  split at hs
  · rename_i hO
    have hw : w = ⟨10, 0⟩ := by cases w; simp_all
    split at hs
    · rename_i d c b r
      split at hs
      · rename_i hc
        cases hs
        cases h with
        | cons h e4 => cases h with
          | cons h e3 => cases h with
            | cons h e2 =>
              obtain ⟨x, y, wx, wy, q1, rfl, q3, q4⟩ := e2.yes hc.1
              have u := un_if q3 q4 (e3.no hc.2.1) (e4.no hc.2.2)
              have := h.cons (x := ⟨false, ifT b.t c.t d.t⟩) (.inl ⟨rfl, by rw [q1]; exact u⟩)
              rw [hw]
              simpa only [List.append_assoc] using this
      · cases hs
    · cases hs
  split at hs
  · rename_i hO
    split at hs
    · rename_i b a r
      split at hs
      · rename_i hc
        cases hs
        cases h with
        | cons h e3 => cases h with
          | cons h e2 =>
            have u1 := e2.no hc.1
            have u2 := e3.no hc.2
            rename_i ws1 p2 ws2
            have key : El ⟨decide (w.O = 9), binT w.O a.t b.t⟩ (ws2 ++ ws1 ++ [w]) := by
              have hw : w = ⟨w.O, 0⟩ := by cases w; simp_all
              have : w.O = 9 ∨ w.O = 7 ∨ w.O = 8 ∨ (w.O = 3 ∨ w.O = 4 ∨ w.O = 5 ∨ w.O = 6) := by omega
              rcases this with q | q | q | q
              · rw [hw, q]
                exact .inr ⟨rfl, a.t, b.t, ws2, ws1, rfl, rfl, u1, u2⟩
              · rw [hw, q]
                exact .inl ⟨rfl, un_call (m := false) u1 u2⟩
              · rw [hw, q]
                exact .inl ⟨rfl, un_call (m := true) u1 u2⟩
              · have n1 : ¬ w.O = 9 := by omega
                have n2 : ¬ (w.O = 7 ∨ w.O = 8) := by omega
                have := un_inf q u1 u2
                rw [← hw] at this
                refine .inl ⟨by simp [n1], ?_⟩
                simp only []
                rw [binT, if_neg n1, if_neg n2]; exact this
            have := h.cons key
            simpa only [List.append_assoc] using this
      · cases hs
    · cases hs
  · cases hs
theorem stk_run : ∀ (q : List Wd) (st st' : List Prt) (p : List Wd), Stk st p → runP st q = some st' → Stk st' (p ++ q)
  | [], st, st', p, h, hr => by cases hr; simpa using h
  | w :: r, st, st', p, h, hr => by
    rw [runP] at hr
    split at hr
    · rename_i s1 hs
      have := stk_run r _ _ _ (stk_step h hs) hr
      simpa using this
    · cases hr
theorem whole_un {p : List Wd} {t : List Tkn} (h : wholeP p = some t) : p.length ≤ 256 ∧ Un t p := by
  unfold wholeP at h
  split at h
  · cases h
  · refine ⟨by omega, ?_⟩
    split at h
    · rename_i x hr
      split at h
      · cases h
      · rename_i hc
        cases h
        have := stk_run _ _ _ _ .nil hr
        generalize hq : ([] : List Wd) ++ p = q at this
        rw [List.nil_append] at hq
        subst hq
        cases this with
        | cons h e => cases h; exact e.no (by simpa using hc)
    · cases h
theorem whole_gram {p : List Wd} {t l : List Tkn} (h : wholeP p = some t) (hl : l.map bare = t.map bare) : (gram l (4 * l.length + 4)).e 0 = .ok p l.length := by
  have hlen : l.length = t.length := by simpa using congrArg List.length hl
  have ha : At l 0 t := by
    intro j u hu
    have : (l.map bare)[j]? = (t.map bare)[j]? := by rw [hl]
    rw [List.getElem?_map, List.getElem?_map, hu] at this
    obtain ⟨s, h1, h2⟩ := Option.map_eq_some_iff.1 this
    simp only [bare, Prod.mk.injEq] at h2
    exact ⟨s, by rw [Nat.zero_add]; exact h1, h2.1, h2.2.1, h2.2.2⟩
  have hend : ∀ s, isT l (0 + t.length) s = false := fun s => by rw [isT, List.getElem?_eq_none (by omega)]
  have := (whole_un h).2.e ha (f := 4 * l.length + 4) (by omega) ⟨hend _, hend _⟩ ⟨hend _, hend _⟩
  rw [this, hlen, Nat.zero_add]
theorem step_valid {st st' : List Prt} {w : Wd} (h : ∀ x ∈ st, x.t.all validS = true) (hs : stepP st w = some st') : ∀ x ∈ st', x.t.all validS = true := by
  unfold stepP at hs
  split at hs
  · split at hs
    · rename_i hN
      cases hs
      intro x hx
      rcases List.mem_cons.1 hx with rfl | hx
      · simp [validS]; omega
      · exact h x hx
    · cases hs
  split at hs
  · split at hs
    · rename_i hN
      cases hs
      intro x hx
      rcases List.mem_cons.1 hx with rfl | hx
      · obtain ⟨s, h1, h2, -⟩ := namesI_at (k := w.N.toNat) (by omega)
        rw [h1]; simp [validS, h2]
      · exact h x hx
    · cases hs
  split at hs
  · cases hs
  split at hs
  · split at hs
    · rename_i d c b r
      split at hs
      · cases hs
        intro x hx
        rcases List.mem_cons.1 hx with rfl | hx
        · have h1 := h d (by simp)
          have h2 := h c (by simp)
          have h3 := h b (by simp)
          simp only [ifT, List.all_append, h1, h2, h3]; decide
        · exact h x (by simp [hx])
      · cases hs
    · cases hs
  split at hs
  · rename_i hO
    split at hs
    · rename_i b a r
      split at hs
      · cases hs
        intro x hx
        rcases List.mem_cons.1 hx with rfl | hx
        · have h1 := h b (by simp)
          have h2 := h a (by simp)
          have : w.O = 9 ∨ w.O = 7 ∨ w.O = 8 ∨ w.O = 3 ∨ w.O = 4 ∨ w.O = 5 ∨ w.O = 6 := by omega
          rcases this with q | q | q | q | q | q | q <;> rw [q] <;> simp [binT, lessT, fcT, infT, h1, h2, sgnO, fnO] <;> decide
        · exact h x (by simp [hx])
      · cases hs
    · cases hs
  · cases hs
theorem run_valid : ∀ (q : List Wd) (st st' : List Prt), (∀ x ∈ st, x.t.all validS = true) → runP st q = some st' → ∀ x ∈ st', x.t.all validS = true
  | [], st, st', h, hr => by cases hr; exact h
  | w :: r, st, st', h, hr => by
    rw [runP] at hr
    split at hr
    · rename_i s1 hs
      exact run_valid r _ _ (step_valid h hs) hr
    · cases hr
theorem whole_valid {p : List Wd} {t : List Tkn} (h : wholeP p = some t) : t.all validS = true := by
  unfold wholeP at h
  split at h
  · cases h
  · split at h
    · rename_i x hr
      split at h
      · cases h
      · cases h
        exact run_valid _ _ _ (fun x hx => by cases hx) hr x (by simp)
    · cases h
def szP (st : List Prt) : Nat := (st.map fun x => x.t.length).sum
theorem step_size {st st' : List Prt} {w : Wd} (hs : stepP st w = some st') : szP st' ≤ szP st + 5 ∧ st'.length ≤ st.length + 1 := by
  unfold stepP at hs
  split at hs
  · split at hs
    · cases hs; simp [szP]; omega
    · cases hs
  split at hs
  · split at hs
    · cases hs; simp [szP]; omega
    · cases hs
  split at hs
  · cases hs
  split at hs
  · split at hs
    · split at hs
      · cases hs; simp [szP, ifT]; omega
      · cases hs
    · cases hs
  split at hs
  · split at hs
    · split at hs
      · cases hs
        simp only [szP, List.map_cons, List.sum_cons, binT]
        split <;> (try split) <;> simp [lessT, fcT, infT] <;> omega
      · cases hs
    · cases hs
  · cases hs
theorem run_size : ∀ (q : List Wd) (st st' : List Prt), runP st q = some st' → szP st' ≤ szP st + 5 * q.length
  | [], st, st', hr => by cases hr; omega
  | w :: r, st, st', hr => by
    rw [runP] at hr
    split at hr
    · rename_i s1 hs
      have h1 := (step_size hs).1
      have h2 := run_size r _ _ hr
      rw [List.length_cons]; omega
    · cases hr
theorem whole_size {p : List Wd} {t : List Tkn} (h : wholeP p = some t) : t.length ≤ 1280 := by
  unfold wholeP at h
  split at h
  · cases h
  · split at h
    · rename_i x hr
      split at h
      · cases h
      · cases h
        have := run_size _ _ _ hr
        simp [szP] at this; omega
    · cases h
def Lv (ws : List Wd) : Prop := ∀ st, ∃ t, runP st ws = some (⟨false, t⟩ :: st)
theorem lv_two {a b : List Wd} (h1 : Lv a) (h2 : Lv b) {o : Int} (ho : 3 ≤ o ∧ o ≤ 8) : Lv (a ++ b ++ [⟨o, 0⟩]) := by
  intro st
  obtain ⟨t1, h1⟩ := h1 st
  obtain ⟨t2, h2⟩ := h2 (⟨false, t1⟩ :: st)
  refine ⟨binT o t1 t2, ?_⟩
  rw [runP_app, runP_app, h1]
  simp only []
  rw [h2]
  simp only [runP, stepP]
  rw [if_neg (by omega), if_neg (by omega), if_neg (by simp), if_neg (by omega), if_pos (by omega)]
  simp
  omega
theorem lv_if {a b c d : List Wd} (h1 : Lv a) (h2 : Lv b) (h3 : Lv c) (h4 : Lv d) : Lv (a ++ b ++ [⟨9, 0⟩] ++ c ++ d ++ [⟨10, 0⟩]) := by
  intro st
  obtain ⟨t1, h1⟩ := h1 st
  obtain ⟨t2, h2⟩ := h2 (⟨false, t1⟩ :: st)
  obtain ⟨t3, h3⟩ := h3 (⟨true, binT 9 t1 t2⟩ :: st)
  obtain ⟨t4, h4⟩ := h4 (⟨false, t3⟩ :: ⟨true, binT 9 t1 t2⟩ :: st)
  refine ⟨ifT (binT 9 t1 t2) t3 t4, ?_⟩
  have e : runP (⟨false, t2⟩ :: ⟨false, t1⟩ :: st) [⟨9, 0⟩] = some (⟨true, binT 9 t1 t2⟩ :: st) := by simp [runP, stepP]
  rw [runP_app, runP_app, runP_app, runP_app, runP_app, h1]
  simp only []
  rw [h2]
  simp only []
  rw [e]
  simp only []
  rw [h3]
  simp only []
  rw [h4]
  simp [runP, stepP]
theorem chain_lv {l : List Tkn} {g : Nat → PR} (hg : ∀ a ws i, g a = .ok ws i → Lv ws) {s1 s2 : List UInt8} {o1 o2 : Int} (h1 : 3 ≤ o1 ∧ o1 ≤ 8) (h2 : 3 ≤ o2 ∧ o2 ≤ 8) : ∀ (f : Nat) (ws : List Wd) (a : Nat) (vs : List Wd) (i : Nat), Lv ws → chainF l g s1 o1 s2 o2 f ws a = .ok vs i → Lv vs
  | 0, ws, a, vs, i, _, h => by rw [chainF] at h; cases h
  | f + 1, ws, a, vs, i, hw, h => by
    rw [chainF] at h
    split at h
    · obtain ⟨q, j, hq, h⟩ := bind_ok h
      refine chain_lv hg h1 h2 f _ j vs i (lv_two hw (hg _ _ _ hq) ?_) h
      split
      · exact h2
      · exact h1
    · cases h; exact hw
theorem lv_one {w : Wd} {t : List Tkn} (h : ∀ st, stepP st w = some (⟨false, t⟩ :: st)) : Lv [w] := fun st => ⟨t, by rw [runP, h]; rfl⟩
theorem idx_lt {p : List UInt8 → Bool} : ∀ {ss : List (List UInt8)} {k : Nat}, idxF p ss = some k → k < ss.length
  | [], k, h => by cases h
  | s :: r, k, h => by
    rw [idxF] at h
    split at h
    · cases h; simp
    · cases hr : idxF p r with
      | none => rw [hr] at h; cases h
      | some m => rw [hr] at h; cases h; have := idx_lt hr; simp; omega
theorem gram_lv {l : List Tkn} (hl : ∀ t ∈ l, t.K = 2 → 0 ≤ t.N) : ∀ f, (∀ a ws i, (gram l f).e a = .ok ws i → Lv ws) ∧ (∀ a ws i, (gram l f).s a = .ok ws i → Lv ws) ∧ (∀ a ws i, (gram l f).p a = .ok ws i → Lv ws) ∧ (∀ a ws i, (gram l f).u a = .ok ws i → Lv ws)
  | 0 => ⟨fun _ _ _ h => (by cases h), fun _ _ _ h => (by cases h), fun _ _ _ h => (by cases h), fun _ _ _ h => (by cases h)⟩
  | f + 1 => by
    obtain ⟨he, hs, hp, hu⟩ := gram_lv hl f
    refine ⟨fun a ws i h => ?_, fun a ws i h => ?_, fun a ws i h => ?_, fun a ws i h => ?_⟩
    · have h : exprR l (gram l f) a = .ok ws i := h
      unfold exprR at h
      split at h
      · obtain ⟨x, i1, h1, h⟩ := bind_ok h
        obtain ⟨t1, h⟩ := want_ok h
        obtain ⟨y, i2, h2, h⟩ := bind_ok h
        obtain ⟨t2, h⟩ := want_ok h
        obtain ⟨z, i3, h3, h⟩ := bind_ok h
        obtain ⟨t3, h⟩ := want_ok h
        obtain ⟨w, i4, h4, h⟩ := bind_ok h
        cases h
        exact lv_if (hs _ _ _ h1) (hs _ _ _ h2) (he _ _ _ h3) (he _ _ _ h4)
      · exact hs a ws i h
    · obtain ⟨q, j, h1, h⟩ := bind_ok (show bindR _ _ = _ from h)
      exact chain_lv hp (by omega) (by omega) _ q j ws i (hp _ _ _ h1) h
    · obtain ⟨q, j, h1, h⟩ := bind_ok (show bindR _ _ = _ from h)
      exact chain_lv hu (by omega) (by omega) _ q j ws i (hu _ _ _ h1) h
    · have h : unitR l (gram l f) a = .ok ws i := h
      unfold unitR unitR2 unitR3 at h
      split at h
      · rename_i v hv
        cases h
        unfold numW at hv
        split at hv
        · rename_i t ht
          split at hv
          · rename_i hk
            cases hv
            have h0 := hl t (List.mem_of_getElem? ht) hk.1
            exact lv_one (t := [tN t.N]) fun st => by simp only [stepP]; rw [if_pos trivial, if_pos ⟨h0, hk.2⟩]
          · cases hv
        · cases hv
      · split at h
        · rename_i j hj
          cases h
          have hk := idx_lt hj
          simp only [namesI, List.length_cons, List.length_nil] at hk
          exact lv_one (t := [tI (namesI[j]?.getD [])]) fun st => by
            simp only [stepP]; rw [if_neg (by decide), if_pos trivial, if_pos ⟨by omega, by omega⟩]; simp
        · split at h
          · obtain ⟨t1, h⟩ := want_ok h
            obtain ⟨x, i1, h1, h⟩ := bind_ok h
            obtain ⟨t2, h⟩ := want_ok h
            obtain ⟨y, i2, h2, h⟩ := bind_ok h
            obtain ⟨t3, h⟩ := want_ok h
            cases h
            exact lv_two (he _ _ _ h1) (he _ _ _ h2) (by split <;> omega)
          · obtain ⟨t1, h⟩ := want_ok h
            obtain ⟨x, i1, h1, h⟩ := bind_ok h
            obtain ⟨t2, h⟩ := want_ok h
            cases h
            exact he _ _ _ h1
theorem lv_whole {p : List Wd} (h : Lv p) (hl : p.length ≤ 256) : ∃ t, wholeP p = some t := by
  obtain ⟨t, h⟩ := h []
  exact ⟨t, by unfold wholeP; rw [if_neg (by omega), h]; rfl⟩
end Go.AM
end
