/-
  Rules of deduction: the reference's reader, its small steps · Rules of deduction: the reference's reader, names with commas between them · Rules of deduction: the reference's reader, a condition or a premise · Rules of deduction: the reference's reader, a lemma · Rules of deduction: the reference's lemma with indices · Rules of deduction: the reference's Parse · Rules of deduction: the reference's printing of names · Rules of deduction: the reference's text of a lemma · Rules of deduction: the reference's Print.
  Conditions: none beyond those of its parts.
-/
import Derived.Test.YtpjedmachelflaaGreatDoorB9

section
set_option maxRecDepth 20000
set_option linter.all false
namespace Go.AM
open Go.Proofs Go.Lib
abbrev rB (l : List Tkn) (a : Nat) (b : Bool) : AObj := .box [.sl (.none 4) (l.map encK), .int .i64 a, .bool b]
def rk {α : Type} : Bool → α → List Tkn → Rs α
  | true, _, r => .bad r
  | false, a, r => .ok a r
def gB {α : Type} : Bool → (List Tkn → Rs α) → List Tkn → Rs α
  | true, _, r => .bad r
  | false, g, r => g r
def RPost {α : Type} (enc : α → AVal) (l : List Tkn) (H : AHeap) (n rid : Nat) (x : Rs α) (o : AOut) (H' : AHeap) (n' : Nat) : Prop :=
  ∃ a at' b', o = .ret (enc a) ∧ H' = hset H rid (rB l at' b') ∧ n' = n ∧ at' ≤ l.length ∧ x = rk b' a (l.drop at')
def RW {α : Type} (enc : α → AVal) (l : List Tkn) (H : AHeap) (rid : Nat) (x : Rs α) (o : AOut) (H' : AHeap) (n' : Nat) : Prop :=
  ∃ a at' b', (∃ v, o = .ret v ∧ Wk v (enc a)) ∧ hget H' rid = some (rB l at' b') ∧ KeepsB rid H H' ∧ at' ≤ l.length ∧ x = rk b' a (l.drop at')
def RStep {α : Type} (fid : FuncId) (xs : List AVal) (enc : α → AVal) (g : List Tkn → Rs α) : Prop :=
  ∀ (l : List Tkn) (rid : Nat) (H : AHeap) (n at' : Nat) (b : Bool), l.length < 1000000000 → at' ≤ l.length → hget H rid = some (rB l at' b) → ACalls Tryz.prog fid (.ptr rid 0 :: xs) H n (RPost enc l H n rid (gB b g (l.drop at')))
theorem rB_under (n : Nat) (l : List Tkn) (a : Nat) (b : Bool) : (rB l a b).under n := ⟨⟨trivial, encK_under n l⟩, trivial, trivial, trivial⟩
theorem rstep_forget {H H' : AHeap} {n rid a a' : Nat} {b b' : Bool} {l : List Tkn} (hf : Fresh H n) (hp : hget H rid = some (rB l a b)) (h1 : hget H' rid = some (rB l a' b')) (h2 : KeepsB rid H H') : ForgetOK n H H' (hset H rid (rB l a' b')) := by
  refine ⟨fun id ob ho => ?_, fun id hid => ?_⟩
  · rw [hget_hset] at ho
    by_cases e : rid = id
    · subst e
      rw [if_pos rfl] at ho
      cases ho
      exact ⟨hf.lt hp, ⟨_, h1, OWk.refl _⟩, .inl (rB_under n l a' b')⟩
    · rw [if_neg e] at ho
      exact ⟨hf.lt ho, ⟨ob, h2 id ob (Ne.symm e) ho, OWk.refl _⟩, .inr ho⟩
  · rw [hget_hset]
    split
    · exact fun h => by cases h
    · exact hid
theorem rstep_exact {α : Type} {fid : FuncId} {xs : List AVal} {enc : α → AVal} {x : Rs α} {l : List Tkn} {rid a : Nat} {b : Bool} {H : AHeap} {n : Nat} (hc : Callable Tryz.prog fid) (he : ∀ n a, (enc a).under n) (hp : hget H rid = some (rB l a b))
    (h : Fresh H n → rid < n → ACalls Tryz.prog fid (.ptr rid 0 :: xs) H n (RW enc l H rid x)) : ACalls Tryz.prog fid (.ptr rid 0 :: xs) H n (RPost enc l H n rid x) := by
  refine ACalls.fresh hc fun hf => ?_
  refine ACalls.forget (h hf (hf.lt hp)) ?_
  rintro o H' n' ⟨v, a', b', ⟨w, rfl, hw⟩, h1, h2, h3, h4⟩
  exact ⟨.ret (enc v), _, ⟨v, a', b', rfl, rfl, rfl, h3, h4⟩, rstep_forget hf hp h1 h2, hw, he n v⟩
theorem RStep.of {α : Type} {fid : FuncId} {xs : List AVal} {enc : α → AVal} {g : List Tkn → Rs α} (hc : Callable Tryz.prog fid) (he : ∀ n a, (enc a).under n)
    (h : ∀ (l : List Tkn) (rid : Nat) (H : AHeap) (n at' : Nat) (b : Bool), l.length < 1000000000 → at' ≤ l.length → Fresh H n → rid < n → hget H rid = some (rB l at' b) → ACalls Tryz.prog fid (.ptr rid 0 :: xs) H n (RW enc l H rid (gB b g (l.drop at')))) : RStep fid xs enc g :=
  fun l rid H n a b hl ha hp => rstep_exact hc he hp fun hf hlt => h l rid H n a b hl ha hf hlt hp
theorem gB_bd {α β : Type} {b b' : Bool} {g : List Tkn → Rs α} {K : α → List Tkn → Rs β} {r r' : List Tkn} {a : α} (h : gB b g r = rk b' a r') : gB b (fun r => (g r).bd K) r = gB b' (K a) r' := by
  have e1 : gB b (fun r => (g r).bd K) r = (gB b g r).bd K := by cases b <;> rfl
  rw [e1, h]
  cases b' <;> rfl
theorem rs_bd {α β : Type} {enc : α → AVal} {enc' : β → AVal} {T : Tab} {b0 : Nat} {d : Option Nat} {kp : List Nat} {ops : List AOp} {k : List Item} {st : AS} {rs : List RC} {fid : FuncId} {xs : List AVal} {g : List Tkn → Rs α} {K : α → List Tkn → Rs β} {l : List Tkn} {rid a : Nat} {b : Bool} {H0 H1 : AHeap} {n1 : Nat} {x : Rs β}
    (h : RStep fid xs enc g) (hx : x = gB b (fun r => (g r).bd K) (l.drop a)) (hl : l.length < 1000000000) (ha : a ≤ l.length) (hp : hget H1 rid = some (rB l a b))
    (go : ∀ v a' b', a' ≤ l.length → gB b g (l.drop a) = rk b' v (l.drop a') → x = gB b' (K v) (l.drop a') → retK Tryz.prog T b0 d ops kp k (postC rs (RW enc' l H0 rid x)) st (.ret (enc v)) (hset H1 rid (rB l a' b')) n1) :
    ACalls Tryz.prog fid (.ptr rid 0 :: xs) H1 n1 (retK Tryz.prog T b0 d ops kp k (postC rs (RW enc' l H0 rid x)) st) := by
  refine (h l rid H1 n1 a b hl ha hp).mono fun o H' n' q => ?_
  obtain ⟨v, a', b', rfl, rfl, rfl, h1, h2⟩ := q
  exact go v a' b' h1 h2 (hx.trans (gB_bd h2))
theorem rs_any {α : Type} {enc : α → AVal} {T : Tab} {b0 : Nat} {d : Option Nat} {kp : List Nat} {ops : List AOp} {k : List Item} {st : AS} {Q : AExit → AS → Prop} {fid : FuncId} {xs : List AVal} {g : List Tkn → Rs α} {l : List Tkn} {rid a : Nat} {b : Bool} {H1 : AHeap} {n1 : Nat}
    (h : RStep fid xs enc g) (hl : l.length < 1000000000) (ha : a ≤ l.length) (hp : hget H1 rid = some (rB l a b))
    (go : ∀ v a' b', a' ≤ l.length → gB b g (l.drop a) = rk b' v (l.drop a') → retK Tryz.prog T b0 d ops kp k Q st (.ret (enc v)) (hset H1 rid (rB l a' b')) n1) :
    ACalls Tryz.prog fid (.ptr rid 0 :: xs) H1 n1 (retK Tryz.prog T b0 d ops kp k Q st) := by
  refine (h l rid H1 n1 a b hl ha hp).mono fun o H' n' q => ?_
  obtain ⟨v, a', b', rfl, rfl, rfl, h1, h2⟩ := q
  exact go v a' b' h1 h2
def isV (b : Bool) (w : Bs) (r : List Tkn) : Bool := !b && hdW w r
theorem drop_cons {l : List Tkn} {a : Nat} (h : a < l.length) : l.drop a = l[a] :: l.drop (a + 1) := List.drop_eq_getElem_cons h
theorem hdW_lt {w : Bs} {l : List Tkn} {a : Nat} (h : hdW w (l.drop a) = true) : a < l.length := by
  rcases Nat.lt_or_ge a l.length with q | q
  · exact q
  · rw [List.drop_eq_nil_of_le q] at h; cases h
theorem p85 {id : Nat} {H : AHeap} {n : Nat} {l : List Tkn} {a : Nat} {b : Bool} {s : Bs} (ho : hget H id = some (rB l a b)) : Quiet Tryz.prog 85 [.ptr id 0, .str s] H n (.bool (isV b s (l.drop a))) := by
  refine Quiet.of l85 trivial fun hf => a85 (ev_awp TabOK.tnil (ev_evK ?_))
  cases b with
  | true =>
    simp only [eE, eC, eN, reduceCtorEq, Nat.reduceEqDiff, ↓reduceIte, Nat.reduceAdd, Nat.reduceLeDiff, Bool.not_true, c85, ho]
    exact ⟨rfl, Keeps.refl _⟩
  | false =>
    by_cases hlt : a < l.length
    · have hg := List.getElem?_eq_getElem hlt
      simp only [eE, eC, eN, reduceCtorEq, Nat.reduceEqDiff, ↓reduceIte, Nat.reduceAdd, Nat.reduceLeDiff, Bool.not_false, c85, ho, List.length_map, Int.ofNat_lt, hlt, List.getElem?_map, hg, Option.getD_some, Int.toNat_natCast, Int.natCast_nonneg, scmp_eq]
      rw [drop_cons hlt]
      exact ⟨by simp [isV, hdW], Keeps.refl _⟩
    · simp only [eE, eC, eN, reduceCtorEq, Nat.reduceEqDiff, ↓reduceIte, Nat.reduceAdd, Nat.reduceLeDiff, Bool.not_false, c85, ho, List.length_map, Int.ofNat_lt, hlt]
      rw [List.drop_eq_nil_of_le (by omega)]
      exact ⟨rfl, Keeps.refl _⟩
def sRis : List AVal → AHeap → Prop × AVal := fun a H => match a with
  | [.ptr id 0, .str s] => match hget H id with
    | some (.box [.sl (.none 4) L, .int .i64 p, .bool b]) => (encdK L ∧ 0 ≤ p, .bool (isV b s ((L.map decK).drop p.toNat)))
    | _ => (False, .tup [])
  | _ => (False, .tup [])
theorem qRis : ∀ args H n, (sRis args H).1 → Quiet Tryz.prog 85 args H n (sRis args H).2 := by
  intro args H n hh
  unfold sRis at hh ⊢
  split at hh
  · rename_i id s
    split at hh
    · rename_i L p b ho
      obtain ⟨h1, h2⟩ := hh
      obtain ⟨k, rfl⟩ : ∃ k : Nat, p = k := ⟨p.toNat, by omega⟩
      simp only [Int.toNat_natCast]
      rw [h1] at ho
      exact p85 ho
    · exact hh.elim
  · exact hh.elim
def Tri : Tab := tadd 85 sRis tnil
theorem Tri_ok : TabOK Tryz.prog Tri := TabOK.tnil.add qRis
theorem Tri_i (a : List AVal) (H : AHeap) : Tri 85 a H = sRis a H := rfl
theorem need_gB {w : Bs} {l : List Tkn} {a : Nat} {b : Bool} : gB b (need w) (l.drop a) = if isV b w (l.drop a) = true then .ok () (l.drop (a + 1)) else .bad (l.drop a) := by
  cases b with
  | true => rfl
  | false =>
    show need w (l.drop a) = _
    unfold need isV
    simp only [Bool.not_false, Bool.true_and, List.tail_drop]
theorem t_word (w : Bs) : RStep 81 [.str w] encU (need w) := RStep.of l81 (fun _ _ => trivial) fun l rid H n a b hl ha hf hlt hp => by
  refine a81 (ev_awp Tri_ok (ev_evK ?_))
  rw [need_gB]
  cases hv : isV b w (l.drop a) with
  | true =>
    have hlt2 : a < l.length := hdW_lt (by unfold isV at hv; rw [Bool.and_eq_true] at hv; exact hv.2)
    have hb : b = false := by unfold isV at hv; rw [Bool.and_eq_true] at hv; simpa using hv.1
    subst hb
    have e := w64_succ (k := a) (by omega)
    simp only [eE, eC, eN, reduceCtorEq, Nat.reduceEqDiff, ↓reduceIte, Nat.reduceAdd, Nat.reduceLeDiff, Int.reduceEq, Int.toNat_natCast, Int.natCast_nonneg, c81, Tri_i, sRis, hp, encdK_map, decK_map, hv, e]
    exact ⟨(), a + 1, false, ⟨_, rfl, Wk.refl _⟩, (by simp only [hget_hset, if_true]), (fun id ob hne hx => by have := hf.lt hx; simp only [hget_hset]; (repeat rw [if_neg (by omega)]); exact hx), hlt2, rfl⟩
  | false =>
    simp only [eE, eC, eN, reduceCtorEq, Nat.reduceEqDiff, ↓reduceIte, Nat.reduceAdd, Int.toNat_natCast, Int.natCast_nonneg, c81, Tri_i, sRis, hp, encdK_map, decK_map, hv]
    exact ⟨(), a, true, ⟨_, rfl, Wk.refl _⟩, (by simp only [hget_hset, if_true]), (fun id ob hne hx => by have := hf.lt hx; simp only [hget_hset]; (repeat rw [if_neg (by omega)]); exact hx), ha, rfl⟩
theorem kind_gB {k : Int} {l : List Tkn} {a : Nat} {b : Bool} {α : Type} {f : Tkn → α} {d : α} (hn : b = true ∨ l.length ≤ a ∨ (∃ h : a < l.length, l[a].K ≠ k)) : gB b (fun r => (kindR k r).bd fun t r => .ok (f t) r) (l.drop a) = .bad (l.drop a) := by
  rcases hn with rfl | h | ⟨h, h2⟩
  · rfl
  · rw [List.drop_eq_nil_of_le h]; cases b <;> rfl
  · rw [drop_cons h]
    cases b
    · show (kindR k (l[a] :: l.drop (a + 1))).bd _ = _
      simp [kindR, h2, Rs.bd]
    · rfl
theorem t_rname : RStep 82 [] .str nameR := RStep.of l82 (fun _ _ => trivial) fun l rid H n a b hl ha hf hlt hp => by
  refine a82 (ev_awp TabOK.tnil (ev_evK ?_))
  have no := fun h => kind_gB (k := 1) (l := l) (a := a) (b := b) (f := fun t : Tkn => t.T) (d := []) h
  rw [show (nameR : List Tkn → Rs Bs) = fun r => (kindR 1 r).bd fun t r => .ok t.T r from rfl]
  cases b with
  | true =>
    rw [no (.inl rfl)]
    simp only [eE, eC, eN, reduceCtorEq, Nat.reduceEqDiff, ↓reduceIte, Nat.reduceAdd, Nat.reduceLeDiff, Bool.not_true, Int.toNat_natCast, Int.natCast_nonneg, List.length_map, List.getElem?_map, c82, hp]
    exact ⟨[], a, true, ⟨_, rfl, Wk.refl _⟩, (by simp only [hget_hset, if_true]), (fun id ob hne hx => by have := hf.lt hx; simp only [hget_hset]; (repeat rw [if_neg (by omega)]); exact hx), ha, rfl⟩
  | false =>
    by_cases hlt2 : a < l.length
    · have hg := List.getElem?_eq_getElem hlt2
      have e := w64_succ (k := a) (by omega)
      have e2 : IntKind.wrap .i64 (((a + 1 : Nat) : Int) - 1) = (a : Int) := by rw [w64_in (by omega) (by omega)]; omega
      have nle : ((l.length : Int) ≤ (a : Int)) = False := eq_false (by omega)
      by_cases hk : l[a].K = 1
      · have hx : gB false (fun r => (kindR 1 r).bd fun t r => Rs.ok t.T r) (l.drop a) = .ok l[a].T (l.drop (a + 1)) := by
          rw [drop_cons hlt2]; simp [gB, kindR, hk, Rs.bd]
        rw [hx]
        simp only [eE, eC, eN, reduceCtorEq, Nat.reduceEqDiff, ↓reduceIte, Nat.reduceAdd, Nat.reduceLeDiff, Int.reduceEq, Bool.not_true, Option.getD_some, Int.toNat_natCast, Int.natCast_nonneg, List.length_map, List.getElem?_map, c82, hp, nle, lt_T hlt2, hg, hk, e, e2]
        exact ⟨_, a + 1, false, ⟨_, rfl, Wk.refl _⟩, (by simp only [hget_hset, if_true]), (fun id ob hne hx => by have := hf.lt hx; simp only [hget_hset]; (repeat rw [if_neg (by omega)]); exact hx), hlt2, rfl⟩
      · rw [no (.inr (.inr ⟨hlt2, hk⟩))]
        simp only [eE, eC, eN, reduceCtorEq, Nat.reduceEqDiff, ↓reduceIte, Nat.reduceAdd, Nat.reduceLeDiff, Bool.not_false, Option.getD_some, Int.toNat_natCast, Int.natCast_nonneg, List.length_map, List.getElem?_map, c82, hp, nle, lt_T hlt2, hg, hk]
        exact ⟨[], a, true, ⟨_, rfl, Wk.refl _⟩, (by simp only [hget_hset, if_true]), (fun id ob hne hx => by have := hf.lt hx; simp only [hget_hset]; (repeat rw [if_neg (by omega)]); exact hx), ha, rfl⟩
    · have nle : ((l.length : Int) ≤ (a : Int)) = True := eq_true (by omega)
      rw [no (.inr (.inl (by omega)))]
      simp only [eE, eC, eN, reduceCtorEq, Nat.reduceEqDiff, ↓reduceIte, Nat.reduceAdd, Nat.reduceLeDiff, Bool.not_true, Int.toNat_natCast, Int.natCast_nonneg, List.length_map, List.getElem?_map, c82, hp, nle]
      exact ⟨[], a, true, ⟨_, rfl, Wk.refl _⟩, (by simp only [hget_hset, if_true]), (fun id ob hne hx => by have := hf.lt hx; simp only [hget_hset]; (repeat rw [if_neg (by omega)]); exact hx), ha, rfl⟩
theorem t_rnumber : RStep 83 [] eI numbR := RStep.of l83 (fun _ _ => trivial) fun l rid H n a b hl ha hf hlt hp => by
  refine a83 (ev_awp TabOK.tnil (ev_evK ?_))
  have no := fun h => kind_gB (k := 2) (l := l) (a := a) (b := b) (f := fun t : Tkn => t.N) (d := 0) h
  rw [show (numbR : List Tkn → Rs Int) = fun r => (kindR 2 r).bd fun t r => .ok t.N r from rfl]
  cases b with
  | true =>
    rw [no (.inl rfl)]
    simp only [eE, eC, eN, reduceCtorEq, Nat.reduceEqDiff, ↓reduceIte, Nat.reduceAdd, Nat.reduceLeDiff, Bool.not_true, Int.toNat_natCast, Int.natCast_nonneg, List.length_map, List.getElem?_map, c83, hp]
    exact ⟨0, a, true, ⟨_, rfl, Wk.refl _⟩, (by simp only [hget_hset, if_true]), (fun id ob hne hx => by have := hf.lt hx; simp only [hget_hset]; (repeat rw [if_neg (by omega)]); exact hx), ha, rfl⟩
  | false =>
    by_cases hlt2 : a < l.length
    · have hg := List.getElem?_eq_getElem hlt2
      have e := w64_succ (k := a) (by omega)
      have e2 : IntKind.wrap .i64 (((a + 1 : Nat) : Int) - 1) = (a : Int) := by rw [w64_in (by omega) (by omega)]; omega
      have nle : ((l.length : Int) ≤ (a : Int)) = False := eq_false (by omega)
      by_cases hk : l[a].K = 2
      · have hx : gB false (fun r => (kindR 2 r).bd fun t r => Rs.ok t.N r) (l.drop a) = .ok l[a].N (l.drop (a + 1)) := by
          rw [drop_cons hlt2]; simp [gB, kindR, hk, Rs.bd]
        rw [hx]
        simp only [eE, eC, eN, reduceCtorEq, Nat.reduceEqDiff, ↓reduceIte, Nat.reduceAdd, Nat.reduceLeDiff, Int.reduceEq, Bool.not_true, Option.getD_some, Int.toNat_natCast, Int.natCast_nonneg, List.length_map, List.getElem?_map, c83, hp, nle, lt_T hlt2, hg, hk, e, e2]
        exact ⟨_, a + 1, false, ⟨_, rfl, Wk.refl _⟩, (by simp only [hget_hset, if_true]), (fun id ob hne hx => by have := hf.lt hx; simp only [hget_hset]; (repeat rw [if_neg (by omega)]); exact hx), hlt2, rfl⟩
      · rw [no (.inr (.inr ⟨hlt2, hk⟩))]
        simp only [eE, eC, eN, reduceCtorEq, Nat.reduceEqDiff, ↓reduceIte, Nat.reduceAdd, Nat.reduceLeDiff, Bool.not_false, Option.getD_some, Int.toNat_natCast, Int.natCast_nonneg, List.length_map, List.getElem?_map, c83, hp, nle, lt_T hlt2, hg, hk]
        exact ⟨0, a, true, ⟨_, rfl, Wk.refl _⟩, (by simp only [hget_hset, if_true]), (fun id ob hne hx => by have := hf.lt hx; simp only [hget_hset]; (repeat rw [if_neg (by omega)]); exact hx), ha, rfl⟩
    · have nle : ((l.length : Int) ≤ (a : Int)) = True := eq_true (by omega)
      rw [no (.inr (.inl (by omega)))]
      simp only [eE, eC, eN, reduceCtorEq, Nat.reduceEqDiff, ↓reduceIte, Nat.reduceAdd, Nat.reduceLeDiff, Bool.not_true, Int.toNat_natCast, Int.natCast_nonneg, List.length_map, List.getElem?_map, c83, hp, nle]
      exact ⟨0, a, true, ⟨_, rfl, Wk.refl _⟩, (by simp only [hget_hset, if_true]), (fun id ob hne hx => by have := hf.lt hx; simp only [hget_hset]; (repeat rw [if_neg (by omega)]); exact hx), ha, rfl⟩
end Go.AM
end
section
set_option maxRecDepth 20000
set_option linter.all false
namespace Go.AM
open Go.Proofs Go.Lib
theorem Lc.len {α : Type} {g : List Tkn → Rs α} (h : Lc g) {b b' : Bool} {l : List Tkn} {a a' : Nat} {v : α} (ha : a ≤ l.length) (ha' : a' ≤ l.length) (e : gB b g (l.drop a) = rk b' v (l.drop a')) : a ≤ a' := by
  have key : ∀ r', (∃ u, l.drop a = u ++ r') → r' = l.drop a' → a ≤ a' := by
    rintro r' ⟨u, hu⟩ rfl
    have := congrArg List.length hu
    simp only [List.length_append, List.length_drop] at this
    omega
  cases b with
  | true =>
    cases b' with
    | true =>
      simp only [gB, rk, Rs.bad.injEq] at e
      exact key (l.drop a) ⟨[], rfl⟩ e
    | false => cases e
  | false =>
    cases b' with
    | true =>
      obtain ⟨u, h1, -⟩ := h.bad _ _ e
      exact key _ ⟨u, h1⟩ rfl
    | false =>
      obtain ⟨u, h1, -⟩ := h.ok _ _ _ e
      exact key _ ⟨u, h1⟩ rfl
structure V5 where
  at' : Nat
  b : Bool
  acc : List Bs
  tk : Tok
  H : AHeap
  n : Nat
structure I5 (l : List Tkn) (x : Rs (List Bs)) (H : AHeap) (n pid : Nat) (v : V5) : Prop where
  hn : n ≤ v.n
  fr : Fresh v.H v.n
  ha : v.at' ≤ l.length
  hp : hget v.H pid = some (rB l v.at' v.b)
  hk : KeepsB pid H v.H
  hl : v.acc.length ≤ v.at' + 1
  tok : tkG 1 n v.H v.tk
  es : v.tk.esz = 1
  eq : x = gB v.b (fun r => (moreR r).bd fun ss q => Rs.ok (v.acc ++ ss) q) (l.drop v.at')
theorem isV_yes {b : Bool} {w : Bs} {l : List Tkn} {a : Nat} (h : isV b w (l.drop a) = true) : b = false ∧ hdW w (l.drop a) = true ∧ a < l.length := by
  unfold isV at h
  rw [Bool.and_eq_true] at h
  exact ⟨by simpa using h.1, h.2, hdW_lt h.2⟩
theorem t_rnames : RStep 84 [] eSs namesR := RStep.of l84 (fun n a => ⟨trivial, strs_under n a⟩) fun l pid H n a b hl ha hf hlt hp => by
  refine a84 (ev_awp Tri_ok (ev_evK ?_))
  simp only [eE, eN, reduceCtorEq, ↓reduceIte, c84]
  refine rs_bd t_rname rfl hl ha hp fun s0 a1 b1 ha1 hv hx => ?_
  generalize gB b namesR (l.drop a) = x at hx
  simp only [eE, eN, reduceCtorEq, ↓reduceIte, Nat.reduceLeDiff, Nat.reduceMul, nS1, retK]
  refine k_loop (fun v : V5 => ⟨[(0, true, .ptr pid 0), (3, true, .sl v.tk (v.acc.map .str))], v.H, v.n⟩) (I5 l x H n pid) (fun v => l.length - v.at')
    ⟨a1, b1, [s0], .exact 1, hset H pid (rB l a1 b1), n⟩ rfl ⟨Nat.le_refl _, hf.hset (Nat.le_refl _) hlt, ha1, hget_hset_eq .., (KeepsB.refl _).set, by simp only [List.length_cons, List.length_nil]; omega, .inr (.inl rfl), rfl, hx⟩ ?_
  rintro ⟨a2, b2, acc, tk, H1, n1⟩ ⟨hn, hfr, ha2, hp1, hk1, hl1, htk, hes, he⟩
  simp only at hn hfr ha2 hp1 hk1 hl1 htk hes he
  have hlt1 : pid < n1 := by omega
  cases hw : isV b2 [44] (l.drop a2) with
  | true =>
    obtain ⟨rfl, hw2, hlt2⟩ := isV_yes hw
    have e := w64_succ (k := a2) (by omega)
    simp only [eE, eC, eN, reduceCtorEq, Nat.reduceEqDiff, ↓reduceIte, Nat.reduceAdd, Nat.reduceLeDiff, Int.reduceEq, Int.toNat_natCast, Int.natCast_nonneg, Tri_i, sRis, hp1, encdK_map, decK_map, hw, e]
    have he2 : x = gB false (fun r => (nameR r).bd fun s r => (moreR r).bd fun ss q => Rs.ok (acc ++ s :: ss) q) (l.drop (a2 + 1)) := by
      rw [he]
      show ((moreR (l.drop a2)).bd _) = ((nameR (l.drop (a2 + 1))).bd _)
      rw [more_yes hw2, bd_assoc, List.tail_drop]
      congr 1; funext s r
      rw [bd_assoc]; rfl
    refine rs_any t_rname hl (show a2 + 1 ≤ l.length from hlt2) (hget_hset_eq ..) fun v a3 b3 ha3 hv3 => ?_
    have hx3 := he2.trans (gB_bd hv3)
    have hle := lc_name.len (show a2 + 1 ≤ l.length from hlt2) ha3 hv3
    rw [hset_hset]
    have htk' : tkG 1 n (hset H1 pid (rB l a3 b3)) tk := htk.set (.inl hlt)
    have hk' : KeepsB pid H (hset H1 pid (rB l a3 b3)) := hk1.set
    have hfr' : Fresh (hset H1 pid (rB l a3 b3)) n1 := hfr.hset (Nat.le_refl _) hlt1
    have hp' : hget (hset H1 pid (rB l a3 b3)) pid = some (rB l a3 b3) := hget_hset_eq ..
    generalize hset H1 pid (rB l a3 b3) = H2 at htk' hk' hfr' hp'
    have q1 : appOK H2 1 tk = True := eq_true htk'.app
    have q2 : (acc.length ≤ 35184372088831) = True := eq_true (by omega)
    have q3 : small (acc.length + 1) 16 = True := eq_true (by unfold small; omega)
    simp only [eE, eN, reduceCtorEq, Nat.reduceEqDiff, ↓reduceIte, Nat.reduceLeDiff, Nat.reduceMul, nS1, List.length_map, retK, q1, q2, q3, fr1 hfr']
    refine .mk ⟨a3, b3, acc ++ [v], .own (n1 + 4) 1, hset (killTok H2 tk) (n1 + 4) .tok, n1 + 6⟩ (by simp only [List.map_append, List.map_cons, List.map_nil]) ⟨by simp only []; omega, (kill_fresh htk' hfr').hset (by simp only []; omega) (by simp only []; omega), ha3, ?_, ?_, ?_, .inr (.inr ⟨n1 + 4, rfl, by omega, hget_hset_eq ..⟩), rfl, ?_⟩ (by simp only []; omega)
    · simp only []
      rw [hget_hset_ne _ _ _ _ (by omega), kill_get htk' (.inl hlt)]; exact hp'
    · intro id ob hne hx
      have := hf.lt hx
      simp only []
      rw [hget_hset_ne _ _ _ _ (by omega), kill_get htk' (.inl this)]; exact hk' id ob hne hx
    · simp only [List.length_append, List.length_cons, List.length_nil]; omega
    · simp only []
      rw [hx3]
      congr 1; funext r
      simp only [List.append_assoc, List.singleton_append]
  | false =>
    simp only [eE, eC, eN, reduceCtorEq, Nat.reduceEqDiff, ↓reduceIte, Int.toNat_natCast, Int.natCast_nonneg, Tri_i, sRis, hp1, encdK_map, decK_map, hw]
    refine ⟨acc, a2, b2, ⟨_, rfl, Wk.sl (.inl hes)⟩, hp1, hk1, ha2, ?_⟩
    rw [he]
    cases b2 with
    | true => rfl
    | false =>
      show ((moreR (l.drop a2)).bd _) = _
      have : hdW [44] (l.drop a2) = false := by simpa [isV] using hw
      rw [more_no' (by rw [this]; decide)]
      simp only [Rs.bd, List.append_nil]; rfl
end Go.AM
end
section
set_option maxRecDepth 20000
set_option linter.all false
namespace Go.AM
open Go.Proofs Go.Lib
def encP (i : Itm) : AVal := .agg [.int .i64 i.k, .str [], .int .i64 i.n, eSs i.ls, eSs i.cs]
theorem encP_under (n : Nat) (i : Itm) : (encP i).under n := ⟨trivial, trivial, trivial, ⟨trivial, strs_under n _⟩, ⟨trivial, strs_under n _⟩, trivial⟩
theorem wk_P {k n : Int} {a b : AVal} {ls cs : List Bs} (h1 : Wk a (eSs ls)) (h2 : Wk b (eSs cs)) : Wk (.agg [.int .i64 k, .str [], .int .i64 n, a, b]) (encP ⟨k, n, ls, cs⟩) :=
  Wk.agg (.cons (Wk.refl _) (.cons (Wk.refl _) (.cons (Wk.refl _) (.cons h1 (.cons h2 .nil)))))
theorem rk_ok {α : Type} {b : Bool} {a : α} {r : List Tkn} {x : Rs α} (h : x = gB b (fun r => .ok a r) r) : x = rk b a r := by cases b <;> exact h
theorem isV_no {w : Bs} {r : List Tkn} (h : isV false w r = false) : hdW w r = false := by simpa [isV] using h
theorem t_ritem : RStep 86 [] encP itemR := RStep.of l86 encP_under fun l pid H n a b hl ha hf hlt hp => by
  refine a86 (ev_awp Tri_ok (ev_evK ?_))
  cases h0 : isV b wDif (l.drop a) with
  | true =>
    obtain ⟨rfl, hw, hlt2⟩ := isV_yes h0
    have e := w64_succ (k := a) (by omega)
    have hx : gB false itemR (l.drop a) = gB false (fun r => (namesR r).bd fun cs r => .ok ⟨1, 0, [], cs⟩ r) (l.drop (a + 1)) := by
      show itemR (l.drop a) = _
      simp only [itemR, hw, if_true, List.tail_drop, gB]
    generalize gB false itemR (l.drop a) = x at hx
    simp only [eE, eC, eN, reduceCtorEq, Nat.reduceEqDiff, ↓reduceIte, Nat.reduceAdd, Nat.reduceLeDiff, Int.reduceEq, Int.toNat_natCast, Int.natCast_nonneg, sep1 hlt, sep2 hlt, sep4 hlt, fr1 hf, fr0 hf, hset_hset, c86, Tri_i, sRis, hp, encdK_map, decK_map, h0, e]
    refine rs_bd t_rnames hx hl (show a + 1 ≤ l.length from hlt2) (by simp only [hget_hset, sep2 hlt, sep4 hlt, if_true, if_false]) fun cs a0 b0 ha0 hv0 hx0 => ?_
    simp only [eE, eN, reduceCtorEq, Nat.reduceEqDiff, ↓reduceIte, Nat.reduceAdd, rcell, sep1 hlt, sep3 hlt, retK]
    exact ⟨_, a0, b0, ⟨_, rfl, wk_P wk_nilS (Wk.refl _)⟩, (by simp only [hget_hset, sep2 hlt, sep4 hlt, if_true, if_false]), (fun id ob hne hx => by have := hf.lt hx; simp only [hget_hset]; (repeat rw [if_neg (by omega)]); exact hx), ha0, rk_ok hx0⟩
  | false =>
    cases h1 : isV b wRis (l.drop a) with
    | true =>
      obtain ⟨rfl, hw, hlt2⟩ := isV_yes h1
      have e := w64_succ (k := a) (by omega)
      have hx : gB false itemR (l.drop a) = gB false (fun r => (namesR r).bd fun cs r => .ok ⟨4, 0, [], cs⟩ r) (l.drop (a + 1)) := by
        show itemR (l.drop a) = _
        simp only [itemR, isV_no h0, hw, if_true, if_false, Bool.false_eq_true, List.tail_drop, gB]
      generalize gB false itemR (l.drop a) = x at hx
      simp only [eE, eC, eN, reduceCtorEq, Nat.reduceEqDiff, ↓reduceIte, Nat.reduceAdd, Nat.reduceLeDiff, Int.reduceEq, Int.toNat_natCast, Int.natCast_nonneg, sep1 hlt, sep2 hlt, sep4 hlt, fr1 hf, fr0 hf, hset_hset, c86, Tri_i, sRis, hp, encdK_map, decK_map, h0, h1, e]
      refine rs_bd t_rnames hx hl (show a + 1 ≤ l.length from hlt2) (by simp only [hget_hset, sep2 hlt, sep4 hlt, if_true, if_false]) fun cs a0 b0 ha0 hv0 hx0 => ?_
      simp only [eE, eN, reduceCtorEq, Nat.reduceEqDiff, ↓reduceIte, Nat.reduceAdd, rcell, sep1 hlt, sep3 hlt, retK]
      exact ⟨_, a0, b0, ⟨_, rfl, wk_P wk_nilS (Wk.refl _)⟩, (by simp only [hget_hset, sep2 hlt, sep4 hlt, if_true, if_false]), (fun id ob hne hx => by have := hf.lt hx; simp only [hget_hset]; (repeat rw [if_neg (by omega)]); exact hx), ha0, rk_ok hx0⟩
    | false =>
      cases h2 : isV b wNea (l.drop a) with
      | true =>
        obtain ⟨rfl, hw, hlt2⟩ := isV_yes h2
        have e := w64_succ (k := a) (by omega)
        have hx : gB false itemR (l.drop a) = gB false (fun r => (namesR r).bd fun cs r => .ok ⟨5, 0, [], cs⟩ r) (l.drop (a + 1)) := by
          show itemR (l.drop a) = _
          simp only [itemR, isV_no h0, isV_no h1, hw, if_true, if_false, Bool.false_eq_true, List.tail_drop, gB]
        generalize gB false itemR (l.drop a) = x at hx
        simp only [eE, eC, eN, reduceCtorEq, Nat.reduceEqDiff, ↓reduceIte, Nat.reduceAdd, Nat.reduceLeDiff, Int.reduceEq, Int.toNat_natCast, Int.natCast_nonneg, sep1 hlt, sep2 hlt, sep4 hlt, fr1 hf, fr0 hf, hset_hset, c86, Tri_i, sRis, hp, encdK_map, decK_map, h0, h1, h2, e]
        refine rs_bd t_rnames hx hl (show a + 1 ≤ l.length from hlt2) (by simp only [hget_hset, sep2 hlt, sep4 hlt, if_true, if_false]) fun cs a0 b0 ha0 hv0 hx0 => ?_
        simp only [eE, eN, reduceCtorEq, Nat.reduceEqDiff, ↓reduceIte, Nat.reduceAdd, rcell, sep1 hlt, sep3 hlt, retK]
        exact ⟨_, a0, b0, ⟨_, rfl, wk_P wk_nilS (Wk.refl _)⟩, (by simp only [hget_hset, sep2 hlt, sep4 hlt, if_true, if_false]), (fun id ob hne hx => by have := hf.lt hx; simp only [hget_hset]; (repeat rw [if_neg (by omega)]); exact hx), ha0, rk_ok hx0⟩
      | false =>
        cases h3 : isV b wHom (l.drop a) with
        | true =>
          obtain ⟨rfl, hw, hlt2⟩ := isV_yes h3
          have e := w64_succ (k := a) (by omega)
          have hx : gB false itemR (l.drop a) = gB false (fun r => (nameR r).bd fun a r => (need [58] r).bd fun _ r => (namesR r).bd fun cs r => .ok ⟨2, 0, [a], cs⟩ r) (l.drop (a + 1)) := by
            show itemR (l.drop a) = _
            simp only [itemR, isV_no h0, isV_no h1, isV_no h2, hw, if_true, if_false, Bool.false_eq_true, List.tail_drop, gB]
          generalize gB false itemR (l.drop a) = x at hx
          simp only [eE, eC, eN, reduceCtorEq, Nat.reduceEqDiff, ↓reduceIte, Nat.reduceAdd, Nat.reduceLeDiff, Int.reduceEq, Int.toNat_natCast, Int.natCast_nonneg, sep1 hlt, sep2 hlt, sep4 hlt, fr1 hf, fr0 hf, hset_hset, c86, Tri_i, sRis, hp, encdK_map, decK_map, h0, h1, h2, h3, e]
          refine rs_bd t_rname hx hl (show a + 1 ≤ l.length from hlt2) (by simp only [hget_hset, sep2 hlt, sep4 hlt, if_true, if_false]) fun a a0 b0 ha0 hv0 hx0 => ?_
          simp only [eE, eN, reduceCtorEq, Nat.reduceEqDiff, ↓reduceIte, Nat.reduceAdd, Nat.reduceLeDiff, Nat.reduceMul, nS1, sep1 hlt, retK]
          refine rs_bd (t_word [58]) hx0 hl ha0 (by simp only [hget_hset, sep2 hlt, sep4 hlt, if_true, if_false]) fun u a1 b1 ha1 hv1 hx1 => ?_
          simp only [eE, eN, reduceCtorEq, Nat.reduceEqDiff, ↓reduceIte, retK]
          refine rs_bd t_rnames hx1 hl ha1 (by simp only [hget_hset, sep2 hlt, sep4 hlt, if_true, if_false]) fun cs a2 b2 ha2 hv2 hx2 => ?_
          simp only [eE, eN, reduceCtorEq, Nat.reduceEqDiff, ↓reduceIte, Nat.reduceAdd, rcell, sep1 hlt, sep3 hlt, hset_hset, retK]
          exact ⟨_, a2, b2, ⟨_, rfl, wk_P wk_ex (Wk.refl _)⟩, (by simp only [hget_hset, sep2 hlt, sep4 hlt, if_true, if_false]), (fun id ob hne hx => by have := hf.lt hx; simp only [hget_hset]; (repeat rw [if_neg (by omega)]); exact hx), ha2, rk_ok hx2⟩
        | false =>
          cases h4 : isV b wApa (l.drop a) with
          | true =>
            obtain ⟨rfl, hw, hlt2⟩ := isV_yes h4
            have e := w64_succ (k := a) (by omega)
            have hx : gB false itemR (l.drop a) = gB false (fun r => (numbR r).bd fun n r => (need [58] r).bd fun _ r => (namesR r).bd fun cs r => .ok ⟨3, n, [], cs⟩ r) (l.drop (a + 1)) := by
              show itemR (l.drop a) = _
              simp only [itemR, isV_no h0, isV_no h1, isV_no h2, isV_no h3, hw, if_true, if_false, Bool.false_eq_true, List.tail_drop, gB]
            generalize gB false itemR (l.drop a) = x at hx
            simp only [eE, eC, eN, reduceCtorEq, Nat.reduceEqDiff, ↓reduceIte, Nat.reduceAdd, Nat.reduceLeDiff, Int.reduceEq, Int.toNat_natCast, Int.natCast_nonneg, sep1 hlt, sep2 hlt, sep4 hlt, fr1 hf, fr0 hf, hset_hset, c86, Tri_i, sRis, hp, encdK_map, decK_map, h0, h1, h2, h3, h4, e]
            refine rs_bd t_rnumber hx hl (show a + 1 ≤ l.length from hlt2) (by simp only [hget_hset, sep2 hlt, sep4 hlt, if_true, if_false]) fun k a0 b0 ha0 hv0 hx0 => ?_
            simp only [eE, eN, reduceCtorEq, Nat.reduceEqDiff, ↓reduceIte, Nat.reduceAdd, Nat.reduceLeDiff, sep1 hlt, retK]
            refine rs_bd (t_word [58]) hx0 hl ha0 (by simp only [hget_hset, sep2 hlt, sep4 hlt, if_true, if_false]) fun u a1 b1 ha1 hv1 hx1 => ?_
            simp only [eE, eN, reduceCtorEq, Nat.reduceEqDiff, ↓reduceIte, retK]
            refine rs_bd t_rnames hx1 hl ha1 (by simp only [hget_hset, sep2 hlt, sep4 hlt, if_true, if_false]) fun cs a2 b2 ha2 hv2 hx2 => ?_
            simp only [eE, eN, reduceCtorEq, Nat.reduceEqDiff, ↓reduceIte, Nat.reduceAdd, rcell, sep1 hlt, sep3 hlt, hset_hset, retK]
            exact ⟨_, a2, b2, ⟨_, rfl, wk_P wk_nilS (Wk.refl _)⟩, (by simp only [hget_hset, sep2 hlt, sep4 hlt, if_true, if_false]), (fun id ob hne hx => by have := hf.lt hx; simp only [hget_hset]; (repeat rw [if_neg (by omega)]); exact hx), ha2, rk_ok hx2⟩
          | false =>
            cases h5 : isV b wQuo (l.drop a) with
            | true =>
              obtain ⟨rfl, hw, hlt2⟩ := isV_yes h5
              have e := w64_succ (k := a) (by omega)
              have hx : gB false itemR (l.drop a) = gB false (fun r => (numbR r).bd fun n r => (namesR r).bd fun ls r => (need [58] r).bd fun _ r => (namesR r).bd fun cs r => .ok ⟨6, n, ls, cs⟩ r) (l.drop (a + 1)) := by
                show itemR (l.drop a) = _
                simp only [itemR, isV_no h0, isV_no h1, isV_no h2, isV_no h3, isV_no h4, hw, if_true, if_false, Bool.false_eq_true, List.tail_drop, gB]
              generalize gB false itemR (l.drop a) = x at hx
              simp only [eE, eC, eN, reduceCtorEq, Nat.reduceEqDiff, ↓reduceIte, Nat.reduceAdd, Nat.reduceLeDiff, Int.reduceEq, Int.toNat_natCast, Int.natCast_nonneg, sep1 hlt, sep2 hlt, sep4 hlt, fr1 hf, fr0 hf, hset_hset, c86, Tri_i, sRis, hp, encdK_map, decK_map, h0, h1, h2, h3, h4, h5, e]
              refine rs_bd t_rnumber hx hl (show a + 1 ≤ l.length from hlt2) (by simp only [hget_hset, sep2 hlt, sep4 hlt, if_true, if_false]) fun k a0 b0 ha0 hv0 hx0 => ?_
              simp only [eE, eN, reduceCtorEq, Nat.reduceEqDiff, ↓reduceIte, Nat.reduceAdd, Nat.reduceLeDiff, sep1 hlt, retK]
              refine rs_bd t_rnames hx0 hl ha0 (by simp only [hget_hset, sep2 hlt, sep4 hlt, if_true, if_false]) fun ls a1 b1 ha1 hv1 hx1 => ?_
              simp only [eE, eN, reduceCtorEq, Nat.reduceEqDiff, ↓reduceIte, Nat.reduceAdd, Nat.reduceLeDiff, sep1 hlt, retK]
              refine rs_bd (t_word [58]) hx1 hl ha1 (by simp only [hget_hset, sep2 hlt, sep4 hlt, if_true, if_false]) fun u a2 b2 ha2 hv2 hx2 => ?_
              simp only [eE, eN, reduceCtorEq, Nat.reduceEqDiff, ↓reduceIte, retK]
              refine rs_bd t_rnames hx2 hl ha2 (by simp only [hget_hset, sep2 hlt, sep4 hlt, if_true, if_false]) fun cs a3 b3 ha3 hv3 hx3 => ?_
              simp only [eE, eN, reduceCtorEq, Nat.reduceEqDiff, ↓reduceIte, Nat.reduceAdd, rcell, sep1 hlt, sep3 hlt, hset_hset, retK]
              exact ⟨_, a3, b3, ⟨_, rfl, wk_P (Wk.refl _) (Wk.refl _)⟩, (by simp only [hget_hset, sep2 hlt, sep4 hlt, if_true, if_false]), (fun id ob hne hx => by have := hf.lt hx; simp only [hget_hset]; (repeat rw [if_neg (by omega)]); exact hx), ha3, rk_ok hx3⟩
            | false =>
              cases h6 : isV b wOnl (l.drop a) with
              | true =>
                obtain ⟨rfl, hw, hlt2⟩ := isV_yes h6
                have e := w64_succ (k := a) (by omega)
                have hx : gB false itemR (l.drop a) = gB false (fun r => (nameR r).bd fun a r => (need [58] r).bd fun _ r => (namesR r).bd fun ls r => .ok ⟨0, 0, ls, [a]⟩ r) (l.drop (a + 1)) := by
                  show itemR (l.drop a) = _
                  simp only [itemR, isV_no h0, isV_no h1, isV_no h2, isV_no h3, isV_no h4, isV_no h5, hw, if_true, if_false, Bool.false_eq_true, List.tail_drop, gB]
                generalize gB false itemR (l.drop a) = x at hx
                simp only [eE, eC, eN, reduceCtorEq, Nat.reduceEqDiff, ↓reduceIte, Nat.reduceAdd, Nat.reduceLeDiff, Int.reduceEq, Int.toNat_natCast, Int.natCast_nonneg, sep2 hlt, sep4 hlt, fr1 hf, fr0 hf, hset_hset, c86, Tri_i, sRis, hp, encdK_map, decK_map, h0, h1, h2, h3, h4, h5, h6, e]
                refine rs_bd t_rname hx hl (show a + 1 ≤ l.length from hlt2) (by simp only [hget_hset, sep2 hlt, sep4 hlt, if_true, if_false]) fun a a0 b0 ha0 hv0 hx0 => ?_
                simp only [eE, eN, reduceCtorEq, Nat.reduceEqDiff, ↓reduceIte, Nat.reduceAdd, Nat.reduceLeDiff, Nat.reduceMul, nS1, sep1 hlt, hset_hset, retK]
                refine rs_bd (t_word [58]) hx0 hl ha0 (by simp only [hget_hset, sep2 hlt, sep4 hlt, if_true, if_false]) fun u a1 b1 ha1 hv1 hx1 => ?_
                simp only [eE, eN, reduceCtorEq, Nat.reduceEqDiff, ↓reduceIte, retK]
                refine rs_bd t_rnames hx1 hl ha1 (by simp only [hget_hset, sep2 hlt, sep4 hlt, if_true, if_false]) fun ls a2 b2 ha2 hv2 hx2 => ?_
                simp only [eE, eN, reduceCtorEq, Nat.reduceEqDiff, ↓reduceIte, Nat.reduceAdd, Nat.reduceLeDiff, rcell, sep1 hlt, sep3 hlt, hset_hset, retK]
                exact ⟨_, a2, b2, ⟨_, rfl, wk_P (Wk.refl _) wk_ex⟩, (by simp only [hget_hset, sep2 hlt, sep4 hlt, if_true, if_false]), (fun id ob hne hx => by have := hf.lt hx; simp only [hget_hset]; (repeat rw [if_neg (by omega)]); exact hx), ha2, rk_ok hx2⟩
              | false =>
                simp only [eE, eC, eN, reduceCtorEq, Nat.reduceEqDiff, ↓reduceIte, Nat.reduceAdd, rcell, Int.toNat_natCast, Int.natCast_nonneg, sep1 hlt, sep2 hlt, sep3 hlt, sep4 hlt, fr1 hf, fr0 hf, hset_hset, c86, Tri_i, sRis, hp, encdK_map, decK_map, h0, h1, h2, h3, h4, h5, h6]
                refine ⟨⟨0, 0, [], []⟩, a, true, ⟨_, rfl, wk_P wk_nilS wk_nilS⟩, (by simp only [hget_hset, sep2 hlt, sep4 hlt, if_true, if_false]), (fun id ob hne hx => by have := hf.lt hx; simp only [hget_hset]; (repeat rw [if_neg (by omega)]); exact hx), ha, ?_⟩
                cases b with
                | true => rfl
                | false =>
                  show itemR (l.drop a) = _
                  simp only [itemR, isV_no h0, isV_no h1, isV_no h2, isV_no h3, isV_no h4, isV_no h5, isV_no h6, if_false, Bool.false_eq_true]; rfl
end Go.AM
end
section
set_option maxRecDepth 20000
set_option linter.all false
namespace Go.AM
open Go.Proofs Go.Lib
theorem rs_anyX {α : Type} {enc : α → AVal} {T : Tab} {b0 mk : Nat} {cx : Nat → AVal} {d : Option Nat} {kp : List Nat} {ops : List (Nat × AOp)} {k : List Item} {st : AS} {Q : AExit → AS → Prop} {fid : FuncId} {xs : List AVal} {g : List Tkn → Rs α} {l : List Tkn} {rid a : Nat} {b : Bool} {H1 : AHeap} {n1 : Nat}
    (h : RStep fid xs enc g) (hl : l.length < 1000000000) (ha : a ≤ l.length) (hp : hget H1 rid = some (rB l a b))
    (go : ∀ v a' b', a' ≤ l.length → gB b g (l.drop a) = rk b' v (l.drop a') → retXK Tryz.prog T b0 cx mk d ops kp k Q st (.ret (enc v)) (hset H1 rid (rB l a' b')) n1) :
    ACalls Tryz.prog fid (.ptr rid 0 :: xs) H1 n1 (retXK Tryz.prog T b0 cx mk d ops kp k Q st) := by
  refine (h l rid H1 n1 a b hl ha hp).mono fun o H' n' q => ?_
  obtain ⟨v, a', b', rfl, rfl, rfl, h1, h2⟩ := q
  exact go v a' b' h1 h2
theorem rx_st0 {P : Program} {T : Tab} {b : Nat} {cx : Nat → AVal} {rx : List (Nat × AOp)} {kp : List Nat} {k : List Item} {Q : AExit → AS → Prop} {s : AS} {d : Option Nat} {sz : Nat} {a x : Opd} : runXK P T b cx ((0, ⟨d, none, .st sz a x⟩) :: rx) kp k Q s = ((lk s.env a).1 = true ∧ (lk s.env x).1 = true ∧ nT (lkv s.env x) ∧ (lkv s.env x).cells.length = sz ∧ (stE s.H sz (lkv s.env x) (lkv s.env a)).1 ∧ runXK P T b cx rx kp k Q ({ s with H := (stE s.H sz (lkv s.env x) (lkv s.env a)).2 }.put d true (.tup []))) := by
  rw [rx_sto, step_st, stE_eq]
  simp only [gvb, forall_const, sideO, true_and]; rfl
abbrev dC (nm : Bs) (lv : Int) (cs ls : List Bs) (tk : Tok) (is : List Itm) (c l : Bs) : List AVal := [.str nm, .int .i64 lv, eSs cs, eSs ls, .sl tk (is.map encP), .str c, .str l]
def encDr (d : Drf) : AVal := .agg [.str d.nm, .int .i64 d.lv, eSs d.cs, eSs d.ls, .sl (.none 5) (d.is.map encP), .str d.c, .str d.l]
theorem Ps_under (n : Nat) (is : List Itm) : unders n (is.map encP) := by
  induction is with
  | nil => trivial
  | cons a r ih => exact ⟨encP_under n a, ih⟩
theorem encDr_under (n : Nat) (d : Drf) : (encDr d).under n := ⟨trivial, trivial, ⟨trivial, strs_under n _⟩, ⟨trivial, strs_under n _⟩, ⟨trivial, Ps_under n _⟩, trivial, trivial, trivial⟩
structure V6 where
  f : Nat
  at' : Nat
  b : Bool
  ac : List Itm
  tk : Tok
  H : AHeap
  n : Nat
def lemG2 (nm : Bs) (lv : Int) (cs ls : List Bs) (is : List Itm) (r : List Tkn) : Rs Drf :=
  (nameR r).bd fun c r => (nameR r).bd fun x r => (need [59] r).bd fun _ r => (need [125] r).bd fun _ r => .ok ⟨nm, lv, cs, ls, is, c, x⟩ r
structure I6 (l : List Tkn) (nm : Bs) (lv : Int) (cs ls : List Bs) (x : Rs Drf) (H : AHeap) (n pid : Nat) (v : V6) : Prop where
  hn : n + 4 ≤ v.n
  fr : Fresh v.H v.n
  ha : v.at' ≤ l.length
  hp : hget v.H pid = some (rB l v.at' v.b)
  hx : hget v.H (n + 2) = some (.box (dC nm lv cs ls v.tk v.ac [] []))
  hr : hget v.H n = some (.box [zr, z0, zs, zs, zs, zr, zr])
  hk : KeepsB pid H v.H
  tok : tkG 5 (n + 4) v.H v.tk
  es : v.tk.esz = 5 ∨ v.ac = []
  hl : v.b = false → v.ac.length ≤ v.at'
  hf : v.b = false → l.length - v.at' < v.f
  eq : x = gB v.b (fun r => (itemsR v.f r).bd fun is q => lemG2 nm lv cs ls (v.ac ++ is) q) (l.drop v.at')
theorem need_adv {w : Bs} {l : List Tkn} {a a' : Nat} {b : Bool} {u : Unit} (ha : a ≤ l.length) (ha' : a' ≤ l.length) (h : gB b (need w) (l.drop a) = rk false u (l.drop a')) : a < a' := by
  cases b with
  | true => cases h
  | false =>
    have h2 : need w (l.drop a) = .ok u (l.drop a') := h
    unfold need at h2
    split at h2
    · rename_i hw
      have hlt := hdW_lt hw
      rw [List.tail_drop] at h2
      simp only [Rs.ok.injEq, true_and] at h2
      have := congrArg List.length h2
      simp only [List.length_drop] at this
      omega
    · cases h2
theorem t_rlemma : RStep 31 [] encDr lemR := RStep.of l31 encDr_under fun l pid H n a b hl ha hf hlt hp => by
  refine a31 (ev_awp Tri_ok (ev_evK ?_))
  simp only [eE, eN, reduceCtorEq, Nat.reduceEqDiff, ↓reduceIte, Nat.reduceAdd, fr1 hf, fr0 hf, hset_hset, c31]
  refine rs_bd (t_word wLem) rfl hl ha (by simp only [hget_hset, sep2 hlt, sep4 hlt, if_false]; exact hp) fun u1 a1 b1 ha1 hv1 hx1 => ?_
  generalize gB b lemR (l.drop a) = x at hx1
  simp only [eE, eN, reduceCtorEq, Nat.reduceEqDiff, ↓reduceIte, retK]
  refine rs_bd t_rname hx1 hl ha1 (by simp only [hget_hset, sep2 hlt, sep4 hlt, if_true, if_false]) fun nm a2 b2 ha2 hv2 hx2 => ?_
  simp only [eE, eN, reduceCtorEq, Nat.reduceEqDiff, ↓reduceIte, Nat.reduceAdd, Nat.reduceLeDiff, sep1 hlt, hset_hset, retK]
  refine rs_bd (t_word wLev) hx2 hl ha2 (by simp only [hget_hset, sep2 hlt, sep4 hlt, if_true, if_false]) fun u3 a3 b3 ha3 hv3 hx3 => ?_
  simp only [eE, eN, reduceCtorEq, Nat.reduceEqDiff, ↓reduceIte, retK]
  refine rs_bd t_rnumber hx3 hl ha3 (by simp only [hget_hset, sep2 hlt, sep4 hlt, if_true, if_false]) fun lv a4 b4 ha4 hv4 hx4 => ?_
  simp only [eE, eN, reduceCtorEq, Nat.reduceEqDiff, ↓reduceIte, Nat.reduceAdd, Nat.reduceLeDiff, sep1 hlt, hset_hset, retK]
  refine rs_bd (t_word [123]) hx4 hl ha4 (by simp only [hget_hset, sep2 hlt, sep4 hlt, if_true, if_false]) fun u5 a5 b5 ha5 hv5 hx5 => ?_
  simp only [eE, eN, reduceCtorEq, Nat.reduceEqDiff, ↓reduceIte, retK]
  refine rs_bd (t_word wCel) hx5 hl ha5 (by simp only [hget_hset, sep2 hlt, sep4 hlt, if_true, if_false]) fun u6 a6 b6 ha6 hv6 hx6 => ?_
  simp only [eE, eN, reduceCtorEq, Nat.reduceEqDiff, ↓reduceIte, hset_hset, retK]
  refine rs_bd t_rnames hx6 hl ha6 (by simp only [hget_hset, sep2 hlt, sep4 hlt, if_true, if_false]) fun cs a7 b7 ha7 hv7 hx7 => ?_
  simp only [eE, eN, reduceCtorEq, Nat.reduceEqDiff, ↓reduceIte, Nat.reduceAdd, Nat.reduceLeDiff, sep1 hlt, hset_hset, retK]
  refine rs_bd (t_word [59]) hx7 hl ha7 (by simp only [hget_hset, sep2 hlt, sep4 hlt, if_true, if_false]) fun u8 a8 b8 ha8 hv8 hx8 => ?_
  simp only [eE, eN, reduceCtorEq, Nat.reduceEqDiff, ↓reduceIte, retK]
  refine rs_bd (t_word wLet) hx8 hl ha8 (by simp only [hget_hset, sep2 hlt, sep4 hlt, if_true, if_false]) fun u9 a9 b9 ha9 hv9 hx9 => ?_
  simp only [eE, eN, reduceCtorEq, Nat.reduceEqDiff, ↓reduceIte, hset_hset, retK]
  refine rs_bd t_rnames hx9 hl ha9 (by simp only [hget_hset, sep2 hlt, sep4 hlt, if_true, if_false]) fun ls a10 b10 ha10 hv10 hx10 => ?_
  simp only [eE, eN, reduceCtorEq, Nat.reduceEqDiff, ↓reduceIte, Nat.reduceAdd, Nat.reduceLeDiff, sep1 hlt, hset_hset, retK]
  refine rs_bd (t_word [59]) hx10 hl ha10 (by simp only [hget_hset, sep2 hlt, sep4 hlt, if_true, if_false]) fun u11 a11 b11 ha11 hv11 hx11 => ?_
  simp only [eE, eN, reduceCtorEq, Nat.reduceEqDiff, ↓reduceIte, retK]
  generalize hHH : hset _ pid (rB l a11 b11) = HH
  have e1 : hget HH pid = some (rB l a11 b11) := by rw [← hHH]; exact hget_hset_eq ..
  have e2 : hget HH (n + 2) = some (.box (dC nm lv cs ls .nil [] [] [])) := by rw [← hHH]; (simp only [hget_hset, sep1 hlt, natE1, reduceCtorEq, if_true, if_false]) <;> rfl
  have e3 : hget HH n = some (.box [zr, z0, zs, zs, zs, zr, zr]) := by rw [← hHH]; (simp only [hget_hset, sep3 hlt, natE2, reduceCtorEq, if_true, if_false]) <;> rfl
  have e4 : KeepsB pid H HH := by rw [← hHH]; exact (fun id ob hne hx => by have := hf.lt hx; simp only [hget_hset]; (repeat rw [if_neg (by omega)]); exact hx)
  have e5 : Fresh HH (n + 4) := by
    rw [← hHH]
    intro id hid
    simp only [hget_hset]
    repeat rw [if_neg (by omega)]
    exact hf id (by omega)
  clear hHH
  have hxI : x = gB b11 (fun r => (itemsR (l.length - a11 + 1) r).bd fun is q => lemG2 nm lv cs ls ([] ++ is) q) (l.drop a11) := by
    rw [hx11, ← List.length_drop]
    cases b11 <;> rfl
  refine k_loop (fun v : V6 => ⟨[(0, true, .ptr pid 0), (2, true, .ptr n 0), (3, true, .ptr (n + 2) 0)], v.H, v.n⟩) (I6 l nm lv cs ls x H n pid) (fun v => (l.length - v.at') + (if v.b then 0 else 1))
    ⟨l.length - a11 + 1, a11, b11, [], .nil, HH, n + 4⟩ rfl ⟨Nat.le_refl _, e5, ha11, e1, e2, e3, e4, .inl rfl, .inr rfl, fun _ => Nat.zero_le _, fun _ => Nat.lt_succ_self _, hxI⟩ ?_
  clear hxI hx11 hv11 hx10 hv10 hx9 hv9 hx8 hv8 hx7 hv7 hx6 hv6 hx5 hv5 hx4 hv4 hx3 hv3 hx2 hv2 hx1 hv1 e1 e2 e3 e4 e5 HH
  rintro ⟨f, a2, b2, ac, tk, H1, n1⟩ hI
  have hn := hI.hn
  have hp1 := hI.hp
  have hx1 := hI.hx
  have hr1 := hI.hr
  have hk1 := hI.hk
  have ha2 := hI.ha
  have hfr1 := hI.fr
  have hT := hI.eq
  simp only at hn hp1 hx1 hr1 hk1 ha2 hfr1 hT
  have hlt1 : pid < n1 := by omega
  have y1 : ∀ k, (n = n1 + k) = False := fun k => eq_false (by omega)
  have y2 : ∀ k, (n1 + k = n) = False := fun k => eq_false (by omega)
  have y3 : ∀ k, (n + 2 = n1 + k) = False := fun k => eq_false (by omega)
  have y4 : ∀ k, (n1 + k = n + 2) = False := fun k => eq_false (by omega)
  by_cases hgo : b2 = true ∨ isV b2 wLac (l.drop a2) = true
  · have hx2 : x = gB b2 (fun r => (need wLac r).bd fun _ r => lemG2 nm lv cs ls ac r) (l.drop a2) := by
      rcases hgo with rfl | hw
      · exact hT
      · obtain ⟨rfl, hw2, hlt2⟩ := isV_yes hw
        have hf2 := hI.hf rfl
        simp only at hf2
        obtain ⟨g, rfl⟩ : ∃ g, f = g + 1 := ⟨f - 1, by omega⟩
        rw [hT]
        show (itemsR (g + 1) (l.drop a2)).bd _ = (need wLac (l.drop a2)).bd _
        rw [itemsR, if_pos hw2]
        unfold need
        rw [if_pos hw2]
        simp only [Rs.bd, List.append_nil]
    unfold lemG2 at hx2
    have hes : tk.esz = 5 ∨ ac.map encP = [] := hI.es.imp id fun e => by simp only at e; rw [e]; rfl
    rcases hgo with rfl | hw
    · simp only [eE, eC, eN, reduceCtorEq, Nat.reduceEqDiff, ↓reduceIte, Nat.reduceAdd, Bool.not_true, hp1]
      refine rs_bd (t_word wLac) hx2 hl ha2 hp1 fun u12 a12 b12 ha12 hv12 hx12 => ?_
      simp only [eE, eN, reduceCtorEq, Nat.reduceEqDiff, ↓reduceIte, retK]
      refine rs_bd t_rname hx12 hl ha12 (hget_hset_eq ..) fun c a13 b13 ha13 hv13 hx13 => ?_
      simp only [eE, eN, reduceCtorEq, Nat.reduceEqDiff, ↓reduceIte, Nat.reduceAdd, Nat.reduceLeDiff, sep1 hlt, hset_hset, retK, hx1]
      refine rs_bd t_rname hx13 hl ha13 (by simp only [hget_hset, sep2 hlt, if_true, if_false]) fun x' a14 b14 ha14 hv14 hx14 => ?_
      simp only [eE, eN, reduceCtorEq, Nat.reduceEqDiff, ↓reduceIte, Nat.reduceAdd, sep1 hlt, retK]
      refine rs_bd (t_word [59]) hx14 hl ha14 (by simp only [hget_hset, sep2 hlt, if_true, if_false]) fun u15 a15 b15 ha15 hv15 hx15 => ?_
      simp only [eE, eN, reduceCtorEq, Nat.reduceEqDiff, ↓reduceIte, retK]
      refine rs_bd (t_word [125]) hx15 hl ha15 (by simp only [hget_hset, sep2 hlt, if_true, if_false]) fun u16 a16 b16 ha16 hv16 hx16 => ?_
      simp only [eE, eN, reduceCtorEq, Nat.reduceEqDiff, ↓reduceIte, Nat.reduceAdd, rcell, sep1 hlt, sep3 hlt, hset_hset, retK, hr1]
      refine ⟨⟨nm, lv, cs, ls, ac, c, x'⟩, a16, b16, ⟨_, rfl, ?_⟩, (by simp only [hget_hset, sep2 hlt, sep4 hlt, if_true, if_false]), ?_, ha16, rk_ok hx16⟩
      · exact Wk.agg (.cons (Wk.refl _) (.cons (Wk.refl _) (.cons (Wk.refl _) (.cons (Wk.refl _) (.cons (Wk.sl hes) (.cons (Wk.refl _) (.cons (Wk.refl _) .nil)))))))
      · intro id ob hne hx
        have := hf.lt hx
        simp only [hget_hset]
        repeat rw [if_neg (by omega)]
        exact hk1 id ob hne hx
    · obtain ⟨rfl, hw2, hlt2⟩ := isV_yes hw
      simp only [eE, eC, eN, reduceCtorEq, Nat.reduceEqDiff, ↓reduceIte, Nat.reduceAdd, Bool.not_true, Bool.not_false, Int.toNat_natCast, Int.natCast_nonneg, Tri_i, sRis, hp1, encdK_map, decK_map, hw]
      refine rs_bd (t_word wLac) hx2 hl ha2 hp1 fun u12 a12 b12 ha12 hv12 hx12 => ?_
      simp only [eE, eN, reduceCtorEq, Nat.reduceEqDiff, ↓reduceIte, retK]
      refine rs_bd t_rname hx12 hl ha12 (hget_hset_eq ..) fun c a13 b13 ha13 hv13 hx13 => ?_
      simp only [eE, eN, reduceCtorEq, Nat.reduceEqDiff, ↓reduceIte, Nat.reduceAdd, Nat.reduceLeDiff, sep1 hlt, hset_hset, retK, hx1]
      refine rs_bd t_rname hx13 hl ha13 (by simp only [hget_hset, sep2 hlt, if_true, if_false]) fun x' a14 b14 ha14 hv14 hx14 => ?_
      simp only [eE, eN, reduceCtorEq, Nat.reduceEqDiff, ↓reduceIte, Nat.reduceAdd, sep1 hlt, retK]
      refine rs_bd (t_word [59]) hx14 hl ha14 (by simp only [hget_hset, sep2 hlt, if_true, if_false]) fun u15 a15 b15 ha15 hv15 hx15 => ?_
      simp only [eE, eN, reduceCtorEq, Nat.reduceEqDiff, ↓reduceIte, retK]
      refine rs_bd (t_word [125]) hx15 hl ha15 (by simp only [hget_hset, sep2 hlt, if_true, if_false]) fun u16 a16 b16 ha16 hv16 hx16 => ?_
      simp only [eE, eN, reduceCtorEq, Nat.reduceEqDiff, ↓reduceIte, Nat.reduceAdd, rcell, sep1 hlt, sep3 hlt, hset_hset, retK, hr1]
      refine ⟨⟨nm, lv, cs, ls, ac, c, x'⟩, a16, b16, ⟨_, rfl, ?_⟩, (by simp only [hget_hset, sep2 hlt, sep4 hlt, if_true, if_false]), ?_, ha16, rk_ok hx16⟩
      · exact Wk.agg (.cons (Wk.refl _) (.cons (Wk.refl _) (.cons (Wk.refl _) (.cons (Wk.refl _) (.cons (Wk.sl hes) (.cons (Wk.refl _) (.cons (Wk.refl _) .nil)))))))
      · intro id ob hne hx
        have := hf.lt hx
        simp only [hget_hset]
        repeat rw [if_neg (by omega)]
        exact hk1 id ob hne hx
  · obtain ⟨hb, hw⟩ := not_or.1 hgo
    have hb2 : b2 = false := by simpa using hb
    subst hb2
    have hw2 : isV false wLac (l.drop a2) = false := by simpa using hw
    have hac := hI.hl rfl
    have hf2 := hI.hf rfl
    have htk1 := hI.tok
    simp only at hac hf2 htk1
    obtain ⟨g, rfl⟩ : ∃ g, f = g + 1 := ⟨f - 1, by omega⟩
    have hT2 : x = gB false (fun r => (itemR r).bd fun i r => (need [59] r).bd fun _ r => (itemsR g r).bd fun is q => lemG2 nm lv cs ls (ac ++ i :: is) q) (l.drop a2) := by
      rw [hT]
      show (itemsR (g + 1) (l.drop a2)).bd _ = (itemR (l.drop a2)).bd _
      rw [itemsR, if_neg (by rw [isV_no hw2]; decide), bd_assoc]
      congr 1; funext i r
      rw [bd_assoc]
      congr 1; funext _ r
      rw [bd_assoc]; rfl
    simp only [eE, eC, eN, eX, reduceCtorEq, Nat.reduceEqDiff, ↓reduceIte, Nat.reduceAdd, Nat.reduceLeDiff, Nat.reduceLT, Nat.reduceMod, Nat.reduceSub, Nat.reduceDiv, Bool.not_false, Int.toNat_natCast, Int.natCast_nonneg, sep1 hlt, Tri_i, sRis, hp1, encdK_map, decK_map, hw2, hx1]
    refine rs_anyX t_ritem hl ha2 hp1 fun i a3 b3 ha3 hv3 => ?_
    have hx3 := hT2.trans (gB_bd hv3)
    have hle := lc_item.len ha2 ha3 hv3
    have gt : tkG 5 (n + 4) (hset H1 pid (rB l a3 b3)) tk := htk1.set (.inl (by omega))
    have gf : Fresh (hset H1 pid (rB l a3 b3)) n1 := hfr1.hset (Nat.le_refl _) hlt1
    have gp : hget (hset H1 pid (rB l a3 b3)) pid = some (rB l a3 b3) := hget_hset_eq ..
    have gx : hget (hset H1 pid (rB l a3 b3)) (n + 2) = some (.box (dC nm lv cs ls tk ac [] [])) := by rw [hget_hset_ne _ _ _ _ (by omega)]; exact hx1
    have gr : hget (hset H1 pid (rB l a3 b3)) n = some (.box [zr, z0, zs, zs, zs, zr, zr]) := by rw [hget_hset_ne _ _ _ _ (by omega)]; exact hr1
    have gk : KeepsB pid H (hset H1 pid (rB l a3 b3)) := hk1.set
    have kc : keepsC (cxOf [(0, true, AVal.ptr pid 0), (2, true, AVal.ptr n 0), (3, true, AVal.ptr (n + 2) 0), (40, true, AVal.bool true)] ((300000 - 300000) / 2)) H1 (hset H1 pid (rB l a3 b3)) := by
      have : keepsC (.ptr pid 0) H1 (hset H1 pid (rB l a3 b3)) = True := keepsC_set
      exact this.symm ▸ trivial
    refine ⟨kc, ?_⟩
    generalize hset H1 pid (rB l a3 b3) = H2 at gt gf gp gx gr gk
    have q1 : appOK H2 5 tk = True := eq_true gt.app
    have q2 : (ac.length ≤ 35184372088831) = True := eq_true (by omega)
    have q3 : small (ac.length + 1) 80 = True := eq_true (small_of (by omega) (by decide))
    have gkx : hget (killTok H2 tk) (n + 2) = some (.box (dC nm lv cs ls tk ac [] [])) := by rw [kill_get gt (.inl (by omega))]; exact gx
    have q4 : nT (encP i) = True := eq_true trivial
    have q5 : (encP i).cells.length = 5 := rfl
    simp only [eE, eN, eX, reduceCtorEq, Nat.reduceEqDiff, ↓reduceIte, Nat.reduceAdd, Nat.reduceLeDiff, Nat.reduceMul, nS1, List.length_map, rx_st0, q1, q2, q3, q4, q5, fr1 gf, gkx, y4]
    generalize hG : hset (hset (killTok H2 tk) (n1 + 5) AObj.tok) (n + 2) _ = G
    have gkk : ∀ i, i < n + 4 → hget (killTok H2 tk) i = hget H2 i := fun i hi => kill_get gt (.inl hi)
    have g1 : hget G pid = some (rB l a3 b3) := by rw [← hG, hget_hset_ne _ _ _ _ (by omega), hget_hset_ne _ _ _ _ (by omega), gkk _ (by omega)]; exact gp
    have g2 : hget G (n + 2) = some (.box (dC nm lv cs ls (.own (n1 + 5) 5) (ac ++ [i]) [] [])) := by rw [← hG, hget_hset_eq]; simp only [dC, List.map_append, List.map_cons, List.map_nil]
    have g3 : hget G n = some (.box [zr, z0, zs, zs, zs, zr, zr]) := by rw [← hG, hget_hset_ne _ _ _ _ (by omega), hget_hset_ne _ _ _ _ (by omega), gkk _ (by omega)]; exact gr
    have g4 : KeepsB pid H G := by
      intro id ob hne hx
      have := hf.lt hx
      rw [← hG, hget_hset_ne _ _ _ _ (by omega), hget_hset_ne _ _ _ _ (by omega), gkk _ (by omega)]; exact gk id ob hne hx
    have g5 : Fresh G (n1 + 8) := by
      rw [← hG]; exact ((kill_fresh gt gf).hset (m := n1 + 8) (by omega) (by omega)).hset (Nat.le_refl _) (by omega)
    have g6 : tkG 5 (n + 4) G (.own (n1 + 5) 5) := .inr (.inr ⟨n1 + 5, rfl, by omega, by rw [← hG, hget_hset_ne _ _ _ _ (by omega)]; exact hget_hset_eq ..⟩)
    clear hG
    refine rs_any (t_word [59]) hl ha3 g1 fun u a4 b4 ha4 hv4 => ?_
    have hx4 := hx3.trans (gB_bd hv4)
    have hle2 := (lc_need _).len ha3 ha4 hv4
    simp only [eE, eN, reduceCtorEq, Nat.reduceEqDiff, ↓reduceIte, retK]
    refine .mk ⟨g, a4, b4, ac ++ [i], .own (n1 + 5) 5, hset G pid (rB l a4 b4), n1 + 8⟩ rfl ⟨by simp only []; omega, g5.hset (Nat.le_refl (n1 + 8)) (show pid < n1 + 8 by omega), ha4, hget_hset_eq .., ?_, ?_, g4.set, g6.set (.inl (by omega)), .inl rfl, ?_, ?_, ?_⟩ ?_
    · simp only []
      rw [hget_hset_ne _ _ _ _ (by omega)]; exact g2
    · simp only []
      rw [hget_hset_ne _ _ _ _ (by omega)]; exact g3
    · simp only []
      rintro rfl
      have := need_adv ha3 ha4 hv4
      simp only [List.length_append, List.length_cons, List.length_nil]; omega
    · simp only []
      rintro rfl
      have := need_adv ha3 ha4 hv4
      omega
    · simp only []
      rw [hx4]
      congr 1; funext r
      simp only [List.append_assoc, List.singleton_append]
    · simp only [Bool.false_eq_true, if_false]
      cases b4 with
      | true => simp only [if_true]; omega
      | false =>
        have := need_adv ha3 ha4 hv4
        simp only [Bool.false_eq_true, if_false]; omega
end Go.AM
end
section
set_option maxRecDepth 20000
set_option linter.all false
namespace Go.AM
open Go.Proofs Go.Lib
def FewD (d : Drf) : Prop := few d.cs ∧ few d.ls ∧ few d.is ∧ ∀ i ∈ d.is, few i.cs ∧ few i.ls ∧ (i.k = 0 → ∃ a, i.cs = [a])
def Tzr : Tab := tadd 87 (s2 dSs dSs (fun a b => few a ∧ few b) eFind) (tadd 88 (s2 dSs dS (fun a _ => few a) fun a s => eI (idxS a s)) tnil)
theorem Tzr_ok : TabOK Tryz.prog Tzr := (TabOK.tnil.add (q2 p88)).add (q2 fun a b h => p87 a b h.1 h.2)
theorem Tzr_f (a : List AVal) (H : AHeap) : Tzr 87 a H = s2 dSs dSs (fun a b => few a ∧ few b) eFind a H := rfl
theorem Tzr_ix (a : List AVal) (H : AHeap) : Tzr 88 a H = s2 dSs dS (fun a _ => few a) (fun a s => eI (idxS a s)) a H := rfl
structure V7 where
  i : Nat
  tq : Tok
  tp : Tok
  H : AHeap
  n : Nat
abbrev x0 : List AVal := [.str [], .int .i64 0, .sl .nil [], .sl .nil [], .sl .nil [], .sl .nil [], .int .i64 0, .int .i64 0]
structure I7 (d : Drf) (v : V7) : Prop where
  hi : v.i ≤ d.is.length
  hn : 14 ≤ v.n
  fr : Fresh v.H v.n
  h0 : hget v.H 0 = some (.box (encDr d).cells)
  h1 : hget v.H 1 = some (.box x0)
  hx : hget v.H 12 = some (.box (xC d.nm d.lv d.cs d.ls v.tq (qsOf d.cs d.ls (d.is.take v.i)) v.tp (psOf d.cs d.ls (d.is.take v.i)) 0 0))
  kq : tkG 4 14 v.H v.tq
  kp : tkG 2 14 v.H v.tp
  dj : ∀ i, v.tq = .own i 4 → v.tp ≠ .own i 2
  eq : v.tq.esz = 4 ∨ qsOf d.cs d.ls (d.is.take v.i) = []
  ep : v.tp.esz = 2 ∨ psOf d.cs d.ls (d.is.take v.i) = []
theorem p32 (d : Drf) (hd : FewD d) : Pur Tryz.prog 32 [encDr d] (encD d) := by
  refine .mk ⟨encDr_under 0 d, trivial⟩ ⟨encL_under 0 _, trivial, trivial⟩ (a32 (ev_awp Tzr_ok (ev_evK ?_)))
  obtain ⟨f1, f2, f3, f4⟩ := hd
  have f1' : few d.cs = True := eq_true f1
  have f2' : few d.ls = True := eq_true f2
  simp only [eE, eN, reduceCtorEq, Nat.reduceEqDiff, ↓reduceIte, Nat.reduceAdd, Nat.reduceLeDiff, hset_hset, c32, encDr]
  refine k_loop (fun v : V7 => ⟨[(1, true, .ptr 0 0), (2, true, .ptr 1 0), (4, true, .ptr 12 0), (5, true, .bool (okOf d.cs d.ls (d.is.take v.i))), (6, true, .int .i64 v.i)], v.H, v.n⟩) (I7 d) (fun v => d.is.length - v.i)
    ⟨0, .nil, .nil, hset (hset (hset hnil 0 (.box [.str d.nm, .int .i64 d.lv, eSs d.cs, eSs d.ls, .sl (.none 5) (d.is.map encP), .str d.c, .str d.l])) 1 (.box [zr, z0, zs, zs, zs, zs, z0, z0])) 12 (.box [.str d.nm, .int .i64 d.lv, eSs d.cs, eSs d.ls, zs, zs, z0, z0]), 14⟩ rfl ⟨Nat.zero_le _, Nat.le_refl _, fun id hid => ?_, rfl, rfl, rfl, .inl rfl, .inl rfl, fun i h => (by cases h), .inr rfl, .inr rfl⟩ ?_
  · simp only [] at hid
    simp only [hget_hset]
    repeat rw [if_neg (by omega)]
    rfl
  rintro ⟨i, tq, tp, H, n⟩ hI
  have hi := hI.hi
  have hn := hI.hn
  have hfr := hI.fr
  have h0 := hI.h0
  have h1 := hI.h1
  have hx := hI.hx
  have kq := hI.kq
  have kp := hI.kp
  simp only at hi hn hfr h0 h1 hx kq kp
  simp only [encDr, AVal.cells] at h0
  have y0 : ∀ k, (n + k = 0) = False := fun k => eq_false (by omega)
  have y1 : ∀ k, (n + k = 1) = False := fun k => eq_false (by omega)
  have y2 : ∀ k, (n + k = 12) = False := fun k => eq_false (by omega)
  have y3 : ∀ k, (12 = n + k) = False := fun k => eq_false (by omega)
  have y4 : ∀ k, (0 = n + k) = False := fun k => eq_false (by omega)
  have y5 : ∀ k, (1 = n + k) = False := fun k => eq_false (by omega)
  by_cases hlt : i < d.is.length
  case neg =>
    rw [take_all hlt] at hx
    have heq := hI.eq
    have hep := hI.ep
    simp only [take_all hlt] at heq hep ⊢
    have b12 : (12 < n) = True := eq_true (by omega)
    simp only [eE, eC, eN, eX, reduceCtorEq, Nat.reduceEqDiff, ↓reduceIte, Nat.reduceAdd, Nat.reduceLeDiff, Nat.reduceLT, Nat.reduceMod, Nat.reduceSub, Nat.reduceDiv, rcell, List.length_map, hset_hset, lt_F hlt, h0, h1, hx, Tzr_ix, s2, dSs, dS, okL, decL, toSs_map, isS, toS, f1', f2', atK, atN, b12]
    refine Wk.tup2 (Wk.agg (.cons (Wk.refl _) (.cons (Wk.refl _) (.cons (Wk.refl _) (.cons (Wk.refl _) (.cons (Wk.sl ?_) (.cons (Wk.sl ?_) (.cons (Wk.refl _) (.cons (Wk.refl _) .nil))))))))) ?_
    · exact heq.imp id fun e => by rw [e]; rfl
    · exact hep.imp id fun e => by rw [e]; rfl
    · rw [show named d = (okOf d.cs d.ls d.is && decide (0 ≤ idxS d.cs d.c) && decide (0 ≤ idxS d.ls d.l)) by simp [named, okOf, allIn]]
      exact Wk.refl _
  have hg := List.getElem?_eq_getElem hlt
  have e := w64_succ (k := i) (by have : d.is.length < 1000000000 := f3; omega)
  obtain ⟨g1, g2, g3⟩ := f4 d.is[i] (List.getElem_mem hlt)
  generalize hit : d.is[i] = it at g1 g2 g3
  rw [hit] at hg
  have g1' : few it.cs = True := eq_true g1
  have g2' : few it.ls = True := eq_true g2
  have hql := qs_len d.cs d.ls (d.is.take i)
  have hpl := ps_len d.cs d.ls (d.is.take i)
  have htk : (d.is.take i).length = i := by rw [List.length_take]; omega
  have hl3 : d.is.length < 1000000000 := f3
  have htk1 : d.is.take (i + 1) = d.is.take i ++ [it] := by rw [List.take_succ_eq_append_getElem hlt, hit]
  have q5 : (encP it).cells = [.int .i64 it.k, .str [], .int .i64 it.n, eSs it.ls, eSs it.cs] := rfl
  have n5 := hfr (n + 5) (by omega)
  have hdj := hI.dj
  have heq := hI.eq
  have hep := hI.ep
  simp only at hdj heq hep
  have gf : Fresh (hset H (n + 5) (.box (encP it).cells)) (n + 7) := hfr.hset (m := n + 7) (by omega) (by omega)
  have gq : tkG 4 14 (hset H (n + 5) (.box (encP it).cells)) tq := kq.set (.inr (.inr n5))
  have gp : tkG 2 14 (hset H (n + 5) (.box (encP it).cells)) tp := kp.set (.inr (.inr n5))
  have ge : ∀ i, i < 14 → hget (hset H (n + 5) (.box (encP it).cells)) i = hget H i := fun i hi => hget_hset_ne _ _ _ _ (by omega)
  have gnew : ∀ k, n + 7 ≤ k → hget (hset H (n + 5) (.box (encP it).cells)) k = none := fun k hk => gf k hk
  rw [q5] at gf gq gp ge gnew
  have q2 : ∀ m, m ≤ i → (m ≤ 35184372088831) = True := fun m hm => eq_true (by omega)
  by_cases hk0 : it.k = 0
  · obtain ⟨a, ha⟩ := g3 hk0
    have hidx : idxs d.cs it.cs = [idxS d.cs a] := by rw [ha]; rfl
    have n15 := hfr (n + 15) (by omega)
    rw [hk0] at gf gq gp ge gnew
    have kx : hget (killTok (hset H (n + 5) (.box [AVal.int IntKind.i64 0, AVal.str [], AVal.int IntKind.i64 it.n, eSs it.ls, eSs it.cs])) tp) 12 = some (.box (xC d.nm d.lv d.cs d.ls tq (qsOf d.cs d.ls (d.is.take i)) tp (psOf d.cs d.ls (d.is.take i)) 0 0)) := by rw [kill_get gp (.inl (by omega)), ge 12 (by omega)]; exact hx
    have a1 : appOK (hset H (n + 5) (.box [AVal.int IntKind.i64 0, AVal.str [], AVal.int IntKind.i64 it.n, eSs it.ls, eSs it.cs])) 2 tp = True := eq_true gp.app
    have a2 := q2 (psOf d.cs d.ls (d.is.take i)).length (by omega)
    have a3 : small ((psOf d.cs d.ls (d.is.take i)).length + 1) 32 = True := eq_true (small_of (by omega) (by decide))
    simp only [eE, eC, eN, reduceCtorEq, Nat.reduceEqDiff, ↓reduceIte, Nat.reduceAdd, Nat.reduceLeDiff, Nat.reduceMul, Nat.reduceLT, Int.reduceEq, Int.reduceLT, c1, nS1, Option.getD_some, Int.toNat_zero, Int.le_refl, Int.toNat_natCast, Int.natCast_nonneg, List.length_map, List.getElem?_map, List.getElem?_cons_zero, List.getElem?_cons_succ, natE3, hset_hset, lt_T hlt, hg, h0, hx, encP, hk0, n5, n15, Tzr_f, s2, dSs, okL, decL, toSs_map, f1', f2', g1', g2', eFind, hidx, e, y0, y2, kx, a1, a2, a3]
    generalize hset H (n + 5) (.box [AVal.int IntKind.i64 0, AVal.str [], AVal.int IntKind.i64 it.n, eSs it.ls, eSs it.cs]) = H2 at gf gq gp ge gnew kx
    have kf := kill_fresh gp gf
    have ko : tkG 4 14 (killTok H2 tp) tq := gq.kill gp (fun i h h2 => hdj i h h2)
    have kx2 : ∃ cs, hget (hset (killTok H2 tp) (n + 15) .tok) 12 = some (.box cs) := ⟨_, by rw [hget_hset_ne _ _ _ _ (by omega)]; exact kx⟩
    have gno := gnew (n + 15) (by omega)
    refine .mk ⟨i + 1, tq, .own (n + 15) 2, hset (hset (killTok H2 tp) (n + 15) .tok) 12 (.box (xC d.nm d.lv d.cs d.ls tq (qsOf d.cs d.ls (d.is.take (i + 1))) (.own (n + 15) 2) (psOf d.cs d.ls (d.is.take (i + 1))) 0 0)), n + 18⟩ ?_ ⟨hlt, by simp only []; omega, (kf.hset (m := n + 18) (by omega) (by omega)).hset (Nat.le_refl (n + 18)) (show 12 < n + 18 by omega), ?_, ?_, hget_hset_eq .., (ko.set (.inr (.inr (kill_none (lo := 14) gp gno)))).set (.inr (.inl kx2)), .inr (.inr ⟨n + 15, rfl, by omega, by rw [hget_hset_ne _ _ _ _ (by omega)]; exact hget_hset_eq ..⟩), fun j h h2 => ?_, ?_, .inl rfl⟩ (by simp only []; omega)
    · rw [htk1, qs_app0 hk0, ps_app0 hk0, ok_app, hidx]
      simp only [xC, List.map_append, List.map_cons, List.map_nil, List.getElem?_cons_zero, Option.getD_some]
    · simp only []
      rw [hget_hset_ne _ _ _ _ (by omega), hget_hset_ne _ _ _ _ (by omega), kill_get gp (.inl (by omega)), ge 0 (by omega)]; exact h0
    · simp only []
      rw [hget_hset_ne _ _ _ _ (by omega), hget_hset_ne _ _ _ _ (by omega), kill_get gp (.inl (by omega)), ge 1 (by omega)]; exact h1
    · cases h2
      rcases gq with rfl | rfl | ⟨id, rfl, _, h3⟩
      · cases h
      · cases h
      · cases h; have := gf.lt h3; omega
    · simp only []; rw [htk1, qs_app0 hk0]; exact heq
  · have n17 := hfr (n + 17) (by omega)
    have kx : hget (killTok (hset H (n + 5) (.box [AVal.int IntKind.i64 it.k, AVal.str [], AVal.int IntKind.i64 it.n, eSs it.ls, eSs it.cs])) tq) 12 = some (.box (xC d.nm d.lv d.cs d.ls tq (qsOf d.cs d.ls (d.is.take i)) tp (psOf d.cs d.ls (d.is.take i)) 0 0)) := by rw [kill_get gq (.inl (by omega)), ge 12 (by omega)]; exact hx
    have a1 : appOK (hset H (n + 5) (.box [AVal.int IntKind.i64 it.k, AVal.str [], AVal.int IntKind.i64 it.n, eSs it.ls, eSs it.cs])) 4 tq = True := eq_true gq.app
    have a2 := q2 (qsOf d.cs d.ls (d.is.take i)).length (by omega)
    have a3 : small ((qsOf d.cs d.ls (d.is.take i)).length + 1) 64 = True := eq_true (small_of (by omega) (by decide))
    simp only [eE, eC, eN, reduceCtorEq, Nat.reduceEqDiff, ↓reduceIte, Nat.reduceAdd, Nat.reduceLeDiff, Nat.reduceMul, Nat.reduceLT, Int.reduceEq, nS1, Option.getD_some, Int.toNat_natCast, Int.natCast_nonneg, List.length_map, List.getElem?_map, List.getElem?_cons_zero, List.getElem?_cons_succ, natE3, hset_hset, lt_T hlt, hg, h0, hx, encP, hk0, n5, n17, Tzr_f, s2, dSs, okL, decL, toSs_map, f1', f2', g1', g2', eFind, e, y0, y2, kx, a1, a2, a3]
    generalize hset H (n + 5) (.box [AVal.int IntKind.i64 it.k, AVal.str [], AVal.int IntKind.i64 it.n, eSs it.ls, eSs it.cs]) = H2 at gf gq gp ge gnew kx
    have kf := kill_fresh gq gf
    have ko : tkG 2 14 (killTok H2 tq) tp := gp.kill gq (fun i h h2 => hdj i h2 h)
    have kx2 : ∃ cs, hget (hset (killTok H2 tq) (n + 17) .tok) 12 = some (.box cs) := ⟨_, by rw [hget_hset_ne _ _ _ _ (by omega)]; exact kx⟩
    have gno := gnew (n + 17) (by omega)
    refine .mk ⟨i + 1, .own (n + 17) 4, tp, hset (hset (killTok H2 tq) (n + 17) .tok) 12 (.box (xC d.nm d.lv d.cs d.ls (.own (n + 17) 4) (qsOf d.cs d.ls (d.is.take (i + 1))) tp (psOf d.cs d.ls (d.is.take (i + 1))) 0 0)), n + 20⟩ ?_ ⟨hlt, by simp only []; omega, (kf.hset (m := n + 20) (by omega) (by omega)).hset (Nat.le_refl (n + 20)) (show 12 < n + 20 by omega), ?_, ?_, hget_hset_eq .., .inr (.inr ⟨n + 17, rfl, by omega, by rw [hget_hset_ne _ _ _ _ (by omega)]; exact hget_hset_eq ..⟩), (ko.set (.inr (.inr (kill_none (lo := 14) gq gno)))).set (.inr (.inl kx2)), fun j h h2 => ?_, .inl rfl, ?_⟩ (by simp only []; omega)
    · rw [htk1, qs_app1 hk0, ps_app1 hk0, ok_app]
      simp only [xC, List.map_append, List.map_cons, List.map_nil]
    · simp only []
      rw [hget_hset_ne _ _ _ _ (by omega), hget_hset_ne _ _ _ _ (by omega), kill_get gq (.inl (by omega)), ge 0 (by omega)]; exact h0
    · simp only []
      rw [hget_hset_ne _ _ _ _ (by omega), hget_hset_ne _ _ _ _ (by omega), kill_get gq (.inl (by omega)), ge 1 (by omega)]; exact h1
    · cases h
      rcases gp with rfl | rfl | ⟨id, rfl, _, h3⟩
      · cases h2
      · cases h2
      · cases h2; have := gf.lt h3; omega
    · simp only []; rw [htk1, ps_app1 hk0]; exact hep
end Go.AM
end
section
set_option maxRecDepth 20000
set_option linter.all false
namespace Go.AM
open Go.Proofs Go.Lib
def decP : AVal → Itm
  | .agg [.int _ k, _, .int _ n, ls, cs] => ⟨k, n, decSs ls, decSs cs⟩
  | _ => ⟨0, 0, [], []⟩
def decDr : AVal → Drf
  | .agg [.str nm, .int _ lv, cs, ls, is, .str c, .str l] => ⟨nm, lv, decSs cs, decSs ls, decLs decP is, c, l⟩
  | _ => ⟨[], 0, [], [], [], [], []⟩
theorem decP_enc (i : Itm) : decP (encP i) = i := by
  simp only [decP, encP, decSs, toSs_map]
theorem decDr_enc (d : Drf) : decDr (encDr d) = d := by
  simp only [decDr, encDr, decSs, decLs, toSs_map, map_dec decP_enc]
def dDr : Dc Drf := dEx encDr decDr
theorem dDr_ok (d : Drf) : dDr.ok (encDr d) = True := eq_true (by show encDr d = encDr (decDr (encDr d)); rw [decDr_enc])
theorem dDr_dec (d : Drf) : dDr.dec (encDr d) = d := decDr_enc d
def s30 : List AVal → AHeap → Prop × AVal := fun a H => match a with
  | [.str s] => (s.length < 1000000000, lexV s)
  | _ => (False, .tup [])
theorem q30 : ∀ args H n, (s30 args H).1 → Quiet Tryz.prog 30 args H n (s30 args H).2 := by
  intro args H n h
  unfold s30 at h ⊢
  split at h
  · exact (p30 _ h).quiet H n
  · exact h.elim
def Tzp : Tab := tadd 30 s30 (tadd 32 (s1 dDr FewD encD) (tadd 33 (s1 dX FewL fun x => .bool (lemOK x)) tnil))
theorem Tzp_ok : TabOK Tryz.prog Tzp := ((TabOK.tnil.add (q1 fun x h => p33 x h)).add (q1 p32)).add q30
theorem Tzp_lex (a : List AVal) (H : AHeap) : Tzp 30 a H = s30 a H := rfl
theorem Tzp_r (a : List AVal) (H : AHeap) : Tzp 32 a H = s1 dDr FewD encD a H := rfl
theorem Tzp_v (a : List AVal) (H : AHeap) : Tzp 33 a H = s1 dX FewL (fun x => .bool (lemOK x)) a H := rfl
theorem lem_fewD {l r : List Tkn} {d : Drf} (hl : l.length < 1000000000) (h : lemR l = .ok d r) : FewD d := by
  rw [lem_eq] at h
  obtain ⟨_, r1, h1, h⟩ := bd_ok' h
  obtain ⟨nm, r2, h2, h⟩ := bd_ok' h
  obtain ⟨_, r3, h3, h⟩ := bd_ok' h
  obtain ⟨lv, r4, h4, h⟩ := bd_ok' h
  obtain ⟨_, r5, h5, h⟩ := bd_ok' h
  obtain ⟨cs, r6, h6, h⟩ := bd_ok' h
  obtain ⟨_, r7, h7, h⟩ := bd_ok' h
  obtain ⟨ls, r8, h8, h⟩ := bd_ok' h
  obtain ⟨_, r9, h9, h⟩ := bd_ok' h
  obtain ⟨is, r10, h10, h⟩ := bd_ok' h
  unfold lemG at h
  obtain ⟨c, _, _, h⟩ := bd_ok' h
  obtain ⟨x, _, _, h⟩ := bd_ok' h
  obtain ⟨_, _, _, h⟩ := bd_ok' h
  cases h
  have k1 := need_cnt h1
  have k2 := name_cnt h2
  have k3 := need_cnt h3
  have k4 := numb_cnt h4
  have k5 : r5.length ≤ r4.length := by obtain ⟨_, q, a, b⟩ := bd_ok' h5; have := need_cnt a; have := need_cnt b; omega
  have k6 := names_cnt h6
  have k7 : r7.length ≤ r6.length := by obtain ⟨_, q, a, b⟩ := bd_ok' h7; have := need_cnt a; have := need_cnt b; omega
  have k8 := names_cnt h8
  have k9 := need_cnt h9
  obtain ⟨k10, k11, k12⟩ := items_cnt _ h10
  refine ⟨by show cs.length < _; omega, by show ls.length < _; omega, by show is.length < _; omega, fun i hi => ?_⟩
  have := k11 i hi
  exact ⟨by show i.cs.length < _; omega, by show i.ls.length < _; omega, fun hk => (items_shape _ h10 i hi hk).2⟩
theorem plOf_ok {src : Bs} {ds : List Drf} {r : List Tkn} : plOf src (.ok ds r) = if 16 < ds.length then ⟨[], 0, 2⟩ else if (ds.all named) = false then ⟨[], 0, 160⟩ else if ((ds.map resolve).all lemOK) = false then ⟨[], 0, 300⟩ else ⟨ds.map resolve, 0, 0⟩ := rfl
structure V8 where
  f : Nat
  at' : Nat
  b : Bool
  ds : List Drf
  tk : Tok
  H : AHeap
  n : Nat
structure I8 (ts : List Tkn) (v : V8) : Prop where
  hn : 4 ≤ v.n
  fr : Fresh v.H v.n
  ha : v.at' ≤ ts.length
  hp : hget v.H 2 = some (rB ts v.at' v.b)
  tok : tkG 7 4 v.H v.tk
  es : v.tk.esz = 7 ∨ v.ds = []
  hl : v.b = false → v.ds.length ≤ v.at'
  hf : v.b = false → ts.length - v.at' < v.f
  few : v.b = false → ∀ d ∈ v.ds, FewD d ∧ FewL (resolve d)
  eq : allR (ts.length + 1) ts = gB v.b (fun r => (allR v.f r).bd fun ds' q => .ok (v.ds ++ ds') q) (ts.drop v.at')
structure V9 where
  i : Nat
  tk : Tok
  H : AHeap
  n : Nat
theorem p12 (src : Bs) (hs : src.length < 1000000000) : Pur Tryz.prog 12 [.str src] (parseMV src) := by
  refine .mk ⟨trivial, trivial⟩ ⟨⟨trivial, Ls_under 0 _⟩, trivial, trivial, trivial⟩ (a12 (ev_awp Tzp_ok (ev_evK ?_)))
  rcases lexV_all src with ⟨h6, hv, hp⟩ | ⟨h6, a, ts, hr, hlen, hok, hv⟩ | ⟨h6, a, hv, hp⟩
  · unfold parseMV
    rw [hp]
    simp only [eE, eC, eN, reduceCtorEq, Nat.reduceEqDiff, ↓reduceIte, Nat.reduceAdd, Nat.reduceLT, Int.reduceEq, Bool.not_false, nS1, Option.getD_some, List.getElem?_cons_zero, List.getElem?_cons_succ, c12, Tzp_lex, s30, hs, hv]
    exact Wk.tup3 (Wk.sl (.inr rfl)) (Wk.refl _) (Wk.refl _)
  · rw [parse_plOf h6 hr]
    simp only [eE, eC, eN, reduceCtorEq, Nat.reduceEqDiff, ↓reduceIte, Nat.reduceAdd, Nat.reduceLeDiff, Nat.reduceMul, Nat.reduceLT, Bool.not_true, nS1, Option.getD_some, List.getElem?_cons_zero, List.getElem?_cons_succ, c12, Tzp_lex, s30, hs, hv]
    refine k_loop (fun v : V8 => ⟨[(0, true, .str src), (5, true, .sl (.none 4) (ts.map encK)), (8, true, .ptr 2 0), (9, true, .sl v.tk (v.ds.map encDr))], v.H, v.n⟩) (I8 ts) (fun v => (ts.length - v.at') + (if v.b then 0 else 1))
      ⟨ts.length + 1, 0, false, [], .exact 7, hset hnil 2 (rB ts 0 false), 4⟩ rfl
      ⟨Nat.le_refl _, fun id hid => ?_, Nat.zero_le _, hget_hset_eq .., .inr (.inl rfl), .inr rfl, fun _ => Nat.zero_le _, fun _ => by simp only []; omega, fun _ d hd => (by cases hd), ?_⟩ ?_
    · simp only [] at hid ⊢
      rw [hget_hset_ne _ _ _ _ (by omega)]; rfl
    · simp only [List.nil_append, List.drop_zero]
      show _ = (allR (ts.length + 1) ts).bd _
      cases allR (ts.length + 1) ts <;> rfl
    rintro ⟨f, at', b, ds, tk, H, n⟩ ⟨hn, hfr, hat, hp1, htk, hes, hl1, hf, hfew, heq⟩
    simp only at hn hfr hat hp1 htk hes hl1 hf hfew heq
    have hn0 : ∀ a e, Wk (.tup [.sl .nil [], .int .i64 a, .int .i64 e]) (plV ⟨[], a, e⟩) := fun a e => Wk.tup3 (Wk.sl (.inr rfl)) (Wk.refl _) (Wk.refl _)
    cases b with
    | true =>
      have heq' : allR (ts.length + 1) ts = .bad (ts.drop at') := heq
      rw [heq']
      by_cases hlt : at' < ts.length
      · have hg := List.getElem?_eq_getElem hlt
        simp only [eE, eC, eN, reduceCtorEq, Nat.reduceEqDiff, ↓reduceIte, Nat.reduceAdd, Nat.reduceLeDiff, Bool.not_true, Option.getD_some, Int.toNat_natCast, Int.natCast_nonneg, List.length_map, List.getElem?_map, hp1, lt_T hlt, hg]
        rw [drop_cons hlt]
        exact hn0 _ 150
      · simp only [eE, eC, eN, reduceCtorEq, Nat.reduceEqDiff, ↓reduceIte, Nat.reduceAdd, Nat.reduceLeDiff, Bool.not_true, List.length_map, hp1, lt_F hlt]
        rw [List.drop_eq_nil_of_le (by omega)]
        exact hn0 _ 150
    | false =>
      have hl2 := hl1 rfl
      have hf2 := hf rfl
      have hfw2 := hfew rfl
      by_cases hlt : at' < ts.length
      · obtain ⟨g, rfl⟩ : ∃ g, f = g + 1 := ⟨f - 1, by omega⟩
        have heq2 : allR (ts.length + 1) ts = gB false (fun r => (lemR r).bd fun d r => (allR g r).bd fun ds' q => .ok (ds ++ d :: ds') q) (ts.drop at') := by
          rw [heq]
          show ((allR (g + 1) (ts.drop at')).bd _) = ((lemR (ts.drop at')).bd _)
          rw [all_step (fun e => by have := congrArg List.length e; simp at this; omega), bd_assoc]
          congr 1; funext d r
          rw [bd_assoc]; rfl
        simp only [eE, eC, eN, reduceCtorEq, Nat.reduceEqDiff, ↓reduceIte, Nat.reduceAdd, Nat.reduceLeDiff, Bool.not_false, List.length_map, hp1, lt_T hlt]
        refine rs_any t_rlemma (by omega) hat hp1 fun d a1 b1 ha1 hv1 => ?_
        have hx1 := heq2.trans (gB_bd hv1)
        have hle := lc_lem.len hat ha1 hv1
        have hadv : b1 = false → at' < a1 ∧ FewD d ∧ FewL (resolve d) := by
          rintro rfl
          have hok1 : lemR (ts.drop at') = .ok d (ts.drop a1) := hv1
          have h1 := lem_lt hok1
          simp only [List.length_drop] at h1
          have h2 : (ts.drop at').length < 1000000000 := by rw [List.length_drop]; omega
          exact ⟨by omega, lem_fewD h2 hok1, lem_few h2 hok1⟩
        have gt : tkG 7 4 (hset H 2 (rB ts a1 b1)) tk := htk.set (.inl (by decide))
        have gf : Fresh (hset H 2 (rB ts a1 b1)) n := hfr.hset (Nat.le_refl _) (by omega)
        have gp : hget (hset H 2 (rB ts a1 b1)) 2 = some (rB ts a1 b1) := hget_hset_eq ..
        generalize hset H 2 (rB ts a1 b1) = H2 at gt gf gp
        have q1 : appOK H2 7 tk = True := eq_true gt.app
        have q2 : (ds.length ≤ 35184372088831) = True := eq_true (by omega)
        have q3 : small (ds.length + 1) 128 = True := eq_true (small_of (by omega) (by decide))
        have q4 : nT (encDr d) = True := eq_true trivial
        have q5 : (encDr d).cells.length = 7 := rfl
        simp only [eE, eN, reduceCtorEq, Nat.reduceEqDiff, ↓reduceIte, Nat.reduceAdd, Nat.reduceLeDiff, Nat.reduceMul, nS1, List.length_map, retK, q1, q2, q3, q4, q5, fr1 gf]
        refine .mk ⟨g, a1, b1, ds ++ [d], .own (n + 4) 7, hset (killTok H2 tk) (n + 4) .tok, n + 6⟩ (by simp only [List.map_append, List.map_cons, List.map_nil]) ⟨by simp only []; omega, (kill_fresh gt gf).hset (by simp only []; omega) (by simp only []; omega), ha1, ?_, .inr (.inr ⟨n + 4, rfl, by omega, hget_hset_eq ..⟩), .inl rfl, ?_, ?_, ?_, ?_⟩ ?_
        · simp only []
          rw [hget_hset_ne _ _ _ _ (by omega), kill_get gt (.inl (by decide))]; exact gp
        · simp only []
          intro hb
          have := hadv hb
          simp only [List.length_append, List.length_cons, List.length_nil]; omega
        · simp only []
          intro hb
          have := hadv hb
          omega
        · simp only []
          intro hb e he
          rcases List.mem_append.1 he with h | h
          · exact hfw2 e h
          · rw [List.mem_singleton.1 h]; exact (hadv hb).2
        · simp only []
          rw [hx1]
          congr 1; funext r
          simp only [List.append_assoc, List.singleton_append]
        · simp only [Bool.false_eq_true, if_false]
          cases b1 with
          | true => simp only [if_true]; omega
          | false =>
            have := hadv rfl
            simp only [Bool.false_eq_true, if_false]; omega
      · have hend : allR (ts.length + 1) ts = .ok ds [] := by
          rw [heq]
          show ((allR f (ts.drop at')).bd _) = _
          rw [List.drop_eq_nil_of_le (by omega), all_nil]
          simp only [Rs.bd, List.append_nil]
        rw [hend, plOf_ok]
        by_cases h16 : 16 < ds.length
        · have l16 : ((16 : Int) < (ds.length : Int)) = True := eq_true (by omega)
          rw [if_pos h16]
          simp only [eE, eC, eN, reduceCtorEq, Nat.reduceEqDiff, ↓reduceIte, Nat.reduceAdd, Nat.reduceLeDiff, Bool.not_false, List.length_map, hp1, lt_F hlt, l16]
          exact hn0 0 2
        have l16 : ((16 : Int) < (ds.length : Int)) = False := eq_false (by omega)
        rw [if_neg h16]
        simp only [eE, eC, eN, reduceCtorEq, Nat.reduceEqDiff, ↓reduceIte, Nat.reduceAdd, Nat.reduceLeDiff, Nat.reduceMul, Bool.not_false, List.length_map, hp1, lt_F hlt, l16]
        clear heq hend hp1 hl1 hf hfew hl2 hf2 hlt hat
        refine k_loop (fun v : V9 => ⟨[(9, true, .sl tk (ds.map encDr)), (10, true, .sl v.tk (((ds.take v.i).map resolve).map encL)), (11, true, .bool ((ds.take v.i).all named)), (12, true, .bool (((ds.take v.i).map resolve).all lemOK)), (13, true, .int .i64 v.i)], v.H, v.n⟩)
          (fun v => v.i ≤ ds.length ∧ Fresh v.H v.n ∧ tkG 8 0 v.H v.tk ∧ (v.tk.esz = 8 ∨ (ds.take v.i).map resolve = [])) (fun v => ds.length - v.i) ⟨0, .exact 8, H, n⟩ rfl ⟨Nat.zero_le _, hfr, .inr (.inl rfl), .inr rfl⟩ ?_
        rintro ⟨i, tk2, H2, n2⟩ ⟨hi, hfr2, htk2, hes2⟩
        simp only at hi hfr2 htk2 hes2
        by_cases hlt : i < ds.length
        case neg =>
          rw [take_all hlt] at hes2
          simp only [take_all hlt]
          cases hnm : ds.all named with
          | false =>
            simp only [eE, eC, eN, Nat.reduceEqDiff, ↓reduceIte, Bool.not_false, List.length_map, lt_F hlt]
            exact hn0 0 160
          | true =>
            rw [if_neg (by decide)]
            cases hva : (ds.map resolve).all lemOK with
            | false =>
              simp only [eE, eC, eN, Nat.reduceEqDiff, ↓reduceIte, Bool.not_true, Bool.not_false, List.length_map, lt_F hlt]
              exact hn0 0 300
            | true =>
              rw [if_neg (by decide)]
              simp only [eE, eC, eN, Nat.reduceEqDiff, ↓reduceIte, Bool.not_true, List.length_map, lt_F hlt]
              exact Wk.tup3 (Wk.sl (hes2.imp id fun e => by rw [e]; rfl)) (Wk.refl _) (Wk.refl _)
        have hg := List.getElem?_eq_getElem hlt
        have e := w64_succ (k := i) (by omega)
        obtain ⟨g1, g2⟩ := hfw2 ds[i] (List.getElem_mem hlt)
        have ht1 : ds.take (i + 1) = ds.take i ++ [ds[i]] := List.take_succ_eq_append_getElem hlt
        generalize ds[i] = d at hg g1 g2 ht1
        have g1' : FewD d = True := eq_true g1
        have g2' : FewL (resolve d) = True := eq_true g2
        have n8 := hfr2 (n2 + 8) (by omega)
        have gf : Fresh (hset H2 (n2 + 8) (.box (encL (resolve d)).cells)) (n2 + 11) := hfr2.hset (m := n2 + 11) (by omega) (by omega)
        have gt : tkG 8 0 (hset H2 (n2 + 8) (.box (encL (resolve d)).cells)) tk2 := htk2.set (.inr (.inr n8))
        have a1 : appOK (hset H2 (n2 + 8) (.box (encL (resolve d)).cells)) 8 tk2 = True := eq_true gt.app
        have a2 : (i ≤ 35184372088831) = True := eq_true (by omega)
        have a3 : small (i + 1) 136 = True := eq_true (small_of (by omega) (by decide))
        have hln : ((ds.take i).map resolve).length = i := by rw [List.length_map, List.length_take]; omega
        have q5 : (encDr d).cells = [.str d.nm, .int .i64 d.lv, eSs d.cs, eSs d.ls, .sl (.none 5) (d.is.map encP), .str d.c, .str d.l] := rfl
        have hdk : dDr.ok (.agg [.str d.nm, .int .i64 d.lv, eSs d.cs, eSs d.ls, .sl (.none 5) (d.is.map encP), .str d.c, .str d.l]) = True := dDr_ok d
        have hdd : dDr.dec (.agg [.str d.nm, .int .i64 d.lv, eSs d.cs, eSs d.ls, .sl (.none 5) (d.is.map encP), .str d.c, .str d.l]) = d := dDr_dec d
        have hez : (tk.esz = 7) = True := eq_true (hes.resolve_right fun h => by rw [h] at hlt; exact absurd hlt (Nat.not_lt_zero _))
        have n14 := hfr2 (n2 + 14) (by omega)
        simp only [AVal.cells] at a1 gf gt
        simp only [eE, eC, eN, reduceCtorEq, Nat.reduceEqDiff, ↓reduceIte, Nat.reduceAdd, Nat.reduceLeDiff, Nat.reduceMul, Nat.reduceLT, Int.reduceEq, nS1, Option.getD_some, Int.toNat_natCast, Int.natCast_nonneg, List.length_map, List.getElem?_map, List.getElem?_cons_zero, List.getElem?_cons_succ, natE3, hset_hset, lt_T hlt, hg, q5, Tzp_r, Tzp_v, s1, hdk, hdd, hez, dX_ok, dX_dec, g1', g2', n8, n14, e, a1, a2, a3, hln]
        refine .mk ⟨i + 1, .own (n2 + 14) 8, hset (killTok (hset H2 (n2 + 8) (.box (encL (resolve d)).cells)) tk2) (n2 + 14) .tok, n2 + 16⟩ ?_ ⟨hlt, (kill_fresh gt gf).hset (by simp only []; omega) (by simp only []; omega), .inr (.inr ⟨n2 + 14, rfl, by omega, hget_hset_eq ..⟩), .inl rfl⟩ (by simp only []; omega)
        simp only [ht1, List.map_append, List.map_cons, List.map_nil, List.all_append, List.all_cons, List.all_nil, Bool.and_true, AVal.cells]
  · unfold parseMV
    rw [hp]
    simp only [eE, eC, eN, reduceCtorEq, Nat.reduceEqDiff, ↓reduceIte, Nat.reduceAdd, Nat.reduceLT, Int.reduceEq, Bool.not_false, nS1, Option.getD_some, List.getElem?_cons_zero, List.getElem?_cons_succ, c12, Tzp_lex, s30, hs, hv]
    exact Wk.tup3 (Wk.sl (.inr rfl)) (Wk.refl _) (Wk.refl _)
end Go.AM
end
section
set_option maxRecDepth 20000
set_option linter.all false
namespace Go.AM
open Go.Proofs Go.Lib
theorem small1 {a : Nat} (h : a ≤ 35184372088832) : small a 1 := by unfold small; omega
end Go.AM
end
section
set_option maxRecDepth 20000
set_option linter.all false
namespace Go.AM
open Go.Proofs Go.Lib
end Go.AM
end
section
set_option maxRecDepth 20000
set_option linter.all false
namespace Go.AM
open Go.Proofs Go.Lib
def jP (l : List Lma) : Bs := join ((printT l).map wordS) [32]
end Go.AM
end
