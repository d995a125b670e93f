/-
  Rules of deduction: the reference's reader, its small steps · Rules of deduction: the reference's reader, names with commas between them · Rules of deduction: the reference's reader, a condition or a premise · Rules of deduction: the reference's reader, a lemma · Rules of deduction: the reference's lemma with indices · Rules of deduction: the reference's Parse · Rules of deduction: the reference's printing of names · Rules of deduction: the reference's text of a lemma · Rules of deduction: the reference's Print.
  Conditions: none beyond those of its parts.
-/
import Derived.Test.YtpjedmachelflaaGreatDoorB9

section
set_option maxRecDepth 20000
set_option linter.all false
namespace Go.AM
open Go.Proofs Go.Lib
abbrev rB (l : List Tkn) (a : Nat) (b : Bool) : AObj := .box [.sl (.none 4) (l.map encK), .int .i64 a, .bool b]
def rk {α : Type} : Bool → α → List Tkn → Rs α
  | true, _, r => .bad r
  | false, a, r => .ok a r
def gB {α : Type} : Bool → (List Tkn → Rs α) → List Tkn → Rs α
  | true, _, r => .bad r
  | false, g, r => g r
def RPost {α : Type} (enc : α → AVal) (l : List Tkn) (H : AHeap) (n rid : Nat) (x : Rs α) (o : AOut) (H' : AHeap) (n' : Nat) : Prop :=
  ∃ a at' b', o = .ret (enc a) ∧ H' = hset H rid (rB l at' b') ∧ n' = n ∧ at' ≤ l.length ∧ x = rk b' a (l.drop at')
def RW {α : Type} (enc : α → AVal) (l : List Tkn) (H : AHeap) (rid : Nat) (x : Rs α) (o : AOut) (H' : AHeap) (n' : Nat) : Prop :=
  ∃ a at' b', (∃ v, o = .ret v ∧ Wk v (enc a)) ∧ hget H' rid = some (rB l at' b') ∧ KeepsB rid H H' ∧ at' ≤ l.length ∧ x = rk b' a (l.drop at')
def RStep {α : Type} (fid : FuncId) (xs : List AVal) (enc : α → AVal) (g : List Tkn → Rs α) : Prop :=
  ∀ (l : List Tkn) (rid : Nat) (H : AHeap) (n at' : Nat) (b : Bool), l.length < 1000000000 → at' ≤ l.length → hget H rid = some (rB l at' b) → ACalls Tryz.prog fid (.ptr rid 0 :: xs) H n (RPost enc l H n rid (gB b g (l.drop at')))
theorem rB_under (n : Nat) (l : List Tkn) (a : Nat) (b : Bool) : (rB l a b).under n := ⟨⟨trivial, encK_under n l⟩, trivial, trivial, trivial⟩
theorem rstep_forget {H H' : AHeap} {n rid a a' : Nat} {b b' : Bool} {l : List Tkn} (hf : Fresh H n) (hp : hget H rid = some (rB l a b)) (h1 : hget H' rid = some (rB l a' b')) (h2 : KeepsB rid H H') : ForgetOK n H H' (hset H rid (rB l a' b')) := by
  refine ⟨fun id ob ho => ?_, fun id hid => ?_⟩
  · rw [hget_hset] at ho
    by_cases e : rid = id
    · subst e
      rw [if_pos rfl] at ho
      cases ho
      exact ⟨hf.lt hp, ⟨_, h1, OWk.refl _⟩, .inl (rB_under n l a' b')⟩
    · rw [if_neg e] at ho
      exact ⟨hf.lt ho, ⟨ob, h2 id ob (Ne.symm e) ho, OWk.refl _⟩, .inr ho⟩
  · rw [hget_hset]
    split
    · exact fun h => by cases h
    · exact hid
theorem rstep_exact {α : Type} {fid : FuncId} {xs : List AVal} {enc : α → AVal} {x : Rs α} {l : List Tkn} {rid a : Nat} {b : Bool} {H : AHeap} {n : Nat} (hc : Callable Tryz.prog fid) (he : ∀ n a, (enc a).under n) (hp : hget H rid = some (rB l a b))
    (h : Fresh H n → rid < n → ACalls Tryz.prog fid (.ptr rid 0 :: xs) H n (RW enc l H rid x)) : ACalls Tryz.prog fid (.ptr rid 0 :: xs) H n (RPost enc l H n rid x) := by
  refine ACalls.fresh hc fun hf => ?_
  refine ACalls.forget (h hf (hf.lt hp)) ?_
  rintro o H' n' ⟨v, a', b', ⟨w, rfl, hw⟩, h1, h2, h3, h4⟩
  exact ⟨.ret (enc v), _, ⟨v, a', b', rfl, rfl, rfl, h3, h4⟩, rstep_forget hf hp h1 h2, hw, he n v⟩
theorem RStep.of {α : Type} {fid : FuncId} {xs : List AVal} {enc : α → AVal} {g : List Tkn → Rs α} (hc : Callable Tryz.prog fid) (he : ∀ n a, (enc a).under n)
    (h : ∀ (l : List Tkn) (rid : Nat) (H : AHeap) (n at' : Nat) (b : Bool), l.length < 1000000000 → at' ≤ l.length → Fresh H n → rid < n → hget H rid = some (rB l at' b) → ACalls Tryz.prog fid (.ptr rid 0 :: xs) H n (RW enc l H rid (gB b g (l.drop at')))) : RStep fid xs enc g :=
  fun l rid H n a b hl ha hp => rstep_exact hc he hp fun hf hlt => h l rid H n a b hl ha hf hlt hp
end Go.AM
end
section
set_option maxRecDepth 20000
set_option linter.all false
namespace Go.AM
open Go.Proofs Go.Lib
theorem Lc.len {α : Type} {g : List Tkn → Rs α} (h : Lc g) {b b' : Bool} {l : List Tkn} {a a' : Nat} {v : α} (ha : a ≤ l.length) (ha' : a' ≤ l.length) (e : gB b g (l.drop a) = rk b' v (l.drop a')) : a ≤ a' := by
  have key : ∀ r', (∃ u, l.drop a = u ++ r') → r' = l.drop a' → a ≤ a' := by
    rintro r' ⟨u, hu⟩ rfl
    have := congrArg List.length hu
    simp only [List.length_append, List.length_drop] at this
    omega
  cases b with
  | true =>
    cases b' with
    | true =>
      simp only [gB, rk, Rs.bad.injEq] at e
      exact key (l.drop a) ⟨[], rfl⟩ e
    | false => cases e
  | false =>
    cases b' with
    | true =>
      obtain ⟨u, h1, -⟩ := h.bad _ _ e
      exact key _ ⟨u, h1⟩ rfl
    | false =>
      obtain ⟨u, h1, -⟩ := h.ok _ _ _ e
      exact key _ ⟨u, h1⟩ rfl
end Go.AM
end
section
set_option maxRecDepth 20000
set_option linter.all false
namespace Go.AM
open Go.Proofs Go.Lib
end Go.AM
end
section
set_option maxRecDepth 20000
set_option linter.all false
namespace Go.AM
open Go.Proofs Go.Lib
end Go.AM
end
section
set_option maxRecDepth 20000
set_option linter.all false
namespace Go.AM
open Go.Proofs Go.Lib
end Go.AM
end
section
set_option maxRecDepth 20000
set_option linter.all false
namespace Go.AM
open Go.Proofs Go.Lib
end Go.AM
end
section
set_option maxRecDepth 20000
set_option linter.all false
namespace Go.AM
open Go.Proofs Go.Lib
theorem small1 {a : Nat} (h : a ≤ 35184372088832) : small a 1 := by unfold small; omega
end Go.AM
end
section
set_option maxRecDepth 20000
set_option linter.all false
namespace Go.AM
open Go.Proofs Go.Lib
end Go.AM
end
section
set_option maxRecDepth 20000
set_option linter.all false
namespace Go.AM
open Go.Proofs Go.Lib
def jP (l : List Lma) : Bs := join ((printT l).map wordS) [32]
end Go.AM
end
