/-
  Rules of deduction, plainly: reading them from tokens · Rules of deduction, plainly: reading looks at no places, and at nothing behind a fault · Rules of deduction, plainly: reading looks at nothing behind what it leaves · Rules of deduction, plainly: all lemmas of a text; faults do not stand too early · Rules of deduction, plainly: what is written is read again · Rules of deduction, plainly: names and indices · Rules of deduction, plainly: how long the text of what was read is · Rules of deduction, plainly: parsing what is printed; what is parsed can be printed · Rules of deduction, plainly: the size of what was read, when it is printed · Rules of deduction, plainly: faults stand at their places · Rules of deduction, plainly: less of a lemma, other names · Rules of deduction, plainly: white space and comments.
  Conditions: none beyond those of its parts.
-/
import Derived.Test.YtpjedmachelflaaGreatDoorB6

section
set_option maxRecDepth 20000
set_option linter.all false
namespace Go.AM
open Go.Proofs Go.Lib
abbrev Bs := List UInt8
structure Itm where
  k : Int
  n : Int
  ls : List Bs
  cs : List Bs
structure Drf where
  nm : Bs
  lv : Int
  cs : List Bs
  ls : List Bs
  is : List Itm
  c : Bs
  l : Bs
inductive Rs (α : Type) where
  | ok (a : α) (r : List Tkn)
  | bad (r : List Tkn)
def Rs.bd {α β : Type} (x : Rs α) (f : α → List Tkn → Rs β) : Rs β := match x with
  | .ok a r => f a r
  | .bad r => .bad r
def hdW (w : Bs) : List Tkn → Bool
  | t :: _ => decide (t.K ≠ 2) && decide (t.T = w)
  | [] => false
def need (w : Bs) (l : List Tkn) : Rs Unit := if hdW w l = true then .ok () l.tail else .bad l
def kindR (k : Int) : List Tkn → Rs Tkn
  | t :: r => if t.K = k then .ok t r else .bad (t :: r)
  | [] => .bad []
def nameR (l : List Tkn) : Rs Bs := (kindR 1 l).bd fun t r => .ok t.T r
def numbR (l : List Tkn) : Rs Int := (kindR 2 l).bd fun t r => .ok t.N r
def moreR : List Tkn → Rs (List Bs)
  | c :: t :: r => if hdW [44] [c] = true then (if t.K = 1 then (moreR r).bd fun ss q => .ok (t.T :: ss) q else .bad (t :: r)) else .ok [] (c :: t :: r)
  | [c] => if hdW [44] [c] = true then .bad [] else .ok [] [c]
  | [] => .ok [] []
def namesR (l : List Tkn) : Rs (List Bs) := (nameR l).bd fun s r => (moreR r).bd fun ss q => .ok (s :: ss) q
abbrev wDif : Bs := [100, 105, 102, 102, 101, 114, 101, 110, 116]
abbrev wRis : Bs := [114, 105, 115, 101]
abbrev wNea : Bs := [110, 101, 97, 114]
abbrev wHom : Bs := [104, 111, 109, 101]
abbrev wApa : Bs := [97, 112, 97, 114, 116]
abbrev wQuo : Bs := [113, 117, 111, 116, 97]
abbrev wOnl : Bs := [111, 110, 108, 121]
abbrev wLac : Bs := [108, 97, 99, 107, 115]
abbrev wLem : Bs := [108, 101, 109, 109, 97]
abbrev wLev : Bs := [108, 101, 118, 101, 108]
abbrev wCel : Bs := [99, 101, 108, 108, 115]
abbrev wLet : Bs := [108, 101, 116, 116, 101, 114, 115]
def itemR (l : List Tkn) : Rs Itm :=
  if hdW wDif l = true then (namesR l.tail).bd fun cs r => .ok ⟨1, 0, [], cs⟩ r
  else if hdW wRis l = true then (namesR l.tail).bd fun cs r => .ok ⟨4, 0, [], cs⟩ r
  else if hdW wNea l = true then (namesR l.tail).bd fun cs r => .ok ⟨5, 0, [], cs⟩ r
  else if hdW wHom l = true then (nameR l.tail).bd fun a r => (need [58] r).bd fun _ r => (namesR r).bd fun cs r => .ok ⟨2, 0, [a], cs⟩ r
  else if hdW wApa l = true then (numbR l.tail).bd fun n r => (need [58] r).bd fun _ r => (namesR r).bd fun cs r => .ok ⟨3, n, [], cs⟩ r
  else if hdW wQuo l = true then (numbR l.tail).bd fun n r => (namesR r).bd fun ls r => (need [58] r).bd fun _ r => (namesR r).bd fun cs r => .ok ⟨6, n, ls, cs⟩ r
  else if hdW wOnl l = true then (nameR l.tail).bd fun a r => (need [58] r).bd fun _ r => (namesR r).bd fun ls r => .ok ⟨0, 0, ls, [a]⟩ r
  else .bad l
def itemsR : Nat → List Tkn → Rs (List Itm)
  | 0, l => .bad l
  | f + 1, l => if hdW wLac l = true then .ok [] l.tail else (itemR l).bd fun i r => (need [59] r).bd fun _ r => (itemsR f r).bd fun is q => .ok (i :: is) q
def lemR (l : List Tkn) : Rs Drf :=
  (need wLem l).bd fun _ r => (nameR r).bd fun nm r => (need wLev r).bd fun _ r => (numbR r).bd fun lv r => (need [123] r).bd fun _ r => (need wCel r).bd fun _ r => (namesR r).bd fun cs r =>
  (need [59] r).bd fun _ r => (need wLet r).bd fun _ r => (namesR r).bd fun ls r => (need [59] r).bd fun _ r => (itemsR (r.length + 1) r).bd fun is r =>
  (nameR r).bd fun c r => (nameR r).bd fun x r => (need [59] r).bd fun _ r => (need [125] r).bd fun _ r => .ok ⟨nm, lv, cs, ls, is, c, x⟩ r
def allR : Nat → List Tkn → Rs (List Drf)
  | _, [] => .ok [] []
  | 0, l => .bad l
  | f + 1, l => (lemR l).bd fun d r => (allR f r).bd fun ds q => .ok (d :: ds) q
structure Cnd where
  k : Int
  cs : List Int
  ls : List Int
  n : Int
structure Prm where
  c : Int
  ls : List Int
structure Lma where
  nm : Bs
  lv : Int
  cs : List Bs
  ls : List Bs
  qs : List Cnd
  ps : List Prm
  c : Int
  l : Int
def idxS (l : List Bs) (s : Bs) : Int := match l.findIdx? (fun x => decide (x = s)) with
  | some k => k
  | none => -1
def idxs (l : List Bs) (ss : List Bs) : List Int := ss.map (idxS l)
def allIn (l : List Bs) (ss : List Bs) : Bool := ss.all fun s => decide (0 ≤ idxS l s)
def resolve (d : Drf) : Lma := ⟨d.nm, d.lv, d.cs, d.ls, (d.is.filter fun i => decide (i.k ≠ 0)).map fun i => ⟨i.k, idxs d.cs i.cs, idxs d.ls i.ls, i.n⟩,
  (d.is.filter fun i => decide (i.k = 0)).map fun i => ⟨(idxs d.cs i.cs)[0]?.getD 0, idxs d.ls i.ls⟩, idxS d.cs d.c, idxS d.ls d.l⟩
def named (d : Drf) : Bool := (d.is.all fun i => allIn d.cs i.cs && allIn d.ls i.ls) && allIn d.cs [d.c] && allIn d.ls [d.l]
def distinct {α : Type} [DecidableEq α] : List α → Bool
  | [] => true
  | x :: r => !(r.any fun y => decide (y = x)) && distinct r
def namesOK (l : List Bs) (most : Nat) : Bool := l.all nameS && distinct l && decide (1 ≤ l.length) && decide (l.length ≤ most)
def difI (l : List Int) (n : Nat) : Bool := (l.all fun k => decide (0 ≤ k) && decide (k < n)) && distinct l
def condOK (q : Cnd) (nc nl : Nat) : Bool := difI q.cs nc && decide (1 ≤ q.cs.length) && difI q.ls nl &&
  (if q.k = 1 ∨ q.k = 4 then decide (2 ≤ q.cs.length) && decide (q.ls.length = 0) && decide (q.n = 0)
   else if q.k = 2 then decide (q.ls.length = 1) && decide (q.n = 0)
   else if q.k = 3 then decide (q.cs.length = 2) && decide (q.ls.length = 0) && decide (1 ≤ q.n) && decide (q.n ≤ 99)
   else if q.k = 5 then decide (q.cs.length = 2) && decide (q.ls.length = 0) && decide (q.n = 0)
   else if q.k = 6 then decide (1 ≤ q.ls.length) && decide (0 ≤ q.n) && decide (q.n ≤ q.cs.length)
   else false)
def lemOK (x : Lma) : Bool := nameS x.nm && decide (1 ≤ x.lv) && decide (x.lv ≤ 8) && namesOK x.cs 4 && namesOK x.ls 3 && decide (x.qs.length ≤ 6) &&
  difI [x.c] x.cs.length && difI [x.l] x.ls.length && (x.qs.all fun q => condOK q x.cs.length x.ls.length) &&
  (x.ps.all fun p => difI p.ls x.ls.length && decide (1 ≤ p.ls.length)) && difI (x.ps.map (·.c)) x.cs.length
structure PL where
  ls : List Lma
  a : Int
  e : Int
def placeS (src : Bs) : List Tkn → Int
  | t :: _ => t.A
  | [] => src.length
def parseLm (src : Bs) : PL := if 65536 < src.length then ⟨[], 0, 2⟩ else match lx src 0 with
  | .err a => ⟨[], a, 100⟩
  | .ok _ ts => match allR (ts.length + 1) ts with
    | .bad r => ⟨[], placeS src r, 150⟩
    | .ok ds _ => if 16 < ds.length then ⟨[], 0, 2⟩ else if (ds.all named) = false then ⟨[], 0, 160⟩ else if ((ds.map resolve).all lemOK) = false then ⟨[], 0, 300⟩ else ⟨ds.map resolve, 0, 0⟩
end Go.AM
end
section
set_option maxRecDepth 20000
set_option linter.all false
namespace Go.AM
open Go.Proofs Go.Lib
def bar (t : Tkn) : Tkn := ⟨t.K, t.T, t.N, 0⟩
theorem bar_bare {l m : List Tkn} (h : l.map bare = m.map bare) : l.map bar = m.map bar := by
  have e : ∀ x : List Tkn, x.map bar = (x.map bare).map fun b => ⟨b.1, b.2.1, b.2.2, 0⟩ := fun x => by rw [List.map_map]; rfl
  rw [e, e, h]
def Rs.mp {α : Type} (f : Tkn → Tkn) : Rs α → Rs α
  | .ok a r => .ok a (r.map f)
  | .bad r => .bad (r.map f)
def Nt {α : Type} (p : List Tkn → Rs α) : Prop := ∀ l, p (l.map bar) = (p l).mp bar
theorem Nt.bd {α β : Type} {p : List Tkn → Rs α} {f : α → List Tkn → Rs β} (hp : Nt p) (hf : ∀ a, Nt (f a)) : Nt fun l => (p l).bd f := fun l => by
  simp only []
  rw [hp l]
  cases p l with
  | ok a r => exact hf a r
  | bad r => rfl
theorem Nt.ok {α : Type} (a : α) : Nt (Rs.ok a) := fun l => rfl
theorem hd_bare (w : Bs) (l : List Tkn) : hdW w (l.map bar) = hdW w l := by
  cases l <;> rfl
theorem nt_need (w : Bs) : Nt (need w) := fun l => by
  unfold need
  rw [hd_bare]
  split
  · cases l <;> rfl
  · rfl
theorem nt_kind {β : Type} (k : Int) {f : Tkn → List Tkn → Rs β} (hf : ∀ t, f (bar t) = f t) (hn : ∀ t, Nt (f t)) : Nt fun l => (kindR k l).bd f := fun l => by
  cases l with
  | nil => rfl
  | cons t r =>
    simp only [List.map_cons, kindR]
    have e : (bar t).K = t.K := rfl
    rw [e]
    split
    · show f (bar t) (r.map bar) = (f t r).mp bar
      rw [hf]; exact hn t r
    · rfl
theorem nt_name : Nt nameR := nt_kind 1 (fun t => rfl) fun t => Nt.ok _
theorem nt_numb : Nt numbR := nt_kind 2 (fun t => rfl) fun t => Nt.ok _
theorem nt_more : ∀ l, moreR (l.map bar) = (moreR l).mp bar
  | [] => rfl
  | [c] => by
    simp only [List.map_cons, List.map_nil, moreR]
    rw [show hdW [44] [bar c] = hdW [44] [c] from rfl]
    split <;> rfl
  | c :: t :: r => by
    simp only [List.map_cons, moreR]
    rw [show hdW [44] [bar c] = hdW [44] [c] from rfl, show (bar t).K = t.K from rfl, show (bar t).T = t.T from rfl, nt_more r]
    split
    · split
      · cases moreR r <;> rfl
      · rfl
    · rfl
theorem nt_names : Nt namesR := nt_name.bd fun s => Nt.bd (p := moreR) nt_more fun ss => Nt.ok _
theorem Nt.ite {α : Type} (w : Bs) {p q : List Tkn → Rs α} (hp : Nt p) (hq : Nt q) : Nt fun l => if hdW w l = true then p l.tail else q l := fun l => by
  simp only []
  rw [hd_bare]
  split
  · rw [← List.map_tail]; exact hp _
  · exact hq l
theorem nt_item : Nt itemR := by
  refine Nt.ite _ (nt_names.bd fun _ => Nt.ok _) (Nt.ite _ (nt_names.bd fun _ => Nt.ok _) (Nt.ite _ (nt_names.bd fun _ => Nt.ok _) (Nt.ite _ (nt_name.bd fun a => (nt_need _).bd fun _ => nt_names.bd fun _ => Nt.ok _)
    (Nt.ite _ (nt_numb.bd fun a => (nt_need _).bd fun _ => nt_names.bd fun _ => Nt.ok _) (Nt.ite _ (nt_numb.bd fun a => nt_names.bd fun _ => (nt_need _).bd fun _ => nt_names.bd fun _ => Nt.ok _)
      (Nt.ite _ (nt_name.bd fun a => (nt_need _).bd fun _ => nt_names.bd fun _ => Nt.ok _) fun l => rfl))))))
theorem nt_items : ∀ f, Nt (itemsR f)
  | 0 => fun l => rfl
  | f + 1 => Nt.ite (p := Rs.ok []) _ (Nt.ok _) (nt_item.bd fun i => (nt_need _).bd fun _ => (nt_items f).bd fun is => Nt.ok _)
theorem nt_lem : Nt lemR := by
  refine (nt_need _).bd fun _ => nt_name.bd fun nm => (nt_need _).bd fun _ => nt_numb.bd fun lv => (nt_need _).bd fun _ => (nt_need _).bd fun _ => nt_names.bd fun cs => (nt_need _).bd fun _ => (nt_need _).bd fun _ => nt_names.bd fun ls => (nt_need _).bd fun _ => ?_
  intro l
  simp only [List.length_map]
  exact ((nt_items (l.length + 1)).bd fun is => nt_name.bd fun c => nt_name.bd fun x => (nt_need _).bd fun _ => (nt_need _).bd fun _ => Nt.ok _) l
theorem nt_all : ∀ f, Nt (allR f)
  | 0 => fun l => by cases l <;> rfl
  | f + 1 => fun l => by
    cases l with
    | nil => rfl
    | cons t r => exact (nt_lem.bd fun d => (nt_all f).bd fun ds => Nt.ok _) (t :: r)
end Go.AM
end
section
set_option maxRecDepth 20000
set_option linter.all false
namespace Go.AM
open Go.Proofs Go.Lib
structure Lc {α : Type} (p : List Tkn → Rs α) : Prop where
  ok : ∀ l a r, p l = .ok a r → ∃ u, l = u ++ r ∧ ∀ t q, r = t :: q → ∀ q', p (u ++ t :: q') = .ok a (t :: q')
  bad : ∀ l r, p l = .bad r → ∃ u, l = u ++ r ∧ ∀ t q, r = t :: q → ∀ q', p (u ++ t :: q') = .bad (t :: q')
theorem Lc.ret {α : Type} (a : α) : Lc (Rs.ok a) := ⟨fun l b r h => by cases h; exact ⟨[], rfl, fun t q e q' => rfl⟩, fun l r h => by cases h⟩
theorem Lc.fail {α : Type} : Lc (Rs.bad : List Tkn → Rs α) := ⟨fun l b r h => (by cases h), fun l r h => by cases h; exact ⟨[], rfl, fun t q e q' => rfl⟩⟩
theorem Lc.bd {α β : Type} {p : List Tkn → Rs α} {f : α → List Tkn → Rs β} (hp : Lc p) (hf : ∀ a, Lc (f a)) : Lc fun l => (p l).bd f := by
  have join : ∀ l a r1 u1 u2 r, p l = .ok a r1 → l = u1 ++ r1 → (∀ t q, r1 = t :: q → ∀ q', p (u1 ++ t :: q') = .ok a (t :: q')) → r1 = u2 ++ r → ∀ t q, r = t :: q → ∀ q', p (u1 ++ u2 ++ t :: q') = .ok a (u2 ++ t :: q') := by
    intro l a r1 u1 u2 r h1 h2 h3 h4 t q h5 q'
    cases u2 with
    | nil =>
      rw [List.nil_append] at h4
      rw [List.append_nil]
      exact h3 t q (h4.trans h5) q'
    | cons x u2 => rw [List.append_assoc]; exact h3 x (u2 ++ r) (by rw [h4]; rfl) (u2 ++ t :: q')
  refine ⟨fun l b r h => ?_, fun l r h => ?_⟩
  · try simp only [] at h
    cases hl : p l with
    | bad r1 => rw [hl] at h; cases h
    | ok a r1 =>
      rw [hl] at h
      obtain ⟨u1, e1, k1⟩ := hp.ok _ _ _ hl
      obtain ⟨u2, e2, k2⟩ := (hf a).ok _ _ _ h
      refine ⟨u1 ++ u2, by rw [e1, e2, List.append_assoc], fun t q e q' => ?_⟩
      try simp only []
      rw [join l a r1 u1 u2 r hl e1 k1 e2 t q e q']
      exact k2 t q e q'
  · try simp only [] at h
    cases hl : p l with
    | bad r1 =>
      rw [hl] at h
      cases h
      obtain ⟨u1, e1, k1⟩ := hp.bad _ _ hl
      refine ⟨u1, e1, fun t q e q' => ?_⟩
      try simp only []
      rw [k1 t q e q']; rfl
    | ok a r1 =>
      rw [hl] at h
      obtain ⟨u1, e1, k1⟩ := hp.ok _ _ _ hl
      obtain ⟨u2, e2, k2⟩ := (hf a).bad _ _ h
      refine ⟨u1 ++ u2, by rw [e1, e2, List.append_assoc], fun t q e q' => ?_⟩
      try simp only []
      rw [join l a r1 u1 u2 r hl e1 k1 e2 t q e q']
      exact k2 t q e q'
theorem lc_need (w : Bs) : Lc (need w) := by
  refine ⟨fun l a r h => ?_, fun l r h => ?_⟩
  · unfold need at h
    split at h
    · rename_i hw
      cases h
      cases l with
      | nil => cases hw
      | cons t l =>
        refine ⟨[t], rfl, fun x q e q' => ?_⟩
        show need w (t :: x :: q') = _
        unfold need
        rw [if_pos (show hdW w (t :: x :: q') = true from hw)]; rfl
    · cases h
  · unfold need at h
    split at h
    · cases h
    · rename_i hw
      cases h
      refine ⟨[], rfl, fun x q e q' => ?_⟩
      subst e
      show need w (x :: q') = _
      unfold need
      rw [if_neg (show ¬ hdW w (x :: q') = true from hw)]
theorem lc_kind (k : Int) : Lc (kindR k) := by
  refine ⟨fun l a r h => ?_, fun l r h => ?_⟩
  · cases l with
    | nil => cases h
    | cons t l =>
      simp only [kindR] at h
      split at h
      · rename_i hk
        cases h
        exact ⟨[_], rfl, fun x q e q' => by simp only [List.cons_append, List.nil_append]; rw [kindR, if_pos hk]⟩
      · cases h
  · cases l with
    | nil => cases h; exact ⟨[], rfl, fun x q e => by cases e⟩
    | cons t l =>
      simp only [kindR] at h
      split at h
      · cases h
      · rename_i hk
        cases h
        refine ⟨[], rfl, fun x q e q' => ?_⟩
        rw [List.nil_append, ← (List.cons.inj e).1, kindR, if_neg hk]
theorem lc_name : Lc nameR := (lc_kind 1).bd fun t => Lc.ret _
theorem lc_numb : Lc numbR := (lc_kind 2).bd fun t => Lc.ret _
theorem more_no {c : Tkn} {r : List Tkn} (h : ¬ hdW [44] [c] = true) : moreR (c :: r) = .ok [] (c :: r) := by
  cases r with
  | nil => rw [moreR, if_neg h]
  | cons t r => rw [moreR, if_neg h]
theorem lc_more : Lc moreR := by
  have key : ∀ n, ∀ l : List Tkn, l.length ≤ n → (∀ a r, moreR l = .ok a r → ∃ u, l = u ++ r ∧ ∀ t q, r = t :: q → ∀ q', moreR (u ++ t :: q') = .ok a (t :: q')) ∧ (∀ r, moreR l = .bad r → ∃ u, l = u ++ r ∧ ∀ t q, r = t :: q → ∀ q', moreR (u ++ t :: q') = .bad (t :: q')) := by
    intro n
    induction n with
    | zero =>
      intro l hl
      match l with
      | [] => exact ⟨fun a r h => by cases h; exact ⟨[], rfl, fun t q e => by cases e⟩, fun r h => by cases h⟩
      | _ :: _ => simp at hl
    | succ n ih =>
      intro l hl
      match l with
      | [] => exact ⟨fun a r h => by cases h; exact ⟨[], rfl, fun t q e => by cases e⟩, fun r h => by cases h⟩
      | [c] =>
        by_cases hc : hdW [44] [c] = true
        · rw [moreR, if_pos hc]
          exact ⟨fun a r h => (by cases h), fun r h => by cases h; exact ⟨[c], rfl, fun t q e => by cases e⟩⟩
        · rw [moreR, if_neg hc]
          refine ⟨fun a r h => ?_, fun r h => by cases h⟩
          cases h
          exact ⟨[], rfl, fun t q e q' => by cases e; exact more_no hc⟩
      | c :: t :: r =>
        by_cases hc : hdW [44] [c] = true
        · by_cases ht : t.K = 1
          · obtain ⟨i1, i2⟩ := ih r (by simp at hl; omega)
            rw [moreR, if_pos hc, if_pos ht]
            refine ⟨fun a q h => ?_, fun q h => ?_⟩
            · cases hm : moreR r with
              | bad z => rw [hm] at h; cases h
              | ok ss z =>
                rw [hm] at h
                cases h
                obtain ⟨u, e1, k1⟩ := i1 _ _ hm
                refine ⟨c :: t :: u, by rw [e1]; rfl, fun x y e q' => ?_⟩
                show moreR (c :: t :: (u ++ x :: q')) = _
                rw [moreR, if_pos hc, if_pos ht, k1 x y e q']; rfl
            · cases hm : moreR r with
              | ok ss z => rw [hm] at h; cases h
              | bad z =>
                rw [hm] at h
                cases h
                obtain ⟨u, e1, k1⟩ := i2 _ hm
                refine ⟨c :: t :: u, by rw [e1]; rfl, fun x y e q' => ?_⟩
                show moreR (c :: t :: (u ++ x :: q')) = _
                rw [moreR, if_pos hc, if_pos ht, k1 x y e q']; rfl
          · rw [moreR, if_pos hc, if_neg ht]
            refine ⟨fun a q h => (by cases h), fun q h => ?_⟩
            cases h
            refine ⟨[c], rfl, fun x y e q' => ?_⟩
            cases e
            show moreR (c :: t :: q') = _
            rw [moreR, if_pos hc, if_neg ht]
        · rw [moreR, if_neg hc]
          refine ⟨fun a q h => ?_, fun q h => by cases h⟩
          cases h
          exact ⟨[], rfl, fun x y e q' => by cases e; exact more_no hc⟩
  exact ⟨fun l => (key l.length l (Nat.le_refl _)).1, fun l => (key l.length l (Nat.le_refl _)).2⟩
theorem lc_names : Lc namesR := lc_name.bd fun s => lc_more.bd fun ss => Lc.ret _
theorem Lc.ite {α : Type} (w : Bs) {p q : List Tkn → Rs α} (hp : Lc p) (hq : Lc q) : Lc fun l => if hdW w l = true then p l.tail else q l := by
  have hdq : ∀ t r r', hdW w (t :: r) = hdW w (t :: r') := fun t r r' => rfl
  refine ⟨fun l a r h => ?_, fun l r h => ?_⟩
  · try simp only [] at h
    split at h
    · rename_i hw
      match l, hw with
      | t :: l, hw =>
        obtain ⟨u, e1, k1⟩ := hp.ok _ _ _ h
        simp only [List.tail_cons] at e1
        refine ⟨t :: u, by rw [e1]; rfl, fun x y e q' => ?_⟩
        simp only [List.cons_append, List.tail_cons]
        rw [if_pos (show hdW w (t :: (u ++ x :: q')) = true from hw)]; exact k1 x y e q'
    · rename_i hw
      obtain ⟨u, e1, k1⟩ := hq.ok _ _ _ h
      refine ⟨u, e1, fun x y e q' => ?_⟩
      have : hdW w (u ++ x :: q') = hdW w l := by
        rw [e1, e]; cases u <;> rfl
      rw [if_neg (fun z => hw (this.symm.trans z))]; exact k1 x y e q'
  · try simp only [] at h
    split at h
    · rename_i hw
      match l, hw with
      | t :: l, hw =>
        obtain ⟨u, e1, k1⟩ := hp.bad _ _ h
        simp only [List.tail_cons] at e1
        refine ⟨t :: u, by rw [e1]; rfl, fun x y e q' => ?_⟩
        simp only [List.cons_append, List.tail_cons]
        rw [if_pos (show hdW w (t :: (u ++ x :: q')) = true from hw)]; exact k1 x y e q'
    · rename_i hw
      obtain ⟨u, e1, k1⟩ := hq.bad _ _ h
      refine ⟨u, e1, fun x y e q' => ?_⟩
      have : hdW w (u ++ x :: q') = hdW w l := by
        rw [e1, e]; cases u <;> rfl
      rw [if_neg (fun z => hw (this.symm.trans z))]; exact k1 x y e q'
theorem lc_item : Lc itemR :=
  Lc.ite _ (lc_names.bd fun _ => Lc.ret _) (Lc.ite _ (lc_names.bd fun _ => Lc.ret _) (Lc.ite _ (lc_names.bd fun _ => Lc.ret _) (Lc.ite _ (lc_name.bd fun a => (lc_need _).bd fun _ => lc_names.bd fun _ => Lc.ret _)
    (Lc.ite _ (lc_numb.bd fun a => (lc_need _).bd fun _ => lc_names.bd fun _ => Lc.ret _) (Lc.ite _ (lc_numb.bd fun a => lc_names.bd fun _ => (lc_need _).bd fun _ => lc_names.bd fun _ => Lc.ret _)
      (Lc.ite _ (lc_name.bd fun a => (lc_need _).bd fun _ => lc_names.bd fun _ => Lc.ret _) Lc.fail))))))
theorem lc_items : ∀ f, Lc (itemsR f)
  | 0 => Lc.fail
  | f + 1 => Lc.ite (p := Rs.ok []) _ (Lc.ret _) (lc_item.bd fun i => (lc_need _).bd fun _ => (lc_items f).bd fun is => Lc.ret _)
theorem need_lt {w : Bs} {l r : List Tkn} {a : Unit} (h : need w l = .ok a r) : r.length < l.length := by
  unfold need at h
  split at h
  · rename_i hw
    cases h
    cases l with
    | nil => cases hw
    | cons t l => simp
  · cases h
theorem Lc.le {α : Type} {p : List Tkn → Rs α} (hp : Lc p) {l r : List Tkn} {a : α} (h : p l = .ok a r) : r.length ≤ l.length := by
  obtain ⟨u, e, -⟩ := hp.ok _ _ _ h
  rw [e]; simp
theorem items_fuel : ∀ (f : Nat) (l : List Tkn), l.length < f → itemsR f l = itemsR (l.length + 1) l := by
  have key : ∀ (f g : Nat) (l : List Tkn), l.length < f → l.length < g → itemsR f l = itemsR g l := by
    intro f
    induction f with
    | zero => intro g l h; omega
    | succ f ih =>
      intro g l h1 h2
      obtain ⟨g, rfl⟩ : ∃ k, g = k + 1 := ⟨g - 1, by omega⟩
      rw [itemsR, itemsR]
      split
      · rfl
      · cases hi : itemR l with
        | bad r => rfl
        | ok i r =>
          simp only [Rs.bd]
          cases hn : need [59] r with
          | bad r => rfl
          | ok a q =>
            simp only []
            have := need_lt hn
            have := lc_item.le hi
            rw [ih g q (by omega) (by omega)]
  exact fun f l h => key f _ l h (by omega)
theorem lc_itemsF : Lc fun l => itemsR (l.length + 1) l := by
  refine ⟨fun l a r h => ?_, fun l r h => ?_⟩
  · try simp only [] at h
    obtain ⟨u, e, k⟩ := (lc_items (l.length + 1)).ok _ _ _ h
    refine ⟨u, e, fun t q e2 q' => ?_⟩
    have hF := items_fuel ((u ++ t :: q').length + l.length + 1) (u ++ t :: q') (by omega)
    have hG := items_fuel ((u ++ t :: q').length + l.length + 1) l (by omega)
    rw [← hF]
    rw [← hG] at h
    obtain ⟨u', e', k'⟩ := (lc_items _).ok _ _ _ h
    have : u' = u := List.append_cancel_right (e'.symm.trans e)
    subst this
    exact k' t q e2 q'
  · try simp only [] at h
    obtain ⟨u, e, k⟩ := (lc_items (l.length + 1)).bad _ _ h
    refine ⟨u, e, fun t q e2 q' => ?_⟩
    have hF := items_fuel ((u ++ t :: q').length + l.length + 1) (u ++ t :: q') (by omega)
    have hG := items_fuel ((u ++ t :: q').length + l.length + 1) l (by omega)
    rw [← hF]
    rw [← hG] at h
    obtain ⟨u', e', k'⟩ := (lc_items _).bad _ _ h
    have : u' = u := List.append_cancel_right (e'.symm.trans e)
    subst this
    exact k' t q e2 q'
theorem lc_lem : Lc lemR :=
  (lc_need _).bd fun _ => lc_name.bd fun nm => (lc_need _).bd fun _ => lc_numb.bd fun lv => (lc_need _).bd fun _ => (lc_need _).bd fun _ => lc_names.bd fun cs => (lc_need _).bd fun _ => (lc_need _).bd fun _ => lc_names.bd fun ls => (lc_need _).bd fun _ =>
    lc_itemsF.bd fun is => lc_name.bd fun c => lc_name.bd fun x => (lc_need _).bd fun _ => (lc_need _).bd fun _ => Lc.ret _
theorem lem_lt {l r : List Tkn} {d : Drf} (h : lemR l = .ok d r) : r.length < l.length := by
  unfold lemR at h
  cases hn : need wLem l with
  | bad q => rw [hn] at h; cases h
  | ok a q =>
    rw [hn] at h
    have h1 := need_lt hn
    have h2 := Lc.le (p := fun r => (nameR r).bd fun nm r => (need wLev r).bd fun _ r => (numbR r).bd fun lv r => (need [123] r).bd fun _ r => (need wCel r).bd fun _ r => (namesR r).bd fun cs r =>
      (need [59] r).bd fun _ r => (need wLet r).bd fun _ r => (namesR r).bd fun ls r => (need [59] r).bd fun _ r => (itemsR (r.length + 1) r).bd fun is r =>
      (nameR r).bd fun c r => (nameR r).bd fun x r => (need [59] r).bd fun _ r => (need [125] r).bd fun _ r => .ok (⟨nm, lv, cs, ls, is, c, x⟩ : Drf) r)
      (lc_name.bd fun nm => (lc_need _).bd fun _ => lc_numb.bd fun lv => (lc_need _).bd fun _ => (lc_need _).bd fun _ => lc_names.bd fun cs => (lc_need _).bd fun _ => (lc_need _).bd fun _ => lc_names.bd fun ls => (lc_need _).bd fun _ =>
        lc_itemsF.bd fun is => lc_name.bd fun c => lc_name.bd fun x => (lc_need _).bd fun _ => (lc_need _).bd fun _ => Lc.ret _) h
    omega
end Go.AM
end
section
set_option maxRecDepth 20000
set_option linter.all false
namespace Go.AM
open Go.Proofs Go.Lib
def allF (l : List Tkn) : Rs (List Drf) := allR (l.length + 1) l
theorem nt_allF : Nt allF := fun l => by
  unfold allF
  rw [List.length_map]; exact nt_all _ l
end Go.AM
end
section
set_option maxRecDepth 20000
set_option linter.all false
namespace Go.AM
open Go.Proofs Go.Lib
abbrev kN (v : Int) : Tkn := ⟨2, [], v, 0⟩
abbrev kI (s : Bs) : Tkn := ⟨1, s, 0, 0⟩
abbrev kS (s : Bs) : Tkn := ⟨3, s, 0, 0⟩
def mT (ss : List Bs) : List Tkn := ss.flatMap fun s => [kS [44], kI s]
def nsT : List Bs → List Tkn
  | [] => []
  | s :: r => kI s :: mT r
def itT (i : Itm) : List Tkn :=
  if i.k = 1 then kI wDif :: nsT i.cs else if i.k = 4 then kI wRis :: nsT i.cs else if i.k = 5 then kI wNea :: nsT i.cs
  else if i.k = 2 then kI wHom :: (nsT i.ls ++ kS [58] :: nsT i.cs) else if i.k = 3 then kI wApa :: kN i.n :: kS [58] :: nsT i.cs
  else if i.k = 6 then kI wQuo :: kN i.n :: (nsT i.ls ++ kS [58] :: nsT i.cs) else kI wOnl :: (nsT i.cs ++ kS [58] :: nsT i.ls)
def isT' (is : List Itm) : List Tkn := is.flatMap fun i => itT i ++ [kS [59]]
def drT (d : Drf) : List Tkn := [kI wLem, kI d.nm, kI wLev, kN d.lv, kS [123], kI wCel] ++ nsT d.cs ++ [kS [59], kI wLet] ++ nsT d.ls ++ [kS [59]] ++ isT' d.is ++ [kI wLac, kI d.c, kI d.l, kS [59], kS [125]]
theorem more_T : ∀ (ss : List Bs) (r : List Tkn), hdW [44] r = false → moreR (mT ss ++ r) = .ok ss r
  | [], r, h => by
    show moreR r = _
    cases r with
    | nil => rfl
    | cons c r => exact more_no (by rw [show hdW [44] [c] = hdW [44] (c :: r) from rfl, h]; decide)
  | s :: ss, r, h => by
    show moreR (kS [44] :: kI s :: (mT ss ++ r)) = _
    rw [moreR, if_pos (by decide), if_pos rfl, more_T ss r h]; rfl
theorem names_T {ss : List Bs} {r : List Tkn} (hs : ss ≠ []) (h : hdW [44] r = false) : namesR (nsT ss ++ r) = .ok ss r := by
  cases ss with
  | nil => exact absurd rfl hs
  | cons s ss =>
    show (moreR (mT ss ++ r)).bd _ = _
    rw [more_T ss r h]; rfl
theorem need_T (w : Bs) (k : Int) (hk : k ≠ 2) (r : List Tkn) : need w (⟨k, w, 0, 0⟩ :: r) = .ok () r := by
  unfold need hdW; simp [hk]
def itOK (i : Itm) : Prop := (((i.k = 1 ∨ i.k = 4 ∨ i.k = 5) ∧ i.n = 0 ∧ i.ls = []) ∨ (i.k = 2 ∧ i.n = 0 ∧ ∃ a, i.ls = [a]) ∨ (i.k = 3 ∧ i.ls = []) ∨ (i.k = 6 ∧ i.ls ≠ [])) ∧ i.cs ≠ [] ∨ (i.k = 0 ∧ i.n = 0 ∧ i.ls ≠ [] ∧ ∃ a, i.cs = [a])
theorem hd_semi (r : List Tkn) : hdW [44] (kS [59] :: r) = false := rfl
theorem hd_colon (r : List Tkn) : hdW [44] (kS [58] :: r) = false := rfl
theorem bd_ok {α β : Type} {a : α} {r : List Tkn} {f : α → List Tkn → Rs β} : (Rs.ok a r).bd f = f a r := rfl
theorem name_T (s : Bs) (r : List Tkn) : nameR (kI s :: r) = .ok s r := rfl
theorem numb_T (v : Int) (r : List Tkn) : numbR (kN v :: r) = .ok v r := rfl
theorem item_T {i : Itm} (h : itOK i) (r : List Tkn) : itemR (itT i ++ kS [59] :: r) = .ok i (kS [59] :: r) := by
  obtain ⟨k, n, ls, cs⟩ := i
  unfold itOK at h
  simp only at h
  have hd : ∀ w v : Bs, ∀ q, hdW w (kI v :: q) = decide (v = w) := fun w v q => by simp [hdW]
  rcases h with ⟨h | ⟨rfl, rfl, a, rfl⟩ | ⟨rfl, rfl⟩ | ⟨rfl, h2⟩, hc⟩ | ⟨rfl, rfl, h2, a, rfl⟩
  · obtain ⟨hk, rfl, rfl⟩ := h
    rcases hk with rfl | rfl | rfl
    all_goals
      simp only [itT, Int.reduceEq, if_true, if_false, List.cons_append]
      unfold itemR
      simp only [hd, List.tail_cons]
      simp (config := { maxSteps := 10000 }) only [show ((wRis : Bs) = wDif) = False from eq_false (by decide), show ((wNea : Bs) = wDif) = False from eq_false (by decide), show ((wNea : Bs) = wRis) = False from eq_false (by decide), decide_true, decide_false, if_true, if_false, Bool.false_eq_true]
      rw [names_T hc (hd_semi r)]; rfl
  · simp only [itT, Int.reduceEq, if_true, if_false, List.cons_append, List.append_assoc]
    unfold itemR
    simp only [hd, List.tail_cons, show ((wHom : Bs) = wDif) = False from eq_false (by decide), show ((wHom : Bs) = wRis) = False from eq_false (by decide), show ((wHom : Bs) = wNea) = False from eq_false (by decide), decide_true, decide_false, if_true, if_false, Bool.false_eq_true]
    show ((need [58] (kS [58] :: (nsT cs ++ kS [59] :: r))).bd fun _ r => (namesR r).bd fun cs r => Rs.ok (⟨2, 0, [a], cs⟩ : Itm) r) = _
    rw [need_T _ _ (by decide), bd_ok, names_T hc (hd_semi r)]; rfl
  · simp only [itT, Int.reduceEq, if_true, if_false, List.cons_append]
    unfold itemR
    simp only [hd, List.tail_cons, show ((wApa : Bs) = wDif) = False from eq_false (by decide), show ((wApa : Bs) = wRis) = False from eq_false (by decide), show ((wApa : Bs) = wNea) = False from eq_false (by decide), show ((wApa : Bs) = wHom) = False from eq_false (by decide), decide_true, decide_false, if_true, if_false, Bool.false_eq_true]
    rw [numb_T, bd_ok, need_T _ _ (by decide), bd_ok, names_T hc (hd_semi r)]; rfl
  · simp only [itT, Int.reduceEq, if_true, if_false, List.cons_append, List.append_assoc]
    unfold itemR
    simp only [hd, List.tail_cons, show ((wQuo : Bs) = wDif) = False from eq_false (by decide), show ((wQuo : Bs) = wRis) = False from eq_false (by decide), show ((wQuo : Bs) = wNea) = False from eq_false (by decide), show ((wQuo : Bs) = wHom) = False from eq_false (by decide), show ((wQuo : Bs) = wApa) = False from eq_false (by decide), decide_true, decide_false, if_true, if_false, Bool.false_eq_true]
    rw [numb_T, bd_ok, names_T h2 (hd_colon _), bd_ok, need_T _ _ (by decide), bd_ok, names_T hc (hd_semi r)]; rfl
  · simp only [itT, Int.reduceEq, if_false, List.cons_append, List.append_assoc]
    unfold itemR
    simp only [hd, List.tail_cons, show ((wOnl : Bs) = wDif) = False from eq_false (by decide), show ((wOnl : Bs) = wRis) = False from eq_false (by decide), show ((wOnl : Bs) = wNea) = False from eq_false (by decide), show ((wOnl : Bs) = wHom) = False from eq_false (by decide), show ((wOnl : Bs) = wApa) = False from eq_false (by decide), show ((wOnl : Bs) = wQuo) = False from eq_false (by decide), decide_true, decide_false, if_true, if_false, Bool.false_eq_true]
    show ((need [58] (kS [58] :: (nsT ls ++ kS [59] :: r))).bd fun _ r => (namesR r).bd fun ls r => Rs.ok (⟨0, 0, ls, [a]⟩ : Itm) r) = _
    rw [need_T _ _ (by decide), bd_ok, names_T h2 (hd_semi r)]; rfl
theorem it_head {i : Itm} (r : List Tkn) : hdW wLac (itT i ++ r) = false := by
  unfold itT
  repeat' split
  all_goals rfl
theorem items_T : ∀ (is : List Itm) (f : Nat) (r : List Tkn), (∀ i ∈ is, itOK i) → is.length < f → itemsR f (isT' is ++ kI wLac :: r) = .ok is r
  | [], f + 1, r, h, hf => by
    show itemsR (f + 1) (kI wLac :: r) = _
    rw [itemsR, if_pos (show hdW wLac (kI wLac :: r) = true from rfl)]; rfl
  | i :: is, f + 1, r, h, hf => by
    have e : isT' (i :: is) ++ kI wLac :: r = itT i ++ kS [59] :: (isT' is ++ kI wLac :: r) := by simp [isT']
    rw [e, itemsR, if_neg (by rw [it_head]; decide), item_T (h i (by simp)), bd_ok, need_T _ _ (by decide), bd_ok, items_T is f r (fun j hj => h j (by simp [hj])) (by simp at hf; omega)]; rfl
  | _, 0, r, h, hf => by omega
structure DrOK (d : Drf) : Prop where
  cs : d.cs ≠ []
  ls : d.ls ≠ []
  is : ∀ i ∈ d.is, itOK i
theorem isT_len (is : List Itm) : is.length ≤ (isT' is).length := by
  induction is with
  | nil => exact Nat.zero_le _
  | cons i r ih =>
    have : isT' (i :: r) = itT i ++ [kS [59]] ++ isT' r := by simp [isT']
    rw [this]; simp; omega
theorem lem_T {d : Drf} (h : DrOK d) (r : List Tkn) : lemR (drT d ++ r) = .ok d r := by
  have e : drT d ++ r = kI wLem :: kI d.nm :: kI wLev :: kN d.lv :: kS [123] :: kI wCel :: (nsT d.cs ++ kS [59] :: kI wLet :: (nsT d.ls ++ kS [59] :: (isT' d.is ++ kI wLac :: kI d.c :: kI d.l :: kS [59] :: kS [125] :: r))) := by
    simp [drT]
  rw [e]
  unfold lemR
  rw [need_T _ _ (by decide), bd_ok, name_T, bd_ok, need_T _ _ (by decide), bd_ok, numb_T, bd_ok, need_T _ _ (by decide), bd_ok, need_T _ _ (by decide), bd_ok, names_T h.cs (hd_semi _), bd_ok,
    need_T _ _ (by decide), bd_ok, need_T _ _ (by decide), bd_ok, names_T h.ls (hd_semi _), bd_ok, need_T _ _ (by decide), bd_ok,
    items_T d.is _ _ h.is (by have := isT_len d.is; simp only [List.length_append]; omega), bd_ok, name_T, bd_ok, name_T, bd_ok, need_T _ _ (by decide), bd_ok, need_T _ _ (by decide)]
  rfl
theorem all_T : ∀ (ds : List Drf) (f : Nat), (∀ d ∈ ds, DrOK d) → ds.length < f → allR f (ds.flatMap drT) = .ok ds []
  | [], f + 1, h, hf => rfl
  | d :: ds, f + 1, h, hf => by
    have e : (d :: ds).flatMap drT = kI wLem :: ((d :: ds).flatMap drT).tail := by simp [drT]
    have e2 : (d :: ds).flatMap drT = drT d ++ ds.flatMap drT := by simp
    rw [e]
    show (lemR (kI wLem :: ((d :: ds).flatMap drT).tail)).bd (fun d r => (allR f r).bd fun ds q => Rs.ok (d :: ds) q) = _
    rw [← e, e2, lem_T (h d (by simp)), bd_ok, all_T ds f (fun x hx => h x (by simp [hx])) (by simp at hf; omega)]
    rfl
  | _, 0, h, hf => by omega
theorem flat_len (ds : List Drf) : ds.length ≤ (ds.flatMap drT).length := by
  induction ds with
  | nil => exact Nat.zero_le _
  | cons d r ih =>
    rw [List.flatMap_cons, List.length_append, List.length_cons]
    have : 1 ≤ (drT d).length := by simp [drT]
    omega
theorem allF_T {ds : List Drf} (h : ∀ d ∈ ds, DrOK d) : allF (ds.flatMap drT) = .ok ds [] := all_T ds _ h (by have := flat_len ds; omega)
end Go.AM
end
section
set_option maxRecDepth 20000
set_option linter.all false
namespace Go.AM
open Go.Proofs Go.Lib
def getS (l : List Bs) (k : Int) : Bs := l[k.toNat]?.getD []
def unR (x : Lma) : Drf := ⟨x.nm, x.lv, x.cs, x.ls, (x.qs.map fun q => ⟨q.k, q.n, q.ls.map (getS x.ls), q.cs.map (getS x.cs)⟩) ++ (x.ps.map fun p => ⟨0, 0, p.ls.map (getS x.ls), [getS x.cs p.c]⟩), getS x.cs x.c, getS x.ls x.l⟩
theorem idx_get : ∀ {l : List Bs} {k : Nat}, distinct l = true → k < l.length → l.findIdx? (fun x => decide (x = l[k]?.getD [])) = some k
  | [], k, h, hk => by simp at hk
  | x :: r, 0, h, hk => by simp [List.findIdx?_cons]
  | x :: r, k + 1, h, hk => by
    simp only [distinct, Bool.and_eq_true, Bool.not_eq_true'] at h
    have hk' : k < r.length := by simpa using hk
    have ih := idx_get h.2 hk'
    have hne : ¬ x = r[k]?.getD [] := by
      intro e
      rw [List.getElem?_eq_getElem hk', Option.getD_some] at e
      have : (r.any fun y => decide (y = x)) = true := List.any_eq_true.2 ⟨r[k], List.getElem_mem hk', by simp [e]⟩
      rw [h.1] at this; cases this
    rw [List.findIdx?_cons, List.getElem?_cons_succ, ih]
    simp [hne]
theorem idxS_get {l : List Bs} {k : Int} (h : distinct l = true) (h0 : 0 ≤ k) (hk : k < l.length) : idxS l (getS l k) = k := by
  obtain ⟨j, rfl⟩ : ∃ j : Nat, k = j := ⟨k.toNat, by omega⟩
  unfold idxS getS
  rw [Int.toNat_natCast, idx_get h (by omega)]
theorem idxs_get {l : List Bs} (h : distinct l = true) : ∀ {ks : List Int}, (ks.all fun k => decide (0 ≤ k) && decide (k < l.length)) = true → idxs l (ks.map (getS l)) = ks
  | [], _ => rfl
  | k :: ks, hk => by
    simp only [List.all_cons, Bool.and_eq_true, decide_eq_true_eq] at hk
    have := idxs_get h (ks := ks) (by simpa using hk.2)
    unfold idxs at this ⊢
    rw [List.map_cons, List.map_cons, idxS_get h hk.1.1 hk.1.2, this]
theorem allIn_get {l : List Bs} (h : distinct l = true) : ∀ {ks : List Int}, (ks.all fun k => decide (0 ≤ k) && decide (k < l.length)) = true → allIn l (ks.map (getS l)) = true
  | [], _ => rfl
  | k :: ks, hk => by
    simp only [List.all_cons, Bool.and_eq_true, decide_eq_true_eq] at hk
    have := allIn_get h (ks := ks) (by simpa using hk.2)
    unfold allIn at this ⊢
    rw [List.map_cons, List.all_cons, idxS_get h hk.1.1 hk.1.2, this]
    simp [hk.1.1]
structure OKL (x : Lma) : Prop where
  nm : nameS x.nm = true
  lv : 1 ≤ x.lv ∧ x.lv ≤ 8
  cs : x.cs.all nameS = true ∧ distinct x.cs = true ∧ 1 ≤ x.cs.length ∧ x.cs.length ≤ 4
  ls : x.ls.all nameS = true ∧ distinct x.ls = true ∧ 1 ≤ x.ls.length ∧ x.ls.length ≤ 3
  nq : x.qs.length ≤ 6
  c : 0 ≤ x.c ∧ x.c < x.cs.length
  l : 0 ≤ x.l ∧ x.l < x.ls.length
  qs : ∀ q ∈ x.qs, condOK q x.cs.length x.ls.length = true
  ps : ∀ p ∈ x.ps, difI p.ls x.ls.length = true ∧ 1 ≤ p.ls.length
  pc : difI (x.ps.map (·.c)) x.cs.length = true
theorem lem_okl (x : Lma) : lemOK x = true ↔ OKL x := by
  unfold lemOK namesOK
  simp only [Bool.and_eq_true, decide_eq_true_eq, List.all_eq_true (p := fun q => condOK q x.cs.length x.ls.length), List.all_eq_true (p := fun p : Prm => difI p.ls x.ls.length && decide (1 ≤ p.ls.length))]
  constructor
  · rintro ⟨⟨⟨⟨⟨⟨⟨⟨⟨⟨h1, h2⟩, h3⟩, ⟨⟨⟨c1, c2⟩, c3⟩, c4⟩⟩, ⟨⟨⟨l1, l2⟩, l3⟩, l4⟩⟩, h6⟩, h7⟩, h8⟩, h9⟩, h10⟩, h11⟩
    refine ⟨h1, ⟨h2, h3⟩, ⟨c1, c2, c3, c4⟩, ⟨l1, l2, l3, l4⟩, h6, ?_, ?_, h9, fun p hp => h10 p hp, h11⟩
    · simp [difI] at h7; exact h7.1
    · simp [difI] at h8; exact h8.1
  · rintro ⟨h1, ⟨h2, h3⟩, ⟨c1, c2, c3, c4⟩, ⟨l1, l2, l3, l4⟩, h6, h7, h8, h9, h10, h11⟩
    exact ⟨⟨⟨⟨⟨⟨⟨⟨⟨⟨h1, h2⟩, h3⟩, ⟨⟨⟨c1, c2⟩, c3⟩, c4⟩⟩, ⟨⟨⟨l1, l2⟩, l3⟩, l4⟩⟩, h6⟩, by simp [difI, distinct, h7.1, h7.2]⟩, by simp [difI, distinct, h8.1, h8.2]⟩, h9⟩, fun p hp => h10 p hp⟩, h11⟩
theorem dif_rng {l : List Int} {n : Nat} (h : difI l n = true) : (l.all fun k => decide (0 ≤ k) && decide (k < n)) = true := by
  unfold difI at h
  rw [Bool.and_eq_true] at h; exact h.1
structure CndOK (q : Cnd) (nc nl : Nat) : Prop where
  cs : difI q.cs nc = true
  ne : 1 ≤ q.cs.length
  ls : difI q.ls nl = true
  kind : ((q.k = 1 ∨ q.k = 4) ∧ 2 ≤ q.cs.length ∧ q.ls.length = 0 ∧ q.n = 0) ∨ (q.k = 2 ∧ q.ls.length = 1 ∧ q.n = 0) ∨ (q.k = 3 ∧ q.cs.length = 2 ∧ q.ls.length = 0 ∧ 1 ≤ q.n ∧ q.n ≤ 99) ∨ (q.k = 5 ∧ q.cs.length = 2 ∧ q.ls.length = 0 ∧ q.n = 0) ∨ (q.k = 6 ∧ 1 ≤ q.ls.length ∧ 0 ≤ q.n ∧ q.n ≤ q.cs.length)
theorem cnd_ok {q : Cnd} {nc nl : Nat} (h : condOK q nc nl = true) : CndOK q nc nl := by
  unfold condOK at h
  simp only [Bool.and_eq_true, decide_eq_true_eq] at h
  obtain ⟨⟨⟨h1, h2⟩, h3⟩, h4⟩ := h
  refine ⟨h1, h2, h3, ?_⟩
  split at h4
  · rename_i hk
    simp only [Bool.and_eq_true, decide_eq_true_eq] at h4
    exact .inl ⟨hk, h4.1.1, h4.1.2, h4.2⟩
  split at h4
  · rename_i hk
    simp only [Bool.and_eq_true, decide_eq_true_eq] at h4
    exact .inr (.inl ⟨hk, h4.1, h4.2⟩)
  split at h4
  · rename_i hk
    simp only [Bool.and_eq_true, decide_eq_true_eq] at h4
    exact .inr (.inr (.inl ⟨hk, h4.1.1.1, h4.1.1.2, h4.1.2, h4.2⟩))
  split at h4
  · rename_i hk
    simp only [Bool.and_eq_true, decide_eq_true_eq] at h4
    exact .inr (.inr (.inr (.inl ⟨hk, h4.1.1, h4.1.2, h4.2⟩)))
  split at h4
  · rename_i hk
    simp only [Bool.and_eq_true, decide_eq_true_eq] at h4
    exact .inr (.inr (.inr (.inr ⟨hk, h4.1.1, h4.1.2, h4.2⟩)))
  · cases h4
theorem CndOK.k0 {q : Cnd} {nc nl : Nat} (h : CndOK q nc nl) : q.k ≠ 0 := by
  rcases h.kind with ⟨h, -⟩ | ⟨h, -⟩ | ⟨h, -⟩ | ⟨h, -⟩ | ⟨h, -⟩ <;> omega
theorem nil_of {α β : Type} {l : List α} {f : α → β} (h : l.length = 0) : l.map f = [] := by rw [List.length_eq_zero_iff.1 h]; rfl
theorem ne_of {α β : Type} {l : List α} {f : α → β} (h : 1 ≤ l.length) : l.map f ≠ [] := by
  intro e
  have := congrArg List.length e
  simp at this; subst this; simp at h
theorem unR_ok {x : Lma} (h : OKL x) : DrOK (unR x) := by
  refine ⟨?_, ?_, fun i hi => ?_⟩
  · intro e
    have e : x.cs = [] := e
    have := h.cs.2.2.1
    rw [e] at this; simp at this
  · intro e
    have e : x.ls = [] := e
    have := h.ls.2.2.1
    rw [e] at this; simp at this
  · rcases List.mem_append.1 hi with hi | hi
    · obtain ⟨q, hq, rfl⟩ := List.mem_map.1 hi
      have hk := cnd_ok (h.qs q hq)
      refine .inl ⟨?_, ne_of hk.ne⟩
      rcases hk.kind with ⟨k1, k2, k3, k4⟩ | ⟨k1, k2, k3⟩ | ⟨k1, k2, k3, k4⟩ | ⟨k1, k2, k3, k4⟩ | ⟨k1, k2, k3⟩
      · exact .inl ⟨k1.elim .inl (fun e => .inr (.inl e)), k4, nil_of k3⟩
      · obtain ⟨a, ha⟩ := List.length_eq_one_iff.1 k2
        exact .inr (.inl ⟨k1, k3, getS x.ls a, by simp only [ha]; rfl⟩)
      · exact .inr (.inr (.inl ⟨k1, nil_of k3⟩))
      · exact .inl ⟨.inr (.inr k1), k4, nil_of k3⟩
      · exact .inr (.inr (.inr ⟨k1, ne_of k2⟩))
    · obtain ⟨p, hp, rfl⟩ := List.mem_map.1 hi
      exact .inr ⟨rfl, rfl, ne_of (h.ps p hp).2, _, rfl⟩
theorem filt_all {α : Type} {l : List α} {p : α → Bool} (h : ∀ x ∈ l, p x = true) : l.filter p = l := List.filter_eq_self.2 h
theorem filt_no {α : Type} {l : List α} {p : α → Bool} (h : ∀ x ∈ l, p x = false) : l.filter p = [] := List.filter_eq_nil_iff.2 fun x hx => by rw [h x hx]; decide
theorem resolve_unR {x : Lma} (h : OKL x) : resolve (unR x) = x := by
  obtain ⟨nm, lv, cs, ls, qs, ps, c, l⟩ := x
  have hq : ∀ i ∈ (qs.map fun q => (⟨q.k, q.n, q.ls.map (getS ls), q.cs.map (getS cs)⟩ : Itm)), i.k ≠ 0 := fun i hi => by
    obtain ⟨q, hq, rfl⟩ := List.mem_map.1 hi
    exact (cnd_ok (h.qs q hq)).k0
  have hp : ∀ i ∈ (ps.map fun p => (⟨0, 0, p.ls.map (getS ls), [getS cs p.c]⟩ : Itm)), i.k = 0 := fun i hi => by
    obtain ⟨p, hp, rfl⟩ := List.mem_map.1 hi
    rfl
  unfold resolve unR
  simp only [List.filter_append]
  rw [filt_all (fun i hi => by simp [hq i hi]), filt_no (fun i hi => by simp [hp i hi]), filt_no (fun i hi => by simp [hq i hi]), filt_all (fun i hi => by simp [hp i hi]), List.append_nil, List.nil_append, List.map_map, List.map_map]
  have e1 : idxS cs (getS cs c) = c := idxS_get h.cs.2.1 h.c.1 h.c.2
  have e2 : idxS ls (getS ls l) = l := idxS_get h.ls.2.1 h.l.1 h.l.2
  rw [e1, e2]
  have e3 : qs.map ((fun i : Itm => (⟨i.k, idxs cs i.cs, idxs ls i.ls, i.n⟩ : Cnd)) ∘ fun q => ⟨q.k, q.n, q.ls.map (getS ls), q.cs.map (getS cs)⟩) = qs := by
    refine (List.map_congr_left fun q hq => ?_).trans (List.map_id _)
    have hk := cnd_ok (h.qs q hq)
    simp only [Function.comp, id]
    rw [idxs_get h.cs.2.1 (dif_rng hk.cs), idxs_get h.ls.2.1 (dif_rng hk.ls)]
  have e4 : ps.map ((fun i : Itm => (⟨(idxs cs i.cs)[0]?.getD 0, idxs ls i.ls⟩ : Prm)) ∘ fun p => ⟨0, 0, p.ls.map (getS ls), [getS cs p.c]⟩) = ps := by
    refine (List.map_congr_left fun p hp => ?_).trans (List.map_id _)
    simp only [Function.comp, id]
    have hc : 0 ≤ p.c ∧ p.c < cs.length := by
      have := List.all_eq_true.1 (dif_rng h.pc) p.c (List.mem_map.2 ⟨p, hp, rfl⟩)
      simpa using this
    rw [idxs_get h.ls.2.1 (dif_rng (h.ps p hp).1)]
    simp only [idxs, List.map_cons, List.map_nil, List.getElem?_cons_zero, Option.getD_some]
    rw [idxS_get h.cs.2.1 hc.1 hc.2]
  rw [e3, e4]
theorem named_unR {x : Lma} (h : OKL x) : named (unR x) = true := by
  unfold named unR
  simp only [Bool.and_eq_true]
  refine ⟨⟨?_, ?_⟩, ?_⟩
  · refine List.all_eq_true.2 fun i hi => ?_
    rcases List.mem_append.1 hi with hi | hi
    · obtain ⟨q, hq, rfl⟩ := List.mem_map.1 hi
      have hk := cnd_ok (h.qs q hq)
      simp only [Bool.and_eq_true]
      exact ⟨allIn_get h.cs.2.1 (dif_rng hk.cs), allIn_get h.ls.2.1 (dif_rng hk.ls)⟩
    · obtain ⟨p, hp, rfl⟩ := List.mem_map.1 hi
      simp only [Bool.and_eq_true]
      have hc := List.all_eq_true.1 (dif_rng h.pc) p.c (List.mem_map.2 ⟨p, hp, rfl⟩)
      exact ⟨allIn_get (ks := [p.c]) h.cs.2.1 (by simpa using hc), allIn_get h.ls.2.1 (dif_rng (h.ps p hp).1)⟩
  · exact allIn_get (ks := [x.c]) h.cs.2.1 (by simpa using h.c)
  · exact allIn_get (ks := [x.l]) h.ls.2.1 (by simpa using h.l)
end Go.AM
end
section
set_option maxRecDepth 20000
set_option linter.all false
namespace Go.AM
open Go.Proofs Go.Lib
def wtT (l : List Tkn) : Nat := (l.map fun t => (wordS t).length + 1).sum
def Wt {α : Type} (p : List Tkn → Rs α) (w : α → Nat) : Prop := ∀ l a r, p l = .ok a r → wtT l = w a + wtT r
theorem Wt.bd {α β : Type} {p : List Tkn → Rs α} {w : α → Nat} {f : α → List Tkn → Rs β} {v : β → Nat} (hp : Wt p w) (hf : ∀ a l b r, f a l = .ok b r → w a + wtT l = v b + wtT r) : Wt (fun l => (p l).bd f) v := fun l b r h => by
  have h : (p l).bd f = .ok b r := h
  cases hl : p l with
  | bad q => rw [hl] at h; cases h
  | ok a q =>
    rw [hl] at h
    rw [hp l a q hl]
    exact hf a q b r h
end Go.AM
end
section
set_option maxRecDepth 20000
set_option linter.all false
namespace Go.AM
open Go.Proofs Go.Lib
def printT (xs : List Lma) : List Tkn := (xs.map unR).flatMap drT
theorem mp_ok {α : Type} {x : Rs α} {a : α} {r : List Tkn} (h : x.mp bar = .ok a r) (hr : r = []) : x = .ok a [] := by
  cases x with
  | ok b q =>
    cases h
    have : q = [] := by simpa using hr
    rw [this]
  | bad q => cases h
theorem allF_bare {us ts : List Tkn} {ds : List Drf} (h : us.map bare = ts.map bare) (ht : allF ts = .ok ds []) : allF us = .ok ds [] := by
  refine mp_ok (r := []) ?_ rfl
  rw [← nt_allF, bar_bare h, nt_allF, ht]; rfl
theorem get_name {l : List Bs} (h : l.all nameS = true) {k : Int} (h0 : 0 ≤ k) (hk : k < l.length) : nameS (getS l k) = true := by
  unfold getS
  have hk' : k.toNat < l.length := by omega
  rw [List.getElem?_eq_getElem hk', Option.getD_some]
  exact List.all_eq_true.1 h _ (List.getElem_mem hk')
theorem mT_valid {ss : List Bs} (h : ss.all nameS = true) : (mT ss).all validS = true := by
  induction ss with
  | nil => rfl
  | cons s r ih =>
    simp only [List.all_cons, Bool.and_eq_true] at h
    have e : mT (s :: r) = kS [44] :: kI s :: mT r := rfl
    rw [e, List.all_cons, List.all_cons, ih h.2]
    have h1 : validS (kS [44]) = true := by decide
    have h2 : validS (kI s) = true := by unfold validS; rw [if_pos rfl]; simp [h.1]
    rw [h1, h2]; rfl
theorem nsT_valid {ss : List Bs} (h : ss.all nameS = true) : (nsT ss).all validS = true := by
  cases ss with
  | nil => rfl
  | cons s r =>
    simp only [List.all_cons, Bool.and_eq_true] at h
    have e : nsT (s :: r) = kI s :: mT r := rfl
    have h2 : validS (kI s) = true := by unfold validS; rw [if_pos rfl]; simp [h.1]
    rw [e, List.all_cons, mT_valid h.2, h2]; rfl
theorem kN_valid {v : Int} (h0 : 0 ≤ v) (h1 : v ≤ 1099511627776) : validS (kN v) = true := by
  unfold validS
  rw [if_neg (show ¬ (2 : Int) = 1 by decide), if_pos rfl]; simp [h0, h1]
theorem kI_valid {s : Bs} (h : nameS s = true) : validS (kI s) = true := by unfold validS; rw [if_pos rfl]; simp [h]
theorem itT_valid {i : Itm} (hn : 0 ≤ i.n ∧ i.n ≤ 1099511627776) (hc : i.cs.all nameS = true) (hl : i.ls.all nameS = true) : (itT i).all validS = true := by
  have hcs := nsT_valid hc
  have hls := nsT_valid hl
  have hN := kN_valid hn.1 hn.2
  have h58 : validS (kS [58]) = true := by decide
  unfold itT
  repeat' split
  all_goals simp only [List.all_cons, List.all_append, hcs, hls, hN, h58, Bool.and_true]
  all_goals decide
theorem map_names {l : List Bs} (h : l.all nameS = true) {ks : List Int} (hk : (ks.all fun k => decide (0 ≤ k) && decide (k < l.length)) = true) : (ks.map (getS l)).all nameS = true := by
  refine List.all_eq_true.2 fun s hs => ?_
  obtain ⟨k, hk2, rfl⟩ := List.mem_map.1 hs
  have := List.all_eq_true.1 hk k hk2
  simp only [Bool.and_eq_true, decide_eq_true_eq] at this
  exact get_name h this.1 this.2
theorem dist_filter (p : Int → Bool) : ∀ {l : List Int}, distinct l = true → distinct (l.filter p) = true
  | [], h => rfl
  | x :: r, h => by
    simp only [distinct, Bool.and_eq_true, Bool.not_eq_true'] at h
    rw [List.filter_cons]
    split
    · simp only [distinct, Bool.and_eq_true, Bool.not_eq_true']
      refine ⟨List.any_eq_false.2 fun y hy => ?_, dist_filter p h.2⟩
      exact List.any_eq_false.1 h.1 y (List.mem_filter.1 hy).1
    · exact dist_filter p h.2
theorem drop_one (a : Int) : ∀ {l : List Int}, distinct l = true → l.length ≤ (l.filter fun k => decide (k ≠ a)).length + 1
  | [], h => by simp
  | x :: r, h => by
    simp only [distinct, Bool.and_eq_true, Bool.not_eq_true'] at h
    rw [List.filter_cons]
    split
    · have := drop_one a h.2
      simp only [List.length_cons]; omega
    · rename_i hx
      have hx : x = a := by simpa using hx
      subst hx
      have : r.filter (fun k => decide (k ≠ x)) = r := List.filter_eq_self.2 fun y hy => by
        have := List.any_eq_false.1 h.1 y hy
        simpa using this
      rw [this]; simp
theorem pigeon : ∀ (n : Nat) (l : List Int), distinct l = true → (l.all fun k => decide (0 ≤ k) && decide (k < n)) = true → l.length ≤ n
  | 0, [], _, _ => Nat.le_refl _
  | 0, x :: r, _, h => by
    simp only [List.all_cons, Bool.and_eq_true, decide_eq_true_eq] at h
    omega
  | n + 1, l, hd, h => by
    have h1 := drop_one n hd
    have h2 := pigeon n (l.filter fun k => decide (k ≠ n)) (dist_filter _ hd) (List.all_eq_true.2 fun k hk => by
      obtain ⟨k1, k2⟩ := List.mem_filter.1 hk
      have := List.all_eq_true.1 h k k1
      simp only [Bool.and_eq_true, decide_eq_true_eq, ne_eq] at this k2 ⊢
      omega)
    omega
theorem drT_valid {x : Lma} (h : OKL x) : (drT (unR x)).all validS = true := by
  have his : ∀ i ∈ (unR x).is, (itT i).all validS = true := fun i hi => by
    rcases List.mem_append.1 hi with hi | hi
    · obtain ⟨q, hq, rfl⟩ := List.mem_map.1 hi
      have hk := cnd_ok (h.qs q hq)
      have hlen : q.cs.length ≤ 1000000 := by
        have h1 := hk.cs
        have hd : distinct q.cs = true := by
          unfold difI at h1; rw [Bool.and_eq_true] at h1; exact h1.2
        have hr := dif_rng h1
        have := pigeon x.cs.length q.cs hd hr
        have := h.cs.2.2.2
        omega
      refine itT_valid ?_ (map_names h.cs.1 (dif_rng hk.cs)) (map_names h.ls.1 (dif_rng hk.ls))
      rcases hk.kind with ⟨-, -, -, k4⟩ | ⟨-, -, k3⟩ | ⟨-, -, -, k4⟩ | ⟨-, -, -, k4⟩ | ⟨-, -, k3⟩ <;> simp only [] <;> omega
    · obtain ⟨p, hp, rfl⟩ := List.mem_map.1 hi
      have hc := List.all_eq_true.1 (dif_rng h.pc) p.c (List.mem_map.2 ⟨p, hp, rfl⟩)
      simp only [Bool.and_eq_true, decide_eq_true_eq] at hc
      refine itT_valid ⟨by simp, by simp⟩ ?_ (map_names h.ls.1 (dif_rng (h.ps p hp).1))
      simp only [List.all_cons, List.all_nil, Bool.and_true]
      exact get_name h.cs.1 hc.1 hc.2
  have his2 : (isT' (unR x).is).all validS = true := by
    refine List.all_eq_true.2 fun t ht => ?_
    obtain ⟨i, hi, ht⟩ := List.mem_flatMap.1 ht
    rcases List.mem_append.1 ht with ht | ht
    · exact List.all_eq_true.1 (his i hi) t ht
    · rw [List.mem_singleton.1 ht]; decide
  unfold drT
  simp only [List.all_append, List.all_cons, List.all_nil, his2, nsT_valid (show (unR x).cs.all nameS = true from h.cs.1), nsT_valid (show (unR x).ls.all nameS = true from h.ls.1), kI_valid (show nameS (unR x).nm = true from h.nm),
    kN_valid (v := (unR x).lv) (show 0 ≤ x.lv by have := h.lv; omega) (show x.lv ≤ 1099511627776 by have := h.lv; omega), kI_valid (show nameS (unR x).c = true from get_name h.cs.1 h.c.1 h.c.2), kI_valid (show nameS (unR x).l = true from get_name h.ls.1 h.l.1 h.l.2), Bool.and_true]
  decide
theorem printT_valid {xs : List Lma} (h : ∀ x ∈ xs, OKL x) : (printT xs).all validS = true := by
  refine List.all_eq_true.2 fun t ht => ?_
  obtain ⟨d, hd, ht⟩ := List.mem_flatMap.1 ht
  obtain ⟨x, hx, rfl⟩ := List.mem_map.1 hd
  exact List.all_eq_true.1 (drT_valid (h x hx)) t ht
theorem lemmas_back {xs : List Lma} (h : ∀ x ∈ xs, OKL x) (hn : xs.length ≤ 16) (hl : (join ((printT xs).map wordS) [32]).length ≤ 65536) : parseLm (join ((printT xs).map wordS) [32]) = ⟨xs, 0, 0⟩ := by
  obtain ⟨n, us, h1, h2⟩ := lx_words _ (printT_valid h)
  have h3 : allF us = .ok (xs.map unR) [] := allF_bare h2 (allF_T fun d hd => by
    obtain ⟨x, hx, rfl⟩ := List.mem_map.1 hd
    exact unR_ok (h x hx))
  have h3 : allR (us.length + 1) us = .ok (xs.map unR) [] := h3
  unfold parseLm
  rw [if_neg (by omega), h1]
  simp only [h3]
  have e1 : (xs.map unR).all named = true := List.all_eq_true.2 fun d hd => by
    obtain ⟨x, hx, rfl⟩ := List.mem_map.1 hd
    exact named_unR (h x hx)
  have e2 : (xs.map unR).map resolve = xs := by
    rw [List.map_map]
    exact (List.map_congr_left fun x hx => resolve_unR (h x hx)).trans (List.map_id _)
  have e3 : xs.all lemOK = true := List.all_eq_true.2 fun x hx => (lem_okl x).2 (h x hx)
  rw [List.length_map, if_neg (by omega), e1, e2, e3]; rfl
end Go.AM
end
section
set_option maxRecDepth 20000
set_option linter.all false
namespace Go.AM
open Go.Proofs Go.Lib
theorem bd_inv {α β : Type} {x : Rs α} {f : α → List Tkn → Rs β} {b : β} {r : List Tkn} (h : x.bd f = .ok b r) : ∃ a q, x = .ok a q ∧ f a q = .ok b r := by
  cases x with
  | ok a q => exact ⟨a, q, rfl, h⟩
  | bad q => cases h
def shape (i : Itm) : Prop := i.k = 0 → i.n = 0 ∧ ∃ a, i.cs = [a]
theorem item_shape {l r : List Tkn} {i : Itm} (h : itemR l = .ok i r) : shape i := by
  unfold itemR at h
  split at h
  · obtain ⟨_, _, _, h⟩ := bd_inv h; cases h; intro hk; simp at hk
  split at h
  · obtain ⟨_, _, _, h⟩ := bd_inv h; cases h; intro hk; simp at hk
  split at h
  · obtain ⟨_, _, _, h⟩ := bd_inv h; cases h; intro hk; simp at hk
  split at h
  · obtain ⟨_, _, _, h⟩ := bd_inv h; obtain ⟨_, _, _, h⟩ := bd_inv h; obtain ⟨_, _, _, h⟩ := bd_inv h; cases h; intro hk; simp at hk
  split at h
  · obtain ⟨_, _, _, h⟩ := bd_inv h; obtain ⟨_, _, _, h⟩ := bd_inv h; obtain ⟨_, _, _, h⟩ := bd_inv h; cases h; intro hk; simp at hk
  split at h
  · obtain ⟨_, _, _, h⟩ := bd_inv h; obtain ⟨_, _, _, h⟩ := bd_inv h; obtain ⟨_, _, _, h⟩ := bd_inv h; obtain ⟨_, _, _, h⟩ := bd_inv h; cases h; intro hk; simp at hk
  split at h
  · obtain ⟨_, _, _, h⟩ := bd_inv h; obtain ⟨_, _, _, h⟩ := bd_inv h; obtain ⟨_, _, _, h⟩ := bd_inv h; cases h; intro hk; exact ⟨rfl, _, rfl⟩
  · cases h
end Go.AM
end
section
set_option maxRecDepth 20000
set_option linter.all false
namespace Go.AM
open Go.Proofs Go.Lib
end Go.AM
end
section
set_option maxRecDepth 20000
set_option linter.all false
namespace Go.AM
open Go.Proofs Go.Lib
end Go.AM
end
section
set_option maxRecDepth 20000
set_option linter.all false
namespace Go.AM
open Go.Proofs Go.Lib
end Go.AM
end
