/-
  Declarations, plainly: what is declared, names resolved, grids, rules, what Check returns · Declarations, plainly: sorted lists, rules as the reference looks at them · Declarations, plainly: accepted declarations, with other names, a rule more, a rule less · Declarations, plainly: a rule more, a rule less, clues · Declarations, plainly: a name that no rule has; sums · Declarations, plainly: the rules about the way in which a grid is filled; what the laws say of Check · Declarations, plainly: small declarations · Declarations, plainly: a grid as the reference makes it · Declarations, plainly: where a number stands in a rising list · Declarations, plainly: names and their numbers, as a table that grows · Declarations, plainly: rising lists, cells by their numbers, two lists alike · What is told of functions, argument by argument; lists that grow, and objects beside one another · Declaratio.
  Conditions: none beyond those of its parts.
-/
import Derived.Test.YtpdnjncfblclfaaB4
import Derived.Test.YtpdnjncfblclfaaProg
import Derived.Test.YtpdnjncfblclfaaShelf
import Derived.Test.YtpdnjncfblclfaaB5

section
set_option maxRecDepth 20000
set_option linter.all false
namespace Go.AM
open Go.Proofs Go.Lib
structure DSym where
  nm : List UInt8
  v : Int
  deriving DecidableEq
structure DReg where
  nm : List UInt8
  ls : List (List Int)
  deriving DecidableEq
structure DClu where
  nm : List UInt8
  on : List UInt8
  fam : Int
  ty : Int
  lo : Int
  hi : Int
  deriving DecidableEq
structure DRul where
  nm : List UInt8
  on : List UInt8
  kind : Int
  fam : Int
  ns : List (List UInt8)
  os : List (List UInt8)
  set : Int
  oth : Int
  op : Int
  n : Int
  byN : List UInt8
  clue : Int
  deriving DecidableEq
structure Dcl where
  nm : List UInt8
  ver : Int
  sh : Int
  w : Int
  h : Int
  holes : List Int
  syms : List DSym
  regs : List DReg
  clus : List DClu
  ruls : List DRul
  deriving DecidableEq
def givenF : List (List UInt8) := [[99, 101, 108, 108, 115], [114, 111, 119, 115], [99, 111, 108, 117, 109, 110, 115], [100, 105, 97, 103, 111, 110, 97, 108, 115], [97, 114, 111, 117, 110, 100], [110, 101, 97, 114], [112, 97, 105, 114, 115], [97, 108, 108]]
def twiceD {α : Type} [DecidableEq α] : List α → Bool
  | [] => false
  | x :: r => (r.any fun y => decide (y = x)) || twiceD r
def famNs (d : Dcl) : List (List UInt8) := givenF ++ d.regs.map (·.nm)
def numOf (l : List (List UInt8)) (s : List UInt8) : Option Int := (l.findIdx? fun x => decide (x = s)).map fun (i : Nat) => (i : Int)
def setOf (l : List (List UInt8)) : List (List UInt8) → Option Int
  | [] => some 0
  | s :: r => match l.findIdx? (fun x => decide (x = s)), setOf l r with
    | some i, some n => some (Int.ofNat (Nat.lor (1 <<< i) n.toNat))
    | _, _ => none
def resClu (d : Dcl) (c : DClu) : Option DClu := (numOf (famNs d) c.on).map fun f => { c with fam := f }
def resRul (d : Dcl) (r : DRul) : Option DRul :=
  match (if r.on = [] then some 0 else numOf (famNs d) r.on), setOf (d.syms.map (·.nm)) r.ns, setOf (d.syms.map (·.nm)) r.os, (if r.byN = [] then some (-1) else numOf (d.clus.map (·.nm)) r.byN) with
  | some f, some a, some b, some c => some { r with fam := f, set := a, oth := b, clue := c }
  | _, _, _, _ => none
def allSome {α β : Type} (f : α → Option β) : List α → Option (List β)
  | [] => some []
  | x :: r => match f x, allSome f r with
    | some y, some s => some (y :: s)
    | _, _ => none
def resD (d : Dcl) : Except Int Dcl :=
  if 16 < d.syms.length then .error 2 else if twiceD (d.syms.map (·.nm)) then .error 161 else if twiceD (famNs d) then .error 161 else if twiceD (d.clus.map (·.nm)) then .error 161
  else match allSome (resClu d) d.clus with
    | none => .error 160
    | some cs => if twiceD (d.ruls.map (·.nm)) then .error 161 else match allSome (resRul d) d.ruls with
      | none => .error 160
      | some rs => .ok { d with clus := cs, ruls := rs }
def risingI : Int → List Int → Bool
  | _, [] => true
  | a, x :: r => decide (a < x) && risingI x r
def cellsG (sh w h : Int) (holes : List Int) : Option (List Int) :=
  if (sh = 1 ∨ sh = 2) ∧ 1 ≤ w ∧ w ≤ 16 ∧ 1 ≤ h ∧ h ≤ 16 ∧ (holes.length : Int) < w * h ∧ risingI (-1) holes = true ∧ (holes.all fun p => decide (p < w * h)) = true then
    some (((List.range (w * h).toNat).map fun (i : Nat) => (i : Int)).filter fun p => !holes.contains p)
  else none
def listOK (cells l : List Int) : Bool := (l.all fun p => cells.contains p) && !twiceD l && decide (1 ≤ l.length)
def alikeL (a b : List Int) : Bool := (a.all fun x => b.contains x) && b.all fun x => a.contains x
def pairTwice : List (List Int) → Bool
  | [] => false
  | x :: r => (r.any fun y => alikeL y x) || pairTwice r
def regE (cells : List Int) (r : DReg) : Int := if (decide (r.ls.length ≤ 64) && r.ls.all (listOK cells)) = false then 130 else if pairTwice r.ls = true then 161 else 0
def regsE (cells : List Int) : List DReg → Int
  | [] => 0
  | r :: s => if regE cells r = 0 then regsE cells s else regE cells r
def cluOK (c : DClu) : Bool :=
  if c.ty = 1 then decide (c.fam = 0) && decide (c.lo = 0) && decide (c.hi = 0)
  else if c.ty = 2 then decide (0 ≤ c.lo) && decide (c.lo ≤ c.hi) && decide (c.hi ≤ 65536)
  else if c.ty = 3 then (decide (1 ≤ c.fam) && decide (c.fam ≤ 3) || decide (8 ≤ c.fam)) && decide (c.lo = 0) && decide (c.hi = 0)
  else false
structure FormD where
  on : Bool := false
  set : Bool := false
  oth : Bool := false
  bnd : Bool := false
  num : Bool := false
  rdb : Bool := false
  knw : Bool := false
  clue : Int := 0
def formK (k : Int) : FormD :=
  if k = 1 then { on := true, rdb := true, knw := true } else if k = 2 then { on := true, set := true, bnd := true, rdb := true, knw := true }
  else if k = 3 then { on := true, bnd := true, rdb := true, knw := true } else if k = 4 then { on := true, rdb := true, knw := true }
  else if k = 5 then { on := true, set := true, rdb := true, knw := true, clue := 3 } else if k = 6 then { rdb := true, knw := true }
  else if k = 7 then { num := true, rdb := true, knw := true } else if k = 8 then { set := true, oth := true, rdb := true, knw := true }
  else if k = 9 then { set := true, rdb := true, knw := true } else if k = 10 then { set := true, rdb := true, knw := true }
  else if k = 11 then { rdb := true, knw := true, clue := 1 } else if k = 12 then { on := true, knw := true } else if k = 13 then { bnd := true, knw := true } else {}
def cluP (cl : List DClu) (r : DRul) (w : Int) : Bool := if r.clue < 0 ∨ (cl.length : Int) ≤ r.clue then false else match cl[r.clue.toNat]? with
  | some c => decide (c.ty = w) && (decide (w = 1) || decide (c.fam = r.fam))
  | none => false
def rulOK (cl : List DClu) (r : DRul) : Bool :=
  let f := formK r.kind
  if f.knw = false then false
  else if (f.on != decide (r.on ≠ [])) || (f.set != decide (r.set ≠ 0)) || (f.oth != decide (r.oth ≠ 0)) || (!f.on && decide (r.fam ≠ 0)) || (!f.set && decide (0 < r.ns.length)) || (!f.oth && decide (0 < r.os.length)) then false
  else if (f.bnd != (decide (1 ≤ r.op) && decide (r.op ≤ 3))) || (!f.bnd && decide (r.op ≠ 0)) || decide (r.n < 0) || decide (65536 < r.n) then false
  else if !(f.num || f.bnd && decide (r.byN = [])) && decide (r.n ≠ 0) then false
  else
    let want := if f.bnd && decide (r.byN ≠ []) then 2 else f.clue
    if want = 0 then decide (r.byN = []) && decide (r.clue = -1) else cluP cl r want
def manyC (rs : List DRul) (i : Nat) : Nat := (rs.filter fun r => decide (r.clue = (i : Int))).length
def formOK (d : Dcl) : Bool := (d.syms.all fun s => decide (0 ≤ s.v) && decide (s.v ≤ 99)) && d.ruls.all (rulOK d.clus) && ((List.range d.clus.length).all fun i => decide (manyC d.ruls i = 1)) && d.clus.all cluOK
def readR (r : DRul) : Bool := decide (1 ≤ r.kind) && decide (r.kind ≤ 11)
def unread (rs : List DRul) : List Int := ((List.range rs.length).filter fun i => match rs[i]? with | some r => !readR r | none => false).map fun (i : Nat) => (i : Int)
def limD (d : Dcl) : Bool := decide (0 < d.syms.length) && decide (d.syms.length ≤ 16) && decide (d.regs.length ≤ 4) && decide (d.clus.length ≤ 4) && decide (d.ruls.length ≤ 16)
def chkD (d : Dcl) : Int :=
  if limD d = false then 2 else match resD d with
    | .error e => e
    | .ok x => if x ≠ d then 170 else if d.ver < 1 ∨ 255 < d.ver then 170 else match cellsG d.sh d.w d.h d.holes with
      | none => 130
      | some cells => if regsE cells d.regs ≠ 0 then regsE cells d.regs else if formOK d = false then 170 else if unread d.ruls ≠ [] then 171 else 0
end Go.AM
end
section
set_option maxRecDepth 20000
set_option linter.all false
namespace Go.AM
open Go.Proofs Go.Lib
abbrev leI (x y : Int) : Bool := decide (x ≤ y)
theorem twice_nodup {α : Type} [DecidableEq α] : ∀ {l : List α}, twiceD l = false ↔ l.Nodup
  | [] => by simp [twiceD]
  | x :: r => by
    have ih := twice_nodup (l := r)
    simp only [twiceD, Bool.or_eq_false_iff, List.any_eq_false, decide_eq_true_eq, List.nodup_cons, ih]
    constructor
    · exact fun ⟨h1, h2⟩ => ⟨fun hx => h1 x hx rfl, h2⟩
    · exact fun ⟨h1, h2⟩ => ⟨fun y hy e => h1 (e ▸ hy), h2⟩
theorem alike_iff {a b : List Int} : alikeL a b = true ↔ ∀ x, x ∈ a ↔ x ∈ b := by
  unfold alikeL
  simp only [Bool.and_eq_true, List.all_eq_true, List.contains_iff_mem]
  exact ⟨fun ⟨h1, h2⟩ x => ⟨h1 x, h2 x⟩, fun h => ⟨fun x hx => (h x).1 hx, fun x hx => (h x).2 hx⟩⟩
theorem sortI_pw (l : List Int) : List.Pairwise (fun x y => x ≤ y) (l.mergeSort leI) := by
  have := List.pairwise_mergeSort (le := leI) (fun a b c h1 h2 => by simp only [leI, decide_eq_true_eq] at *; omega) (fun a b => by simp only [leI, Bool.or_eq_true, decide_eq_true_eq]; omega) l
  exact this.imp fun h => by simpa using h
theorem alike_sort {a b : List Int} (ha : a.Nodup) (hb : b.Nodup) : alikeL a b = decide (a.mergeSort leI = b.mergeSort leI) := by
  rw [Bool.eq_iff_iff, alike_iff, decide_eq_true_eq, ← List.perm_ext_iff_of_nodup ha hb]
  constructor
  · intro h
    have p : (a.mergeSort leI).Perm (b.mergeSort leI) := (List.mergeSort_perm a leI).trans (h.trans (List.mergeSort_perm b leI).symm)
    exact p.eq_of_pairwise (le := fun x y : Int => x ≤ y) (fun x y _ _ h1 h2 => by omega) (sortI_pw a) (sortI_pw b)
  · intro h
    exact (List.mergeSort_perm a leI).symm.trans (h ▸ List.mergeSort_perm b leI)
theorem form_cases (k : Int) : (formK k).knw = false ∨ ((k = 5 ∧ (formK k).clue = 3 ∧ (formK k).bnd = false ∧ (formK k).num = false) ∨ (k = 11 ∧ (formK k).clue = 1 ∧ (formK k).bnd = false ∧ (formK k).num = false) ∨ (k ≠ 5 ∧ k ≠ 11 ∧ (formK k).clue = 0 ∧ ((formK k).bnd = true → (formK k).num = false))) := by
  by_cases h : 1 ≤ k ∧ k ≤ 13
  · have : k = 1 ∨ k = 2 ∨ k = 3 ∨ k = 4 ∨ k = 5 ∨ k = 6 ∨ k = 7 ∨ k = 8 ∨ k = 9 ∨ k = 10 ∨ k = 11 ∨ k = 12 ∨ k = 13 := by omega
    rcases this with rfl | rfl | rfl | rfl | rfl | rfl | rfl | rfl | rfl | rfl | rfl | rfl | rfl <;> decide
  · left
    unfold formK
    repeat rw [if_neg (by omega)]
end Go.AM
end
section
set_option maxRecDepth 20000
set_option linter.all false
namespace Go.AM
open Go.Proofs Go.Lib
theorem allSome_self {α : Type} {f : α → Option α} : ∀ {l : List α}, allSome f l = some l ↔ ∀ x ∈ l, f x = some x
  | [] => by simp [allSome]
  | x :: r => by
    have ih := allSome_self (f := f) (l := r)
    simp only [allSome, List.mem_cons, forall_eq_or_imp, ← ih]
    cases h1 : f x with
    | none => simp
    | some y =>
      cases h2 : allSome f r with
      | none => simp
      | some s => simp
structure ResOK (d : Dcl) : Prop where
  n16 : d.syms.length ≤ 16
  ts : twiceD (d.syms.map (·.nm)) = false
  tf : twiceD (famNs d) = false
  tc : twiceD (d.clus.map (·.nm)) = false
  tr : twiceD (d.ruls.map (·.nm)) = false
  cl : ∀ c ∈ d.clus, resClu d c = some c
  ru : ∀ r ∈ d.ruls, resRul d r = some r
theorem resD_self {d : Dcl} : resD d = .ok d ↔ ResOK d := by
  constructor
  · intro h
    unfold resD at h
    split at h
    · cases h
    split at h
    · cases h
    split at h
    · cases h
    split at h
    · cases h
    rename_i h1 h2 h3 h4
    cases hc : allSome (resClu d) d.clus with
    | none => rw [hc] at h; cases h
    | some cs =>
      rw [hc] at h
      simp only at h
      split at h
      · cases h
      rename_i h5
      cases hr : allSome (resRul d) d.ruls with
      | none => rw [hr] at h; cases h
      | some rs =>
        rw [hr] at h
        simp only [Except.ok.injEq] at h
        have e1 : cs = d.clus := congrArg Dcl.clus h
        have e2 : rs = d.ruls := congrArg Dcl.ruls h
        subst e1; subst e2
        exact ⟨by omega, by simpa using h2, by simpa using h3, by simpa using h4, by simpa using h5, allSome_self.1 hc, allSome_self.1 hr⟩
  · intro h
    unfold resD
    rw [if_neg (by have := h.n16; omega), h.ts, h.tf, h.tc, allSome_self.2 h.cl]
    simp only [Bool.false_eq_true, if_false]
    rw [h.tr, allSome_self.2 h.ru]
    rfl
structure DclOK (d : Dcl) : Prop where
  lim : limD d = true
  res : ResOK d
  ver : 1 ≤ d.ver ∧ d.ver ≤ 255
  reg : ∃ cells, cellsG d.sh d.w d.h d.holes = some cells ∧ regsE cells d.regs = 0
  form : formOK d = true
theorem chk_pre {d : Dcl} (h : DclOK d) : chkD d = if unread d.ruls ≠ [] then 171 else 0 := by
  obtain ⟨cells, h1, h2⟩ := h.reg
  unfold chkD
  rw [h.lim, resD_self.2 h.res]
  simp only [Bool.true_eq_false, if_false, ne_eq, not_true_eq_false]
  rw [if_neg (by have := h.ver; omega), h1]
  simp only [h2, h.form, not_true_eq_false, if_false, Bool.true_eq_false]
theorem chk_zero {d : Dcl} : chkD d = 0 ↔ DclOK d ∧ unread d.ruls = [] := by
  constructor
  · intro h
    unfold chkD at h
    split at h
    · cases h
    rename_i h1
    cases hr : resD d with
    | error e =>
      rw [hr] at h
      simp only at h
      unfold resD at hr
      subst h
      split at hr
      · cases hr
      split at hr
      · cases hr
      split at hr
      · cases hr
      split at hr
      · cases hr
      split at hr
      · cases hr
      split at hr
      · cases hr
      split at hr <;> cases hr
    | ok x =>
      rw [hr] at h
      simp only at h
      split at h
      · cases h
      rename_i h2
      have h2 : x = d := by simpa using h2
      subst h2
      split at h
      · cases h
      rename_i h3
      cases hc : cellsG x.sh x.w x.h x.holes with
      | none => rw [hc] at h; cases h
      | some cells =>
        rw [hc] at h
        simp only at h
        split at h
        · rename_i h4; exact absurd h h4
        rename_i h4
        split at h
        · cases h
        rename_i h5
        split at h
        · cases h
        rename_i h6
        exact ⟨⟨by simpa using h1, resD_self.1 hr, by omega, ⟨cells, hc, by simpa using h4⟩, by simpa using h5⟩, by simpa using h6⟩
  · rintro ⟨h1, h2⟩
    rw [chk_pre h1, if_neg (by rw [h2]; exact fun h => h rfl)]
theorem res_nm (d : Dcl) (s : List UInt8) : resD { d with nm := s } = (match resD d with | .error e => .error e | .ok x => .ok { x with nm := s }) := by
  unfold resD
  have e1 : resClu { d with nm := s } = resClu d := rfl
  have e2 : resRul { d with nm := s } = resRul d := rfl
  have e3 : famNs { d with nm := s } = famNs d := rfl
  simp only [e1, e2, e3]
  split
  · rfl
  split
  · rfl
  split
  · rfl
  split
  · rfl
  cases allSome (resClu d) d.clus with
  | none => rfl
  | some cs =>
    simp only []
    split
    · rfl
    cases allSome (resRul d) d.ruls <;> rfl
theorem res_same {d x : Dcl} (h : resD d = .ok x) : x.nm = d.nm ∧ x.ver = d.ver ∧ x.sh = d.sh ∧ x.w = d.w ∧ x.h = d.h ∧ x.holes = d.holes ∧ x.syms = d.syms ∧ x.regs = d.regs := by
  unfold resD at h
  split at h
  · cases h
  split at h
  · cases h
  split at h
  · cases h
  split at h
  · cases h
  split at h
  · cases h
  split at h
  · cases h
  split at h
  · cases h
  · cases h; exact ⟨rfl, rfl, rfl, rfl, rfl, rfl, rfl, rfl⟩
theorem chk_nm (d : Dcl) (s : List UInt8) : chkD { d with nm := s } = chkD d := by
  unfold chkD
  rw [res_nm]
  have e1 : limD { d with nm := s } = limD d := rfl
  have e2 : formOK { d with nm := s } = formOK d := rfl
  rw [e1, e2]
  split
  · rfl
  cases hr : resD d with
  | error e => rfl
  | ok x =>
    simp only []
    have hn := (res_same hr).1
    have e3 : ({ x with nm := s } : Dcl) ≠ { d with nm := s } ↔ x ≠ d := by
      constructor
      · intro h e; subst e; exact h rfl
      · intro h e
        apply h
        obtain ⟨a, b, c, w, hh, ho, sy, rg, cl, ru⟩ := x
        obtain ⟨a', b', c', w', hh', ho', sy', rg', cl', ru'⟩ := d
        simp only at hn
        simp only [Dcl.mk.injEq, true_and] at e ⊢
        exact ⟨hn, e⟩
    by_cases h : x ≠ d
    · rw [if_pos h, if_pos (e3.2 h)]
    · rw [if_neg h, if_neg (fun q => h (e3.1 q))]
theorem dok_ver {d : Dcl} (h : DclOK d) {v : Int} (hv : 1 ≤ v ∧ v ≤ 255) : DclOK { d with ver := v } :=
  ⟨h.lim, ⟨h.res.n16, h.res.ts, h.res.tf, h.res.tc, h.res.tr, h.res.cl, h.res.ru⟩, hv, h.reg, h.form⟩
theorem chk_ver {d : Dcl} (h : chkD d = 0) (v : Int) : chkD { d with ver := v } = if v < 1 ∨ 255 < v then 170 else 0 := by
  obtain ⟨h1, h2⟩ := chk_zero.1 h
  split
  · rename_i hv
    unfold chkD
    have e1 : limD { d with ver := v } = limD d := rfl
    have e2 : resD { d with ver := v } = .ok { d with ver := v } := resD_self.2 ⟨h1.res.n16, h1.res.ts, h1.res.tf, h1.res.tc, h1.res.tr, h1.res.cl, h1.res.ru⟩
    rw [e1, h1.lim, e2]
    simp only [Bool.true_eq_false, if_false, ne_eq, not_true_eq_false]
    rw [if_pos hv]
  · rename_i hv
    exact chk_zero.2 ⟨dok_ver h1 (by omega), h2⟩
end Go.AM
end
section
set_option maxRecDepth 20000
set_option linter.all false
namespace Go.AM
open Go.Proofs Go.Lib
theorem unread_app (rs : List DRul) (r : DRul) : unread (rs ++ [r]) = unread rs ++ (if readR r = true then [] else [(rs.length : Int)]) := by
  unfold unread
  rw [List.length_append, List.length_singleton, List.range_succ, List.filter_append, List.map_append]
  congr 1
  · congr 1
    apply List.filter_congr
    intro i hi
    have := List.mem_range.1 hi
    rw [List.getElem?_append_left this]
  · rw [List.filter_cons, List.getElem?_append_right (Nat.le_refl _), Nat.sub_self]
    simp only [List.getElem?_cons_zero, List.filter_nil]
    by_cases h : readR r = true
    · simp [h]
    · simp [show readR r = false by simpa using h]
theorem unread_nil {rs : List DRul} : unread rs = [] ↔ ∀ r ∈ rs, readR r = true := by
  unfold unread
  rw [List.map_eq_nil_iff, List.filter_eq_nil_iff]
  constructor
  · intro h r hr
    obtain ⟨i, hi, rfl⟩ := List.mem_iff_getElem.1 hr
    have := h i (List.mem_range.2 hi)
    rw [List.getElem?_eq_getElem hi] at this
    simpa using this
  · intro h i hi
    have hi := List.mem_range.1 hi
    rw [List.getElem?_eq_getElem hi]
    simp [h _ (List.getElem_mem hi)]
theorem twice_app {α : Type} [DecidableEq α] {l : List α} {x : α} : twiceD (l ++ [x]) = false ↔ twiceD l = false ∧ x ∉ l := by
  rw [twice_nodup, twice_nodup, List.nodup_append]
  simp only [List.nodup_cons, List.not_mem_nil, not_false_eq_true, List.nodup_nil, and_self, true_and, List.mem_singleton]
  constructor
  · exact fun ⟨h1, h2⟩ => ⟨h1, fun hx => h2 x hx x rfl rfl⟩
  · exact fun ⟨h1, h2⟩ => ⟨h1, fun a ha b hb e => h2 (by rw [← hb, ← e]; exact ha)⟩
theorem many_app (rs : List DRul) (r : DRul) (i : Nat) (h : r.clue < 0) : manyC (rs ++ [r]) i = manyC rs i := by
  unfold manyC
  rw [List.filter_append, List.length_append]
  have : ¬ r.clue = (i : Int) := by omega
  simp [this]
abbrev withR (d : Dcl) (r : DRul) : Dcl := { d with ruls := d.ruls ++ [r] }
theorem form_and {d : Dcl} : formOK d = true ↔ (∀ s ∈ d.syms, 0 ≤ s.v ∧ s.v ≤ 99) ∧ (∀ r ∈ d.ruls, rulOK d.clus r = true) ∧ (∀ i, i < d.clus.length → manyC d.ruls i = 1) ∧ ∀ c ∈ d.clus, cluOK c = true := by
  unfold formOK
  simp only [Bool.and_eq_true, List.all_eq_true, decide_eq_true_eq, List.mem_range, and_assoc]
theorem chk_with {d : Dcl} {r : DRul} (h : chkD d = 0) (hl : d.ruls.length < 16) (hn : r.nm ∉ d.ruls.map (·.nm)) (hr : resRul d r = some r) (ho : rulOK d.clus r = true) (hc : r.clue < 0) (hd : readR r = false) :
    chkD (withR d r) = 171 ∧ unread (withR d r).ruls = [(d.ruls.length : Int)] := by
  obtain ⟨h1, h2⟩ := chk_zero.1 h
  have hu : unread (withR d r).ruls = [(d.ruls.length : Int)] := by
    show unread (d.ruls ++ [r]) = _
    rw [unread_app, h2, hd]; rfl
  obtain ⟨f1, f2, f3, f4⟩ := form_and.1 h1.form
  have hdc : DclOK (withR d r) := by
    refine ⟨?_, ⟨h1.res.n16, h1.res.ts, h1.res.tf, h1.res.tc, ?_, h1.res.cl, ?_⟩, h1.ver, h1.reg, form_and.2 ⟨f1, ?_, ?_, f4⟩⟩
    · have := h1.lim
      unfold limD at this ⊢
      simp only [Bool.and_eq_true, decide_eq_true_eq, List.length_append, List.length_singleton] at this ⊢
      omega
    · show twiceD ((d.ruls ++ [r]).map (·.nm)) = false
      rw [List.map_append, List.map_cons, List.map_nil, twice_app]
      exact ⟨h1.res.tr, hn⟩
    · intro x hx
      rcases List.mem_append.1 hx with hx | hx
      · exact h1.res.ru x hx
      · rw [List.mem_singleton.1 hx]; exact hr
    · intro x hx
      rcases List.mem_append.1 hx with hx | hx
      · exact f2 x hx
      · rw [List.mem_singleton.1 hx]; exact ho
    · intro i hi
      show manyC (d.ruls ++ [r]) i = 1
      rw [many_app _ _ _ hc]; exact f3 i hi
  refine ⟨?_, hu⟩
  rw [chk_pre hdc, if_pos (by rw [hu]; simp)]
def cutR {α : Type} (l : List α) (k : Nat) : List α := l.take k ++ l.drop (k + 1)
theorem cut_subR {α : Type} (l : List α) (k : Nat) : (cutR l k).Sublist l := by
  have h1 : (l.drop (k + 1)).Sublist (l.drop k) := by
    rw [← List.drop_drop]; exact List.drop_sublist _ _
  have := List.Sublist.append (List.Sublist.refl (l.take k)) h1
  rwa [List.take_append_drop] at this
theorem many_cut {rs : List DRul} {k : Nat} (hk : k < rs.length) (i : Nat) : manyC rs i = manyC (cutR rs k) i + (if rs[k].clue = (i : Int) then 1 else 0) := by
  have e : rs = rs.take k ++ rs[k] :: rs.drop (k + 1) := by rw [← List.drop_eq_getElem_cons hk, List.take_append_drop]
  conv => lhs; rw [e]
  unfold manyC cutR
  rw [List.filter_append, List.filter_append, List.filter_cons, List.length_append, List.length_append]
  by_cases h : rs[k].clue = (i : Int)
  · rw [if_pos h, if_pos (by simpa using h), List.length_cons]; omega
  · rw [if_neg h, if_neg (by simpa using h)]; omega
theorem numOf_rng {l : List (List UInt8)} {s : List UInt8} {n : Int} (h : numOf l s = some n) : 0 ≤ n ∧ n < l.length := by
  unfold numOf at h
  rw [Option.map_eq_some_iff] at h
  obtain ⟨i, h1, rfl⟩ := h
  have := List.findIdx?_eq_some_iff_getElem.1 h1
  obtain ⟨hi, -⟩ := this
  omega
theorem rul_clue {d : Dcl} {r : DRul} (h : resRul d r = some r) : (r.byN = [] → r.clue = -1) ∧ (r.byN ≠ [] → 0 ≤ r.clue ∧ r.clue < d.clus.length) := by
  unfold resRul at h
  split at h
  · rename_i f a b c h1 h2 h3 h4
    simp only [Option.some.injEq] at h
    have hc : c = r.clue := congrArg DRul.clue h
    subst hc
    constructor
    · intro hb
      rw [if_pos hb] at h4
      exact (Option.some.inj h4).symm
    · intro hb
      rw [if_neg hb] at h4
      have := numOf_rng h4
      rw [List.length_map] at this
      exact this
  · cases h
theorem chk_cut {d : Dcl} {k : Nat} (h : chkD d = 0) (hk : k < d.ruls.length) : chkD { d with ruls := cutR d.ruls k } = if d.ruls[k].byN ≠ [] then 170 else 0 := by
  obtain ⟨h1, h2⟩ := chk_zero.1 h
  have hsub := cut_subR d.ruls k
  obtain ⟨f1, f2, f3, f4⟩ := form_and.1 h1.form
  have hcl := rul_clue (h1.res.ru _ (List.getElem_mem hk))
  have hlim : limD { d with ruls := cutR d.ruls k } = true := by
    have := h1.lim
    have hle := hsub.length_le
    unfold limD at this ⊢
    simp only [Bool.and_eq_true, decide_eq_true_eq] at this ⊢
    omega
  have hres : ResOK { d with ruls := cutR d.ruls k } := ⟨h1.res.n16, h1.res.ts, h1.res.tf, h1.res.tc, twice_nodup.2 ((twice_nodup.1 h1.res.tr).sublist (hsub.map _)), h1.res.cl, fun r hr => h1.res.ru r (hsub.subset hr)⟩
  by_cases hb : d.ruls[k].byN = []
  · rw [if_neg (by simpa using hb)]
    have hc := hcl.1 hb
    refine chk_zero.2 ⟨⟨hlim, hres, h1.ver, h1.reg, form_and.2 ⟨f1, fun r hr => f2 r (hsub.subset hr), fun i hi => ?_, f4⟩⟩, unread_nil.2 fun r hr => unread_nil.1 h2 r (hsub.subset hr)⟩
    have := many_cut hk i
    rw [if_neg (by omega), f3 i hi] at this
    exact this.symm
  · rw [if_pos hb]
    obtain ⟨c0, c1⟩ := hcl.2 hb
    obtain ⟨cells, r1, r2⟩ := h1.reg
    have hf : formOK { d with ruls := cutR d.ruls k } = false := by
      cases q : formOK { d with ruls := cutR d.ruls k } with
      | false => rfl
      | true =>
        obtain ⟨-, -, g3, -⟩ := form_and.1 q
        have e1 := many_cut hk d.ruls[k].clue.toNat
        have e2 := f3 d.ruls[k].clue.toNat (by omega)
        have e3 := g3 d.ruls[k].clue.toNat (by show _ < d.clus.length; omega)
        rw [if_pos (by omega)] at e1
        have e3 : manyC (cutR d.ruls k) d.ruls[k].clue.toNat = 1 := e3
        omega
    unfold chkD
    rw [hlim, resD_self.2 hres]
    simp only [Bool.true_eq_false, if_false, ne_eq, not_true_eq_false]
    rw [if_neg (by have := h1.ver; omega), r1]
    simp only [r2, hf, not_true_eq_false, if_false, if_true]
theorem cluP_true {cl : List DClu} {r : DRul} {w : Int} {i : Nat} (h : cluP cl r w = true) (hc : r.clue = (i : Int)) : ∃ c, cl[i]? = some c ∧ c.ty = w ∧ (w = 1 ∨ c.fam = r.fam) := by
  unfold cluP at h
  rw [hc] at h
  split at h
  · cases h
  · simp only [Int.toNat_natCast] at h
    cases hg : cl[i]? with
    | none => rw [hg] at h; cases h
    | some c =>
      rw [hg] at h
      simp only [Bool.and_eq_true, Bool.or_eq_true, decide_eq_true_eq] at h
      exact ⟨c, rfl, h.1, h.2⟩
theorem form_bnd {k : Int} (h : (formK k).bnd = true) : k = 2 ∨ k = 3 ∨ k = 13 := by
  by_cases hk : 1 ≤ k ∧ k ≤ 13
  · have : k = 1 ∨ k = 2 ∨ k = 3 ∨ k = 4 ∨ k = 5 ∨ k = 6 ∨ k = 7 ∨ k = 8 ∨ k = 9 ∨ k = 10 ∨ k = 11 ∨ k = 12 ∨ k = 13 := by omega
    rcases this with rfl | rfl | rfl | rfl | rfl | rfl | rfl | rfl | rfl | rfl | rfl | rfl | rfl <;> revert h <;> decide
  · exfalso
    revert h
    unfold formK
    repeat rw [if_neg (by omega)]
    decide
theorem rul_kind {cl : List DClu} {r : DRul} {i : Nat} (h : rulOK cl r = true) (hc : r.clue = (i : Int)) :
    ∃ c, cl[i]? = some c ∧ (((r.kind = 2 ∨ r.kind = 3) ∧ c.ty = 2 ∧ c.fam = r.fam ∧ r.n = 0) ∨ (r.kind = 5 ∧ c.ty = 3 ∧ c.fam = r.fam) ∨ (r.kind = 11 ∧ c.ty = 1) ∨ r.kind = 13) := by
  unfold rulOK at h
  simp only [] at h
  split at h
  · cases h
  split at h
  · cases h
  split at h
  · cases h
  split at h
  · cases h
  rename_i k1 k2 k3 k4
  generalize hw : (if ((formK r.kind).bnd && decide (r.byN ≠ [])) = true then (2 : Int) else (formK r.kind).clue) = w at h
  split at h
  · simp only [Bool.and_eq_true, decide_eq_true_eq] at h; omega
  · rename_i k5
    obtain ⟨c, h1, h2, h3⟩ := cluP_true h hc
    refine ⟨c, h1, ?_⟩
    rcases form_cases r.kind with q | ⟨q1, q2, q3, q4⟩ | ⟨q1, q2, q3, q4⟩ | ⟨q1, q2, q3, q4⟩
    · exact absurd q k1
    · rw [q2, q3] at hw
      simp only [Bool.false_and, Bool.false_eq_true, if_false] at hw
      subst hw
      exact .inr (.inl ⟨q1, h2, h3.resolve_left (by decide)⟩)
    · rw [q2, q3] at hw
      simp only [Bool.false_and, Bool.false_eq_true, if_false] at hw
      subst hw
      exact .inr (.inr (.inl ⟨q1, h2⟩))
    · have hb : ((formK r.kind).bnd && decide (r.byN ≠ [])) = true := by
        cases hb : ((formK r.kind).bnd && decide (r.byN ≠ [])) with
        | true => rfl
        | false => rw [hb, q3] at hw; simp at hw; exact absurd hw.symm k5
      rw [hb] at hw
      simp only [if_true] at hw
      subst hw
      rw [Bool.and_eq_true, decide_eq_true_eq] at hb
      have hn : r.n = 0 := by
        rw [q4 hb.1, hb.1] at k4
        simpa [hb.2] using k4
      rcases form_bnd hb.1 with e | e | e
      · exact .inl ⟨.inl e, h2, h3.resolve_left (by decide), hn⟩
      · exact .inl ⟨.inr e, h2, h3.resolve_left (by decide), hn⟩
      · exact .inr (.inr (.inr e))
end Go.AM
end
section
set_option maxRecDepth 20000
set_option linter.all false
namespace Go.AM
open Go.Proofs Go.Lib
abbrev nnn (k : Nat) : List UInt8 := List.replicate k 110
def passF (l : List (List UInt8)) (k : Nat) : Nat := l.foldl (fun k x => if x = nnn k then k + 1 else k) k
def iterF (l : List (List UInt8)) : Nat → Nat
  | 0 => 1
  | i + 1 => passF l (iterF l i)
theorem pass_ge : ∀ (l : List (List UInt8)) (k : Nat), k ≤ passF l k
  | [], k => Nat.le_refl k
  | x :: r, k => by
    unfold passF
    rw [List.foldl_cons]
    split
    · exact Nat.le_trans (Nat.le_succ k) (pass_ge r (k + 1))
    · exact pass_ge r k
theorem pass_no : ∀ {l : List (List UInt8)} {k : Nat}, nnn k ∉ l → passF l k = k
  | [], k, _ => rfl
  | x :: r, k, h => by
    unfold passF
    rw [List.foldl_cons, if_neg (fun e => h (by rw [e]; simp))]
    exact pass_no (l := r) fun q => h (by simp [q])
theorem pass_yes : ∀ {l : List (List UInt8)} {k : Nat}, nnn k ∈ l → k < passF l k
  | x :: r, k, h => by
    unfold passF
    rw [List.foldl_cons]
    by_cases e : x = nnn k
    · rw [if_pos e]; exact pass_ge r (k + 1)
    · rw [if_neg e]
      refine pass_yes (l := r) ?_
      rcases List.mem_cons.1 h with h | h
      · exact absurd h.symm e
      · exact h
def cntF (l : List (List UInt8)) (k : Nat) : Nat := l.countP fun x => decide (x.length < k)
theorem cnt_mono {l : List (List UInt8)} {a b : Nat} (h : a ≤ b) : cntF l a ≤ cntF l b :=
  List.countP_mono_left fun x _ hx => by simp only [decide_eq_true_eq] at hx ⊢; omega
theorem cnt_hit : ∀ {l : List (List UInt8)} {k : Nat}, nnn k ∈ l → cntF l k + 1 ≤ cntF l (k + 1)
  | x :: r, k, h => by
    unfold cntF
    rw [List.countP_cons, List.countP_cons]
    have hm : cntF r k ≤ cntF r (k + 1) := cnt_mono (Nat.le_succ k)
    unfold cntF at hm
    by_cases e : x = nnn k
    · have hl : x.length = k := by rw [e]; simp
      rw [if_neg (by simp; omega), if_pos (by simp; omega)]; omega
    · have ih := cnt_hit (l := r) (k := k) (by
        rcases List.mem_cons.1 h with h | h
        · exact absurd h.symm e
        · exact h)
      unfold cntF at ih
      by_cases h1 : x.length < k
      · rw [if_pos (by simpa using h1), if_pos (by simp; omega)]; omega
      · rw [if_neg (by simpa using h1)]; omega
theorem iter_inv (l : List (List UInt8)) : ∀ i, nnn (iterF l i) ∉ l ∨ i ≤ cntF l (iterF l i)
  | 0 => .inr (Nat.zero_le _)
  | i + 1 => by
    show nnn (passF l (iterF l i)) ∉ l ∨ _
    by_cases h : nnn (iterF l i) ∈ l
    · right
      have h1 := (iter_inv l i).resolve_left fun q => q h
      have h2 := cnt_hit h
      have h3 : cntF l (iterF l i + 1) ≤ cntF l (iterF l (i + 1)) := cnt_mono (pass_yes h)
      omega
    · left
      rw [pass_no h]; exact h
theorem fresh_no (l : List (List UInt8)) : nnn (iterF l l.length) ∉ l := by
  rcases iter_inv l l.length with h | h
  · exact h
  · intro hm
    have hall : ∀ x ∈ l, decide (x.length < iterF l l.length) = true := by
      have hle : cntF l (iterF l l.length) ≤ l.length := List.countP_le_length
      have e : l.countP (fun x => decide (x.length < iterF l l.length)) = l.length := by
        have : cntF l (iterF l l.length) = l.length := by omega
        exact this
      exact List.countP_eq_length.1 e
    have := hall _ hm
    simp at this
def pickS (syms : List DSym) (set : Int → Bool) : List Int := (((syms.take 16).zipIdx).filter fun p => set p.2).map fun p => p.1.v
def sumS (syms : List DSym) (set : Int → Bool) (n : Int) : Int × Int × Bool :=
  if n < 0 ∨ 256 < n then (0, 0, false) else match pickS syms set with
    | [] => (0, 0, false)
    | v :: r => if ((v :: r).all fun v => decide (0 ≤ v) && decide (v ≤ 99)) = false then (0, 0, false) else (n * r.foldl min v, n * r.foldl max v, true)
theorem foldl_min : ∀ (r : List Int) (v : Int), r.foldl min v ≤ v ∧ (∀ x ∈ r, r.foldl min v ≤ x) ∧ (r.foldl min v = v ∨ r.foldl min v ∈ r)
  | [], v => by simp
  | y :: r, v => by
    obtain ⟨h1, h2, h3⟩ := foldl_min r (min v y)
    rw [List.foldl_cons]
    refine ⟨by omega, fun x hx => ?_, ?_⟩
    · rcases List.mem_cons.1 hx with rfl | hx
      · omega
      · exact h2 x hx
    · rcases h3 with h3 | h3
      · by_cases q : v ≤ y
        · exact .inl (by omega)
        · exact .inr (by rw [h3, show min v y = y by omega]; simp)
      · exact .inr (by simp [h3])
theorem foldl_max : ∀ (r : List Int) (v : Int), v ≤ r.foldl max v ∧ (∀ x ∈ r, x ≤ r.foldl max v) ∧ (r.foldl max v = v ∨ r.foldl max v ∈ r)
  | [], v => by simp
  | y :: r, v => by
    obtain ⟨h1, h2, h3⟩ := foldl_max r (max v y)
    rw [List.foldl_cons]
    refine ⟨by omega, fun x hx => ?_, ?_⟩
    · rcases List.mem_cons.1 hx with rfl | hx
      · omega
      · exact h2 x hx
    · rcases h3 with h3 | h3
      · by_cases q : v ≤ y
        · exact .inr (by rw [h3, show max v y = y by omega]; simp)
        · exact .inl (by omega)
      · exact .inr (by simp [h3])
theorem sum_rng {lo hi : Int} : ∀ {l : List Int}, (∀ x ∈ l, lo ≤ x ∧ x ≤ hi) → (l.length : Int) * lo ≤ l.sum ∧ l.sum ≤ (l.length : Int) * hi
  | [], _ => by simp
  | x :: r, h => by
    obtain ⟨h1, h2⟩ := sum_rng (l := r) fun y hy => h y (by simp [hy])
    have := h x (by simp)
    rw [List.length_cons, List.sum_cons, Int.natCast_succ, Int.add_mul, Int.add_mul]
    omega
end Go.AM
end
section
set_option maxRecDepth 20000
set_option linter.all false
namespace Go.AM
open Go.Proofs Go.Lib
def fillR (nm : List UInt8) : DRul := ⟨nm, [114, 111, 119, 115], 12, 1, [], [], 0, 0, 0, 0, [], -1⟩
def stepR (nm : List UInt8) (op n : Int) : DRul := ⟨nm, [], 13, 0, [], [], 0, 0, op, n, [], -1⟩
theorem rows_1 (d : Dcl) : numOf (famNs d) [114, 111, 119, 115] = some 1 := by
  unfold numOf famNs givenF
  rw [List.cons_append, List.findIdx?_cons, if_neg (by decide), List.cons_append, List.findIdx?_cons, if_pos (by decide)]
  rfl
theorem fill_ok (d : Dcl) (nm : List UInt8) : resRul d (fillR nm) = some (fillR nm) ∧ rulOK d.clus (fillR nm) = true ∧ (fillR nm).clue < 0 ∧ readR (fillR nm) = false := by
  refine ⟨?_, ?_, by show (-1 : Int) < 0; decide, rfl⟩
  · unfold resRul fillR
    simp only [rows_1, setOf, if_true]
    rfl
  · rfl
theorem step_ok (d : Dcl) (nm : List UInt8) {op n : Int} (h1 : 1 ≤ op) (h2 : op ≤ 3) (h3 : 0 ≤ n) (h4 : n ≤ 65536) : resRul d (stepR nm op n) = some (stepR nm op n) ∧ rulOK d.clus (stepR nm op n) = true ∧ (stepR nm op n).clue < 0 ∧ readR (stepR nm op n) = false := by
  refine ⟨?_, ?_, by show (-1 : Int) < 0; decide, rfl⟩
  · unfold resRul stepR
    simp only [setOf, if_true]
  · unfold rulOK
    have hf : formK (stepR nm op n).kind = { bnd := true, knw := true } := rfl
    rw [hf]
    have e1 : ¬ n < 0 := by omega
    have e2 : ¬ 65536 < n := by omega
    simp [stepR, h1, h2, e1, e2]
theorem law_fill {d : Dcl} (h : chkD d = 0) (hl : d.ruls.length < 16) {nm : List UInt8} (hn : nm ∉ d.ruls.map (·.nm)) : chkD (withR d (fillR nm)) = 171 ∧ unread (withR d (fillR nm)).ruls = [(d.ruls.length : Int)] := by
  obtain ⟨h1, h2, h3, h4⟩ := fill_ok d nm
  exact chk_with h hl hn h1 h2 h3 h4
theorem law_step {d : Dcl} (h : chkD d = 0) (hl : d.ruls.length < 16) {nm : List UInt8} (hn : nm ∉ d.ruls.map (·.nm)) {op n : Int} (h1 : 1 ≤ op) (h2 : op ≤ 3) (h3 : 0 ≤ n) (h4 : n ≤ 65536) : chkD (withR d (stepR nm op n)) = 171 ∧ unread (withR d (stepR nm op n)).ruls = [(d.ruls.length : Int)] := by
  obtain ⟨k1, k2, k3, k4⟩ := step_ok d nm h1 h2 h3 h4
  exact chk_with h hl hn k1 k2 k3 k4
theorem law_clues {d : Dcl} (h : chkD d = 0) {i : Nat} {c : DClu} (hc : d.clus[i]? = some c) : manyC d.ruls i = 1 ∧ ∀ r ∈ d.ruls, r.clue = (i : Int) →
    ((r.kind = 2 ∨ r.kind = 3) ∧ c.ty = 2 ∧ c.fam = r.fam ∧ 0 ≤ c.lo ∧ c.lo ≤ c.hi ∧ r.n = 0) ∨ (r.kind = 5 ∧ c.ty = 3 ∧ c.fam = r.fam) ∨ (r.kind = 11 ∧ c.ty = 1 ∧ c.fam = 0) := by
  obtain ⟨h1, h2⟩ := chk_zero.1 h
  obtain ⟨f1, f2, f3, f4⟩ := form_and.1 h1.form
  obtain ⟨hi, rfl⟩ := List.getElem?_eq_some_iff.1 hc
  refine ⟨f3 i hi, fun r hr he => ?_⟩
  have hrd := unread_nil.1 h2 r hr
  unfold readR at hrd
  rw [Bool.and_eq_true, decide_eq_true_eq, decide_eq_true_eq] at hrd
  have hco := f4 _ (List.getElem_mem hi)
  unfold cluOK at hco
  obtain ⟨c, k1, k2⟩ := rul_kind (f2 r hr) he
  rw [hc] at k1
  cases k1
  rcases k2 with ⟨q1, q2, q3, q4⟩ | ⟨q1, q2, q3⟩ | ⟨q1, q2⟩ | q1
  · rw [if_neg (by omega), if_pos q2] at hco
    simp only [Bool.and_eq_true, decide_eq_true_eq] at hco
    exact .inl ⟨q1, q2, q3, hco.1.1, hco.1.2, q4⟩
  · exact .inr (.inl ⟨q1, q2, q3⟩)
  · rw [if_pos q2] at hco
    simp only [Bool.and_eq_true, decide_eq_true_eq] at hco
    exact .inr (.inr ⟨q1, q2, hco.1.1⟩)
  · omega
theorem pick_cases (syms : List DSym) (set : Int → Bool) (n : Int) :
    (sumS syms set n = (0, 0, false) ∧ (n < 0 ∨ 256 < n ∨ pickS syms set = [] ∨ ∃ v ∈ pickS syms set, v < 0 ∨ 99 < v)) ∨
    (∃ v r, pickS syms set = v :: r ∧ sumS syms set n = (n * r.foldl min v, n * r.foldl max v, true)) := by
  unfold sumS
  split
  · rename_i h; exact .inl ⟨rfl, h.elim .inl fun q => .inr (.inl q)⟩
  cases hp : pickS syms set with
  | nil => exact .inl ⟨rfl, .inr (.inr (.inl rfl))⟩
  | cons v r =>
    simp only []
    split
    · rename_i h
      obtain ⟨x, hx, h2⟩ := List.all_eq_false.1 h
      exact .inl ⟨rfl, .inr (.inr (.inr ⟨x, hx, by simp only [Bool.and_eq_true, decide_eq_true_eq] at h2; omega⟩))⟩
    · exact .inr ⟨v, r, rfl, rfl⟩
theorem law_sums {v : Int} {r l : List Int} (h : ∀ x ∈ l, x ∈ v :: r) : (l.length : Int) * r.foldl min v ≤ l.sum ∧ l.sum ≤ (l.length : Int) * r.foldl max v ∧ r.foldl min v ∈ v :: r ∧ r.foldl max v ∈ v :: r := by
  obtain ⟨a1, a2, a3⟩ := foldl_min r v
  obtain ⟨b1, b2, b3⟩ := foldl_max r v
  obtain ⟨s1, s2⟩ := sum_rng (lo := r.foldl min v) (hi := r.foldl max v) (l := l) fun x hx => by
    rcases List.mem_cons.1 (h x hx) with rfl | q
    · exact ⟨a1, b1⟩
    · exact ⟨a2 x q, b2 x q⟩
  exact ⟨s1, s2, by rcases a3 with q | q <;> simp [q], by rcases b3 with q | q <;> simp [q]⟩
end Go.AM
end
section
set_option maxRecDepth 20000
set_option linter.all false
namespace Go.AM
open Go.Proofs Go.Lib
def addW (n : Nat) (l : List Nat) : Nat := l.foldl (fun n x => if n < 2000 then n + x else n) n
theorem addW_cons (n x : Nat) (r : List Nat) : addW n (x :: r) = addW (if n < 2000 then n + x else n) r := rfl
theorem addW_lt : ∀ {l : List Nat} {n : Nat}, addW n l < 2000 → n < 2000 ∧ ∀ x ∈ l, x < 2000
  | [], n, h => ⟨h, fun x hx => by cases hx⟩
  | x :: r, n, h => by
    rw [addW_cons] at h
    obtain ⟨h1, h2⟩ := addW_lt h
    have hn : n < 2000 := by
      split at h1
      · assumption
      · exact h1
    rw [if_pos hn] at h1
    refine ⟨hn, fun y hy => ?_⟩
    rcases List.mem_cons.1 hy with rfl | hy
    · omega
    · exact h2 y hy
def addG {α : Type} (own : α → Nat) (parts : List (α → List Nat)) (n : Nat) (l : List α) : Nat :=
  l.foldl (fun n x => if n < 2000 then parts.foldl (fun n p => addW n (p x)) (n + own x) else n) n
theorem parts_lt {α : Type} (x : α) : ∀ {parts : List (α → List Nat)} {n : Nat}, parts.foldl (fun n p => addW n (p x)) n < 2000 → n < 2000 ∧ ∀ p ∈ parts, ∀ y ∈ p x, y < 2000
  | [], n, h => ⟨h, fun p hp => by cases hp⟩
  | p :: r, n, h => by
    rw [List.foldl_cons] at h
    obtain ⟨h1, h2⟩ := parts_lt x h
    obtain ⟨h3, h4⟩ := addW_lt h1
    refine ⟨h3, fun q hq => ?_⟩
    rcases List.mem_cons.1 hq with rfl | hq
    · exact h4
    · exact h2 q hq
theorem addG_lt {α : Type} {own : α → Nat} {parts : List (α → List Nat)} : ∀ {l : List α} {n : Nat}, addG own parts n l < 2000 → n < 2000 ∧ ∀ x ∈ l, own x < 2000 ∧ ∀ p ∈ parts, ∀ y ∈ p x, y < 2000
  | [], n, h => ⟨h, fun x hx => by cases hx⟩
  | x :: r, n, h => by
    unfold addG at h
    rw [List.foldl_cons] at h
    obtain ⟨h1, h2⟩ := addG_lt (l := r) h
    have hn : n < 2000 := by
      split at h1
      · assumption
      · exact h1
    rw [if_pos hn] at h1
    obtain ⟨h3, h4⟩ := parts_lt x h1
    refine ⟨hn, fun y hy => ?_⟩
    rcases List.mem_cons.1 hy with rfl | hy
    · exact ⟨by omega, h4⟩
    · exact h2 y hy
def fewN (d : Dcl) : Nat :=
  let n := d.nm.length + d.holes.length + d.syms.length + d.regs.length + d.clus.length + d.ruls.length
  let n := addW n (d.syms.map fun s => s.nm.length)
  let n := addG (fun r : DReg => r.nm.length + r.ls.length) [fun r => r.ls.map (·.length)] n d.regs
  let n := addW n (d.clus.map fun c => c.nm.length + c.on.length)
  addG (fun r : DRul => r.nm.length + r.on.length + r.byN.length + r.ns.length + r.os.length) [fun r => r.ns.map (·.length), fun r => r.os.map (·.length)] n d.ruls
def few17 (d : Dcl) : Bool := decide (fewN d < 2000)
structure SmallD (d : Dcl) : Prop where
  top : d.nm.length + d.holes.length + d.syms.length + d.regs.length + d.clus.length + d.ruls.length < 2000
  sy : ∀ s ∈ d.syms, s.nm.length < 2000
  rg : ∀ r ∈ d.regs, r.nm.length + r.ls.length < 2000 ∧ ∀ l ∈ r.ls, l.length < 2000
  cl : ∀ c ∈ d.clus, c.nm.length + c.on.length < 2000
  ru : ∀ r ∈ d.ruls, r.nm.length + r.on.length + r.byN.length + r.ns.length + r.os.length < 2000 ∧ (∀ s ∈ r.ns, s.length < 2000) ∧ ∀ s ∈ r.os, s.length < 2000
theorem few_small {d : Dcl} (h : few17 d = true) : SmallD d := by
  unfold few17 fewN at h
  rw [decide_eq_true_eq] at h
  simp only [] at h
  obtain ⟨h, hr⟩ := addG_lt h
  obtain ⟨h, hc⟩ := addW_lt h
  obtain ⟨h, hg⟩ := addG_lt h
  obtain ⟨h, hs⟩ := addW_lt h
  refine ⟨h, fun s hs' => hs _ (List.mem_map_of_mem (f := fun s : DSym => s.nm.length) hs'), fun r hr' => ?_, fun c hc' => hc _ (List.mem_map_of_mem (f := fun c : DClu => c.nm.length + c.on.length) hc'), fun r hr' => ?_⟩
  · obtain ⟨a, b⟩ := hg r hr'
    exact ⟨a, fun l hl => b (fun r => r.ls.map (·.length)) (by simp) _ (List.mem_map_of_mem (f := List.length) hl)⟩
  · obtain ⟨a, b⟩ := hr r hr'
    exact ⟨a, fun s hs' => b (fun r => r.ns.map (·.length)) (by simp) _ (List.mem_map_of_mem (f := List.length) hs'), fun s hs' => b (fun r => r.os.map (·.length)) (by simp) _ (List.mem_map_of_mem (f := List.length) hs')⟩
end Go.AM
end
section
set_option maxRecDepth 20000
set_option linter.all false
namespace Go.AM
open Go.Proofs Go.Lib
theorem rising_iff : ∀ {a : Int} {l : List Int}, risingI a l = true ↔ (∀ x ∈ l, a < x) ∧ List.Pairwise (fun x y => x < y) l
  | a, [] => by simp [risingI]
  | a, x :: r => by
    have ih := rising_iff (a := x) (l := r)
    simp only [risingI, Bool.and_eq_true, decide_eq_true_eq, ih, List.mem_cons, forall_eq_or_imp, List.pairwise_cons]
    constructor
    · exact fun ⟨h1, h2, h3⟩ => ⟨⟨h1, fun y hy => by have := h2 y hy; omega⟩, h2, h3⟩
    · exact fun ⟨⟨h1, h2⟩, h3, h4⟩ => ⟨h1, h3, h4⟩
def allPos (n : Int) : List Int := (List.range n.toNat).map fun (i : Nat) => (i : Int)
theorem mem_all {n x : Int} : x ∈ allPos n ↔ 0 ≤ x ∧ x < n := by
  unfold allPos
  rw [List.mem_map]
  constructor
  · rintro ⟨i, hi, rfl⟩
    have := List.mem_range.1 hi
    omega
  · intro h
    exact ⟨x.toNat, List.mem_range.2 (by omega), by omega⟩
theorem all_len (n : Int) : (allPos n).length = n.toNat := by simp [allPos]
theorem cells_rise {sh w h : Int} {holes cells : List Int} (hc : cellsG sh w h holes = some cells) : List.Pairwise (fun x y => x < y) cells ∧ cells.length ≤ 256 ∧ ∀ x ∈ cells, 0 ≤ x ∧ x < 256 := by
  unfold cellsG at hc
  split at hc
  · rename_i hcond
    obtain ⟨-, a, b, c, d, -⟩ := hcond
    cases hc
    have hwh : w * h ≤ 256 := by
      have : w * h ≤ 16 * 16 := Int.mul_le_mul b d (by omega) (by omega)
      omega
    have hpw : List.Pairwise (fun x y : Int => x < y) (allPos (w * h)) := by
      unfold allPos
      rw [List.pairwise_map]
      exact List.pairwise_lt_range.imp fun q => by omega
    refine ⟨hpw.sublist List.filter_sublist, ?_, fun x hx => ?_⟩
    · have h1 := List.length_filter_le (fun p => !holes.contains p) (allPos (w * h))
      rw [all_len] at h1
      have : ((allPos (w * h)).filter fun p => !holes.contains p).length ≤ 256 := by omega
      exact this
    · have := mem_all.1 (List.mem_filter.1 hx).1
      omega
  · cases hc
end Go.AM
end
section
set_option maxRecDepth 20000
set_option linter.all false
namespace Go.AM
open Go.Proofs Go.Lib
def lowB (l : List Int) (x : Int) : Nat := (l.filter fun y => decide (y < x)).length
theorem lowB_of : ∀ {l : List Int} {x : Int} {i : Nat}, i ≤ l.length → (∀ k (hk : k < l.length), k < i → l[k] < x) → (∀ k (hk : k < l.length), i ≤ k → x ≤ l[k]) → lowB l x = i
  | [], x, i, hi, _, _ => by simp at hi; subst hi; rfl
  | y :: r, x, 0, _, _, h2 => by
    have h0 := h2 0 (by simp) (Nat.le_refl 0)
    have ih := lowB_of (l := r) (x := x) (i := 0) (Nat.zero_le _) (fun k hk h => by omega) (fun k hk _ => h2 (k + 1) (by simp; omega) (Nat.zero_le _))
    unfold lowB at ih ⊢
    rw [List.filter_cons, if_neg (by simp at h0; simp; omega)]; exact ih
  | y :: r, x, i + 1, hi, h1, h2 => by
    have h0 := h1 0 (by simp) (by omega)
    have ih := lowB_of (l := r) (x := x) (i := i) (by simp at hi; omega) (fun k hk h => h1 (k + 1) (by simp; omega) (by omega)) (fun k hk h => h2 (k + 1) (by simp; omega) (by omega))
    unfold lowB at ih ⊢
    rw [List.filter_cons, if_pos (by simpa using h0), List.length_cons, ih]
theorem rise_le {l : List Int} (hp : List.Pairwise (fun x y => x < y) l) {i j : Nat} (hj : j < l.length) (hij : i ≤ j) : l[i] ≤ l[j] := by
  by_cases e : i = j
  · subst e; exact Int.le_refl _
  · have := List.pairwise_iff_getElem.1 hp i j (by omega) hj (by omega)
    omega
def metOK (cells : List Int) : List Int → List Int → Bool
  | _, [] => true
  | met, p :: r => cells.contains p && !met.contains p && metOK cells (met ++ [p]) r
theorem met_iff (cells : List Int) : ∀ (l met : List Int), metOK cells met l = true ↔ (∀ p ∈ l, p ∈ cells ∧ p ∉ met) ∧ l.Nodup
  | [], met => by simp [metOK]
  | p :: r, met => by
    have ih := met_iff cells r (met ++ [p])
    simp only [metOK, Bool.and_eq_true, Bool.not_eq_true', List.contains_iff_mem, ih, List.mem_cons, forall_eq_or_imp, List.nodup_cons, List.mem_append, List.not_mem_nil, or_false, not_or]
    rw [← Bool.not_eq_true, List.contains_iff_mem]
    constructor
    · exact fun ⟨⟨a, b⟩, c, d⟩ => ⟨⟨⟨a, b⟩, fun x hx => ⟨(c x hx).1, (c x hx).2.1⟩⟩, fun hm => (c p hm).2.2 rfl, d⟩
    · exact fun ⟨⟨⟨a, b⟩, c⟩, d, e⟩ => ⟨⟨a, b⟩, fun x hx => ⟨(c x hx).1, (c x hx).2, fun q => d (q ▸ hx)⟩, e⟩
theorem list_met (cells l : List Int) : listOK cells l = (metOK cells [] l && decide (1 ≤ l.length)) := by
  unfold listOK
  congr 1
  rw [Bool.eq_iff_iff, met_iff, Bool.and_eq_true, List.all_eq_true]
  simp only [List.contains_iff_mem, List.not_mem_nil, not_false_eq_true, and_true, Bool.not_eq_true', twice_nodup]
end Go.AM
end
section
set_option maxRecDepth 20000
set_option linter.all false
namespace Go.AM
open Go.Proofs Go.Lib
theorem numOf_none {l : List (List UInt8)} {s : List UInt8} : numOf l s = none ↔ s ∉ l := by
  unfold numOf
  rw [Option.map_eq_none_iff, List.findIdx?_eq_none_iff]
  simp only [decide_eq_false_iff_not]
  exact ⟨fun h hm => h s hm rfl, fun h x hx e => h (e ▸ hx)⟩
theorem setOf_cons {l : List (List UInt8)} {s : List UInt8} {r : List (List UInt8)} : setOf l (s :: r) = match l.findIdx? (fun x => decide (x = s)), setOf l r with
    | some i, some n => some (Int.ofNat (Nat.lor (1 <<< i) n.toNat))
    | _, _ => none := rfl
def bits (is : List Nat) : Nat := is.foldr (fun i n => Nat.lor (1 <<< i) n) 0
theorem setOf_bits {l ss : List (List UInt8)} : setOf l ss = (allSome (fun s => l.findIdx? fun x => decide (x = s)) ss).map fun is => (bits is : Int) := by
  induction ss with
  | nil => rfl
  | cons s r ih =>
    rw [setOf_cons, ih]
    simp only [allSome]
    cases l.findIdx? fun x => decide (x = s) with
    | none => rfl
    | some i =>
      cases allSome (fun s => l.findIdx? fun x => decide (x = s)) r with
      | none => rfl
      | some is => rfl
end Go.AM
end
section
set_option maxRecDepth 20000
set_option linter.all false
namespace Go.AM
open Go.Proofs Go.Lib
theorem cells_ok {sh w h : Int} {holes cells : List Int} (hc : cellsG sh w h holes = some cells) : (sh = 1 ∨ sh = 2) ∧ 1 ≤ w ∧ w ≤ 16 ∧ 1 ≤ h ∧ h ≤ 16 ∧ (holes.length : Int) < w * h ∧ (∀ x ∈ holes, 0 ≤ x ∧ x < w * h) ∧ List.Pairwise (fun x y => x < y) holes ∧ cells = (allPos (w * h)).filter fun p => !holes.contains p := by
  unfold cellsG at hc
  split at hc
  · rename_i hq
    obtain ⟨a, b, c, d, e, f, g, i⟩ := hq
    cases hc
    rw [rising_iff] at g
    simp only [List.all_eq_true, decide_eq_true_eq] at i
    exact ⟨a, b, c, d, e, f, fun x hx => ⟨by have := g.1 x hx; omega, i x hx⟩, g.2, rfl⟩
  · cases hc
theorem wh_le {w h : Int} (h1 : 1 ≤ w) (h2 : w ≤ 16) (h3 : 1 ≤ h) (h4 : h ≤ 16) : 1 ≤ w * h ∧ w * h ≤ 256 := by
  have a : w * h ≤ 16 * 16 := Int.mul_le_mul h2 h4 (by omega) (by omega)
  have b : 1 * 1 ≤ w * h := Int.mul_le_mul h1 h3 (by omega) (by omega)
  omega
def cellL (cells l : List Int) : List Int := l.map fun p => (lowB cells p : Int)
theorem low_at {l : List Int} (hp : List.Pairwise (fun x y => x < y) l) {i : Nat} (hi : i < l.length) : lowB l l[i] = i := by
  refine lowB_of (Nat.le_of_lt hi) (fun k hk h => List.pairwise_iff_getElem.1 hp k i hk hi h) fun k hk h => rise_le hp hk h
theorem low_inj {l : List Int} (hp : List.Pairwise (fun x y => x < y) l) {x y : Int} (hx : x ∈ l) (hy : y ∈ l) (h : lowB l x = lowB l y) : x = y := by
  obtain ⟨i, hi, rfl⟩ := List.mem_iff_getElem.1 hx
  obtain ⟨j, hj, rfl⟩ := List.mem_iff_getElem.1 hy
  rw [low_at hp hi, low_at hp hj] at h
  subst h; rfl
theorem pair_iff : ∀ {l : List (List Int)}, pairTwice l = true ↔ ∃ (a b : Nat) (ha : a < l.length) (hb : b < l.length), b < a ∧ alikeL l[a] l[b] = true
  | [] => by simp [pairTwice]
  | x :: r => by
    have ih := pair_iff (l := r)
    simp only [pairTwice, Bool.or_eq_true, ih, List.any_eq_true]
    constructor
    · rintro (⟨y, hy, h⟩ | ⟨a, b, ha, hb, hab, h⟩)
      · obtain ⟨i, hi, rfl⟩ := List.mem_iff_getElem.1 hy
        exact ⟨i + 1, 0, by simp; omega, by simp, by omega, h⟩
      · exact ⟨a + 1, b + 1, by simp; omega, by simp; omega, by omega, h⟩
    · rintro ⟨a, b, ha, hb, hab, h⟩
      cases a with
      | zero => omega
      | succ a =>
        cases b with
        | zero => exact .inl ⟨r[a]'(by simp at ha; omega), List.getElem_mem _, h⟩
        | succ b => exact .inr ⟨a, b, by simp at ha; omega, by simp at hb; omega, by omega, h⟩
theorem regs_drop (cells : List Int) (l : List DReg) (i : Nat) (hi : i < l.length) : regsE cells (l.drop i) = if regE cells l[i] = 0 then regsE cells (l.drop (i + 1)) else regE cells l[i] := by
  rw [List.drop_eq_getElem_cons hi]; rfl
theorem listOK_nodup {cells l : List Int} (h : listOK cells l = true) : l.Nodup ∧ 1 ≤ l.length ∧ ∀ p ∈ l, p ∈ cells := by
  unfold listOK at h
  simp only [Bool.and_eq_true, Bool.not_eq_true', decide_eq_true_eq, twice_nodup, List.all_eq_true, List.contains_iff_mem] at h
  exact ⟨h.1.2, h.2, h.1.1⟩
end Go.AM
end
section
set_option maxRecDepth 20000
set_option linter.all false
namespace Go.AM
open Go.Proofs Go.Lib
abbrev Bs := List UInt8
abbrev eI (n : Int) : AVal := .int .i64 n
abbrev eSs (l : List Bs) : AVal := .sl (.none 1) (l.map .str)
abbrev eIs (l : List Int) : AVal := .sl (.none 1) (l.map eI)
theorem strs_under (n : Nat) (l : List Bs) : unders n (l.map AVal.str) := unders_map (f := AVal.str) (fun x => trivial) _
theorem eI_under (n : Nat) (l : List Int) : unders n (l.map eI) := unders_map (f := eI) (fun x => trivial) _
theorem toSs_map (l : List Bs) : (l.map AVal.str).map toS = l := by rw [List.map_map]; exact List.map_id _
theorem eI_map (l : List Int) : (l.map eI).map toI = l := by rw [List.map_map]; exact List.map_id _
inductive Wks : List AVal → List AVal → Prop
  | nil : Wks [] []
  | cons {a b : AVal} {ws us : List AVal} : Wk a b → Wks ws us → Wks (a :: ws) (b :: us)
theorem Wks.rel {g : Ghost} : ∀ {ws us : List AVal}, Wks ws us → ∀ vs, VRels g ws vs → VRels g us vs
  | _, _, .nil, vs, h => h
  | _, _, .cons h t, vs, ⟨v, r, e, k1, k2⟩ => ⟨v, r, e, h _ _ k1, t.rel r k2⟩
theorem Wk.agg {ws us : List AVal} (h : Wks ws us) : Wk (.agg ws) (.agg us) := by
  rintro g v ⟨vs, rfl, h1, h2⟩
  exact ⟨vs, rfl, h.rel _ h1, h2⟩
theorem Wk.tup {ws us : List AVal} (h : Wks ws us) : Wk (.tup ws) (.tup us) := by
  rintro g v ⟨vs, rfl, h1⟩
  exact ⟨vs, rfl, h.rel _ h1⟩
theorem Wk.trans {a b c : AVal} (h : Wk a b) (k : Wk b c) : Wk a c := fun g v q => k g v (h g v q)
def KeepsB (pid : Nat) (H H' : AHeap) : Prop := ∀ id ob, id ≠ pid → hget H id = some ob → hget H' id = some ob
theorem KeepsB.refl {pid : Nat} (H : AHeap) : KeepsB pid H H := fun _ _ _ h => h
theorem KeepsB.trans {pid : Nat} {H H' H'' : AHeap} (h : KeepsB pid H H') (k : KeepsB pid H' H'') : KeepsB pid H H'' := fun id ob hne x => k id ob hne (h id ob hne x)
theorem KeepsB.set {pid : Nat} {H H' : AHeap} {ob : AObj} (h : KeepsB pid H H') : KeepsB pid H (hset H' pid ob) := fun id o hne x => by
  rw [hget_hset_ne _ _ _ _ (Ne.symm hne)]; exact h id o hne x
theorem KeepsB.new {pid : Nat} {H H' : AHeap} {n i : Nat} {ob : AObj} (hf : Fresh H n) (hi : n ≤ i) (h : KeepsB pid H H') : KeepsB pid H (hset H' i ob) := fun id o hne x => by
  have := hf.lt x
  rw [hget_hset_ne _ _ _ _ (by omega)]; exact h id o hne x
section
variable {n pid : Nat} {H : AHeap}
theorem fr1 (h : Fresh H n) (k : Nat) : hget H (n + k) = none := h _ (by omega)
theorem fr0 (h : Fresh H n) : hget H n = none := h _ (Nat.le_refl _)
end
structure Dc (α : Type) where
  enc : α → AVal
  dec : AVal → α
  ok : AVal → Prop
  wk : ∀ v, ok v → Wk v (enc (dec v))
def okInt : AVal → Prop
  | .int .i64 _ => True
  | _ => False
theorem okInt_wk (v : AVal) (h : okInt v) : Wk v (eI (toI v)) := by
  unfold okInt at h
  split at h
  · exact Wk.refl _
  · exact h.elim
def dI : Dc Int := ⟨eI, toI, okInt, okInt_wk⟩
theorem isS_wk (v : AVal) (h : isS v) : Wk v (.str (toS v)) := by
  cases v <;> first | exact Wk.refl _ | exact h.elim
def dS : Dc Bs := ⟨.str, toS, isS, isS_wk⟩
def okL {α : Type} (e : Nat) (enc : α → AVal) (dec : AVal → α) : AVal → Prop
  | .sl t L => (t.esz = e ∨ L = []) ∧ L = (L.map dec).map enc
  | _ => False
def decL {α : Type} (dec : AVal → α) : AVal → List α
  | .sl _ L => L.map dec
  | _ => []
theorem okL_wk {α : Type} {e : Nat} {enc : α → AVal} {dec : AVal → α} (v : AVal) (h : okL e enc dec v) : Wk v (.sl (.none e) ((decL dec v).map enc)) := by
  cases v <;> simp only [okL] at h <;> try exact h.elim
  simp only [decL]
  rw [← h.2]; exact Wk.sl h.1
def dSs : Dc (List Bs) := ⟨eSs, decL toS, okL 1 .str toS, okL_wk⟩
def dIs : Dc (List Int) := ⟨eIs, decL toI, okL 1 eI toI, okL_wk⟩
def s1 {α : Type} (A : Dc α) (c : α → Prop) (f : α → AVal) : List AVal → AHeap → Prop × AVal := fun a _ => match a with
  | [x] => (A.ok x ∧ c (A.dec x), f (A.dec x))
  | _ => (False, .tup [])
def s2 {α β : Type} (A : Dc α) (B : Dc β) (c : α → β → Prop) (f : α → β → AVal) : List AVal → AHeap → Prop × AVal := fun a _ => match a with
  | [x, y] => (A.ok x ∧ B.ok y ∧ c (A.dec x) (B.dec y), f (A.dec x) (B.dec y))
  | _ => (False, .tup [])
def s3 {α β γ : Type} (A : Dc α) (B : Dc β) (C : Dc γ) (c : α → β → γ → Prop) (f : α → β → γ → AVal) : List AVal → AHeap → Prop × AVal := fun a _ => match a with
  | [x, y, z] => (A.ok x ∧ B.ok y ∧ C.ok z ∧ c (A.dec x) (B.dec y) (C.dec z), f (A.dec x) (B.dec y) (C.dec z))
  | _ => (False, .tup [])
theorem q1 {α : Type} {A : Dc α} {c : α → Prop} {f : α → AVal} {fid : FuncId} (h : ∀ x, c x → Pur Try.prog fid [A.enc x] (f x)) : ∀ args H n, (s1 A c f args H).1 → Quiet Try.prog fid args H n (s1 A c f args H).2 := by
  intro args H n hh
  unfold s1 at hh ⊢
  split at hh
  · obtain ⟨h1, h2⟩ := hh
    refine ACalls.args ((h _ h2).quiet H n) ?_
    rintro g vs ⟨v, r, rfl, k1, k2⟩
    exact ⟨v, _, rfl, A.wk _ h1 _ _ k1, k2⟩
  · exact hh.elim
theorem q2 {α β : Type} {A : Dc α} {B : Dc β} {c : α → β → Prop} {f : α → β → AVal} {fid : FuncId} (h : ∀ x y, c x y → Pur Try.prog fid [A.enc x, B.enc y] (f x y)) : ∀ args H n, (s2 A B c f args H).1 → Quiet Try.prog fid args H n (s2 A B c f args H).2 := by
  intro args H n hh
  unfold s2 at hh ⊢
  split at hh
  · obtain ⟨h1, h2, h3⟩ := hh
    refine ACalls.args ((h _ _ h3).quiet H n) ?_
    rintro g vs ⟨v, r, rfl, k1, w, r', rfl, k2, k3⟩
    exact ⟨v, _, rfl, A.wk _ h1 _ _ k1, w, _, rfl, B.wk _ h2 _ _ k2, k3⟩
  · exact hh.elim
theorem q3 {α β γ : Type} {A : Dc α} {B : Dc β} {C : Dc γ} {c : α → β → γ → Prop} {f : α → β → γ → AVal} {fid : FuncId} (h : ∀ x y z, c x y z → Pur Try.prog fid [A.enc x, B.enc y, C.enc z] (f x y z)) : ∀ args H n, (s3 A B C c f args H).1 → Quiet Try.prog fid args H n (s3 A B C c f args H).2 := by
  intro args H n hh
  unfold s3 at hh ⊢
  split at hh
  · obtain ⟨h1, h2, h3, h4⟩ := hh
    refine ACalls.args ((h _ _ _ h4).quiet H n) ?_
    rintro g vs ⟨v, r, rfl, k1, w, r', rfl, k2, u, r'', rfl, k3, k4⟩
    exact ⟨v, _, rfl, A.wk _ h1 _ _ k1, w, _, rfl, B.wk _ h2 _ _ k2, u, _, rfl, C.wk _ h3 _ _ k3, k4⟩
  · exact hh.elim
theorem Pur.all {P : Program} {f : FuncId} {args : List AVal} {r r' : AVal} (h : Pur P f args r) (e : r = r') : Pur P f args r' := e ▸ h
abbrev any1 {α : Type} (_ : α) : Prop := True
abbrev any2 {α β : Type} (_ : α) (_ : β) : Prop := True
theorem map_take {α β : Type} {f : α → β} {l : List α} {i : Nat} (h : i < l.length) : (l.take (i + 1)).map f = (l.take i).map f ++ [f l[i]] := by
  rw [List.take_add_one, List.getElem?_eq_getElem h, List.map_append]; rfl
theorem lt_T {a b : Nat} (h : a < b) : ((a : Int) < (b : Int)) = True := eq_true (by omega)
theorem lt_F {a b : Nat} (h : ¬ a < b) : ((a : Int) < (b : Int)) = False := eq_false (by omega)
theorem w64_in {x : Int} (h1 : -9223372036854775808 ≤ x) (h2 : x ≤ 9223372036854775807) : IntKind.wrap .i64 x = x := by rw [IntKind.wrap_i64]; omega
theorem w64_succ {k : Nat} (h : k < 1000000000000) : IntKind.wrap .i64 ((k : Int) + 1) = ((k + 1 : Nat) : Int) := by rw [w64_in (by omega) (by omega)]; rfl
theorem c0 : ((0 : Nat) : Int) = 0 := rfl
theorem c1 : ((1 : Nat) : Int) = 1 := rfl
theorem i00 : ((0 : Int) < 0) = False := eq_false (by decide)
def tkG (e lo : Nat) (H : AHeap) (tk : Tok) : Prop := tk = .nil ∨ tk = .exact e ∨ ∃ id, tk = .own id e ∧ lo ≤ id ∧ hget H id = some .tok
theorem tkG.app {e lo : Nat} {H : AHeap} {tk : Tok} (h : tkG e lo H tk) : appOK H e tk := by
  rcases h with rfl | rfl | ⟨id, rfl, h1, h2⟩
  · trivial
  · rfl
  · exact ⟨rfl, h2⟩
theorem tkG.set {e lo i : Nat} {H : AHeap} {tk : Tok} {ob : AObj} (h : tkG e lo H tk) (hi : i < lo ∨ (∃ cs, hget H i = some (.box cs)) ∨ hget H i = none) : tkG e lo (hset H i ob) tk := by
  rcases h with rfl | rfl | ⟨id, rfl, h1, h2⟩
  · exact .inl rfl
  · exact .inr (.inl rfl)
  · refine .inr (.inr ⟨id, rfl, h1, ?_⟩)
    rw [hget_hset_ne _ _ _ _ ?_]
    · exact h2
    · rintro rfl
      rcases hi with q | ⟨cs, q⟩ | q
      · omega
      · rw [h2] at q; cases q
      · rw [h2] at q; cases q
theorem kill_get {e lo i : Nat} {H : AHeap} {tk : Tok} (h : tkG e lo H tk) (hi : i < lo ∨ ∃ cs, hget H i = some (.box cs)) : hget (killTok H tk) i = hget H i := by
  rcases h with rfl | rfl | ⟨id, rfl, h1, h2⟩
  · rfl
  · rfl
  · simp only [killTok]
    rw [hget_hset_ne _ _ _ _ ?_]
    rintro rfl
    rcases hi with q | ⟨cs, q⟩
    · omega
    · rw [h2] at q; cases q
theorem kill_fresh {e lo n : Nat} {H : AHeap} {tk : Tok} (h : tkG e lo H tk) (hf : Fresh H n) : Fresh (killTok H tk) n := by
  rcases h with rfl | rfl | ⟨id, rfl, h1, h2⟩
  · exact hf
  · exact hf
  · exact hf.hset (Nat.le_refl _) (hf.lt h2)
theorem tkG.kill {e e' lo lo' : Nat} {H : AHeap} {tk tk' : Tok} (h : tkG e lo H tk) (h' : tkG e' lo' H tk') (hd : ∀ i, tk = .own i e → tk' ≠ .own i e') : tkG e lo (killTok H tk') tk := by
  rcases h' with rfl | rfl | ⟨j, rfl, h1, h2⟩
  · exact h
  · exact h
  · rcases h with rfl | rfl | ⟨id, rfl, h3, h4⟩
    · exact .inl rfl
    · exact .inr (.inl rfl)
    · refine .inr (.inr ⟨id, rfl, h3, ?_⟩)
      simp only [killTok]
      rw [hget_hset_ne _ _ _ _ (fun e => hd id rfl (by rw [e]))]; exact h4
abbrev few {α : Type} (l : List α) : Prop := l.length < 1000000000
theorem ext_take {α : Type} {a b : List α} (hl : a.length = b.length) (h : ∀ j, j < a.length → a[j]? = b[j]?) : a = b := List.ext_getElem? fun j => by
  rcases Nat.lt_or_ge j a.length with q | q
  · exact h j q
  · rw [List.getElem?_eq_none q, List.getElem?_eq_none (by omega)]
theorem len_ne {a b : Nat} (h : a ≠ b) : ((a : Int) = (b : Int)) = False := eq_false (by omega)
theorem len_eq {a b : Nat} (h : a = b) : ((a : Int) = (b : Int)) = True := eq_true (by omega)
theorem small_of {n b : Nat} (h : n ≤ 1000000000) (hb : b ≤ 1000) : small n b := by
  have : n * b ≤ 1000000000 * 1000 := Nat.mul_le_mul h hb
  unfold small; omega
theorem map_dec {α : Type} {enc : α → AVal} {dec : AVal → α} (h : ∀ x, dec (enc x) = x) (l : List α) : (l.map enc).map dec = l := by
  rw [List.map_map]; exact (List.map_congr_left fun x _ => h x).trans (List.map_id _)
noncomputable def same {α : Type} (a b : α) : Bool := @decide (a = b) (Classical.propDecidable _)
end Go.AM
end
section
set_option maxRecDepth 20000
set_option linter.all false
namespace Go.AM
open Go.Proofs Go.Lib
abbrev eLl (l : List (List Int)) : AVal := .sl (.none 1) (l.map eIs)
abbrev encSy (s : DSym) : AVal := .agg [.str s.nm, .int .i64 s.v]
abbrev encRg (r : DReg) : AVal := .agg [.str r.nm, eLl r.ls]
abbrev encCl (c : DClu) : AVal := .agg [.str c.nm, .str c.on, .int .i64 c.fam, .int .i64 c.ty, .int .i64 c.lo, .int .i64 c.hi]
abbrev cellsRu (r : DRul) : List AVal := [.str r.nm, .str r.on, .int .i64 r.kind, .int .i64 r.fam, eSs r.ns, eSs r.os, .int .i64 r.set, .int .i64 r.oth, .int .i64 r.op, .int .i64 r.n, .str r.byN, .int .i64 r.clue]
abbrev encRu (r : DRul) : AVal := .agg (cellsRu r)
abbrev eSys (l : List DSym) : AVal := .sl (.none 2) (l.map encSy)
abbrev eRgs (l : List DReg) : AVal := .sl (.none 2) (l.map encRg)
abbrev eCls (l : List DClu) : AVal := .sl (.none 6) (l.map encCl)
abbrev eRus (l : List DRul) : AVal := .sl (.none 12) (l.map encRu)
abbrev cellsD (d : Dcl) : List AVal := [.str d.nm, .int .i64 d.ver, .int .i64 d.sh, .int .i64 d.w, .int .i64 d.h, eIs d.holes, eSys d.syms, eRgs d.regs, eCls d.clus, eRus d.ruls]
abbrev encD (d : Dcl) : AVal := .agg (cellsD d)
theorem eIs_under (n : Nat) (l : List Int) : (eIs l).under n := ⟨trivial, eI_under n _⟩
theorem eSs_under (n : Nat) (l : List Bs) : (eSs l).under n := ⟨trivial, strs_under n _⟩
theorem eLl_under (n : Nat) (l : List (List Int)) : (eLl l).under n := ⟨trivial, unders_map (eIs_under n) _⟩
theorem encSy_under (n : Nat) (s : DSym) : (encSy s).under n := ⟨trivial, trivial, trivial⟩
theorem encRg_under (n : Nat) (r : DReg) : (encRg r).under n := ⟨trivial, eLl_under n _, trivial⟩
theorem encCl_under (n : Nat) (c : DClu) : (encCl c).under n := ⟨trivial, trivial, trivial, trivial, trivial, trivial, trivial⟩
theorem encRu_under (n : Nat) (r : DRul) : (encRu r).under n := ⟨trivial, trivial, trivial, trivial, eSs_under n _, eSs_under n _, trivial, trivial, trivial, trivial, trivial, trivial, trivial⟩
theorem eSys_under (n : Nat) (l : List DSym) : (eSys l).under n := ⟨trivial, unders_map (encSy_under n) _⟩
theorem eRgs_under (n : Nat) (l : List DReg) : (eRgs l).under n := ⟨trivial, unders_map (encRg_under n) _⟩
theorem eCls_under (n : Nat) (l : List DClu) : (eCls l).under n := ⟨trivial, unders_map (encCl_under n) _⟩
theorem eRus_under (n : Nat) (l : List DRul) : (eRus l).under n := ⟨trivial, unders_map (encRu_under n) _⟩
theorem encD_under (n : Nat) (d : Dcl) : (encD d).under n := ⟨trivial, trivial, trivial, trivial, trivial, eIs_under n _, eSys_under n _, eRgs_under n _, eCls_under n _, eRus_under n _, trivial⟩
def decIs : AVal → List Int
  | .sl _ L => L.map toI
  | _ => []
def decSs : AVal → List Bs
  | .sl _ L => L.map toS
  | _ => []
def decLl : AVal → List (List Int)
  | .sl _ L => L.map decIs
  | _ => []
def decSy : AVal → DSym
  | .agg [.str nm, .int _ v] => ⟨nm, v⟩
  | _ => ⟨[], 0⟩
def decRg : AVal → DReg
  | .agg [.str nm, l] => ⟨nm, decLl l⟩
  | _ => ⟨[], []⟩
def decCl : AVal → DClu
  | .agg [.str nm, .str on, .int _ f, .int _ t, .int _ lo, .int _ hi] => ⟨nm, on, f, t, lo, hi⟩
  | _ => ⟨[], [], 0, 0, 0, 0⟩
def decRu : AVal → DRul
  | .agg [.str nm, .str on, .int _ k, .int _ f, ns, os, .int _ s, .int _ o, .int _ op, .int _ n, .str b, .int _ c] => ⟨nm, on, k, f, decSs ns, decSs os, s, o, op, n, b, c⟩
  | _ => ⟨[], [], 0, 0, [], [], 0, 0, 0, 0, [], 0⟩
def decLs {α : Type} (f : AVal → α) : AVal → List α
  | .sl _ L => L.map f
  | _ => []
def decD : AVal → Dcl
  | .agg [.str nm, .int _ v, .int _ sh, .int _ w, .int _ h, ho, sy, rg, cl, ru] => ⟨nm, v, sh, w, h, decIs ho, decLs decSy sy, decLs decRg rg, decLs decCl cl, decLs decRu ru⟩
  | _ => ⟨[], 0, 0, 0, 0, [], [], [], [], []⟩
theorem decIs_enc (l : List Int) : decIs (eIs l) = l := eI_map l
theorem decLl_enc (l : List (List Int)) : decLl (eLl l) = l := map_dec decIs_enc l
theorem decSy_enc (s : DSym) : decSy (encSy s) = s := rfl
theorem decRg_enc (r : DReg) : decRg (encRg r) = r := by simp only [decRg, decLl_enc]
theorem decCl_enc (c : DClu) : decCl (encCl c) = c := rfl
theorem decRu_enc (r : DRul) : decRu (encRu r) = r := by simp only [decRu, decSs, toSs_map]
theorem decD_enc (d : Dcl) : decD (encD d) = d := by
  simp only [decD, decIs, decLs, eI_map, map_dec decSy_enc, map_dec decRg_enc, map_dec decCl_enc, map_dec decRu_enc]
def dWk {α : Type} (enc : α → AVal) (dec : AVal → α) : Dc α := ⟨enc, dec, fun v => Wk v (enc (dec v)), fun _ h => h⟩
theorem dWk_ok {α : Type} {enc : α → AVal} {dec : AVal → α} (h : ∀ x, dec (enc x) = x) (x : α) : (dWk enc dec).ok (enc x) = True := eq_true (by show Wk _ _; rw [h]; exact Wk.refl _)
def dSy : Dc DSym := dWk encSy decSy
def dRg : Dc DReg := dWk encRg decRg
def dCl : Dc DClu := dWk encCl decCl
def dRu : Dc DRul := dWk encRu decRu
def dD : Dc Dcl := dWk encD decD
theorem dSy_ok (x : DSym) : dSy.ok (encSy x) = True := dWk_ok decSy_enc x
theorem dSy_dec (x : DSym) : dSy.dec (encSy x) = x := rfl
theorem dRg_ok (x : DReg) : dRg.ok (encRg x) = True := dWk_ok decRg_enc x
theorem dRg_dec (x : DReg) : dRg.dec (encRg x) = x := decRg_enc x
theorem dCl_ok (x : DClu) : dCl.ok (encCl x) = True := dWk_ok decCl_enc x
theorem dCl_dec (x : DClu) : dCl.dec (encCl x) = x := rfl
theorem dRu_ok (x : DRul) : dRu.ok (encRu x) = True := dWk_ok decRu_enc x
theorem dRu_dec (x : DRul) : dRu.dec (encRu x) = x := decRu_enc x
theorem dD_ok (x : Dcl) : dD.ok (encD x) = True := dWk_ok decD_enc x
theorem dD_dec (x : Dcl) : dD.dec (encD x) = x := decD_enc x
def dLi {α : Type} (e : Nat) (enc : α → AVal) (dec : AVal → α) : Dc (List α) := ⟨fun l => .sl (.none e) (l.map enc), decL dec, okL e enc dec, okL_wk⟩
theorem dLi_ok {α : Type} {e : Nat} {enc : α → AVal} {dec : AVal → α} (h : ∀ x, dec (enc x) = x) {t : Tok} {l : List α} (ht : t.esz = e ∨ l = []) : (dLi e enc dec).ok (.sl t (l.map enc)) = True := eq_true (by
  refine ⟨ht.imp id fun q => by rw [q]; rfl, ?_⟩
  rw [map_dec h])
theorem dLi_dec {α : Type} {e : Nat} {enc : α → AVal} {dec : AVal → α} (h : ∀ x, dec (enc x) = x) {t : Tok} {l : List α} : (dLi e enc dec).dec (.sl t (l.map enc)) = l := map_dec h l
def dLl : Dc (List (List Int)) := dLi 1 eIs decIs
def dSys : Dc (List DSym) := dLi 2 encSy decSy
def dRgs : Dc (List DReg) := dLi 2 encRg decRg
def dCls : Dc (List DClu) := dLi 6 encCl decCl
def dRus : Dc (List DRul) := dLi 12 encRu decRu
theorem dIs_ok (l : List Int) : dIs.ok (eIs l) = True := eq_true ⟨.inl rfl, by rw [eI_map]⟩
theorem dIs_dec (l : List Int) : dIs.dec (eIs l) = l := eI_map l
theorem dSs_ok (l : List Bs) : dSs.ok (eSs l) = True := eq_true ⟨.inl rfl, by rw [toSs_map]⟩
theorem dSs_dec (l : List Bs) : dSs.dec (eSs l) = l := toSs_map l
theorem dI_ok (x : Int) : dI.ok (.int .i64 x) = True := eq_true trivial
theorem dI_dec (x : Int) : dI.dec (.int .i64 x) = x := rfl
theorem dS_ok (x : Bs) : dS.ok (.str x) = True := eq_true trivial
theorem dS_dec (x : Bs) : dS.dec (.str x) = x := rfl
end Go.AM
end
section
set_option maxRecDepth 20000
set_option linter.all false
namespace Go.AM
open Go.Proofs Go.Lib
def nmEs : List Bs → Nat → List (AVal × AVal × Nat)
  | [], _ => []
  | s :: r, i => (.str s, .int .i64 (i : Int), i) :: nmEs r (i + 1)
theorem nm_fit : ∀ (l : List Bs) (i : Nat), mkfit .str (nmEs l i) = True
  | [], _ => rfl
  | s :: r, i => by rw [nmEs, mkfit, nm_fit r (i + 1)]; simp [KT.is]
theorem numOf_cons (x : Bs) (r : List Bs) (s : Bs) : numOf (x :: r) s = if x = s then some 0 else (numOf r s).map (· + 1) := by
  unfold numOf
  rw [List.findIdx?_cons]
  by_cases h : x = s
  · simp [h]
  · simp only [h, decide_false, Bool.false_eq_true, if_false]
    cases List.findIdx? (fun x => decide (x = s)) r <;> simp
theorem nm_find : ∀ (l : List Bs) (s : Bs) (i : Nat), mfind (.str s) (nmEs l i) = (numOf l s).map fun n => .int .i64 (n + (i : Int))
  | [], s, i => rfl
  | x :: r, s, i => by
    rw [nmEs, mfind, numOf_cons, nm_find r s (i + 1)]
    by_cases h : x = s
    · subst h; simp [ceq]
    · have : ¬ s = x := fun q => h q.symm
      simp only [ceq, h, this, decide_false, Bool.false_eq_true, if_false]
      cases numOf r s with
      | none => rfl
      | some n => simp only [Option.map_some]; congr 2; omega
theorem nm_find0 (l : List Bs) (s : Bs) : mfind (.str s) (nmEs l 0) = (numOf l s).map fun n => .int .i64 n := by
  rw [nm_find]; congr 1; funext n; simp
theorem nm_app : ∀ (l : List Bs) (s : Bs) (i : Nat), nmEs (l ++ [s]) i = nmEs l i ++ [(.str s, .int .i64 ((i + l.length : Nat) : Int), i + l.length)]
  | [], s, i => rfl
  | x :: r, s, i => by
    rw [List.cons_append, nmEs, nm_app r s (i + 1), nmEs, List.cons_append, List.length_cons, show i + 1 + r.length = i + (r.length + 1) by omega]
theorem mset_new {k v : AVal} {c : Nat} : ∀ {es : List (AVal × AVal × Nat)}, mfind k es = none → mset k v c es = es ++ [(k, v, c)]
  | [], _ => rfl
  | (k', v', b) :: r, h => by
    rw [mfind] at h
    split at h
    · cases h
    · rename_i q
      rw [mset, if_neg q, mset_new h]; rfl
theorem nm_set {l : List Bs} {s : Bs} (h : numOf l s = none) : mset (.str s) (.int .i64 (l.length : Int)) l.length (nmEs l 0) = nmEs (l ++ [s]) 0 := by
  rw [mset_new (by rw [nm_find0, h]; rfl), nm_app]; simp
theorem twice_in {α : Type} [DecidableEq α] {a b : List α} {x : α} (h : x ∈ a) : twiceD (a ++ x :: b) = true := by
  cases q : twiceD (a ++ x :: b) with
  | true => rfl
  | false => exact absurd rfl ((List.nodup_append.1 (twice_nodup.1 q)).2.2 x h x (by simp))
def ctEs : List Int → Nat → List (AVal × AVal × Nat)
  | [], _ => []
  | s :: r, i => (.int .i64 s, .bool true, i) :: ctEs r (i + 1)
theorem ct_fit : ∀ (l : List Int) (i : Nat), mkfit (.int .i64) (ctEs l i) = True
  | [], _ => rfl
  | s :: r, i => by rw [ctEs, mkfit, ct_fit r (i + 1)]; simp [KT.is]
theorem ct_find : ∀ (l : List Int) (x : Int) (i : Nat), mfind (.int .i64 x) (ctEs l i) = if l.contains x then some (.bool true) else none
  | [], x, i => rfl
  | y :: r, x, i => by
    rw [ctEs, mfind, ct_find r x (i + 1), List.contains_cons]
    by_cases h : x = y
    · subst h; simp [ceq]
    · simp only [ceq, h, decide_false, Bool.false_eq_true, if_false, beq_eq_false_iff_ne.2 h, Bool.false_or]
theorem ct_app : ∀ (l : List Int) (s : Int) (i : Nat), ctEs (l ++ [s]) i = ctEs l i ++ [(.int .i64 s, .bool true, i + l.length)]
  | [], s, i => rfl
  | x :: r, s, i => by
    rw [List.cons_append, ctEs, ct_app r s (i + 1), ctEs, List.cons_append, List.length_cons, show i + 1 + r.length = i + (r.length + 1) by omega]
theorem ct_set {l : List Int} {x : Int} (h : l.contains x = false) : mset (.int .i64 x) (.bool true) l.length (ctEs l 0) = ctEs (l ++ [x]) 0 := by
  rw [mset_new (by rw [ct_find, h]; rfl), ct_app]; simp
theorem mfind_set {x y : Int} {v : AVal} {c : Nat} : ∀ {es : List (AVal × AVal × Nat)}, mkfit (.int .i64) es → mfind (.int .i64 x) (mset (.int .i64 y) v c es) = if x = y then some v else mfind (.int .i64 x) es
  | [], _ => by
    rw [mset, mfind, mfind]
    by_cases h : x = y <;> simp [ceq, h, mfind]
  | (k', v', b) :: r, hf => by
    obtain ⟨h1, h2⟩ := hf
    have ih := mfind_set (x := x) (y := y) (v := v) (c := c) h2
    cases k' <;> simp only [KT.is] at h1
    rename_i kk z
    subst h1
    rw [mset]
    by_cases hy : y = z
    · subst hy
      rw [if_pos (by simp [ceq])]
      rw [mfind, mfind]
      by_cases hx : x = y
      · subst hx; simp [ceq]
      · simp [ceq, hx]
    · rw [if_neg (by simp [ceq, hy])]
      rw [mfind, ih, mfind]
      by_cases hx : x = z
      · subst hx
        have : ¬ x = y := fun q => hy q.symm
        simp [ceq, this]
      · simp [ceq, hx]
theorem mkfit_set {y : Int} {v : AVal} {c : Nat} : ∀ {es : List (AVal × AVal × Nat)}, mkfit (.int .i64) es → mkfit (.int .i64) (mset (.int .i64 y) v c es)
  | [], _ => ⟨rfl, trivial⟩
  | (k', v', b) :: r, ⟨h1, h2⟩ => by
    rw [mset]
    split
    · exact ⟨h1, h2⟩
    · exact ⟨h1, mkfit_set h2⟩
def cntZ (rs : List DRul) (z : Int) : Nat := (rs.filter fun r => decide (r.clue = z)).length
theorem cnt_many (rs : List DRul) (i : Nat) : cntZ rs (i : Int) = manyC rs i := rfl
theorem cnt_app (rs : List DRul) (r : DRul) (z : Int) : cntZ (rs ++ [r]) z = cntZ rs z + if r.clue = z then 1 else 0 := by
  unfold cntZ
  rw [List.filter_append, List.length_append]
  by_cases h : r.clue = z <;> simp [h]
theorem cnt_le (rs : List DRul) (z : Int) : cntZ rs z ≤ rs.length := List.length_filter_le ..
def CntOK (rs : List DRul) (es : List (AVal × AVal × Nat)) : Prop := mkfit (.int .i64) es ∧ ∀ z : Int, (mfind (.int .i64 z) es).getD (.int .i64 0) = .int .i64 (cntZ rs z : Int)
theorem CntOK.next {rs : List DRul} {es : List (AVal × AVal × Nat)} {r : DRul} {c : Nat} (h : CntOK rs es) : CntOK (rs ++ [r]) (mset (.int .i64 r.clue) (.int .i64 ((cntZ rs r.clue + 1 : Nat) : Int)) c es) := by
  refine ⟨mkfit_set h.1, fun z => ?_⟩
  rw [mfind_set h.1, cnt_app]
  by_cases q : z = r.clue
  · subst q; rw [if_pos rfl, if_pos rfl]; rfl
  · rw [if_neg q, if_neg (fun e => q e.symm)]; exact h.2 z
end Go.AM
end
section
set_option maxRecDepth 20000
set_option linter.all false
namespace Go.AM
open Go.Proofs Go.Lib Go.RowKit Go.Sort
theorem stab_ints {g : Ghost} {f : Nat → Option Value} : ∀ (ws : List Int) (o : Nat), Stab g 1 f o (ws.map eI) → ∀ (j : Nat) x, ws[j]? = some x → f (o + j) = some (.int .i64 x)
  | [], _, _, j, x, h => by simp at h
  | y :: ws, o, ⟨⟨v, q1, q2, q3⟩, h'⟩, j, x, h => by
    cases j with
    | zero =>
      simp at h; subst h
      have q1' : v = .int .i64 y := q1
      subst q1'
      exact q3 0 _ rfl
    | succ j => rw [show o + (j + 1) = o + 1 + j by omega]; exact stab_ints ws (o + 1) h' j x (by simpa using h)
theorem stab_of_ints {g : Ghost} {f : Nat → Option Value} : ∀ (ws : List Int) (o : Nat), (∀ (j : Nat) x, ws[j]? = some x → f (o + j) = some (.int .i64 x)) → Stab g 1 f o (ws.map eI)
  | [], _, _ => trivial
  | y :: ws, o, h => by
    refine ⟨⟨.int .i64 y, rfl, ⟨rfl, fun x hx => by simp [Value.cells] at hx; subst hx; rfl⟩, fun j x hx => ?_⟩, stab_of_ints ws (o + 1) fun j x hx => by
      have := h (j + 1) x (by simpa using hx)
      rw [← this]; congr 1; omega⟩
    cases j with
    | zero =>
      have hx' : some (Value.int .i64 y) = some x := hx
      cases hx'
      exact h 0 y rfl
    | succ j => simp [Value.cells] at hx
theorem below_drew (w : World) (k : Nat) : Below w.heap.size w (w.drewN k) where
  os := rfl
  tape := rfl
  output := rfl
  size := Nat.le_refl _
  block := fun i hi => rfl
theorem p63 (l : List Int) (x : Int) (hl : l.length < 1000000000) (hs : List.Pairwise (fun x y => x < y) l) : Pur Try.prog 63 [eIs l, .int .i64 x] (.tup [.int .i64 (lowB l x), .bool (l.contains x)]) := by
  refine pur_of_calls l63 ⟨⟨trivial, eI_under 0 l⟩, trivial, trivial⟩ ⟨trivial, trivial, trivial⟩ ?_
  rintro g w vs hR ⟨v, r, rfl, k1, v2, r2, rfl, k2, k3⟩
  have k2' : v2 = .int .i64 x := k2
  have k3' : r2 = [] := k3
  subst k2'; subst k3'
  have hres : ∀ q, l = [] ∨ q = l.take l.length → VRel g (.tup [.int .i64 (lowB l x), .bool (l.contains x)]) (.tuple #[.int .i64 (((l.take l.length).countP (· < x) : Nat) : Int), .bool ((l.take l.length).contains x)]) := fun q _ => by
    rw [List.take_length]
    have e : (l.countP fun y => decide (y < x)) = lowB l x := List.countP_eq_length_filter
    rw [e]
    exact ⟨_, rfl, _, _, rfl, rfl, _, _, rfl, rfl, rfl⟩
  have hres := hres l (.inr (List.take_length).symm)
  rcases k1 with ⟨k1, rfl, -⟩ | ⟨-, b, o, cap, ⟨sp, rfl, hsp⟩, hc, hst, -⟩
  · have : l = [] := by simpa using k1
    subst this
    refine (Try.slices_BinarySearch_int_empty none 0 x w).mono ?_
    rintro e w' ⟨rfl, rfl⟩
    exact ⟨⟨_, rfl, hres⟩, Below.refl _ _⟩
  · cases l with
    | nil =>
      refine (Try.slices_BinarySearch_int_empty _ _ x w).mono ?_
      rintro e w' ⟨rfl, rfl⟩
      exact ⟨⟨_, rfl, hres⟩, Below.refl _ _⟩
    | cons y ys =>
      obtain rfl : sp = none := hsp.resolve_right fun q => by cases q.1
      have hcell := stab_ints _ _ hst
      have hk := Try.slices_BinarySearch_int b o (y :: ys).length cap (y :: ys) x w (Nat.le_refl _) (by omega) (fun j hj => hR.σw _ _ _ (hcell j _ (by rw [List.getElem?_eq_getElem hj]; simp [List.getD, List.getElem?_eq_getElem hj]))) (by rw [List.take_length]; exact hs.imp fun q => by omega)
      simp only [List.length_map] at hk ⊢
      refine hk.mono ?_
      rintro e w' ⟨rfl, q, rfl⟩
      exact ⟨⟨_, rfl, hres⟩, below_drew _ _⟩
theorem lSort : Callable Try.prog 75 := ⟨Try.f75, by kernel_rfl, by kernel_rfl, by kernel_rfl⟩
theorem t_sort {H : AHeap} {n id len cap : Nat} {zs : List Int} (ho : hget H id = some (.arr 1 (zs.map eI))) (hl : len ≤ zs.length) (hz : len < 1000000000) :
    ACalls Try.prog 75 [.ref id 1 0 len cap] H n fun o H' n' => o = .ret (.tup []) ∧ H' = hset H id (.arr 1 (((zs.take len).mergeSort leI ++ zs.drop len).map eI)) ∧ n' = n := by
  refine ⟨lSort, fun g w vs hR hv => ?_⟩
  obtain ⟨v, r, rfl, k1, k2⟩ := hv
  have k2' : r = [] := k2
  subst k2'
  obtain ⟨L, h1, h2, rfl⟩ := k1
  obtain ⟨L', c, e, j1, j2, j3, j4, j5, j6⟩ := hR.obj id _ ho
  rw [h1] at j1; cases j1
  have hcell := stab_ints _ _ j6
  simp only [Nat.zero_add] at hcell
  have hsz : c.size = zs.length := by rw [← j5]; simp
  have htl : (zs.take len).length = len := by simp; omega
  have hb : L.blk < w.heap.size := (Array.getElem?_eq_some_iff.1 j4).1
  have hc := Try.slices_Sort_int L.blk 0 cap (zs.take len) w (fun j hj => by
    have hj' : j < (zs.take len).length := by simpa using hj
    refine ⟨?_, ?_⟩
    · rw [Nat.zero_add, getElem!_pos _ j hj]
      simp only [World.cell?, j4]
      rw [hcell j _ (show zs[j]? = some zs[j] from List.getElem?_eq_getElem (by omega))]
      simp
    · simp [World.frozen?, j4]) hb (by omega)
  rw [htl] at hc
  simp only [Nat.zero_mul] at hc ⊢
  refine hc.mono ?_
  rintro ee w' ⟨rfl, k, os, rfl⟩
  generalize hS : (zs.take len).mergeSort (fun x y => decide (x ≤ y)) = S
  have hSl : S.length = len := by rw [← hS, List.length_mergeSort, htl]
  have hblk : (putRow (Value.int .i64) (Sort.ahead w k) L.blk 0 S.toArray).heap[L.blk]? = some (.cells (Go.Sort.putCells (Value.int .i64) 0 S.toArray c) e (0, 0)) := by
    simp only [putRow, mapBlock, Sort.ahead, Array.getElem?_modify, if_true, j4, Option.map_some, onCells]
  have hget : ∀ j : Nat, (Go.Sort.putCells (Value.int .i64) 0 S.toArray c)[j]? = if j < len then (S[j]?).map (Value.int .i64) else c[j]? := fun j => by
    simp only [Go.Sort.putCells, Array.getElem?_mapIdx, Nat.zero_le, true_and, Nat.zero_add, Nat.sub_zero, List.size_toArray, hSl]
    by_cases q : j < len
    · simp only [q, if_true]
      have hjc : j < c.size := by omega
      have hjS : j < S.length := by omega
      rw [Array.getElem?_eq_getElem hjc, List.getElem?_eq_getElem hjS]
      simp [hjS]
    · simp only [q, if_false]
      cases c[j]? <;> rfl
  obtain ⟨r1, r2⟩ := hR.upd (m := n) (w' := putRow (Value.int .i64) (Sort.ahead w k) L.blk 0 S.toArray) (ob' := .arr 1 ((S ++ zs.drop len).map eI)) ho rfl h1 rfl rfl rfl (by simp [putRow, mapBlock, Sort.ahead])
    (fun b hne => by simp only [putRow, mapBlock, Sort.ahead, Array.getElem?_modify]; rw [if_neg (Ne.symm hne)])
    (.inl ⟨c, e, (0, 0), _, j4, hblk, by simp [Go.Sort.putCells], fun o ho' => by
      rw [hget, if_neg (by rcases ho' with q | q <;> omega)]⟩)
    ⟨L, _, e, h1, h2, by rw [j3]; simp [Go.Sort.putCells], hblk, by simp [Go.Sort.putCells, hSl]; omega, stab_of_ints _ _ fun j x hx => by
      rw [Nat.zero_add, hget]
      by_cases q : j < len
      · rw [if_pos q]
        rw [List.getElem?_append_left (by omega)] at hx
        rw [hx]; rfl
      · rw [if_neg q]
        rw [List.getElem?_append_right (by omega), List.getElem?_drop] at hx
        exact hcell j x (by rw [← hx]; congr 1; omega)⟩
  have hx : HExt (putRow (Value.int .i64) (Sort.ahead w k) L.blk 0 S.toArray) (grow (putRow (Value.int .i64) (Sort.ahead w k) L.blk 0 S.toArray) os) := fun b ob hb => by
    show (_ ++ os)[b]? = some ob
    rw [Array.getElem?_append_left (Array.getElem?_eq_some_iff.1 hb).1]; exact hb
  have r3 := r1.grow hx (σ' := g.σ) (fun _ _ _ q => q) (fun _ _ _ q => .inl q)
  exact ⟨g, .ret (.tup []), _, n, ⟨rfl, rfl, rfl⟩, ⟨_, rfl, rfl⟩, r3, Nat.le_refl _, r2.trans (Trans.grow hx rfl rfl rfl (fun _ _ _ q => q) (fun _ _ _ q => .inl q))⟩
end Go.AM
end
