/-
  Declarations, plainly: what is declared, names resolved, grids, rules, what Check returns · Declarations, plainly: sorted lists, rules as the reference looks at them · Declarations, plainly: accepted declarations, with other names, a rule more, a rule less · Declarations, plainly: a rule more, a rule less, clues · Declarations, plainly: a name that no rule has; sums · Declarations, plainly: the rules about the way in which a grid is filled; what the laws say of Check · Declarations, plainly: small declarations · Declarations, plainly: a grid as the reference makes it · Declarations, plainly: where a number stands in a rising list · Declarations, plainly: names and their numbers, as a table that grows · Declarations, plainly: rising lists, cells by their numbers, two lists alike · What is told of functions, argument by argument; lists that grow, and objects beside one another · Declaratio.
  Conditions: none beyond those of its parts.
-/
import Derived.Test.YtpdnjncfblclfaaGreatB4
import Derived.Test.YtpdnjncfblclfaaGreatProg
import Derived.Test.YtpdnjncfblclfaaGreatShelf
import Derived.Test.YtpdnjncfblclfaaGreatB5

section
set_option maxRecDepth 20000
set_option linter.all false
namespace Go.AM
open Go.Proofs Go.Lib
structure DSym where
  nm : List UInt8
  v : Int
  deriving DecidableEq
structure DReg where
  nm : List UInt8
  ls : List (List Int)
  deriving DecidableEq
structure DClu where
  nm : List UInt8
  on : List UInt8
  fam : Int
  ty : Int
  lo : Int
  hi : Int
  deriving DecidableEq
structure DRul where
  nm : List UInt8
  on : List UInt8
  kind : Int
  fam : Int
  ns : List (List UInt8)
  os : List (List UInt8)
  set : Int
  oth : Int
  op : Int
  n : Int
  byN : List UInt8
  clue : Int
  deriving DecidableEq
structure Dcl where
  nm : List UInt8
  ver : Int
  sh : Int
  w : Int
  h : Int
  holes : List Int
  syms : List DSym
  regs : List DReg
  clus : List DClu
  ruls : List DRul
  deriving DecidableEq
def givenF : List (List UInt8) := [[99, 101, 108, 108, 115], [114, 111, 119, 115], [99, 111, 108, 117, 109, 110, 115], [100, 105, 97, 103, 111, 110, 97, 108, 115], [97, 114, 111, 117, 110, 100], [110, 101, 97, 114], [112, 97, 105, 114, 115], [97, 108, 108]]
def twiceD {α : Type} [DecidableEq α] : List α → Bool
  | [] => false
  | x :: r => (r.any fun y => decide (y = x)) || twiceD r
def famNs (d : Dcl) : List (List UInt8) := givenF ++ d.regs.map (·.nm)
def numOf (l : List (List UInt8)) (s : List UInt8) : Option Int := (l.findIdx? fun x => decide (x = s)).map fun (i : Nat) => (i : Int)
def setOf (l : List (List UInt8)) : List (List UInt8) → Option Int
  | [] => some 0
  | s :: r => match l.findIdx? (fun x => decide (x = s)), setOf l r with
    | some i, some n => some (Int.ofNat (Nat.lor (1 <<< i) n.toNat))
    | _, _ => none
def resClu (d : Dcl) (c : DClu) : Option DClu := (numOf (famNs d) c.on).map fun f => { c with fam := f }
def resRul (d : Dcl) (r : DRul) : Option DRul :=
  match (if r.on = [] then some 0 else numOf (famNs d) r.on), setOf (d.syms.map (·.nm)) r.ns, setOf (d.syms.map (·.nm)) r.os, (if r.byN = [] then some (-1) else numOf (d.clus.map (·.nm)) r.byN) with
  | some f, some a, some b, some c => some { r with fam := f, set := a, oth := b, clue := c }
  | _, _, _, _ => none
def allSome {α β : Type} (f : α → Option β) : List α → Option (List β)
  | [] => some []
  | x :: r => match f x, allSome f r with
    | some y, some s => some (y :: s)
    | _, _ => none
def resD (d : Dcl) : Except Int Dcl :=
  if 16 < d.syms.length then .error 2 else if twiceD (d.syms.map (·.nm)) then .error 161 else if twiceD (famNs d) then .error 161 else if twiceD (d.clus.map (·.nm)) then .error 161
  else match allSome (resClu d) d.clus with
    | none => .error 160
    | some cs => if twiceD (d.ruls.map (·.nm)) then .error 161 else match allSome (resRul d) d.ruls with
      | none => .error 160
      | some rs => .ok { d with clus := cs, ruls := rs }
def risingI : Int → List Int → Bool
  | _, [] => true
  | a, x :: r => decide (a < x) && risingI x r
def cellsG (sh w h : Int) (holes : List Int) : Option (List Int) :=
  if (sh = 1 ∨ sh = 2) ∧ 1 ≤ w ∧ w ≤ 16 ∧ 1 ≤ h ∧ h ≤ 16 ∧ (holes.length : Int) < w * h ∧ risingI (-1) holes = true ∧ (holes.all fun p => decide (p < w * h)) = true then
    some (((List.range (w * h).toNat).map fun (i : Nat) => (i : Int)).filter fun p => !holes.contains p)
  else none
def listOK (cells l : List Int) : Bool := (l.all fun p => cells.contains p) && !twiceD l && decide (1 ≤ l.length)
def alikeL (a b : List Int) : Bool := (a.all fun x => b.contains x) && b.all fun x => a.contains x
def pairTwice : List (List Int) → Bool
  | [] => false
  | x :: r => (r.any fun y => alikeL y x) || pairTwice r
def regE (cells : List Int) (r : DReg) : Int := if (decide (r.ls.length ≤ 64) && r.ls.all (listOK cells)) = false then 130 else if pairTwice r.ls = true then 161 else 0
def regsE (cells : List Int) : List DReg → Int
  | [] => 0
  | r :: s => if regE cells r = 0 then regsE cells s else regE cells r
def cluOK (c : DClu) : Bool :=
  if c.ty = 1 then decide (c.fam = 0) && decide (c.lo = 0) && decide (c.hi = 0)
  else if c.ty = 2 then decide (0 ≤ c.lo) && decide (c.lo ≤ c.hi) && decide (c.hi ≤ 65536)
  else if c.ty = 3 then (decide (1 ≤ c.fam) && decide (c.fam ≤ 3) || decide (8 ≤ c.fam)) && decide (c.lo = 0) && decide (c.hi = 0)
  else false
structure FormD where
  on : Bool := false
  set : Bool := false
  oth : Bool := false
  bnd : Bool := false
  num : Bool := false
  rdb : Bool := false
  knw : Bool := false
  clue : Int := 0
def formK (k : Int) : FormD :=
  if k = 1 then { on := true, rdb := true, knw := true } else if k = 2 then { on := true, set := true, bnd := true, rdb := true, knw := true }
  else if k = 3 then { on := true, bnd := true, rdb := true, knw := true } else if k = 4 then { on := true, rdb := true, knw := true }
  else if k = 5 then { on := true, set := true, rdb := true, knw := true, clue := 3 } else if k = 6 then { rdb := true, knw := true }
  else if k = 7 then { num := true, rdb := true, knw := true } else if k = 8 then { set := true, oth := true, rdb := true, knw := true }
  else if k = 9 then { set := true, rdb := true, knw := true } else if k = 10 then { set := true, rdb := true, knw := true }
  else if k = 11 then { rdb := true, knw := true, clue := 1 } else if k = 12 then { on := true, knw := true } else if k = 13 then { bnd := true, knw := true } else {}
def cluP (cl : List DClu) (r : DRul) (w : Int) : Bool := if r.clue < 0 ∨ (cl.length : Int) ≤ r.clue then false else match cl[r.clue.toNat]? with
  | some c => decide (c.ty = w) && (decide (w = 1) || decide (c.fam = r.fam))
  | none => false
def rulOK (cl : List DClu) (r : DRul) : Bool :=
  let f := formK r.kind
  if f.knw = false then false
  else if (f.on != decide (r.on ≠ [])) || (f.set != decide (r.set ≠ 0)) || (f.oth != decide (r.oth ≠ 0)) || (!f.on && decide (r.fam ≠ 0)) || (!f.set && decide (0 < r.ns.length)) || (!f.oth && decide (0 < r.os.length)) then false
  else if (f.bnd != (decide (1 ≤ r.op) && decide (r.op ≤ 3))) || (!f.bnd && decide (r.op ≠ 0)) || decide (r.n < 0) || decide (65536 < r.n) then false
  else if !(f.num || f.bnd && decide (r.byN = [])) && decide (r.n ≠ 0) then false
  else
    let want := if f.bnd && decide (r.byN ≠ []) then 2 else f.clue
    if want = 0 then decide (r.byN = []) && decide (r.clue = -1) else cluP cl r want
def manyC (rs : List DRul) (i : Nat) : Nat := (rs.filter fun r => decide (r.clue = (i : Int))).length
def formOK (d : Dcl) : Bool := (d.syms.all fun s => decide (0 ≤ s.v) && decide (s.v ≤ 99)) && d.ruls.all (rulOK d.clus) && ((List.range d.clus.length).all fun i => decide (manyC d.ruls i = 1)) && d.clus.all cluOK
def readR (r : DRul) : Bool := decide (1 ≤ r.kind) && decide (r.kind ≤ 11)
def unread (rs : List DRul) : List Int := ((List.range rs.length).filter fun i => match rs[i]? with | some r => !readR r | none => false).map fun (i : Nat) => (i : Int)
def limD (d : Dcl) : Bool := decide (0 < d.syms.length) && decide (d.syms.length ≤ 16) && decide (d.regs.length ≤ 4) && decide (d.clus.length ≤ 4) && decide (d.ruls.length ≤ 16)
def chkD (d : Dcl) : Int :=
  if limD d = false then 2 else match resD d with
    | .error e => e
    | .ok x => if x ≠ d then 170 else if d.ver < 1 ∨ 255 < d.ver then 170 else match cellsG d.sh d.w d.h d.holes with
      | none => 130
      | some cells => if regsE cells d.regs ≠ 0 then regsE cells d.regs else if formOK d = false then 170 else if unread d.ruls ≠ [] then 171 else 0
end Go.AM
end
section
set_option maxRecDepth 20000
set_option linter.all false
namespace Go.AM
open Go.Proofs Go.Lib
abbrev leI (x y : Int) : Bool := decide (x ≤ y)
theorem twice_nodup {α : Type} [DecidableEq α] : ∀ {l : List α}, twiceD l = false ↔ l.Nodup
  | [] => by simp [twiceD]
  | x :: r => by
    have ih := twice_nodup (l := r)
    simp only [twiceD, Bool.or_eq_false_iff, List.any_eq_false, decide_eq_true_eq, List.nodup_cons, ih]
    constructor
    · exact fun ⟨h1, h2⟩ => ⟨fun hx => h1 x hx rfl, h2⟩
    · exact fun ⟨h1, h2⟩ => ⟨fun y hy e => h1 (e ▸ hy), h2⟩
theorem alike_iff {a b : List Int} : alikeL a b = true ↔ ∀ x, x ∈ a ↔ x ∈ b := by
  unfold alikeL
  simp only [Bool.and_eq_true, List.all_eq_true, List.contains_iff_mem]
  exact ⟨fun ⟨h1, h2⟩ x => ⟨h1 x, h2 x⟩, fun h => ⟨fun x hx => (h x).1 hx, fun x hx => (h x).2 hx⟩⟩
theorem sortI_pw (l : List Int) : List.Pairwise (fun x y => x ≤ y) (l.mergeSort leI) := by
  have := List.pairwise_mergeSort (le := leI) (fun a b c h1 h2 => by simp only [leI, decide_eq_true_eq] at *; omega) (fun a b => by simp only [leI, Bool.or_eq_true, decide_eq_true_eq]; omega) l
  exact this.imp fun h => by simpa using h
theorem alike_sort {a b : List Int} (ha : a.Nodup) (hb : b.Nodup) : alikeL a b = decide (a.mergeSort leI = b.mergeSort leI) := by
  rw [Bool.eq_iff_iff, alike_iff, decide_eq_true_eq, ← List.perm_ext_iff_of_nodup ha hb]
  constructor
  · intro h
    have p : (a.mergeSort leI).Perm (b.mergeSort leI) := (List.mergeSort_perm a leI).trans (h.trans (List.mergeSort_perm b leI).symm)
    exact p.eq_of_pairwise (le := fun x y : Int => x ≤ y) (fun x y _ _ h1 h2 => by omega) (sortI_pw a) (sortI_pw b)
  · intro h
    exact (List.mergeSort_perm a leI).symm.trans (h ▸ List.mergeSort_perm b leI)
def clueR (cl : List DClu) (r : DRul) (kind : Int) (on : Bool) : Bool :=
  if r.clue < 0 ∨ (cl.length : Int) ≤ r.clue then false else match cl[r.clue.toNat]? with
    | some c => decide (c.ty = kind) && (!on || decide (c.fam = r.fam))
    | none => false
def boundR (cl : List DClu) (r : DRul) : Bool :=
  if r.op < 1 ∨ 3 < r.op then false else if r.byN = [] then decide (0 ≤ r.n) && decide (r.n ≤ 65536) && decide (r.clue = -1) else decide (r.n = 0) && clueR cl r 2 true
def rulRef (cl : List DClu) (r : DRul) : Bool :=
  let f := formK r.kind
  let by' := decide (f.clue ≠ 0)
  if f.knw = false then false
  else if (!f.on && (decide (r.on ≠ []) || decide (r.fam ≠ 0))) || (!f.set && (decide (0 < r.ns.length) || decide (r.set ≠ 0))) || (!f.oth && (decide (0 < r.os.length) || decide (r.oth ≠ 0))) then false
  else if (f.on && decide (r.on = [])) || (f.set && decide (r.set = 0)) || (f.oth && decide (r.oth = 0)) then false
  else if !f.bnd && (decide (r.op ≠ 0) || (!f.num && decide (r.n ≠ 0)) || (!by' && (decide (r.byN ≠ []) || decide (r.clue ≠ -1)))) then false
  else if (f.bnd && !boundR cl r) || (f.num && (decide (r.n < 0) || decide (65536 < r.n))) then false
  else if r.kind = 5 then clueR cl r 3 true
  else if r.kind = 11 then clueR cl r 1 false else true
theorem form_cases (k : Int) : (formK k).knw = false ∨ ((k = 5 ∧ (formK k).clue = 3 ∧ (formK k).bnd = false ∧ (formK k).num = false) ∨ (k = 11 ∧ (formK k).clue = 1 ∧ (formK k).bnd = false ∧ (formK k).num = false) ∨ (k ≠ 5 ∧ k ≠ 11 ∧ (formK k).clue = 0 ∧ ((formK k).bnd = true → (formK k).num = false))) := by
  by_cases h : 1 ≤ k ∧ k ≤ 13
  · have : k = 1 ∨ k = 2 ∨ k = 3 ∨ k = 4 ∨ k = 5 ∨ k = 6 ∨ k = 7 ∨ k = 8 ∨ k = 9 ∨ k = 10 ∨ k = 11 ∨ k = 12 ∨ k = 13 := by omega
    rcases this with rfl | rfl | rfl | rfl | rfl | rfl | rfl | rfl | rfl | rfl | rfl | rfl | rfl <;> decide
  · left
    unfold formK
    repeat rw [if_neg (by omega)]
theorem clue_ref (cl : List DClu) (r : DRul) (w : Int) : cluP cl r w = clueR cl r w (!decide (w = 1)) := by
  unfold clueR cluP
  split
  · rfl
  · cases cl[r.clue.toNat]? <;> simp
theorem bA : ∀ (on set oth o s t f n m : Bool), ((on != o) || (set != s) || (oth != t) || (!on && f) || (!set && n) || (!oth && m)) =
    (((!on && (o || f)) || (!set && (n || s)) || (!oth && (m || t))) || ((on && !o) || (set && !s) || (oth && !t))) := by decide
theorem bB : ∀ (bnd num p q lo hi nn b0 cm c2 : Bool), (!p || q) = true → (!lo || nn) = true → (!hi || nn) = true → (!bnd || !num) = true →
    (if ((bnd != p) || (!bnd && q) || lo || hi) = true then false else if (!(num || bnd && b0) && nn) = true then false else if (bnd && !b0) = true then c2 else b0 && cm) =
    (if (!bnd && (q || (!num && nn) || (!b0 || !cm))) = true then false else if ((bnd && !(if p = false then false else if b0 = true then !lo && !hi && cm else !nn && c2)) || (num && (lo || hi))) = true then false else true) := by decide
theorem bC : ∀ (p q lo hi nn c3 : Bool), (!p || q) = true → (!lo || nn) = true → (!hi || nn) = true →
    (if ((false != p) || q || lo || hi) = true then false else if nn = true then false else c3) = (if (q || nn) = true then false else c3) := by decide
theorem nd {α : Prop} [Decidable α] : decide α = !decide (¬ α) := by by_cases h : α <;> simp [h]
theorem rul_ref (cl : List DClu) (r : DRul) : rulOK cl r = rulRef cl r := by
  unfold rulOK rulRef
  simp only []
  rcases form_cases r.kind with hk | hk
  · rw [if_pos hk, if_pos hk]
  by_cases hkw : (formK r.kind).knw = false
  · rw [if_pos hkw, if_pos hkw]
  rw [if_neg hkw, if_neg hkw, clue_ref, bA]
  generalize hf : formK r.kind = f at hk hkw
  rw [nd (α := r.on = []), nd (α := r.set = 0), nd (α := r.oth = 0)]
  generalize hA1 : (!f.on && (decide (r.on ≠ []) || decide (r.fam ≠ 0)) || !f.set && (decide (0 < r.ns.length) || decide (r.set ≠ 0)) || !f.oth && (decide (0 < r.os.length) || decide (r.oth ≠ 0))) = A1
  generalize hA2 : (f.on && !decide (¬ r.on = []) || f.set && !decide (¬ r.set = 0) || f.oth && !decide (¬ r.oth = 0)) = A2
  cases A1
  case true => simp
  cases A2
  case true => simp
  simp only [Bool.or_false, Bool.false_eq_true, if_false]
  have i1 : (!(decide (1 ≤ r.op) && decide (r.op ≤ 3)) || decide (r.op ≠ 0)) = true := by by_cases h : r.op = 0 <;> simp [h]
  have i2 : (!decide (r.n < 0) || decide (r.n ≠ 0)) = true := by by_cases h : r.n = 0 <;> simp [h]
  have i3 : (!decide (65536 < r.n) || decide (r.n ≠ 0)) = true := by by_cases h : r.n = 0 <;> simp [h]
  have n1 : decide (r.byN ≠ []) = !decide (r.byN = []) := by by_cases h : r.byN = [] <;> simp [h]
  have n2 : decide (r.clue ≠ -1) = !decide (r.clue = -1) := by by_cases h : r.clue = -1 <;> simp [h]
  have n3 : decide (r.n = 0) = !decide (r.n ≠ 0) := by by_cases h : r.n = 0 <;> simp [h]
  have n4 : decide (0 ≤ r.n) = !decide (r.n < 0) := by by_cases h : r.n < 0 <;> simp [h] <;> omega
  have n5 : decide (r.n ≤ 65536) = !decide (65536 < r.n) := by by_cases h : 65536 < r.n <;> simp [h] <;> omega
  have n6 : (if r.op < 1 ∨ 3 < r.op then false else if r.byN = [] then decide (0 ≤ r.n) && decide (r.n ≤ 65536) && decide (r.clue = -1) else decide (r.n = 0) && clueR cl r 2 true) =
      (if (decide (1 ≤ r.op) && decide (r.op ≤ 3)) = false then false else if decide (r.byN = []) = true then !decide (r.n < 0) && !decide (65536 < r.n) && decide (r.clue = -1) else !decide (r.n ≠ 0) && clueR cl r 2 true) := by
    rw [n3, n4, n5]
    by_cases h : r.op < 1 ∨ 3 < r.op
    · have hp : (decide (1 ≤ r.op) && decide (r.op ≤ 3)) = false := by rcases h with h | h <;> simp <;> omega
      rw [if_pos h, hp]; rfl
    · have hp : (decide (1 ≤ r.op) && decide (r.op ≤ 3)) = true := by simp; omega
      rw [if_neg h, hp]
      by_cases hb : r.byN = []
      · rw [if_pos hb, if_neg (by decide), if_pos (by simp [hb])]
      · rw [if_neg hb, if_neg (by decide), if_neg (by simp [hb])]
  rw [n1, n2]
  unfold boundR
  rw [n6]
  have hn1 : decide (r.n ≠ 0) = decide (r.n ≠ 0) := rfl
  generalize (decide (1 ≤ r.op) && decide (r.op ≤ 3)) = p at i1 ⊢
  generalize decide (r.op ≠ 0) = q at i1 ⊢
  generalize decide (r.n ≠ 0) = nn at i2 i3 ⊢
  generalize decide (r.n < 0) = lo at i2 ⊢
  generalize decide (65536 < r.n) = hi at i3 ⊢
  generalize decide (r.byN = []) = b0
  generalize decide (r.clue = -1) = cm
  obtain ⟨on, set, oth, bnd, num, rdb, knw, clue⟩ := f
  simp only at hk ⊢
  rcases hk with ⟨h1, rfl, rfl, rfl⟩ | ⟨h1, rfl, rfl, rfl⟩ | ⟨h1, h2, rfl, h3⟩
  · have := bC p q lo hi nn (clueR cl r 3 true) i1 i2 i3
    simpa [h1] using this
  · have := bC p q lo hi nn (clueR cl r 1 false) i1 i2 i3
    simpa [h1] using this
  · have := bB bnd num p q lo hi nn b0 cm (clueR cl r 2 true) i1 i2 i3 (by cases bnd <;> cases num <;> simp_all)
    rw [if_neg h1, if_neg h2]
    cases bnd <;> cases b0 <;> first | simpa using this | simp
end Go.AM
end
section
set_option maxRecDepth 20000
set_option linter.all false
namespace Go.AM
open Go.Proofs Go.Lib
theorem res_same {d x : Dcl} (h : resD d = .ok x) : x.nm = d.nm ∧ x.ver = d.ver ∧ x.sh = d.sh ∧ x.w = d.w ∧ x.h = d.h ∧ x.holes = d.holes ∧ x.syms = d.syms ∧ x.regs = d.regs := by
  unfold resD at h
  split at h
  · cases h
  split at h
  · cases h
  split at h
  · cases h
  split at h
  · cases h
  split at h
  · cases h
  split at h
  · cases h
  split at h
  · cases h
  · cases h; exact ⟨rfl, rfl, rfl, rfl, rfl, rfl, rfl, rfl⟩
end Go.AM
end
section
set_option maxRecDepth 20000
set_option linter.all false
namespace Go.AM
open Go.Proofs Go.Lib
theorem unread_app (rs : List DRul) (r : DRul) : unread (rs ++ [r]) = unread rs ++ (if readR r = true then [] else [(rs.length : Int)]) := by
  unfold unread
  rw [List.length_append, List.length_singleton, List.range_succ, List.filter_append, List.map_append]
  congr 1
  · congr 1
    apply List.filter_congr
    intro i hi
    have := List.mem_range.1 hi
    rw [List.getElem?_append_left this]
  · rw [List.filter_cons, List.getElem?_append_right (Nat.le_refl _), Nat.sub_self]
    simp only [List.getElem?_cons_zero, List.filter_nil]
    by_cases h : readR r = true
    · simp [h]
    · simp [show readR r = false by simpa using h]
theorem twice_app {α : Type} [DecidableEq α] {l : List α} {x : α} : twiceD (l ++ [x]) = false ↔ twiceD l = false ∧ x ∉ l := by
  rw [twice_nodup, twice_nodup, List.nodup_append]
  simp only [List.nodup_cons, List.not_mem_nil, not_false_eq_true, List.nodup_nil, and_self, true_and, List.mem_singleton]
  constructor
  · exact fun ⟨h1, h2⟩ => ⟨h1, fun hx => h2 x hx x rfl rfl⟩
  · exact fun ⟨h1, h2⟩ => ⟨h1, fun a ha b hb e => h2 (by rw [← hb, ← e]; exact ha)⟩
abbrev withR (d : Dcl) (r : DRul) : Dcl := { d with ruls := d.ruls ++ [r] }
def cutR {α : Type} (l : List α) (k : Nat) : List α := l.take k ++ l.drop (k + 1)
theorem cut_subR {α : Type} (l : List α) (k : Nat) : (cutR l k).Sublist l := by
  have h1 : (l.drop (k + 1)).Sublist (l.drop k) := by
    rw [← List.drop_drop]; exact List.drop_sublist _ _
  have := List.Sublist.append (List.Sublist.refl (l.take k)) h1
  rwa [List.take_append_drop] at this
theorem numOf_rng {l : List (List UInt8)} {s : List UInt8} {n : Int} (h : numOf l s = some n) : 0 ≤ n ∧ n < l.length := by
  unfold numOf at h
  rw [Option.map_eq_some_iff] at h
  obtain ⟨i, h1, rfl⟩ := h
  have := List.findIdx?_eq_some_iff_getElem.1 h1
  obtain ⟨hi, -⟩ := this
  omega
end Go.AM
end
section
set_option maxRecDepth 20000
set_option linter.all false
namespace Go.AM
open Go.Proofs Go.Lib
def pickS (syms : List DSym) (set : Int → Bool) : List Int := (((syms.take 16).zipIdx).filter fun p => set p.2).map fun p => p.1.v
def sumS (syms : List DSym) (set : Int → Bool) (n : Int) : Int × Int × Bool :=
  if n < 0 ∨ 256 < n then (0, 0, false) else match pickS syms set with
    | [] => (0, 0, false)
    | v :: r => if ((v :: r).all fun v => decide (0 ≤ v) && decide (v ≤ 99)) = false then (0, 0, false) else (n * r.foldl min v, n * r.foldl max v, true)
theorem foldl_min : ∀ (r : List Int) (v : Int), r.foldl min v ≤ v ∧ (∀ x ∈ r, r.foldl min v ≤ x) ∧ (r.foldl min v = v ∨ r.foldl min v ∈ r)
  | [], v => by simp
  | y :: r, v => by
    obtain ⟨h1, h2, h3⟩ := foldl_min r (min v y)
    rw [List.foldl_cons]
    refine ⟨by omega, fun x hx => ?_, ?_⟩
    · rcases List.mem_cons.1 hx with rfl | hx
      · omega
      · exact h2 x hx
    · rcases h3 with h3 | h3
      · by_cases q : v ≤ y
        · exact .inl (by omega)
        · exact .inr (by rw [h3, show min v y = y by omega]; simp)
      · exact .inr (by simp [h3])
theorem foldl_max : ∀ (r : List Int) (v : Int), v ≤ r.foldl max v ∧ (∀ x ∈ r, x ≤ r.foldl max v) ∧ (r.foldl max v = v ∨ r.foldl max v ∈ r)
  | [], v => by simp
  | y :: r, v => by
    obtain ⟨h1, h2, h3⟩ := foldl_max r (max v y)
    rw [List.foldl_cons]
    refine ⟨by omega, fun x hx => ?_, ?_⟩
    · rcases List.mem_cons.1 hx with rfl | hx
      · omega
      · exact h2 x hx
    · rcases h3 with h3 | h3
      · by_cases q : v ≤ y
        · exact .inr (by rw [h3, show max v y = y by omega]; simp)
        · exact .inl (by omega)
      · exact .inr (by simp [h3])
end Go.AM
end
section
set_option maxRecDepth 20000
set_option linter.all false
namespace Go.AM
open Go.Proofs Go.Lib
end Go.AM
end
section
set_option maxRecDepth 20000
set_option linter.all false
namespace Go.AM
open Go.Proofs Go.Lib
def addW (n : Nat) (l : List Nat) : Nat := l.foldl (fun n x => if n < 2000 then n + x else n) n
theorem addW_cons (n x : Nat) (r : List Nat) : addW n (x :: r) = addW (if n < 2000 then n + x else n) r := rfl
theorem addW_lt : ∀ {l : List Nat} {n : Nat}, addW n l < 2000 → n < 2000 ∧ ∀ x ∈ l, x < 2000
  | [], n, h => ⟨h, fun x hx => by cases hx⟩
  | x :: r, n, h => by
    rw [addW_cons] at h
    obtain ⟨h1, h2⟩ := addW_lt h
    have hn : n < 2000 := by
      split at h1
      · assumption
      · exact h1
    rw [if_pos hn] at h1
    refine ⟨hn, fun y hy => ?_⟩
    rcases List.mem_cons.1 hy with rfl | hy
    · omega
    · exact h2 y hy
def addG {α : Type} (own : α → Nat) (parts : List (α → List Nat)) (n : Nat) (l : List α) : Nat :=
  l.foldl (fun n x => if n < 2000 then parts.foldl (fun n p => addW n (p x)) (n + own x) else n) n
theorem parts_lt {α : Type} (x : α) : ∀ {parts : List (α → List Nat)} {n : Nat}, parts.foldl (fun n p => addW n (p x)) n < 2000 → n < 2000 ∧ ∀ p ∈ parts, ∀ y ∈ p x, y < 2000
  | [], n, h => ⟨h, fun p hp => by cases hp⟩
  | p :: r, n, h => by
    rw [List.foldl_cons] at h
    obtain ⟨h1, h2⟩ := parts_lt x h
    obtain ⟨h3, h4⟩ := addW_lt h1
    refine ⟨h3, fun q hq => ?_⟩
    rcases List.mem_cons.1 hq with rfl | hq
    · exact h4
    · exact h2 q hq
theorem addG_lt {α : Type} {own : α → Nat} {parts : List (α → List Nat)} : ∀ {l : List α} {n : Nat}, addG own parts n l < 2000 → n < 2000 ∧ ∀ x ∈ l, own x < 2000 ∧ ∀ p ∈ parts, ∀ y ∈ p x, y < 2000
  | [], n, h => ⟨h, fun x hx => by cases hx⟩
  | x :: r, n, h => by
    unfold addG at h
    rw [List.foldl_cons] at h
    obtain ⟨h1, h2⟩ := addG_lt (l := r) h
    have hn : n < 2000 := by
      split at h1
      · assumption
      · exact h1
    rw [if_pos hn] at h1
    obtain ⟨h3, h4⟩ := parts_lt x h1
    refine ⟨hn, fun y hy => ?_⟩
    rcases List.mem_cons.1 hy with rfl | hy
    · exact ⟨by omega, h4⟩
    · exact h2 y hy
def fewN (d : Dcl) : Nat :=
  let n := d.nm.length + d.holes.length + d.syms.length + d.regs.length + d.clus.length + d.ruls.length
  let n := addW n (d.syms.map fun s => s.nm.length)
  let n := addG (fun r : DReg => r.nm.length + r.ls.length) [fun r => r.ls.map (·.length)] n d.regs
  let n := addW n (d.clus.map fun c => c.nm.length + c.on.length)
  addG (fun r : DRul => r.nm.length + r.on.length + r.byN.length + r.ns.length + r.os.length) [fun r => r.ns.map (·.length), fun r => r.os.map (·.length)] n d.ruls
def few17 (d : Dcl) : Bool := decide (fewN d < 2000)
structure SmallD (d : Dcl) : Prop where
  top : d.nm.length + d.holes.length + d.syms.length + d.regs.length + d.clus.length + d.ruls.length < 2000
  sy : ∀ s ∈ d.syms, s.nm.length < 2000
  rg : ∀ r ∈ d.regs, r.nm.length + r.ls.length < 2000 ∧ ∀ l ∈ r.ls, l.length < 2000
  cl : ∀ c ∈ d.clus, c.nm.length + c.on.length < 2000
  ru : ∀ r ∈ d.ruls, r.nm.length + r.on.length + r.byN.length + r.ns.length + r.os.length < 2000 ∧ (∀ s ∈ r.ns, s.length < 2000) ∧ ∀ s ∈ r.os, s.length < 2000
theorem few_small {d : Dcl} (h : few17 d = true) : SmallD d := by
  unfold few17 fewN at h
  rw [decide_eq_true_eq] at h
  simp only [] at h
  obtain ⟨h, hr⟩ := addG_lt h
  obtain ⟨h, hc⟩ := addW_lt h
  obtain ⟨h, hg⟩ := addG_lt h
  obtain ⟨h, hs⟩ := addW_lt h
  refine ⟨h, fun s hs' => hs _ (List.mem_map_of_mem (f := fun s : DSym => s.nm.length) hs'), fun r hr' => ?_, fun c hc' => hc _ (List.mem_map_of_mem (f := fun c : DClu => c.nm.length + c.on.length) hc'), fun r hr' => ?_⟩
  · obtain ⟨a, b⟩ := hg r hr'
    exact ⟨a, fun l hl => b (fun r => r.ls.map (·.length)) (by simp) _ (List.mem_map_of_mem (f := List.length) hl)⟩
  · obtain ⟨a, b⟩ := hr r hr'
    exact ⟨a, fun s hs' => b (fun r => r.ns.map (·.length)) (by simp) _ (List.mem_map_of_mem (f := List.length) hs'), fun s hs' => b (fun r => r.os.map (·.length)) (by simp) _ (List.mem_map_of_mem (f := List.length) hs')⟩
end Go.AM
end
section
set_option maxRecDepth 20000
set_option linter.all false
namespace Go.AM
open Go.Proofs Go.Lib
theorem rising_iff : ∀ {a : Int} {l : List Int}, risingI a l = true ↔ (∀ x ∈ l, a < x) ∧ List.Pairwise (fun x y => x < y) l
  | a, [] => by simp [risingI]
  | a, x :: r => by
    have ih := rising_iff (a := x) (l := r)
    simp only [risingI, Bool.and_eq_true, decide_eq_true_eq, ih, List.mem_cons, forall_eq_or_imp, List.pairwise_cons]
    constructor
    · exact fun ⟨h1, h2, h3⟩ => ⟨⟨h1, fun y hy => by have := h2 y hy; omega⟩, h2, h3⟩
    · exact fun ⟨⟨h1, h2⟩, h3, h4⟩ => ⟨h1, h3, h4⟩
def allPos (n : Int) : List Int := (List.range n.toNat).map fun (i : Nat) => (i : Int)
theorem mem_all {n x : Int} : x ∈ allPos n ↔ 0 ≤ x ∧ x < n := by
  unfold allPos
  rw [List.mem_map]
  constructor
  · rintro ⟨i, hi, rfl⟩
    have := List.mem_range.1 hi
    omega
  · intro h
    exact ⟨x.toNat, List.mem_range.2 (by omega), by omega⟩
theorem all_nodup (n : Int) : (allPos n).Nodup := by
  unfold allPos
  rw [List.Nodup, List.pairwise_map]
  exact (List.nodup_range (n := n.toNat)).imp fun h e => h (by omega)
theorem all_len (n : Int) : (allPos n).length = n.toNat := by simp [allPos]
theorem split_len {α : Type} (p : α → Bool) : ∀ l : List α, l.length = (l.filter p).length + (l.filter fun x => !p x).length
  | [] => rfl
  | x :: r => by
    have ih := split_len p r
    rw [List.filter_cons, List.filter_cons, List.length_cons]
    cases p x <;> simp <;> omega
theorem left_len {n : Int} {holes : List Int} (hd : holes.Nodup) (hr : ∀ x ∈ holes, 0 ≤ x ∧ x < n) : ((allPos n).filter fun p => !holes.contains p).length + holes.length = n.toNat := by
  have h1 : ((allPos n).filter fun p => holes.contains p).Perm holes := by
    rw [List.perm_ext_iff_of_nodup ((all_nodup n).sublist List.filter_sublist) hd]
    intro x
    rw [List.mem_filter, List.contains_iff_mem, mem_all]
    exact ⟨fun h => h.2, fun h => ⟨hr x h, h⟩⟩
  have h2 := split_len (fun p => holes.contains p) (allPos n)
  rw [h1.length_eq, all_len] at h2
  omega
def cellsR (sh w h : Int) (holes : List Int) : Option (List Int) :=
  if (sh = 1 ∨ sh = 2) ∧ 1 ≤ w ∧ w ≤ 16 ∧ 1 ≤ h ∧ h ≤ 16 ∧ (∀ x ∈ holes, 0 ≤ x ∧ x < w * h) ∧ List.Pairwise (fun x y => x < y) holes ∧ ((allPos (w * h)).filter fun p => !holes.contains p) ≠ [] then
    some ((allPos (w * h)).filter fun p => !holes.contains p)
  else none
theorem cells_ref (sh w h : Int) (holes : List Int) : cellsR sh w h holes = cellsG sh w h holes := by
  unfold cellsR cellsG
  have e : ∀ (p q : Prop) [Decidable p] [Decidable q] (x : Option (List Int)), (p ↔ q) → (if p then x else none) = if q then x else none := fun p q _ _ x hpq => by
    by_cases hp : p
    · rw [if_pos hp, if_pos (hpq.1 hp)]
    · rw [if_neg hp, if_neg fun hq => hp (hpq.2 hq)]
  refine e _ _ _ ?_
  have hk : ∀ (h1 : ∀ x ∈ holes, 0 ≤ x ∧ x < w * h) (h2 : List.Pairwise (fun x y => x < y) holes), (((allPos (w * h)).filter fun p => !holes.contains p) ≠ [] ↔ (holes.length : Int) < w * h) := by
    intro h1 h2
    have hl := left_len (h2.imp fun q => by omega) h1
    rw [← List.length_pos_iff]
    omega
  rw [rising_iff]
  simp only [List.all_eq_true, decide_eq_true_eq]
  constructor
  · rintro ⟨a, b, c, d, e, f, g, i⟩
    exact ⟨a, b, c, d, e, (hk f g).1 i, ⟨fun x hx => by have := f x hx; omega, g⟩, fun x hx => (f x hx).2⟩
  · rintro ⟨a, b, c, d, e, f, ⟨g, g2⟩, i⟩
    have hr : ∀ x ∈ holes, 0 ≤ x ∧ x < w * h := fun x hx => ⟨by have := g x hx; omega, i x hx⟩
    exact ⟨a, b, c, d, e, hr, g2, (hk hr g2).2 f⟩
theorem cells_rise {sh w h : Int} {holes cells : List Int} (hc : cellsG sh w h holes = some cells) : List.Pairwise (fun x y => x < y) cells ∧ cells.length ≤ 256 ∧ ∀ x ∈ cells, 0 ≤ x ∧ x < 256 := by
  unfold cellsG at hc
  split at hc
  · rename_i hcond
    obtain ⟨-, a, b, c, d, -⟩ := hcond
    cases hc
    have hwh : w * h ≤ 256 := by
      have : w * h ≤ 16 * 16 := Int.mul_le_mul b d (by omega) (by omega)
      omega
    have hpw : List.Pairwise (fun x y : Int => x < y) (allPos (w * h)) := by
      unfold allPos
      rw [List.pairwise_map]
      exact List.pairwise_lt_range.imp fun q => by omega
    refine ⟨hpw.sublist List.filter_sublist, ?_, fun x hx => ?_⟩
    · have h1 := List.length_filter_le (fun p => !holes.contains p) (allPos (w * h))
      rw [all_len] at h1
      have : ((allPos (w * h)).filter fun p => !holes.contains p).length ≤ 256 := by omega
      exact this
    · have := mem_all.1 (List.mem_filter.1 hx).1
      omega
  · cases hc
end Go.AM
end
section
set_option maxRecDepth 20000
set_option linter.all false
namespace Go.AM
open Go.Proofs Go.Lib
def lowB (l : List Int) (x : Int) : Nat := (l.filter fun y => decide (y < x)).length
theorem lowB_of : ∀ {l : List Int} {x : Int} {i : Nat}, i ≤ l.length → (∀ k (hk : k < l.length), k < i → l[k] < x) → (∀ k (hk : k < l.length), i ≤ k → x ≤ l[k]) → lowB l x = i
  | [], x, i, hi, _, _ => by simp at hi; subst hi; rfl
  | y :: r, x, 0, _, _, h2 => by
    have h0 := h2 0 (by simp) (Nat.le_refl 0)
    have ih := lowB_of (l := r) (x := x) (i := 0) (Nat.zero_le _) (fun k hk h => by omega) (fun k hk _ => h2 (k + 1) (by simp; omega) (Nat.zero_le _))
    unfold lowB at ih ⊢
    rw [List.filter_cons, if_neg (by simp at h0; simp; omega)]; exact ih
  | y :: r, x, i + 1, hi, h1, h2 => by
    have h0 := h1 0 (by simp) (by omega)
    have ih := lowB_of (l := r) (x := x) (i := i) (by simp at hi; omega) (fun k hk h => h1 (k + 1) (by simp; omega) (by omega)) (fun k hk h => h2 (k + 1) (by simp; omega) (by omega))
    unfold lowB at ih ⊢
    rw [List.filter_cons, if_pos (by simpa using h0), List.length_cons, ih]
theorem rise_le {l : List Int} (hp : List.Pairwise (fun x y => x < y) l) {i j : Nat} (hj : j < l.length) (hij : i ≤ j) : l[i] ≤ l[j] := by
  by_cases e : i = j
  · subst e; exact Int.le_refl _
  · have := List.pairwise_iff_getElem.1 hp i j (by omega) hj (by omega)
    omega
def metOK (cells : List Int) : List Int → List Int → Bool
  | _, [] => true
  | met, p :: r => cells.contains p && !met.contains p && metOK cells (met ++ [p]) r
theorem met_iff (cells : List Int) : ∀ (l met : List Int), metOK cells met l = true ↔ (∀ p ∈ l, p ∈ cells ∧ p ∉ met) ∧ l.Nodup
  | [], met => by simp [metOK]
  | p :: r, met => by
    have ih := met_iff cells r (met ++ [p])
    simp only [metOK, Bool.and_eq_true, Bool.not_eq_true', List.contains_iff_mem, ih, List.mem_cons, forall_eq_or_imp, List.nodup_cons, List.mem_append, List.not_mem_nil, or_false, not_or]
    rw [← Bool.not_eq_true, List.contains_iff_mem]
    constructor
    · exact fun ⟨⟨a, b⟩, c, d⟩ => ⟨⟨⟨a, b⟩, fun x hx => ⟨(c x hx).1, (c x hx).2.1⟩⟩, fun hm => (c p hm).2.2 rfl, d⟩
    · exact fun ⟨⟨⟨a, b⟩, c⟩, d, e⟩ => ⟨⟨a, b⟩, fun x hx => ⟨(c x hx).1, (c x hx).2, fun q => d (q ▸ hx)⟩, e⟩
theorem list_met (cells l : List Int) : listOK cells l = (metOK cells [] l && decide (1 ≤ l.length)) := by
  unfold listOK
  congr 1
  rw [Bool.eq_iff_iff, met_iff, Bool.and_eq_true, List.all_eq_true]
  simp only [List.contains_iff_mem, List.not_mem_nil, not_false_eq_true, and_true, Bool.not_eq_true', twice_nodup]
end Go.AM
end
section
set_option maxRecDepth 20000
set_option linter.all false
namespace Go.AM
open Go.Proofs Go.Lib
theorem numOf_app (a b : List (List UInt8)) (s : List UInt8) : numOf (a ++ b) s = match numOf a s with
    | some i => some i
    | none => (numOf b s).map fun i => (a.length : Int) + i := by
  unfold numOf
  rw [List.findIdx?_append]
  cases h : a.findIdx? fun x => decide (x = s) with
  | some i => rfl
  | none =>
    simp only [Option.none_or, Option.map_none]
    cases b.findIdx? fun x => decide (x = s) with
    | none => rfl
    | some i => simp [Int.add_comm]
theorem numOf_none {l : List (List UInt8)} {s : List UInt8} : numOf l s = none ↔ s ∉ l := by
  unfold numOf
  rw [Option.map_eq_none_iff, List.findIdx?_eq_none_iff]
  simp only [decide_eq_false_iff_not]
  exact ⟨fun h hm => h s hm rfl, fun h x hx e => h (e ▸ hx)⟩
theorem fam_ref (d : Dcl) (s : List UInt8) : numOf (famNs d) s = match numOf givenF s with
    | some i => some i
    | none => (numOf (d.regs.map (·.nm)) s).map fun i => 8 + i := by
  unfold famNs
  rw [numOf_app]; rfl
theorem setOf_cons {l : List (List UInt8)} {s : List UInt8} {r : List (List UInt8)} : setOf l (s :: r) = match l.findIdx? (fun x => decide (x = s)), setOf l r with
    | some i, some n => some (Int.ofNat (Nat.lor (1 <<< i) n.toNat))
    | _, _ => none := rfl
def bits (is : List Nat) : Nat := is.foldr (fun i n => Nat.lor (1 <<< i) n) 0
theorem setOf_bits {l ss : List (List UInt8)} : setOf l ss = (allSome (fun s => l.findIdx? fun x => decide (x = s)) ss).map fun is => (bits is : Int) := by
  induction ss with
  | nil => rfl
  | cons s r ih =>
    rw [setOf_cons, ih]
    simp only [allSome]
    cases l.findIdx? fun x => decide (x = s) with
    | none => rfl
    | some i =>
      cases allSome (fun s => l.findIdx? fun x => decide (x = s)) r with
      | none => rfl
      | some is => rfl
end Go.AM
end
section
set_option maxRecDepth 20000
set_option linter.all false
namespace Go.AM
open Go.Proofs Go.Lib
theorem rise_ext : ∀ {a b : List Int}, List.Pairwise (fun x y => x < y) a → List.Pairwise (fun x y => x < y) b → (∀ x, x ∈ a ↔ x ∈ b) → a = b
  | [], [], _, _, _ => rfl
  | [], y :: s, _, _, h => by have := (h y).2 (by simp); cases this
  | x :: r, [], _, _, h => by have := (h x).1 (by simp); cases this
  | x :: r, y :: s, ha, hb, h => by
    obtain ⟨a1, a2⟩ := List.pairwise_cons.1 ha
    obtain ⟨b1, b2⟩ := List.pairwise_cons.1 hb
    have e : x = y := by
      rcases List.mem_cons.1 ((h x).1 (by simp)) with q | q
      · exact q
      · rcases List.mem_cons.1 ((h y).2 (by simp)) with p | p
        · exact p.symm
        · have := a1 y p; have := b1 x q; omega
    subst e
    refine congrArg _ (rise_ext a2 b2 fun z => ?_)
    constructor
    · intro hz
      rcases List.mem_cons.1 ((h z).1 (by simp [hz])) with q | q
      · subst q; have := a1 z hz; omega
      · exact q
    · intro hz
      rcases List.mem_cons.1 ((h z).2 (by simp [hz])) with q | q
      · subst q; have := b1 z hz; omega
      · exact q
theorem all_rise (n : Int) : List.Pairwise (fun x y : Int => x < y) (allPos n) := by
  unfold allPos
  rw [List.pairwise_map]
  exact List.pairwise_lt_range.imp fun q => by omega
theorem holes_all {n : Int} {holes : List Int} (h1 : ∀ x ∈ holes, 0 ≤ x ∧ x < n) (h2 : List.Pairwise (fun x y => x < y) holes) : ((allPos n).filter fun p => holes.contains p) = holes := by
  refine rise_ext ((all_rise n).sublist List.filter_sublist) h2 fun x => ?_
  rw [List.mem_filter, List.contains_iff_mem, mem_all]
  exact ⟨fun h => h.2, fun h => ⟨h1 x h, h⟩⟩
theorem cells_ok {sh w h : Int} {holes cells : List Int} (hc : cellsG sh w h holes = some cells) : (sh = 1 ∨ sh = 2) ∧ 1 ≤ w ∧ w ≤ 16 ∧ 1 ≤ h ∧ h ≤ 16 ∧ (holes.length : Int) < w * h ∧ (∀ x ∈ holes, 0 ≤ x ∧ x < w * h) ∧ List.Pairwise (fun x y => x < y) holes ∧ cells = (allPos (w * h)).filter fun p => !holes.contains p := by
  unfold cellsG at hc
  split at hc
  · rename_i hq
    obtain ⟨a, b, c, d, e, f, g, i⟩ := hq
    cases hc
    rw [rising_iff] at g
    simp only [List.all_eq_true, decide_eq_true_eq] at i
    exact ⟨a, b, c, d, e, f, fun x hx => ⟨by have := g.1 x hx; omega, i x hx⟩, g.2, rfl⟩
  · cases hc
theorem wh_le {w h : Int} (h1 : 1 ≤ w) (h2 : w ≤ 16) (h3 : 1 ≤ h) (h4 : h ≤ 16) : 1 ≤ w * h ∧ w * h ≤ 256 := by
  have a : w * h ≤ 16 * 16 := Int.mul_le_mul h2 h4 (by omega) (by omega)
  have b : 1 * 1 ≤ w * h := Int.mul_le_mul h1 h3 (by omega) (by omega)
  omega
def cellL (cells l : List Int) : List Int := l.map fun p => (lowB cells p : Int)
theorem low_at {l : List Int} (hp : List.Pairwise (fun x y => x < y) l) {i : Nat} (hi : i < l.length) : lowB l l[i] = i := by
  refine lowB_of (Nat.le_of_lt hi) (fun k hk h => List.pairwise_iff_getElem.1 hp k i hk hi h) fun k hk h => rise_le hp hk h
theorem low_inj {l : List Int} (hp : List.Pairwise (fun x y => x < y) l) {x y : Int} (hx : x ∈ l) (hy : y ∈ l) (h : lowB l x = lowB l y) : x = y := by
  obtain ⟨i, hi, rfl⟩ := List.mem_iff_getElem.1 hx
  obtain ⟨j, hj, rfl⟩ := List.mem_iff_getElem.1 hy
  rw [low_at hp hi, low_at hp hj] at h
  subst h; rfl
theorem pair_iff : ∀ {l : List (List Int)}, pairTwice l = true ↔ ∃ (a b : Nat) (ha : a < l.length) (hb : b < l.length), b < a ∧ alikeL l[a] l[b] = true
  | [] => by simp [pairTwice]
  | x :: r => by
    have ih := pair_iff (l := r)
    simp only [pairTwice, Bool.or_eq_true, ih, List.any_eq_true]
    constructor
    · rintro (⟨y, hy, h⟩ | ⟨a, b, ha, hb, hab, h⟩)
      · obtain ⟨i, hi, rfl⟩ := List.mem_iff_getElem.1 hy
        exact ⟨i + 1, 0, by simp; omega, by simp, by omega, h⟩
      · exact ⟨a + 1, b + 1, by simp; omega, by simp; omega, by omega, h⟩
    · rintro ⟨a, b, ha, hb, hab, h⟩
      cases a with
      | zero => omega
      | succ a =>
        cases b with
        | zero => exact .inl ⟨r[a]'(by simp at ha; omega), List.getElem_mem _, h⟩
        | succ b => exact .inr ⟨a, b, by simp at ha; omega, by simp at hb; omega, by omega, h⟩
theorem regs_drop (cells : List Int) (l : List DReg) (i : Nat) (hi : i < l.length) : regsE cells (l.drop i) = if regE cells l[i] = 0 then regsE cells (l.drop (i + 1)) else regE cells l[i] := by
  rw [List.drop_eq_getElem_cons hi]; rfl
theorem listOK_nodup {cells l : List Int} (h : listOK cells l = true) : l.Nodup ∧ 1 ≤ l.length ∧ ∀ p ∈ l, p ∈ cells := by
  unfold listOK at h
  simp only [Bool.and_eq_true, Bool.not_eq_true', decide_eq_true_eq, twice_nodup, List.all_eq_true, List.contains_iff_mem] at h
  exact ⟨h.1.2, h.2, h.1.1⟩
end Go.AM
end
section
set_option maxRecDepth 20000
set_option linter.all false
namespace Go.AM
open Go.Proofs Go.Lib
abbrev Bs := List UInt8
abbrev eI (n : Int) : AVal := .int .i64 n
abbrev eSs (l : List Bs) : AVal := .sl (.none 1) (l.map .str)
abbrev eIs (l : List Int) : AVal := .sl (.none 1) (l.map eI)
theorem strs_under (n : Nat) (l : List Bs) : unders n (l.map AVal.str) := unders_map (f := AVal.str) (fun x => trivial) _
theorem eI_under (n : Nat) (l : List Int) : unders n (l.map eI) := unders_map (f := eI) (fun x => trivial) _
theorem toSs_map (l : List Bs) : (l.map AVal.str).map toS = l := by rw [List.map_map]; exact List.map_id _
theorem eI_map (l : List Int) : (l.map eI).map toI = l := by rw [List.map_map]; exact List.map_id _
inductive Wks : List AVal → List AVal → Prop
  | nil : Wks [] []
  | cons {a b : AVal} {ws us : List AVal} : Wk a b → Wks ws us → Wks (a :: ws) (b :: us)
theorem Wks.rel {g : Ghost} : ∀ {ws us : List AVal}, Wks ws us → ∀ vs, VRels g ws vs → VRels g us vs
  | _, _, .nil, vs, h => h
  | _, _, .cons h t, vs, ⟨v, r, e, k1, k2⟩ => ⟨v, r, e, h _ _ k1, t.rel r k2⟩
theorem Wk.agg {ws us : List AVal} (h : Wks ws us) : Wk (.agg ws) (.agg us) := by
  rintro g v ⟨vs, rfl, h1, h2⟩
  exact ⟨vs, rfl, h.rel _ h1, h2⟩
theorem Wk.tup {ws us : List AVal} (h : Wks ws us) : Wk (.tup ws) (.tup us) := by
  rintro g v ⟨vs, rfl, h1⟩
  exact ⟨vs, rfl, h.rel _ h1⟩
theorem Wk.trans {a b c : AVal} (h : Wk a b) (k : Wk b c) : Wk a c := fun g v q => k g v (h g v q)
def KeepsB (pid : Nat) (H H' : AHeap) : Prop := ∀ id ob, id ≠ pid → hget H id = some ob → hget H' id = some ob
theorem KeepsB.refl {pid : Nat} (H : AHeap) : KeepsB pid H H := fun _ _ _ h => h
theorem KeepsB.trans {pid : Nat} {H H' H'' : AHeap} (h : KeepsB pid H H') (k : KeepsB pid H' H'') : KeepsB pid H H'' := fun id ob hne x => k id ob hne (h id ob hne x)
theorem KeepsB.set {pid : Nat} {H H' : AHeap} {ob : AObj} (h : KeepsB pid H H') : KeepsB pid H (hset H' pid ob) := fun id o hne x => by
  rw [hget_hset_ne _ _ _ _ (Ne.symm hne)]; exact h id o hne x
theorem KeepsB.new {pid : Nat} {H H' : AHeap} {n i : Nat} {ob : AObj} (hf : Fresh H n) (hi : n ≤ i) (h : KeepsB pid H H') : KeepsB pid H (hset H' i ob) := fun id o hne x => by
  have := hf.lt x
  rw [hget_hset_ne _ _ _ _ (by omega)]; exact h id o hne x
section
variable {n pid : Nat} {H : AHeap}
theorem fr1 (h : Fresh H n) (k : Nat) : hget H (n + k) = none := h _ (by omega)
theorem fr0 (h : Fresh H n) : hget H n = none := h _ (Nat.le_refl _)
end
structure Dc (α : Type) where
  enc : α → AVal
  dec : AVal → α
  ok : AVal → Prop
  wk : ∀ v, ok v → Wk v (enc (dec v))
def okInt : AVal → Prop
  | .int .i64 _ => True
  | _ => False
theorem okInt_wk (v : AVal) (h : okInt v) : Wk v (eI (toI v)) := by
  unfold okInt at h
  split at h
  · exact Wk.refl _
  · exact h.elim
def dI : Dc Int := ⟨eI, toI, okInt, okInt_wk⟩
theorem isS_wk (v : AVal) (h : isS v) : Wk v (.str (toS v)) := by
  cases v <;> first | exact Wk.refl _ | exact h.elim
def dS : Dc Bs := ⟨.str, toS, isS, isS_wk⟩
def okL {α : Type} (e : Nat) (enc : α → AVal) (dec : AVal → α) : AVal → Prop
  | .sl t L => (t.esz = e ∨ L = []) ∧ L = (L.map dec).map enc
  | _ => False
def decL {α : Type} (dec : AVal → α) : AVal → List α
  | .sl _ L => L.map dec
  | _ => []
theorem okL_wk {α : Type} {e : Nat} {enc : α → AVal} {dec : AVal → α} (v : AVal) (h : okL e enc dec v) : Wk v (.sl (.none e) ((decL dec v).map enc)) := by
  cases v <;> simp only [okL] at h <;> try exact h.elim
  simp only [decL]
  rw [← h.2]; exact Wk.sl h.1
def dSs : Dc (List Bs) := ⟨eSs, decL toS, okL 1 .str toS, okL_wk⟩
def dIs : Dc (List Int) := ⟨eIs, decL toI, okL 1 eI toI, okL_wk⟩
def s1 {α : Type} (A : Dc α) (c : α → Prop) (f : α → AVal) : List AVal → AHeap → Prop × AVal := fun a _ => match a with
  | [x] => (A.ok x ∧ c (A.dec x), f (A.dec x))
  | _ => (False, .tup [])
def s2 {α β : Type} (A : Dc α) (B : Dc β) (c : α → β → Prop) (f : α → β → AVal) : List AVal → AHeap → Prop × AVal := fun a _ => match a with
  | [x, y] => (A.ok x ∧ B.ok y ∧ c (A.dec x) (B.dec y), f (A.dec x) (B.dec y))
  | _ => (False, .tup [])
def s3 {α β γ : Type} (A : Dc α) (B : Dc β) (C : Dc γ) (c : α → β → γ → Prop) (f : α → β → γ → AVal) : List AVal → AHeap → Prop × AVal := fun a _ => match a with
  | [x, y, z] => (A.ok x ∧ B.ok y ∧ C.ok z ∧ c (A.dec x) (B.dec y) (C.dec z), f (A.dec x) (B.dec y) (C.dec z))
  | _ => (False, .tup [])
theorem q1 {α : Type} {A : Dc α} {c : α → Prop} {f : α → AVal} {fid : FuncId} (h : ∀ x, c x → Pur Tryz.prog fid [A.enc x] (f x)) : ∀ args H n, (s1 A c f args H).1 → Quiet Tryz.prog fid args H n (s1 A c f args H).2 := by
  intro args H n hh
  unfold s1 at hh ⊢
  split at hh
  · obtain ⟨h1, h2⟩ := hh
    refine ACalls.args ((h _ h2).quiet H n) ?_
    rintro g vs ⟨v, r, rfl, k1, k2⟩
    exact ⟨v, _, rfl, A.wk _ h1 _ _ k1, k2⟩
  · exact hh.elim
theorem q2 {α β : Type} {A : Dc α} {B : Dc β} {c : α → β → Prop} {f : α → β → AVal} {fid : FuncId} (h : ∀ x y, c x y → Pur Tryz.prog fid [A.enc x, B.enc y] (f x y)) : ∀ args H n, (s2 A B c f args H).1 → Quiet Tryz.prog fid args H n (s2 A B c f args H).2 := by
  intro args H n hh
  unfold s2 at hh ⊢
  split at hh
  · obtain ⟨h1, h2, h3⟩ := hh
    refine ACalls.args ((h _ _ h3).quiet H n) ?_
    rintro g vs ⟨v, r, rfl, k1, w, r', rfl, k2, k3⟩
    exact ⟨v, _, rfl, A.wk _ h1 _ _ k1, w, _, rfl, B.wk _ h2 _ _ k2, k3⟩
  · exact hh.elim
theorem q3 {α β γ : Type} {A : Dc α} {B : Dc β} {C : Dc γ} {c : α → β → γ → Prop} {f : α → β → γ → AVal} {fid : FuncId} (h : ∀ x y z, c x y z → Pur Tryz.prog fid [A.enc x, B.enc y, C.enc z] (f x y z)) : ∀ args H n, (s3 A B C c f args H).1 → Quiet Tryz.prog fid args H n (s3 A B C c f args H).2 := by
  intro args H n hh
  unfold s3 at hh ⊢
  split at hh
  · obtain ⟨h1, h2, h3, h4⟩ := hh
    refine ACalls.args ((h _ _ _ h4).quiet H n) ?_
    rintro g vs ⟨v, r, rfl, k1, w, r', rfl, k2, u, r'', rfl, k3, k4⟩
    exact ⟨v, _, rfl, A.wk _ h1 _ _ k1, w, _, rfl, B.wk _ h2 _ _ k2, u, _, rfl, C.wk _ h3 _ _ k3, k4⟩
  · exact hh.elim
theorem Pur.all {P : Program} {f : FuncId} {args : List AVal} {r r' : AVal} (h : Pur P f args r) (e : r = r') : Pur P f args r' := e ▸ h
abbrev any1 {α : Type} (_ : α) : Prop := True
abbrev any2 {α β : Type} (_ : α) (_ : β) : Prop := True
theorem map_take {α β : Type} {f : α → β} {l : List α} {i : Nat} (h : i < l.length) : (l.take (i + 1)).map f = (l.take i).map f ++ [f l[i]] := by
  rw [List.take_add_one, List.getElem?_eq_getElem h, List.map_append]; rfl
theorem lt_T {a b : Nat} (h : a < b) : ((a : Int) < (b : Int)) = True := eq_true (by omega)
theorem lt_F {a b : Nat} (h : ¬ a < b) : ((a : Int) < (b : Int)) = False := eq_false (by omega)
theorem w64_in {x : Int} (h1 : -9223372036854775808 ≤ x) (h2 : x ≤ 9223372036854775807) : IntKind.wrap .i64 x = x := by rw [IntKind.wrap_i64]; omega
theorem w64_succ {k : Nat} (h : k < 1000000000000) : IntKind.wrap .i64 ((k : Int) + 1) = ((k + 1 : Nat) : Int) := by rw [w64_in (by omega) (by omega)]; rfl
theorem c0 : ((0 : Nat) : Int) = 0 := rfl
theorem c1 : ((1 : Nat) : Int) = 1 := rfl
theorem cS1 {n : Nat} : ((0 : Int) < ((n + 1 : Nat) : Int)) = True := eq_true (by omega)
theorem i00 : ((0 : Int) < 0) = False := eq_false (by decide)
def tkG (e lo : Nat) (H : AHeap) (tk : Tok) : Prop := tk = .nil ∨ tk = .exact e ∨ ∃ id, tk = .own id e ∧ lo ≤ id ∧ hget H id = some .tok
theorem tkG.app {e lo : Nat} {H : AHeap} {tk : Tok} (h : tkG e lo H tk) : appOK H e tk := by
  rcases h with rfl | rfl | ⟨id, rfl, h1, h2⟩
  · trivial
  · rfl
  · exact ⟨rfl, h2⟩
theorem tkG.set {e lo i : Nat} {H : AHeap} {tk : Tok} {ob : AObj} (h : tkG e lo H tk) (hi : i < lo ∨ (∃ cs, hget H i = some (.box cs)) ∨ hget H i = none) : tkG e lo (hset H i ob) tk := by
  rcases h with rfl | rfl | ⟨id, rfl, h1, h2⟩
  · exact .inl rfl
  · exact .inr (.inl rfl)
  · refine .inr (.inr ⟨id, rfl, h1, ?_⟩)
    rw [hget_hset_ne _ _ _ _ ?_]
    · exact h2
    · rintro rfl
      rcases hi with q | ⟨cs, q⟩ | q
      · omega
      · rw [h2] at q; cases q
      · rw [h2] at q; cases q
theorem kill_get {e lo i : Nat} {H : AHeap} {tk : Tok} (h : tkG e lo H tk) (hi : i < lo ∨ ∃ cs, hget H i = some (.box cs)) : hget (killTok H tk) i = hget H i := by
  rcases h with rfl | rfl | ⟨id, rfl, h1, h2⟩
  · rfl
  · rfl
  · simp only [killTok]
    rw [hget_hset_ne _ _ _ _ ?_]
    rintro rfl
    rcases hi with q | ⟨cs, q⟩
    · omega
    · rw [h2] at q; cases q
theorem kill_fresh {e lo n : Nat} {H : AHeap} {tk : Tok} (h : tkG e lo H tk) (hf : Fresh H n) : Fresh (killTok H tk) n := by
  rcases h with rfl | rfl | ⟨id, rfl, h1, h2⟩
  · exact hf
  · exact hf
  · exact hf.hset (Nat.le_refl _) (hf.lt h2)
theorem kill_none {tk : Tok} {H : AHeap} {e lo i : Nat} (h : tkG e lo H tk) (hi : hget H i = none) : hget (killTok H tk) i = none := by
  rcases h with rfl | rfl | ⟨id, rfl, h1, h2⟩
  · exact hi
  · exact hi
  · simp only [killTok]
    rw [hget_hset_ne _ _ _ _ ?_]
    · exact hi
    · rintro rfl; rw [h2] at hi; cases hi
theorem tkG.kill {e e' lo lo' : Nat} {H : AHeap} {tk tk' : Tok} (h : tkG e lo H tk) (h' : tkG e' lo' H tk') (hd : ∀ i, tk = .own i e → tk' ≠ .own i e') : tkG e lo (killTok H tk') tk := by
  rcases h' with rfl | rfl | ⟨j, rfl, h1, h2⟩
  · exact h
  · exact h
  · rcases h with rfl | rfl | ⟨id, rfl, h3, h4⟩
    · exact .inl rfl
    · exact .inr (.inl rfl)
    · refine .inr (.inr ⟨id, rfl, h3, ?_⟩)
      simp only [killTok]
      rw [hget_hset_ne _ _ _ _ (fun e => hd id rfl (by rw [e]))]; exact h4
abbrev few {α : Type} (l : List α) : Prop := l.length < 1000000000
theorem ext_take {α : Type} {a b : List α} (hl : a.length = b.length) (h : ∀ j, j < a.length → a[j]? = b[j]?) : a = b := List.ext_getElem? fun j => by
  rcases Nat.lt_or_ge j a.length with q | q
  · exact h j q
  · rw [List.getElem?_eq_none q, List.getElem?_eq_none (by omega)]
theorem len_ne {a b : Nat} (h : a ≠ b) : ((a : Int) = (b : Int)) = False := eq_false (by omega)
theorem len_eq {a b : Nat} (h : a = b) : ((a : Int) = (b : Int)) = True := eq_true (by omega)
theorem small_of {n b : Nat} (h : n ≤ 1000000000) (hb : b ≤ 1000) : small n b := by
  have : n * b ≤ 1000000000 * 1000 := Nat.mul_le_mul h hb
  unfold small; omega
theorem map_dec {α : Type} {enc : α → AVal} {dec : AVal → α} (h : ∀ x, dec (enc x) = x) (l : List α) : (l.map enc).map dec = l := by
  rw [List.map_map]; exact (List.map_congr_left fun x _ => h x).trans (List.map_id _)
noncomputable def same {α : Type} (a b : α) : Bool := @decide (a = b) (Classical.propDecidable _)
end Go.AM
end
section
set_option maxRecDepth 20000
set_option linter.all false
namespace Go.AM
open Go.Proofs Go.Lib
abbrev eLl (l : List (List Int)) : AVal := .sl (.none 1) (l.map eIs)
abbrev encSy (s : DSym) : AVal := .agg [.str s.nm, .int .i64 s.v]
abbrev encRg (r : DReg) : AVal := .agg [.str r.nm, eLl r.ls]
abbrev encCl (c : DClu) : AVal := .agg [.str c.nm, .str c.on, .int .i64 c.fam, .int .i64 c.ty, .int .i64 c.lo, .int .i64 c.hi]
abbrev cellsRu (r : DRul) : List AVal := [.str r.nm, .str r.on, .int .i64 r.kind, .int .i64 r.fam, eSs r.ns, eSs r.os, .int .i64 r.set, .int .i64 r.oth, .int .i64 r.op, .int .i64 r.n, .str r.byN, .int .i64 r.clue]
abbrev encRu (r : DRul) : AVal := .agg (cellsRu r)
abbrev eSys (l : List DSym) : AVal := .sl (.none 2) (l.map encSy)
abbrev eRgs (l : List DReg) : AVal := .sl (.none 2) (l.map encRg)
abbrev eCls (l : List DClu) : AVal := .sl (.none 6) (l.map encCl)
abbrev eRus (l : List DRul) : AVal := .sl (.none 12) (l.map encRu)
abbrev cellsD (d : Dcl) : List AVal := [.str d.nm, .int .i64 d.ver, .int .i64 d.sh, .int .i64 d.w, .int .i64 d.h, eIs d.holes, eSys d.syms, eRgs d.regs, eCls d.clus, eRus d.ruls]
abbrev encD (d : Dcl) : AVal := .agg (cellsD d)
theorem eIs_under (n : Nat) (l : List Int) : (eIs l).under n := ⟨trivial, eI_under n _⟩
theorem eSs_under (n : Nat) (l : List Bs) : (eSs l).under n := ⟨trivial, strs_under n _⟩
theorem eLl_under (n : Nat) (l : List (List Int)) : (eLl l).under n := ⟨trivial, unders_map (eIs_under n) _⟩
theorem encSy_under (n : Nat) (s : DSym) : (encSy s).under n := ⟨trivial, trivial, trivial⟩
theorem encRg_under (n : Nat) (r : DReg) : (encRg r).under n := ⟨trivial, eLl_under n _, trivial⟩
theorem encCl_under (n : Nat) (c : DClu) : (encCl c).under n := ⟨trivial, trivial, trivial, trivial, trivial, trivial, trivial⟩
theorem encRu_under (n : Nat) (r : DRul) : (encRu r).under n := ⟨trivial, trivial, trivial, trivial, eSs_under n _, eSs_under n _, trivial, trivial, trivial, trivial, trivial, trivial, trivial⟩
theorem eSys_under (n : Nat) (l : List DSym) : (eSys l).under n := ⟨trivial, unders_map (encSy_under n) _⟩
theorem eRgs_under (n : Nat) (l : List DReg) : (eRgs l).under n := ⟨trivial, unders_map (encRg_under n) _⟩
theorem eCls_under (n : Nat) (l : List DClu) : (eCls l).under n := ⟨trivial, unders_map (encCl_under n) _⟩
theorem eRus_under (n : Nat) (l : List DRul) : (eRus l).under n := ⟨trivial, unders_map (encRu_under n) _⟩
theorem encD_under (n : Nat) (d : Dcl) : (encD d).under n := ⟨trivial, trivial, trivial, trivial, trivial, eIs_under n _, eSys_under n _, eRgs_under n _, eCls_under n _, eRus_under n _, trivial⟩
def decIs : AVal → List Int
  | .sl _ L => L.map toI
  | _ => []
def decSs : AVal → List Bs
  | .sl _ L => L.map toS
  | _ => []
def decLl : AVal → List (List Int)
  | .sl _ L => L.map decIs
  | _ => []
def decSy : AVal → DSym
  | .agg [.str nm, .int _ v] => ⟨nm, v⟩
  | _ => ⟨[], 0⟩
def decRg : AVal → DReg
  | .agg [.str nm, l] => ⟨nm, decLl l⟩
  | _ => ⟨[], []⟩
def decCl : AVal → DClu
  | .agg [.str nm, .str on, .int _ f, .int _ t, .int _ lo, .int _ hi] => ⟨nm, on, f, t, lo, hi⟩
  | _ => ⟨[], [], 0, 0, 0, 0⟩
def decRu : AVal → DRul
  | .agg [.str nm, .str on, .int _ k, .int _ f, ns, os, .int _ s, .int _ o, .int _ op, .int _ n, .str b, .int _ c] => ⟨nm, on, k, f, decSs ns, decSs os, s, o, op, n, b, c⟩
  | _ => ⟨[], [], 0, 0, [], [], 0, 0, 0, 0, [], 0⟩
def decLs {α : Type} (f : AVal → α) : AVal → List α
  | .sl _ L => L.map f
  | _ => []
def decD : AVal → Dcl
  | .agg [.str nm, .int _ v, .int _ sh, .int _ w, .int _ h, ho, sy, rg, cl, ru] => ⟨nm, v, sh, w, h, decIs ho, decLs decSy sy, decLs decRg rg, decLs decCl cl, decLs decRu ru⟩
  | _ => ⟨[], 0, 0, 0, 0, [], [], [], [], []⟩
theorem decIs_enc (l : List Int) : decIs (eIs l) = l := eI_map l
theorem decLl_enc (l : List (List Int)) : decLl (eLl l) = l := map_dec decIs_enc l
theorem decSy_enc (s : DSym) : decSy (encSy s) = s := rfl
theorem decRg_enc (r : DReg) : decRg (encRg r) = r := by simp only [decRg, decLl_enc]
theorem decCl_enc (c : DClu) : decCl (encCl c) = c := rfl
theorem decRu_enc (r : DRul) : decRu (encRu r) = r := by simp only [decRu, decSs, toSs_map]
theorem decD_enc (d : Dcl) : decD (encD d) = d := by
  simp only [decD, decIs, decLs, eI_map, map_dec decSy_enc, map_dec decRg_enc, map_dec decCl_enc, map_dec decRu_enc]
def dWk {α : Type} (enc : α → AVal) (dec : AVal → α) : Dc α := ⟨enc, dec, fun v => Wk v (enc (dec v)), fun _ h => h⟩
theorem dWk_ok {α : Type} {enc : α → AVal} {dec : AVal → α} (h : ∀ x, dec (enc x) = x) (x : α) : (dWk enc dec).ok (enc x) = True := eq_true (by show Wk _ _; rw [h]; exact Wk.refl _)
def dSy : Dc DSym := dWk encSy decSy
def dRg : Dc DReg := dWk encRg decRg
def dCl : Dc DClu := dWk encCl decCl
def dRu : Dc DRul := dWk encRu decRu
def dD : Dc Dcl := dWk encD decD
theorem dSy_ok (x : DSym) : dSy.ok (encSy x) = True := dWk_ok decSy_enc x
theorem dSy_dec (x : DSym) : dSy.dec (encSy x) = x := rfl
theorem dRg_ok (x : DReg) : dRg.ok (encRg x) = True := dWk_ok decRg_enc x
theorem dRg_dec (x : DReg) : dRg.dec (encRg x) = x := decRg_enc x
theorem dCl_ok (x : DClu) : dCl.ok (encCl x) = True := dWk_ok decCl_enc x
theorem dCl_dec (x : DClu) : dCl.dec (encCl x) = x := rfl
theorem dRu_ok (x : DRul) : dRu.ok (encRu x) = True := dWk_ok decRu_enc x
theorem dRu_dec (x : DRul) : dRu.dec (encRu x) = x := decRu_enc x
theorem dD_ok (x : Dcl) : dD.ok (encD x) = True := dWk_ok decD_enc x
theorem dD_dec (x : Dcl) : dD.dec (encD x) = x := decD_enc x
def dLi {α : Type} (e : Nat) (enc : α → AVal) (dec : AVal → α) : Dc (List α) := ⟨fun l => .sl (.none e) (l.map enc), decL dec, okL e enc dec, okL_wk⟩
theorem dLi_ok {α : Type} {e : Nat} {enc : α → AVal} {dec : AVal → α} (h : ∀ x, dec (enc x) = x) {t : Tok} {l : List α} (ht : t.esz = e ∨ l = []) : (dLi e enc dec).ok (.sl t (l.map enc)) = True := eq_true (by
  refine ⟨ht.imp id fun q => by rw [q]; rfl, ?_⟩
  rw [map_dec h])
theorem dLi_dec {α : Type} {e : Nat} {enc : α → AVal} {dec : AVal → α} (h : ∀ x, dec (enc x) = x) {t : Tok} {l : List α} : (dLi e enc dec).dec (.sl t (l.map enc)) = l := map_dec h l
def dLl : Dc (List (List Int)) := dLi 1 eIs decIs
def dSys : Dc (List DSym) := dLi 2 encSy decSy
def dRgs : Dc (List DReg) := dLi 2 encRg decRg
def dCls : Dc (List DClu) := dLi 6 encCl decCl
def dRus : Dc (List DRul) := dLi 12 encRu decRu
theorem dIs_ok (l : List Int) : dIs.ok (eIs l) = True := eq_true ⟨.inl rfl, by rw [eI_map]⟩
theorem dIs_dec (l : List Int) : dIs.dec (eIs l) = l := eI_map l
theorem dSs_ok (l : List Bs) : dSs.ok (eSs l) = True := eq_true ⟨.inl rfl, by rw [toSs_map]⟩
theorem dSs_dec (l : List Bs) : dSs.dec (eSs l) = l := toSs_map l
theorem dI_ok (x : Int) : dI.ok (.int .i64 x) = True := eq_true trivial
theorem dI_dec (x : Int) : dI.dec (.int .i64 x) = x := rfl
theorem dS_ok (x : Bs) : dS.ok (.str x) = True := eq_true trivial
theorem dS_dec (x : Bs) : dS.dec (.str x) = x := rfl
end Go.AM
end
section
set_option maxRecDepth 20000
set_option linter.all false
namespace Go.AM
open Go.Proofs Go.Lib
def nmEs : List Bs → Nat → List (AVal × AVal × Nat)
  | [], _ => []
  | s :: r, i => (.str s, .int .i64 (i : Int), i) :: nmEs r (i + 1)
theorem nm_fit : ∀ (l : List Bs) (i : Nat), mkfit .str (nmEs l i) = True
  | [], _ => rfl
  | s :: r, i => by rw [nmEs, mkfit, nm_fit r (i + 1)]; simp [KT.is]
theorem numOf_cons (x : Bs) (r : List Bs) (s : Bs) : numOf (x :: r) s = if x = s then some 0 else (numOf r s).map (· + 1) := by
  unfold numOf
  rw [List.findIdx?_cons]
  by_cases h : x = s
  · simp [h]
  · simp only [h, decide_false, Bool.false_eq_true, if_false]
    cases List.findIdx? (fun x => decide (x = s)) r <;> simp
theorem nm_find : ∀ (l : List Bs) (s : Bs) (i : Nat), mfind (.str s) (nmEs l i) = (numOf l s).map fun n => .int .i64 (n + (i : Int))
  | [], s, i => rfl
  | x :: r, s, i => by
    rw [nmEs, mfind, numOf_cons, nm_find r s (i + 1)]
    by_cases h : x = s
    · subst h; simp [ceq]
    · have : ¬ s = x := fun q => h q.symm
      simp only [ceq, h, this, decide_false, Bool.false_eq_true, if_false]
      cases numOf r s with
      | none => rfl
      | some n => simp only [Option.map_some]; congr 2; omega
theorem nm_find0 (l : List Bs) (s : Bs) : mfind (.str s) (nmEs l 0) = (numOf l s).map fun n => .int .i64 n := by
  rw [nm_find]; congr 1; funext n; simp
theorem nm_app : ∀ (l : List Bs) (s : Bs) (i : Nat), nmEs (l ++ [s]) i = nmEs l i ++ [(.str s, .int .i64 ((i + l.length : Nat) : Int), i + l.length)]
  | [], s, i => rfl
  | x :: r, s, i => by
    rw [List.cons_append, nmEs, nm_app r s (i + 1), nmEs, List.cons_append, List.length_cons, show i + 1 + r.length = i + (r.length + 1) by omega]
theorem mset_new {k v : AVal} {c : Nat} : ∀ {es : List (AVal × AVal × Nat)}, mfind k es = none → mset k v c es = es ++ [(k, v, c)]
  | [], _ => rfl
  | (k', v', b) :: r, h => by
    rw [mfind] at h
    split at h
    · cases h
    · rename_i q
      rw [mset, if_neg q, mset_new h]; rfl
theorem nm_set {l : List Bs} {s : Bs} (h : numOf l s = none) : mset (.str s) (.int .i64 (l.length : Int)) l.length (nmEs l 0) = nmEs (l ++ [s]) 0 := by
  rw [mset_new (by rw [nm_find0, h]; rfl), nm_app]; simp
theorem twice_in {α : Type} [DecidableEq α] {a b : List α} {x : α} (h : x ∈ a) : twiceD (a ++ x :: b) = true := by
  cases q : twiceD (a ++ x :: b) with
  | true => rfl
  | false => exact absurd rfl ((List.nodup_append.1 (twice_nodup.1 q)).2.2 x h x (by simp))
def ctEs : List Int → Nat → List (AVal × AVal × Nat)
  | [], _ => []
  | s :: r, i => (.int .i64 s, .bool true, i) :: ctEs r (i + 1)
theorem ct_fit : ∀ (l : List Int) (i : Nat), mkfit (.int .i64) (ctEs l i) = True
  | [], _ => rfl
  | s :: r, i => by rw [ctEs, mkfit, ct_fit r (i + 1)]; simp [KT.is]
theorem ct_find : ∀ (l : List Int) (x : Int) (i : Nat), mfind (.int .i64 x) (ctEs l i) = if l.contains x then some (.bool true) else none
  | [], x, i => rfl
  | y :: r, x, i => by
    rw [ctEs, mfind, ct_find r x (i + 1), List.contains_cons]
    by_cases h : x = y
    · subst h; simp [ceq]
    · simp only [ceq, h, decide_false, Bool.false_eq_true, if_false, beq_eq_false_iff_ne.2 h, Bool.false_or]
theorem ct_app : ∀ (l : List Int) (s : Int) (i : Nat), ctEs (l ++ [s]) i = ctEs l i ++ [(.int .i64 s, .bool true, i + l.length)]
  | [], s, i => rfl
  | x :: r, s, i => by
    rw [List.cons_append, ctEs, ct_app r s (i + 1), ctEs, List.cons_append, List.length_cons, show i + 1 + r.length = i + (r.length + 1) by omega]
theorem ct_set {l : List Int} {x : Int} (h : l.contains x = false) : mset (.int .i64 x) (.bool true) l.length (ctEs l 0) = ctEs (l ++ [x]) 0 := by
  rw [mset_new (by rw [ct_find, h]; rfl), ct_app]; simp
theorem mfind_set {x y : Int} {v : AVal} {c : Nat} : ∀ {es : List (AVal × AVal × Nat)}, mkfit (.int .i64) es → mfind (.int .i64 x) (mset (.int .i64 y) v c es) = if x = y then some v else mfind (.int .i64 x) es
  | [], _ => by
    rw [mset, mfind, mfind]
    by_cases h : x = y <;> simp [ceq, h, mfind]
  | (k', v', b) :: r, hf => by
    obtain ⟨h1, h2⟩ := hf
    have ih := mfind_set (x := x) (y := y) (v := v) (c := c) h2
    cases k' <;> simp only [KT.is] at h1
    rename_i kk z
    subst h1
    rw [mset]
    by_cases hy : y = z
    · subst hy
      rw [if_pos (by simp [ceq])]
      rw [mfind, mfind]
      by_cases hx : x = y
      · subst hx; simp [ceq]
      · simp [ceq, hx]
    · rw [if_neg (by simp [ceq, hy])]
      rw [mfind, ih, mfind]
      by_cases hx : x = z
      · subst hx
        have : ¬ x = y := fun q => hy q.symm
        simp [ceq, this]
      · simp [ceq, hx]
theorem mkfit_set {y : Int} {v : AVal} {c : Nat} : ∀ {es : List (AVal × AVal × Nat)}, mkfit (.int .i64) es → mkfit (.int .i64) (mset (.int .i64 y) v c es)
  | [], _ => ⟨rfl, trivial⟩
  | (k', v', b) :: r, ⟨h1, h2⟩ => by
    rw [mset]
    split
    · exact ⟨h1, h2⟩
    · exact ⟨h1, mkfit_set h2⟩
def cntZ (rs : List DRul) (z : Int) : Nat := (rs.filter fun r => decide (r.clue = z)).length
theorem cnt_many (rs : List DRul) (i : Nat) : cntZ rs (i : Int) = manyC rs i := rfl
theorem cnt_app (rs : List DRul) (r : DRul) (z : Int) : cntZ (rs ++ [r]) z = cntZ rs z + if r.clue = z then 1 else 0 := by
  unfold cntZ
  rw [List.filter_append, List.length_append]
  by_cases h : r.clue = z <;> simp [h]
theorem cnt_le (rs : List DRul) (z : Int) : cntZ rs z ≤ rs.length := List.length_filter_le ..
def CntOK (rs : List DRul) (es : List (AVal × AVal × Nat)) : Prop := mkfit (.int .i64) es ∧ ∀ z : Int, (mfind (.int .i64 z) es).getD (.int .i64 0) = .int .i64 (cntZ rs z : Int)
theorem CntOK.next {rs : List DRul} {es : List (AVal × AVal × Nat)} {r : DRul} {c : Nat} (h : CntOK rs es) : CntOK (rs ++ [r]) (mset (.int .i64 r.clue) (.int .i64 ((cntZ rs r.clue + 1 : Nat) : Int)) c es) := by
  refine ⟨mkfit_set h.1, fun z => ?_⟩
  rw [mfind_set h.1, cnt_app]
  by_cases q : z = r.clue
  · subst q; rw [if_pos rfl, if_pos rfl]; rfl
  · rw [if_neg q, if_neg (fun e => q e.symm)]; exact h.2 z
end Go.AM
end
section
set_option maxRecDepth 20000
set_option linter.all false
namespace Go.AM
open Go.Proofs Go.Lib Go.RowKit Go.Sort
theorem stab_ints {g : Ghost} {f : Nat → Option Value} : ∀ (ws : List Int) (o : Nat), Stab g 1 f o (ws.map eI) → ∀ (j : Nat) x, ws[j]? = some x → f (o + j) = some (.int .i64 x)
  | [], _, _, j, x, h => by simp at h
  | y :: ws, o, ⟨⟨v, q1, q2, q3⟩, h'⟩, j, x, h => by
    cases j with
    | zero =>
      simp at h; subst h
      have q1' : v = .int .i64 y := q1
      subst q1'
      exact q3 0 _ rfl
    | succ j => rw [show o + (j + 1) = o + 1 + j by omega]; exact stab_ints ws (o + 1) h' j x (by simpa using h)
theorem stab_of_ints {g : Ghost} {f : Nat → Option Value} : ∀ (ws : List Int) (o : Nat), (∀ (j : Nat) x, ws[j]? = some x → f (o + j) = some (.int .i64 x)) → Stab g 1 f o (ws.map eI)
  | [], _, _ => trivial
  | y :: ws, o, h => by
    refine ⟨⟨.int .i64 y, rfl, ⟨rfl, fun x hx => by simp [Value.cells] at hx; subst hx; rfl⟩, fun j x hx => ?_⟩, stab_of_ints ws (o + 1) fun j x hx => by
      have := h (j + 1) x (by simpa using hx)
      rw [← this]; congr 1; omega⟩
    cases j with
    | zero =>
      have hx' : some (Value.int .i64 y) = some x := hx
      cases hx'
      exact h 0 y rfl
    | succ j => simp [Value.cells] at hx
theorem below_drew (w : World) (k : Nat) : Below w.heap.size w (w.drewN k) where
  os := rfl
  tape := rfl
  output := rfl
  size := Nat.le_refl _
  block := fun i hi => rfl
theorem p61 (l : List Int) (x : Int) (hl : l.length < 1000000000) (hs : List.Pairwise (fun x y => x < y) l) : Pur Tryz.prog 61 [eIs l, .int .i64 x] (.tup [.int .i64 (lowB l x), .bool (l.contains x)]) := by
  refine pur_of_calls l61 ⟨⟨trivial, eI_under 0 l⟩, trivial, trivial⟩ ⟨trivial, trivial, trivial⟩ ?_
  rintro g w vs hR ⟨v, r, rfl, k1, v2, r2, rfl, k2, k3⟩
  have k2' : v2 = .int .i64 x := k2
  have k3' : r2 = [] := k3
  subst k2'; subst k3'
  have hres : ∀ q, l = [] ∨ q = l.take l.length → VRel g (.tup [.int .i64 (lowB l x), .bool (l.contains x)]) (.tuple #[.int .i64 (((l.take l.length).countP (· < x) : Nat) : Int), .bool ((l.take l.length).contains x)]) := fun q _ => by
    rw [List.take_length]
    have e : (l.countP fun y => decide (y < x)) = lowB l x := List.countP_eq_length_filter
    rw [e]
    exact ⟨_, rfl, _, _, rfl, rfl, _, _, rfl, rfl, rfl⟩
  have hres := hres l (.inr (List.take_length).symm)
  rcases k1 with ⟨k1, rfl, -⟩ | ⟨-, b, o, cap, ⟨sp, rfl, hsp⟩, hc, hst, -⟩
  · have : l = [] := by simpa using k1
    subst this
    refine (Tryz.slices_BinarySearch_int_empty none 0 x w).mono ?_
    rintro e w' ⟨rfl, rfl⟩
    exact ⟨⟨_, rfl, hres⟩, Below.refl _ _⟩
  · cases l with
    | nil =>
      refine (Tryz.slices_BinarySearch_int_empty _ _ x w).mono ?_
      rintro e w' ⟨rfl, rfl⟩
      exact ⟨⟨_, rfl, hres⟩, Below.refl _ _⟩
    | cons y ys =>
      obtain rfl : sp = none := hsp.resolve_right fun q => by cases q.1
      have hcell := stab_ints _ _ hst
      have hk := Tryz.slices_BinarySearch_int b o (y :: ys).length cap (y :: ys) x w (Nat.le_refl _) (by omega) (fun j hj => hR.σw _ _ _ (hcell j _ (by rw [List.getElem?_eq_getElem hj]; simp [List.getD, List.getElem?_eq_getElem hj]))) (by rw [List.take_length]; exact hs.imp fun q => by omega)
      simp only [List.length_map] at hk ⊢
      refine hk.mono ?_
      rintro e w' ⟨rfl, q, rfl⟩
      exact ⟨⟨_, rfl, hres⟩, below_drew _ _⟩
theorem lSort : Callable Tryz.prog 86 := ⟨Tryz.f86, by kernel_rfl, by kernel_rfl, by kernel_rfl⟩
theorem t_sort {H : AHeap} {n id len cap : Nat} {zs : List Int} (ho : hget H id = some (.arr 1 (zs.map eI))) (hl : len ≤ zs.length) (hz : len < 1000000000) :
    ACalls Tryz.prog 86 [.ref id 1 0 len cap] H n fun o H' n' => o = .ret (.tup []) ∧ H' = hset H id (.arr 1 (((zs.take len).mergeSort leI ++ zs.drop len).map eI)) ∧ n' = n := by
  refine ⟨lSort, fun g w vs hR hv => ?_⟩
  obtain ⟨v, r, rfl, k1, k2⟩ := hv
  have k2' : r = [] := k2
  subst k2'
  obtain ⟨L, h1, h2, rfl⟩ := k1
  obtain ⟨L', c, e, j1, j2, j3, j4, j5, j6⟩ := hR.obj id _ ho
  rw [h1] at j1; cases j1
  have hcell := stab_ints _ _ j6
  simp only [Nat.zero_add] at hcell
  have hsz : c.size = zs.length := by rw [← j5]; simp
  have htl : (zs.take len).length = len := by simp; omega
  have hb : L.blk < w.heap.size := (Array.getElem?_eq_some_iff.1 j4).1
  have hc := Tryz.slices_Sort_int L.blk 0 cap (zs.take len) w (fun j hj => by
    have hj' : j < (zs.take len).length := by simpa using hj
    refine ⟨?_, ?_⟩
    · rw [Nat.zero_add, getElem!_pos _ j hj]
      simp only [World.cell?, j4]
      rw [hcell j _ (show zs[j]? = some zs[j] from List.getElem?_eq_getElem (by omega))]
      simp
    · simp [World.frozen?, j4]) hb (by omega)
  rw [htl] at hc
  simp only [Nat.zero_mul] at hc ⊢
  refine hc.mono ?_
  rintro ee w' ⟨rfl, k, os, rfl⟩
  generalize hS : (zs.take len).mergeSort (fun x y => decide (x ≤ y)) = S
  have hSl : S.length = len := by rw [← hS, List.length_mergeSort, htl]
  have hblk : (putRow (Value.int .i64) (Sort.ahead w k) L.blk 0 S.toArray).heap[L.blk]? = some (.cells (Go.Sort.putCells (Value.int .i64) 0 S.toArray c) e (0, 0)) := by
    simp only [putRow, mapBlock, Sort.ahead, Array.getElem?_modify, if_true, j4, Option.map_some, onCells]
  have hget : ∀ j : Nat, (Go.Sort.putCells (Value.int .i64) 0 S.toArray c)[j]? = if j < len then (S[j]?).map (Value.int .i64) else c[j]? := fun j => by
    simp only [Go.Sort.putCells, Array.getElem?_mapIdx, Nat.zero_le, true_and, Nat.zero_add, Nat.sub_zero, List.size_toArray, hSl]
    by_cases q : j < len
    · simp only [q, if_true]
      have hjc : j < c.size := by omega
      have hjS : j < S.length := by omega
      rw [Array.getElem?_eq_getElem hjc, List.getElem?_eq_getElem hjS]
      simp [hjS]
    · simp only [q, if_false]
      cases c[j]? <;> rfl
  obtain ⟨r1, r2⟩ := hR.upd (m := n) (w' := putRow (Value.int .i64) (Sort.ahead w k) L.blk 0 S.toArray) (ob' := .arr 1 ((S ++ zs.drop len).map eI)) ho rfl h1 rfl rfl rfl (by simp [putRow, mapBlock, Sort.ahead])
    (fun b hne => by simp only [putRow, mapBlock, Sort.ahead, Array.getElem?_modify]; rw [if_neg (Ne.symm hne)])
    (.inl ⟨c, e, (0, 0), _, j4, hblk, by simp [Go.Sort.putCells], fun o ho' => by
      rw [hget, if_neg (by rcases ho' with q | q <;> omega)]⟩)
    ⟨L, _, e, h1, h2, by rw [j3]; simp [Go.Sort.putCells], hblk, by simp [Go.Sort.putCells, hSl]; omega, stab_of_ints _ _ fun j x hx => by
      rw [Nat.zero_add, hget]
      by_cases q : j < len
      · rw [if_pos q]
        rw [List.getElem?_append_left (by omega)] at hx
        rw [hx]; rfl
      · rw [if_neg q]
        rw [List.getElem?_append_right (by omega), List.getElem?_drop] at hx
        exact hcell j x (by rw [← hx]; congr 1; omega)⟩
  have hx : HExt (putRow (Value.int .i64) (Sort.ahead w k) L.blk 0 S.toArray) (grow (putRow (Value.int .i64) (Sort.ahead w k) L.blk 0 S.toArray) os) := fun b ob hb => by
    show (_ ++ os)[b]? = some ob
    rw [Array.getElem?_append_left (Array.getElem?_eq_some_iff.1 hb).1]; exact hb
  have r3 := r1.grow hx (σ' := g.σ) (fun _ _ _ q => q) (fun _ _ _ q => .inl q)
  exact ⟨g, .ret (.tup []), _, n, ⟨rfl, rfl, rfl⟩, ⟨_, rfl, rfl⟩, r3, Nat.le_refl _, r2.trans (Trans.grow hx rfl rfl rfl (fun _ _ _ q => q) (fun _ _ _ q => .inl q))⟩
end Go.AM
end
