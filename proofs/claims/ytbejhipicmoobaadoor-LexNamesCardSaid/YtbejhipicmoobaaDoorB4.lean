/-
  The abstract machine, part Z: from the abstract machine to a world, readings of plain arguments, and a law's row · The abstract machine, part Za: contracts of the library as rows of a table.
  Conditions: none beyond those of its parts.
-/
import Derived.SizedLaws
import Derived.Test.YtbejhipicmoobaaDoorB3
import Derived.ChangeSame
import Derived.ReadAgain
import Derived.RowKit
import Derived.ProofKit
import Derived.Lib.SmallJoins
import Derived.LaidMore
import Derived.OpenShut
import Derived.Stop.Joined
import Derived.MakeChecks
import Derived.Below
import Derived.Lib.AtoiErrMem
import Derived.Lib.LaidTab

/- The abstract machine, part Z: from the abstract machine to a world, readings of plain arguments, and a law's row. Conditions: none. -/
section
set_option maxRecDepth 10000
set_option linter.unusedSimpArgs false
set_option linter.unusedVariables false
set_option linter.unusedVariables false
set_option linter.unusedSimpArgs false
namespace Go.AM
open Go.Proofs Go.Lib

/-- All that lies in a world, as it is. -/
def gW (W : World) : Ghost := ⟨fun _ => none, fun b o => W.cell? ⟨b, o, none⟩⟩
theorem rel_gW {W : World} (h : GlobOK (gW W)) (hz : GlobZ W) : Rel (gW W) hnil 0 W where
  σw := fun _ _ _ h => h
  obj := fun _ _ h => by simp [hget, hnil] at h
  dom := fun _ _ h => by simp [gW] at h
  hd := fun _ _ h => by simp [hget, hnil] at h
  ap := fun _ _ _ _ _ _ _ h => by simp [hget, hnil] at h
  un := fun _ _ _ _ h => by simp [hget, hnil] at h
  gl := h
  gz := hz
/-- What stands behind a call that needs no objects. -/
structure Grown (W W' : World) : Prop where
  os : W'.os = W.os
  tape : W'.tape = W.tape
  output : W'.output = W.output
  size : W.heap.size ≤ W'.heap.size
  old : ∀ (b : Nat) ob, W.heap[b]? = some ob → W'.heap[b]? = some ob
theorem Pur.calls {P : Program} {f : FuncId} {args : List AVal} {b : Bool} (h : Pur P f args (.bool b)) {W : World} {vs : List Value} (hg : GlobOK (gW W)) (hgz : GlobZ W) (hv : VRels (gW W) args vs) :
    Calls P f vs.toArray W fun e W' => e = .returned (.bool b) ∧ Grown W W' := by
  refine (h.2.2.2 (gW W) W vs (rel_gW hg hgz) hv).mono ?_
  rintro e W' ⟨g', out, H', n', ⟨v, rfl, hw⟩, he, hR', -, ht⟩
  cases e with
  | panicked c => exact he.elim
  | outgrown => exact he.elim
  | returned x =>
    have hx : VRel g' (.bool b) x := hw _ _ he
    refine ⟨by rw [show x = .bool b from hx], ht.os, ht.tape, ht.output, ht.size, fun i ob hb => ?_⟩
    have hk := ht.kept i ob hb
    cases ob <;> first | exact hk.resolve_left owned_nil | skip
    obtain ⟨c', h1, h2, h3⟩ := hk
    rw [h1]
    congr 2
    exact Array.ext_getElem? fun j => h3 j owned_nil

theorem Grown.kept {W W' : World} (h : Grown W W') (may : MemPlace → Prop) : W.keptBut W' may := by
  refine ⟨h.os, h.output, fun i hi => ?_⟩
  have e : W'.heap[i]? = W.heap[i]? := by
    obtain ⟨ob, hb⟩ : ∃ ob, W.heap[i]? = some ob := ⟨_, Array.getElem?_eq_getElem hi⟩
    rw [hb]; exact h.old i ob hb
  rw [e]; exact (World.keptBut_refl W may).2.2 i hi
theorem Grown.same {W W' : World} (h : Grown W W') {p : MemPlace} (hp : p.block < W.heap.size) : W.sameAt W' p := by
  have e : ∀ b, b < W.heap.size → W'.heap[b]? = W.heap[b]? := fun b hb => by
    obtain ⟨ob, hb'⟩ : ∃ ob, W.heap[b]? = some ob := ⟨_, Array.getElem?_eq_getElem hb⟩
    rw [hb']; exact h.old b ob hb'
  cases p with
  | cell b off => simp only [World.sameAt, World.cell?]; rw [e b hp]
  | map b => exact e b hp

open Go.ChangeShapes in
/-- A call that leaves what was there, and more behind it. -/
theorem post_grown {H : Type} {enc : TypeId × Value → H} {P : Program} {f : Func} {s : ChangeSpec} {apart fresh handsOn again : Bool} {W W' : World} {args : Array Value} {v : Value} {ds gs : List (DataW H)} {before pa pv : List MemPlace}
    (hg : Grown W W') (hW : DataW.Whole enc P f.params.toList s.vars apart W args.toList ds gs before)
    (hres : ∀ (b : Nat) (sp : Nat → Bool) (hd : Bool), DataW.TrodAll enc P W' b sp hd f.resultTypes.toList (v.resultList f.resultTypes.size) (s.fn H (ds ++ gs)).results [])
    (hargs : ∀ sp : Nat → Bool, (∀ p ∈ before, sp p.block = true) → DataW.TrodAll enc P W' 0 sp true f.params.toList args.toList (s.fn H (ds ++ gs)).args pa)
    (hvars : ∀ sp : Nat → Bool, (∀ p ∈ before, sp p.block = true) → DataW.TrodVars enc P W' sp s.vars (s.fn H (ds ++ gs)).vars pv)
    (hps : before = pa ++ pv)
    (hok : ∀ (j : Nat) (t : TypeId) (r : Value), f.resultTypes[j]? = some t → (v.resultList f.resultTypes.size)[j]? = some r → Value.okWide P W' .any 0 t r) :
    s.post enc P f apart fresh handsOn again W args v W' := by
  have hlt := hW.lt
  have hold : ∀ p ∈ before, (fun b => decide (b < W.heap.size)) p.block = true := fun p hp => by simpa using hlt p hp
  refine ⟨ds, gs, before, [], pa, pv, hW, hres _ _ _, hargs _ hold, hvars _ hold, hg.kept _, fun _ => ?_⟩
  obtain ⟨_, _, _, _, _, hz, hn⟩ := hW
  refine ⟨hok, _, _, ([] ++ pa) ++ pv, ⟨[] ++ pa, pv, trodAll_append (hargs _ (fun _ _ => rfl)) (hres _ _ _), hvars _ (fun _ _ => rfl), rfl, ?_, ?_⟩, ?_⟩
  · intro b off hp
    have hp' : MemPlace.cell b off ∈ before := by rw [hps]; simpa using hp
    have hb : b < W.heap.size := hlt _ hp'
    have e : W'.heap[b]? = W.heap[b]? := by
      obtain ⟨ob, hb'⟩ : ∃ ob, W.heap[b]? = some ob := ⟨_, Array.getElem?_eq_getElem hb⟩
      rw [hb']; exact hg.old b ob hb'
    have := hz b off hp'
    simp only [World.frozen?] at this ⊢
    rw [e]; exact this
  · intro ha
    have := hn ha
    rw [hps] at this
    simpa using this
  · intro p hp _
    rw [hps]
    simpa using hp

open Go.ChangeShapes in
theorem carry_grown {H : Type} {enc : TypeId × Value → H} {P : Program} {W W' : World} (hg : Grown W W') {b : Nat} {sp : Nat → Bool} {hd : Bool} : ∀ {ts : List TypeId} {vs : List Value} {ds : List (DataW H)} {ps : List MemPlace},
    DataW.TrodAll enc P W b sp hd ts vs ds ps → (∀ p ∈ ps, p.block < W.heap.size) → DataW.TrodAll enc P W' b sp hd ts vs ds ps
  | [], vs, ds, ps, h, hp => by
    obtain ⟨rfl, rfl, rfl⟩ := trodAll_nil h
    exact rfl
  | t :: ts, vs, ds, ps, h, hp => by
    obtain ⟨v, vs1, d, ds1, a, c, rfl, rfl, rfl, h1, h2⟩ := trodAll_cons h
    obtain ⟨n, hn⟩ := h1
    exact ⟨a, c, ⟨n, DataW.trod_carry n _ _ _ hn fun p q => hg.same (hp p (by simp [q]))⟩, carry_grown hg h2 fun p q => hp p (by simp [q]), rfl⟩


/-- Shapes of plain data. -/
inductive Sh where
  | bool
  | int (k : IntKind)
  | str
  | sl (e : Sh)
  | st (fs : List Sh)

mutual
/-- How many cells. -/
def Sh.size : Sh → Nat
  | .st fs => Sh.sizes fs
  | _ => 1
def Sh.sizes : List Sh → Nat
  | [] => 0
  | s :: r => s.size + Sh.sizes r
end
mutual
/-- Does a type have this shape? -/
def Sh.fits (P : Program) : Sh → TypeId → Bool
  | .bool, t => match P.underlying t with | some .bool => true | _ => false
  | .int k, t => match P.underlying t with | some (.int k') => decide (k' = k) | _ => false
  | .str, t => match P.underlying t with | some .string => true | _ => false
  | .sl e, t => match P.underlying t with | some (.slice u) => P.cellsOf u == e.size && decide (0 < e.size) && e.fits P u | _ => false
  | .st fs, t => match P.underlying t with | some (.struct gs) => P.cellsOf t == Sh.sizes fs && Sh.fitsL P fs gs.toList 0 | _ => false
def Sh.fitsL (P : Program) : List Sh → List Field → Nat → Bool
  | [], [], _ => true
  | s :: r, f :: fs, o => s.fits P f.type && f.offset == o && P.cellsOf f.type == s.size && Sh.fitsL P r fs (o + s.size)
  | _, _, _ => false
end
/-- A value out of its cells. -/
def Sh.wrap : Sh → List AVal → AVal
  | .st _, as => .agg as
  | _, as => as.headD (.bool false)
mutual
/-- What the cells of such data can be. -/
def Sh.rd : Sh → List AVal → Prop
  | .bool, as => ∃ b, as = [.bool b]
  | .int k, as => ∃ n, as = [.int k n] ∧ (Lit.int k n).wf = true
  | .str, as => ∃ s, as = [.str s] ∧ s.length ≤ maxLen
  | .sl e, as => ∃ l : List (List AVal), as = [.sl (.none e.size) (l.map e.wrap)] ∧ l.length ≤ maxLen ∧ ∀ x ∈ l, e.rd x
  | .st fs, as => Sh.rdL fs as
def Sh.rdL : List Sh → List AVal → Prop
  | [], as => as = []
  | s :: r, as => ∃ a b, as = a ++ b ∧ s.rd a ∧ Sh.rdL r b
end
mutual
/-- No slices in it. -/
def Sh.nosl : Sh → Bool
  | .sl _ => false
  | .st fs => Sh.noslL fs
  | _ => true
def Sh.noslL : List Sh → Bool
  | [] => true
  | s :: r => s.nosl && Sh.noslL r
end
mutual
/-- No slices in slices. -/
def Sh.flat : Sh → Bool
  | .sl e => e.nosl
  | .st fs => Sh.flatL fs
  | _ => true
def Sh.flatL : List Sh → Bool
  | [] => true
  | s :: r => s.flat && Sh.flatL r
end
def okSpot : Value → Prop
  | .slice (some a) _ _ => a.spot = none
  | _ => True
def Spotless (W : World) : Prop := ∀ b o v, W.cell? ⟨b, o, none⟩ = some v → okSpot v

mutual
theorem Sh.rd_length : ∀ (s : Sh) (as : List AVal), s.rd as → as.length = s.size
  | .bool, _, ⟨_, h⟩ => by rw [h]; rfl
  | .int _, _, ⟨_, h, _⟩ => by rw [h]; rfl
  | .str, _, ⟨_, h, _⟩ => by rw [h]; rfl
  | .sl _, _, ⟨_, h, _⟩ => by rw [h]; rfl
  | .st fs, as, h => Sh.rdL_length fs as (by simpa only [Sh.rd] using h)
theorem Sh.rdL_length : ∀ (s : List Sh) (as : List AVal), Sh.rdL s as → as.length = Sh.sizes s
  | [], as, h => by
    simp only [Sh.rdL] at h; subst h; rfl
  | s :: r, as, h => by
    simp only [Sh.rdL] at h
    obtain ⟨a, b, rfl, h1, h2⟩ := h
    rw [List.length_append, Sh.rd_length s a h1, Sh.rdL_length r b h2]; rfl
end
theorem oneCell_cells {v : Value} (h : v.oneCell' = true) : v.cells = #[v] := by
  cases v <;> first | rfl | simp [Value.oneCell'] at h
/-- An element out of its cells. -/
theorem Sh.elem {g : Ghost} (s : Sh) {as : List AVal} {cs : List Value} (h : s.rd as) (hv : VRels g as cs) (h1 : ∀ c ∈ cs, c.oneCell' = true) :
    ∃ v, VRel g (s.wrap as) v ∧ ECells s.size v ∧ v.cells.toList = cs := by
  have hl := s.rd_length as h
  have hlc := VRels.length _ _ hv
  cases s with
  | st fs =>
    refine ⟨.agg cs.toArray, ⟨cs.toArray, rfl, by simpa using hv, by simpa using h1⟩, ⟨by show cs.toArray.size = _; simp; omega, by simpa [Value.cells] using h1⟩, by simp [Value.cells]⟩
  | _ =>
    match as, hl with
    | [a], _ =>
      obtain ⟨v, rest, rfl, k1, k2⟩ := hv
      have k3 : rest = [] := k2
      subst k3
      have o := h1 v (by simp)
      refine ⟨v, k1, ⟨by rw [oneCell_cells o]; rfl, by rw [oneCell_cells o]; simpa using o⟩, by rw [oneCell_cells o]⟩

section
variable {H : Type} {enc : TypeId × Value → H} {P : Program} {W : World} {base : Nat} {spare : Nat → Bool} {held : Bool}
open Go.ChangeShapes Go.WideShapes Go.ChangeAt Go.RowKit Go.WideElems Go.WideMaps Go.Joins

theorem stab_of {g : Ghost} {esz : Nat} {f : Nat → Option Value} : ∀ (l : List AVal) (o : Nat), (∀ (i : Nat) e, l[i]? = some e → ∃ v, VRel g e v ∧ ECells esz v ∧ ∀ (j : Nat) x, v.cells[j]? = some x → f (o + i * esz + j) = some x) → Stab g esz f o l
  | [], _, _ => trivial
  | e :: l, o, h => ⟨by simpa using h 0 e rfl, stab_of l (o + esz) fun i e' he => by
      obtain ⟨v, h1, h2, h3⟩ := h (i + 1) e' (by simpa using he)
      exact ⟨v, h1, h2, fun j x hx => by rw [← h3 j x hx]; congr 1; rw [Nat.succ_mul]; omega⟩⟩

mutual
theorem Sh.reads (s : Sh) (t : TypeId) (cs : List Value) (n : Nat) (x : DataW H × List MemPlace) (hf : s.fits P t = true) (hs : s.nosl = true ∨ ((∀ c ∈ cs, okSpot c) ∧ (s.flat = true ∨ Spotless W)))
    (h : DataW.trod enc P W base spare held n t cs = some x) : ∃ as, s.rd as ∧ VRels (gW W) as cs ∧ ∀ c ∈ cs, c.oneCell' = true := by
  match s, hf, hs with
  | .bool, hf, hs =>
    simp only [Sh.fits] at hf
    split at hf
    · rename_i ht
      obtain ⟨b, rfl, _⟩ := DataW.trod_bool ht h
      exact ⟨[.bool b], ⟨b, rfl⟩, ⟨_, _, rfl, rfl, rfl⟩, by simp [Value.oneCell']⟩
    · cases hf
  | .int k, hf, hs =>
    simp only [Sh.fits] at hf
    split at hf
    · rename_i k' ht
      simp only [decide_eq_true_eq] at hf
      subst hf
      obtain ⟨m, rfl, _, hw⟩ := DataW.trod_int ht h
      exact ⟨[.int k' m], ⟨m, rfl, hw⟩, ⟨_, _, rfl, rfl, rfl⟩, by simp [Value.oneCell']⟩
    · cases hf
  | .str, hf, hs =>
    simp only [Sh.fits] at hf
    split at hf
    · rename_i ht
      obtain ⟨b, rfl, _, hl⟩ := DataW.trod_string ht h
      exact ⟨[.str b.data.toList], ⟨_, rfl, by simpa using hl⟩, ⟨_, _, rfl, by simp [VRel], rfl⟩, by simp [Value.oneCell']⟩
    · cases hf
  | .sl e, hf, hs =>
    simp only [Sh.fits] at hf
    split at hf
    · rename_i u ht
      simp only [Bool.and_eq_true, beq_iff_eq, decide_eq_true_eq] at hf
      obtain ⟨⟨hc, hpos⟩, hfe⟩ := hf
      obtain ⟨hspot, hfl⟩ := hs.resolve_left (by simp [Sh.nosl])
      rcases Go.Deep.open_slice ht h with ⟨rfl, _⟩ | ⟨a, len, cap, m, n', D, Pl, rfl, _, hlen, hcap, hm, _, hel⟩
      · exact ⟨[.sl (.none e.size) []], ⟨[], rfl, by simp, by simp⟩, ⟨_, _, rfl, .inl ⟨rfl, rfl, trivial⟩, rfl⟩, by simp [Value.oneCell']⟩
      · have hsp : a.spot = none := hspot _ (List.mem_singleton.2 rfl)
        obtain ⟨b, o, sp⟩ := a
        have hsp' : sp = none := hsp
        subst hsp'
        have hml : len ≤ m := by rw [hm]; split <;> omega
        have key : ∀ i, i < len → ∃ as, e.rd as ∧ ∃ v, VRel (gW W) (e.wrap as) v ∧ ECells e.size v ∧ ∀ (j : Nat) y, v.cells[j]? = some y → (gW W).σ b (o + i * e.size + j) = some y := by
          intro i hi
          obtain ⟨cs', h1, h2⟩ := hel i (by omega)
          obtain ⟨_, hl', hcell⟩ := World.cells?_some h1
          have hadd : ∀ j, ((⟨b, o, none⟩ : Addr).add (i * P.cellsOf u)).add j = ⟨b, o + i * e.size + j, none⟩ := by
            intro j
            rw [hc]
            unfold Addr.add
            split <;> split <;> simp_all <;> omega
          have hcs : ∀ j, j < e.size → W.cell? ⟨b, o + i * e.size + j, none⟩ = cs'[j]? := fun j hj => by
            rw [← hadd j]; exact hcell j (by rw [hc]; exact hj)
          have hq : e.nosl = true ∨ ((∀ c ∈ cs', okSpot c) ∧ (e.flat = true ∨ Spotless W)) := by
            rcases hfl with hfl | hfl
            · exact .inl (by simpa [Sh.flat] using hfl)
            · refine .inr ⟨fun c hc' => ?_, .inr hfl⟩
              obtain ⟨j, hj, hjc⟩ := List.getElem_of_mem hc'
              exact hfl b (o + i * e.size + j) c (by rw [hcs j (by omega), List.getElem?_eq_getElem hj, hjc])
          obtain ⟨as, k1, k2, k3⟩ := Sh.reads e u cs' n' _ hfe hq h2
          obtain ⟨v, q1, q2, q3⟩ := e.elem k1 k2 k3
          refine ⟨as, k1, v, q1, q2, fun j y hy => ?_⟩
          have hy' : cs'[j]? = some y := by rw [← q3]; simpa using hy
          have hj : j < e.size := by
            have := (List.getElem?_eq_some_iff.1 hy').1
            omega
          show W.cell? ⟨b, o + i * e.size + j, none⟩ = some y
          rw [hcs j hj, hy']
        have hch : ∃ F : Nat → List AVal, ∀ i, i < len → e.rd (F i) ∧ ∃ v, VRel (gW W) (e.wrap (F i)) v ∧ ECells e.size v ∧ ∀ (j : Nat) y, v.cells[j]? = some y → (gW W).σ b (o + i * e.size + j) = some y := by
          refine ⟨fun i => if hi : i < len then (key i hi).choose else [], fun i hi => ?_⟩
          simp only [hi, dif_pos]
          exact (key i hi).choose_spec
        obtain ⟨F, hF⟩ := hch
        refine ⟨[.sl (.none e.size) (((List.range len).map F).map e.wrap)], ⟨(List.range len).map F, rfl, by simp; omega, ?_⟩, ⟨_, _, rfl, .inr ⟨trivial, b, o, cap, by simp, by simpa using hlen, ?_, trivial⟩, rfl⟩, by simp [Value.oneCell']⟩
        · intro y hy
          obtain ⟨i, hi, rfl⟩ := List.mem_map.1 hy
          exact (hF i (List.mem_range.1 hi)).1
        · refine stab_of _ _ fun i y hy => ?_
          rw [List.getElem?_map, List.getElem?_map] at hy
          by_cases hi : i < len
          · rw [List.getElem?_range hi] at hy
            simp only [Option.map_some, Option.some.injEq] at hy
            subst hy
            exact (hF i hi).2
          · rw [List.getElem?_eq_none (by simp; omega)] at hy
            simp at hy
    · cases hf
  | .st fs, hf, hs =>
    simp only [Sh.fits] at hf
    split at hf
    · rename_i gs ht
      simp only [Bool.and_eq_true, beq_iff_eq] at hf
      obtain ⟨xs, m, _, _, hl, hlen, hfi⟩ := DataW.trod_struct ht h
      have hs' : Sh.noslL fs = true ∨ ((∀ c ∈ cs, okSpot c) ∧ (Sh.flatL fs = true ∨ Spotless W)) := by
        simpa only [Sh.nosl, Sh.flat] using hs
      obtain ⟨as, k1, k2, k3⟩ := Sh.readsL fs gs.toList 0 cs m (fun f hfm => by
        obtain ⟨i, hi, he⟩ := List.getElem_of_mem hfm
        have hfg : gs[i]? = some f := by rw [← he]; simp at hi; simp [hi]
        have := hfi i f hfg
        have hi' : i < xs.length := by rw [hlen]; simpa using hi
        rw [List.getElem?_eq_getElem hi'] at this
        exact ⟨_, this⟩) hf.2 (by rw [hl, hf.1]; simp) hs'
      exact ⟨as, by simpa only [Sh.rd] using k1, by simpa using k2, by simpa using k3⟩
    · cases hf
theorem Sh.readsL (ss : List Sh) (fs : List Field) (o : Nat) (cs : List Value) (n : Nat) (hr : ∀ f ∈ fs, ∃ x, DataW.trod enc P W base spare held n f.type ((cs.drop f.offset).take (P.cellsOf f.type)) = some x) (hf : Sh.fitsL P ss fs o = true)
    (hl : cs.length = o + Sh.sizes ss) (hs : Sh.noslL ss = true ∨ ((∀ c ∈ cs, okSpot c) ∧ (Sh.flatL ss = true ∨ Spotless W))) : ∃ as, Sh.rdL ss as ∧ VRels (gW W) as (cs.drop o) ∧ ∀ c ∈ cs.drop o, c.oneCell' = true := by
  match ss, fs, hf with
  | [], [], hf =>
    refine ⟨[], rfl, ?_, ?_⟩
    · rw [List.drop_eq_nil_of_le (by simp [Sh.sizes] at hl; omega)]; rfl
    · rw [List.drop_eq_nil_of_le (by simp [Sh.sizes] at hl; omega)]; simp
  | s :: r, f :: fs, hf =>
    simp only [Sh.fitsL, Bool.and_eq_true, beq_iff_eq] at hf
    obtain ⟨⟨⟨h1, h2⟩, h3⟩, h4⟩ := hf
    obtain ⟨x, hx⟩ := hr f (by simp)
    rw [h2, h3] at hx
    have hsz : cs.length = o + (s.size + Sh.sizes r) := hl
    obtain ⟨a, k1, k2, k3⟩ := Sh.reads s f.type ((cs.drop o).take s.size) n x h1 (by
      rcases hs with hs | ⟨hs, hs2⟩
      · exact .inl (by simp only [Sh.noslL, Bool.and_eq_true] at hs; exact hs.1)
      · exact .inr ⟨fun c hc => hs c (List.mem_of_mem_drop (List.mem_of_mem_take hc)), hs2.imp (fun q => by simp only [Sh.flatL, Bool.and_eq_true] at q; exact q.1) id⟩) hx
    obtain ⟨b, q1, q2, q3⟩ := Sh.readsL r fs (o + s.size) cs n (fun g hg => hr g (by simp [hg])) h4 (by omega) (by
      rcases hs with hs | ⟨hs, hs2⟩
      · exact .inl (by simp only [Sh.noslL, Bool.and_eq_true] at hs; exact hs.2)
      · exact .inr ⟨hs, hs2.imp (fun q => by simp only [Sh.flatL, Bool.and_eq_true] at q; exact q.2) id⟩)
    have e : cs.drop o = (cs.drop o).take s.size ++ cs.drop (o + s.size) := by
      rw [← List.drop_drop, List.take_append_drop]
    refine ⟨a ++ b, ⟨a, b, rfl, k1, q1⟩, by rw [e]; exact VRels.append _ _ _ _ k2 q2, fun c hc => ?_⟩
    rw [e] at hc
    rcases List.mem_append.1 hc with hc | hc
    · exact k3 c hc
    · exact q3 c hc
end

/-- The cells of an argument. -/
theorem Sh.arg (s : Sh) {t : TypeId} {v : Value} {b0 : Nat} (hf : s.fits P t = true) (hs : s.flat = true ∨ Spotless W) (hv : Value.okWide P W .any b0 t v) {d : DataW H} {ps : List MemPlace} (h : DataW.Trod enc P W base spare held t v d ps) (hsl : ∀ c ∈ v.cells.toList, okSpot c) :
    ∃ as, s.rd as ∧ VRel (gW W) (s.wrap as) v := by
  obtain ⟨n, hn⟩ := h
  obtain ⟨as, h1, h2, h3⟩ := s.reads t v.cells.toList n _ hf (.inr ⟨hsl, hs⟩) hn
  refine ⟨as, h1, ?_⟩
  cases s with
  | st fs =>
    simp only [Sh.fits] at hf
    split at hf
    · rename_i gs ht
      obtain ⟨cs, rfl, _⟩ := okWide_struct ht hv
      exact ⟨cs, rfl, h2, h3⟩
    · cases hf
  | _ =>
    have hl := Sh.rd_length _ _ h1
    match as, hl with
    | [a], _ =>
      obtain ⟨u, rest, hu, k1, k2⟩ := h2
      have k3 : rest = [] := k2
      subst k3
      have o := h3 u (by rw [hu]; simp)
      have huv : v = u := by
        simp only [Sh.fits] at hf
        split at hf
        · rename_i ht
          first
            | (obtain ⟨b, rfl⟩ := okWide_bool ht hv; simpa [Value.cells] using hu)
            | (obtain ⟨b, rfl⟩ := okWide_int ht hv; simpa [Value.cells] using hu)
            | (obtain ⟨b, rfl⟩ := okWide_string ht hv; simpa [Value.cells] using hu)
            | (obtain ⟨b, l, c, rfl⟩ := okWide_slice ht hv; simpa [Value.cells] using hu)
        · cases hf
      subst huv
      exact k1
/-- An argument's own address is plain. -/
theorem okSpot_cell {u : TypeId} {v : Value} {b0 : Nat} (h : Cell.okWide P W .any b0 u v) : okSpot v := by
  cases v with
  | slice a l c =>
    cases a with
    | none => trivial
    | some a =>
      unfold Cell.okWide at h
      split at h <;> try (rename_i hh; cases hh)
      unfold Cell.ok at h
      split at h <;> try (rename_i hh; cases hh)
      all_goals first | exact h.2.2.2.1 | exact h.elim | trivial
  | _ => trivial
theorem okSpot_arg {t : TypeId} {v : Value} {b0 : Nat} (hv : Value.okWide P W .any b0 t v) : ∀ c ∈ v.cells.toList, okSpot c := by
  intro c hc
  unfold Value.okWide at hv
  split at hv
  · obtain ⟨cs, rfl, _, ts, _, _, h⟩ := hv
    have hc' : c ∈ cs := by simpa [Value.cells] using hc
    obtain ⟨i, hi, rfl⟩ := Array.getElem_of_mem hc'
    obtain ⟨u, _, hu⟩ := h i (v := cs[i]) (by simp [hi])
    exact okSpot_cell hu
  · obtain ⟨cs, rfl, _, ts, _, _, h⟩ := hv
    have hc' : c ∈ cs := by simpa [Value.cells] using hc
    obtain ⟨i, hi, rfl⟩ := Array.getElem_of_mem hc'
    obtain ⟨u, _, hu⟩ := h i (v := cs[i]) (by simp [hi])
    exact okSpot_cell hu
  · have hs := okSpot_cell hv
    cases v with
    | agg cs =>
      unfold Cell.okWide at hv
      split at hv <;> try (rename_i hh; cases hh)
      unfold Cell.ok at hv
      split at hv <;> first | (rename_i hh; cases hh) | exact hv.elim
    | _ => simp [Value.cells] at hc; subst hc; exact hs

open Go.ChangeShapes in
theorem trodAll_len : ∀ {ts : List TypeId} {vs : List Value} {ds : List (DataW H)} {ps : List MemPlace}, DataW.TrodAll enc P W base spare held ts vs ds ps → vs.length = ts.length ∧ ds.length = ts.length
  | [], _, _, _, h => by
    obtain ⟨rfl, rfl, _⟩ := trodAll_nil h
    exact ⟨rfl, rfl⟩
  | _ :: _, _, _, _, h => by
    obtain ⟨v, vs1, d, ds1, a, b, rfl, rfl, rfl, _, h2⟩ := trodAll_cons h
    have := trodAll_len h2
    simp [this.1, this.2]
/-- Several arguments. -/
def Sh.rdA : List Sh → List AVal → Prop
  | [], as => as = []
  | s :: r, as => ∃ x b, as = s.wrap x :: b ∧ s.rd x ∧ Sh.rdA r b
def Sh.fitsA (P : Program) : List Sh → List TypeId → Bool
  | [], [] => true
  | s :: r, t :: ts => s.fits P t && Sh.fitsA P r ts
  | _, _ => false
open Go.ChangeShapes in
theorem Sh.args {b0 : Nat} : ∀ (ss : List Sh) (ts : List TypeId) (vs : List Value) (ds : List (DataW H)) (ps : List MemPlace), Sh.fitsA P ss ts = true → (Sh.flatL ss = true ∨ Spotless W) →
    (∀ (j : Nat) t v, ts[j]? = some t → vs[j]? = some v → Value.okWide P W .any b0 t v) → DataW.TrodAll enc P W base spare held ts vs ds ps → ∃ as, Sh.rdA ss as ∧ VRels (gW W) as vs
  | [], [], vs, ds, ps, _, _, _, h => by
    obtain ⟨rfl, rfl, rfl⟩ := trodAll_nil h
    exact ⟨[], rfl, rfl⟩
  | s :: r, t :: ts, vs, ds, ps, hf, hs, hv, h => by
    obtain ⟨v, vs1, d, ds1, a, c, rfl, rfl, rfl, h1, h2⟩ := trodAll_cons h
    simp only [Sh.fitsA, Bool.and_eq_true] at hf
    have hv0 := hv 0 t v rfl rfl
    obtain ⟨x, k1, k2⟩ := s.arg hf.1 (hs.imp (fun q => by simp only [Sh.flatL, Bool.and_eq_true] at q; exact q.1) id) hv0 h1 (okSpot_arg hv0)
    obtain ⟨b, q1, q2⟩ := Sh.args r ts vs1 ds1 _ hf.2 (hs.imp (fun q => by simp only [Sh.flatL, Bool.and_eq_true] at q; exact q.2) id) (fun j t' v' e1 e2 => hv (j + 1) t' v' e1 e2) h2
    exact ⟨_, ⟨x, b, rfl, k1, q1⟩, _, _, rfl, k2, q2⟩
  | [], _ :: _, _, _, _, hf, _, _, _ => by cases hf
  | _ :: _, [], _, _, _, hf, _, _, _ => by cases hf

open Go.ChangeShapes in
/-- A law that returns true, said of its row. -/
theorem law_callsV {f : FuncId} {fn : Func} {s : ChangeSpec} {apart fresh handsOn again : Bool} {args : Array Value} {ds gs : List (DataW H)} {before : List MemPlace} {b0 : Nat} {tb : TypeId} (ss : List Sh)
    (hval : ∀ (j : Nat) t v, fn.params[j]? = some t → args[j]? = some v → Value.okWide P W .any b0 t v)
    (hW : DataW.Whole enc P fn.params.toList s.vars apart W args.toList ds gs before)
    (hvars : s.vars = []) (hspec : ∀ ds : List (DataW H), ds.length = ss.length → s.fn H ds = { results := [.lit (.bool true)], args := ds, vars := [] })
    (hfit : Sh.fitsA P ss fn.params.toList = true) (hs : Sh.flatL ss = true ∨ Spotless W)
    (hres : fn.resultTypes = #[tb]) (htb : P.underlying tb = some .bool)
    (hk : laidOutB P = true) (hm : mapsRowed P = true) (hfull : ((List.range P.types.size).all fun t => match P.underlying t with | some (.slice e) => decide (0 < P.cellsOf e) | _ => true) = true)
    (hts : (fn.params.toList.all fun t => decide (t < P.types.size)) = true)
    (hg : GlobOK (gW W)) (hgz : GlobZ W) (hpur : ∀ as, Sh.rdA ss as → VRels (gW W) as args.toList → Pur P f as (.bool true)) :
    Calls P f args W fun e W' => ∃ v, e = .returned v ∧ s.post enc P fn apart fresh handsOn again W args v W' := by
  have hW' := hW
  obtain ⟨p, q, hA, hV, rfl, hfz, hnd⟩ := hW
  rw [hvars] at hV
  obtain ⟨rfl, rfl⟩ := trodVars_none hV
  simp only [List.append_nil] at hW'
  have hlen := trodAll_len hA
  have hss : ss.length = fn.params.toList.length := by
    clear hpur hspec hs hval hW' hlen hA hts
    generalize fn.params.toList = ts at hfit
    induction ss generalizing ts with
    | nil => cases ts <;> first | rfl | cases hfit
    | cons s r ih =>
      cases ts with
      | nil => cases hfit
      | cons t ts => simp only [Sh.fitsA, Bool.and_eq_true] at hfit; simp [ih ts hfit.2]
  have hsp := hspec ds (by rw [hlen.2, hss])
  have hspn : s.fn H (ds ++ []) = { results := [.lit (.bool true)], args := ds, vars := [] } := by rw [List.append_nil]; exact hsp
  obtain ⟨as, h1, h2⟩ := Sh.args ss _ _ _ _ hfit hs (fun j t v e1 e2 => hval j t v (by simpa using e1) (by simpa using e2)) hA
  have hlt := hW'.lt
  refine ((hpur as h1 h2).calls hg hgz h2).mono ?_
  rintro e W' ⟨rfl, hgr⟩
  have hok : Value.okWide P W' .any 0 tb (.bool true) := by simp [Value.okWide, htb, Cell.okWide, Cell.ok]
  refine ⟨_, rfl, post_grown (pa := p) (pv := []) hgr hW' (fun b sp hd => ?_) (fun sp hsp' => ?_) (fun _ _ => ?_) (by simp) ?_⟩
  · rw [hspn, hres]
    exact trodAll_mk1 ⟨1, by simp [DataW.trod, Value.cells, htb]⟩
  · rw [hspn]
    refine carry_grown hgr (DataW.TrodAll.respare (T := (· < P.types.size)) (kids_rows hk hm) (slices_full_of P hfull) (fun t ht => by simpa using List.all_eq_true.1 hts t ht) hA hsp') fun y hy => hlt y hy
  · rw [hspn, hvars]
    exact rfl
  · rw [hres]
    intro j t r e1 e2
    match j, e1, e2 with
    | 0, e1, e2 =>
      simp at e1
      subst e1
      have : r = .bool true := by simpa [Value.resultList] using e2.symm
      subst this
      exact hok
    | j + 1, e1, e2 => simp at e1
theorem law_calls {f : FuncId} {fn : Func} {s : ChangeSpec} {apart fresh handsOn again : Bool} {args : Array Value} {ds gs : List (DataW H)} {before : List MemPlace} {b0 : Nat} {tb : TypeId} (ss : List Sh)
    (hval : ∀ (j : Nat) t v, fn.params[j]? = some t → args[j]? = some v → Value.okWide P W .any b0 t v)
    (hW : DataW.Whole enc P fn.params.toList s.vars apart W args.toList ds gs before)
    (hvars : s.vars = []) (hspec : ∀ ds : List (DataW H), ds.length = ss.length → s.fn H ds = { results := [.lit (.bool true)], args := ds, vars := [] })
    (hfit : Sh.fitsA P ss fn.params.toList = true) (hs : Sh.flatL ss = true ∨ Spotless W)
    (hres : fn.resultTypes = #[tb]) (htb : P.underlying tb = some .bool)
    (hk : laidOutB P = true) (hm : mapsRowed P = true) (hfull : ((List.range P.types.size).all fun t => match P.underlying t with | some (.slice e) => decide (0 < P.cellsOf e) | _ => true) = true)
    (hts : (fn.params.toList.all fun t => decide (t < P.types.size)) = true)
    (hg : GlobOK (gW W)) (hgz : GlobZ W) (hpur : ∀ as, Sh.rdA ss as → Pur P f as (.bool true)) :
    Calls P f args W fun e W' => ∃ v, e = .returned v ∧ s.post enc P fn apart fresh handsOn again W args v W' :=
  law_callsV ss hval hW hvars hspec hfit hs hres htb hk hm hfull hts hg hgz fun as h _ => hpur as h
/-- A string that is an argument is no longer than the reach. -/
theorem str_cap {ss : List Sh} {ts : List TypeId} {vs : List Value} {ds : List (DataW H)} {ps : List MemPlace} {as : List AVal} : ∀ {j : Nat}, Sh.fitsA P ss ts = true → DataW.TrodAll enc P W base spare held ts vs ds ps → VRels (gW W) as vs →
    ∀ {b : List UInt8}, ss[j]? = some .str → as[j]? = some (.str b) → ∃ t, ts[j]? = some t ∧ ds[j]? = some (.lit (.string b)) := by
  intro j
  induction j generalizing ss ts vs ds ps as with
  | zero =>
    intro hf h hv b e1 e2
    match ss, ts, as, e1, e2 with
    | .str :: r, t :: ts, .str b :: as, _, rfl =>
      obtain ⟨v, vs1, d, ds1, a, c, rfl, rfl, rfl, ⟨n, h1⟩, h2⟩ := trodAll_cons h
      simp only [Sh.fitsA, Bool.and_eq_true] at hf
      have hf1 := hf.1
      simp only [Sh.fits] at hf1
      split at hf1
      · rename_i ht
        obtain ⟨b', k1, k2, _⟩ := DataW.trod_string ht h1
        obtain ⟨v', r', k3, k4, _⟩ := hv
        cases k3
        have k5 : v = .string ⟨b.toArray⟩ := k4
        subst k5
        have k7 : (⟨b.toArray⟩ : ByteArray) = b' := by simpa [Value.cells] using k1
        subst k7
        refine ⟨t, rfl, ?_⟩
        have : d = .lit (.string b) := by simpa using congrArg Prod.fst k2
        rw [this]; rfl
      · cases hf1
  | succ j ih =>
    intro hf h hv b e1 e2
    match ss, ts, as, e1, e2 with
    | s :: r, t :: ts, a :: as, e1, e2 =>
      obtain ⟨v, vs1, d, ds1, pa, pc, rfl, rfl, rfl, h1, h2⟩ := trodAll_cons h
      simp only [Sh.fitsA, Bool.and_eq_true] at hf
      obtain ⟨v', r', k3, k4, k5⟩ := hv
      cases k3
      exact ih hf.2 h2 k5 e1 e2
theorem str_reach {fn : Func} {s : ChangeSpec} {apart : Bool} {args : Array Value} {ds gs : List (DataW H)} {before : List MemPlace} {ss : List Sh} {as : List AVal}
    (hW : DataW.Whole enc P fn.params.toList s.vars apart W args.toList ds gs before) (hwt : (DataW.weightsEach P (fn.params.toList ++ s.plain.varTypes P) (ds ++ gs)).all (· ≤ reachBytes) = true)
    (hfit : Sh.fitsA P ss fn.params.toList = true) (hV : VRels (gW W) as args.toList) {j : Nat} {b : List UInt8} (e1 : ss[j]? = some .str) (e2 : as[j]? = some (.str b)) : b.length ≤ 140737488355328 := by
  obtain ⟨p, q, hA, _⟩ := hW
  obtain ⟨t, h1, h2⟩ := str_cap hfit hA hV e1 e2
  have l1 : j < fn.params.toList.length := (List.getElem?_eq_some_iff.1 h1).1
  have l2 : j < ds.length := (List.getElem?_eq_some_iff.1 h2).1
  have := sized_string hwt (j := j) (by rw [List.getElem?_append_left l1]; exact h1) (by rw [List.getElem?_append_left l2]; exact h2)
  exact Nat.le_trans this (by decide)
end

/-- A table of integers. -/
theorem pstab_of {g : Ghost} {f : Nat → Option Value} : ∀ (l : List AVal) (o : Nat), (∀ (i : Nat) c, l[i]? = some c → ∃ x, f (o + i) = some x ∧ VRel g c x ∧ x.oneCell' = true) → PStab g f o l
  | [], _, _ => trivial
  | c :: l, o, h => ⟨by simpa using h 0 c rfl, pstab_of l (o + 1) fun i c' hc' => by
      have := h (i + 1) c' (by simpa using hc')
      rwa [show o + 1 + i = o + (i + 1) by omega]⟩
theorem pstab_array {H : Type} {enc : TypeId × Value → H} {P : Program} {W : World} {base : Nat} {spare : Nat → Bool} {held : Bool} {t e : TypeId} {k : IntKind} {n fuel gi : Nat} {cs : Array Value} {ns : List Int} {ps : List MemPlace}
    (ht : P.underlying t = some (.array n e)) (he : P.underlying e = some (.int k)) (hc : P.cellsOf e = 1) (hcell : ∀ off, W.cell? ⟨gi, off, none⟩ = cs[off]?)
    (h : DataW.trod enc P W base spare held fuel t cs.toList = some (.agg (ns.map fun z => .lit (.int k z)), ps)) : PStab (gW W) ((gW W).σ gi) 0 (ns.map (.int k)) := by
  obtain ⟨xs, m, _, hx, hl, hlen, hf⟩ := DataW.trod_array ht h
  simp only [Prod.mk.injEq, DataW.agg.injEq] at hx
  refine pstab_of _ _ fun i c hi => ?_
  rw [List.getElem?_map] at hi
  have hi' : i < ns.length := by
    by_cases q : i < ns.length
    · exact q
    · rw [List.getElem?_eq_none (by omega)] at hi; simp at hi
  have hlen2 : ns.length = xs.length := by simpa using congrArg List.length hx.1
  have h1 := hf i (by omega)
  rw [List.getElem?_eq_getElem (by omega : i < xs.length)] at h1
  obtain ⟨z, e1, e2, _⟩ := DataW.trod_int he h1
  rw [List.getElem?_eq_getElem hi'] at hi
  simp only [Option.map_some, Option.some.injEq] at hi
  subst hi
  have e3 : (ns.map fun z => (DataW.lit (.int k z) : DataW H))[i]? = (xs.map (·.1))[i]? := by rw [hx.1]
  rw [List.getElem?_map, List.getElem?_map, List.getElem?_eq_getElem hi', List.getElem?_eq_getElem (by omega : i < xs.length)] at e3
  simp only [Option.map_some, Option.some.injEq, e2, DataW.lit.injEq, Lit.int.injEq, true_and] at e3
  rw [hc] at e1
  refine ⟨.int k ns[i], ?_, rfl, rfl⟩
  show W.cell? ⟨gi, 0 + i, none⟩ = _
  rw [hcell, e3]
  have : (List.take 1 (cs.toList.drop (i * 1)))[0]? = some (Value.int k z) := by rw [e1]; rfl
  simpa using this

end Go.AM
end

/- The abstract machine, part Za: contracts of the library as rows of a table. Conditions: none. -/
section
set_option maxRecDepth 10000
set_option linter.unusedSimpArgs false
set_option linter.unusedVariables false
set_option linter.unusedVariables false
set_option linter.unusedSimpArgs false
namespace Go.AM
open Go.Proofs Go.Lib Go.RowKit

theorem rel_hnil_below {g : Ghost} {w w' : World} (h : Rel g hnil 0 w) (hb : Below w.heap.size w w') : Rel g hnil 0 w' where
  σw := fun b o v e => by
    have h1 := h.σw b o v e
    have h2 : b < w.heap.size := Lib.lt_of_cell (a := ⟨b, o, none⟩) h1
    exact (hb.cell (p := ⟨b, o, none⟩) h2).trans h1
  obj := fun _ _ h => by simp [hget, hnil] at h
  dom := fun id L e => absurd ((h.dom id L e).1) (by simp [hget, hnil])
  hd := fun _ _ h => by simp [hget, hnil] at h
  ap := fun _ _ _ _ _ _ _ h => by simp [hget, hnil] at h
  un := fun _ _ _ _ h => by simp [hget, hnil] at h
  gl := h.gl
  gz := h.gz.kept (own := fun _ _ => False) (fun b ob e => by
    have h2 : b < w.heap.size := (Array.getElem?_eq_some_iff.1 e).1
    rw [hb.block b h2, e]; exact Kept.same _ _)
theorem trans_hnil_below {g : Ghost} {w w' : World} (hb : Below w.heap.size w w') : Trans 0 g hnil w g hnil w' where
  le := .refl g
  βn := fun _ _ h => .inl h
  os := hb.os
  tape := hb.tape
  output := hb.output
  size := hb.size
  kept := fun b ob e => by
    have h2 : b < w.heap.size := (Array.getElem?_eq_some_iff.1 e).1
    rw [hb.block b h2, e]; exact Kept.same _ _
  now := fun _ _ _ h => h
  nσ := fun _ _ _ _ h => .inl h
/-- A contract that leaves what was there. -/
theorem pur_of_calls {P : Program} {f : FuncId} {args : List AVal} {r : AVal} (hc : Callable P f) (hu : unders 0 args) (hr : r.under 0)
    (h : ∀ g w vs, Rel g hnil 0 w → VRels g args vs → Calls P f vs.toArray w fun e w' => (∃ v, e = .returned v ∧ VRel g r v) ∧ Below w.heap.size w w') : Pur P f args r := by
  refine ⟨hu, hr, hc, fun g w vs hR hv => (h g w vs hR hv).mono ?_⟩
  rintro e w' ⟨⟨v, rfl, hv⟩, hb⟩
  exact ⟨g, .ret r, hnil, 0, ⟨r, rfl, .refl r⟩, hv, rel_hnil_below hR hb, Nat.le_refl 0, trans_hnil_below hb⟩
/-- A contract that leaves what was there, among objects. -/
theorem quiet_of_calls {P : Program} {f : FuncId} {args : List AVal} {H : AHeap} {n : Nat} {r : AVal} (hc : Callable P f)
    (h : ∀ g w vs, Rel g H n w → VRels g args vs → Calls P f vs.toArray w fun e w' => (∃ v, e = .returned v ∧ VRel g r v) ∧ Below w.heap.size w w') : Quiet P f args H n r := by
  refine ⟨hc, fun g w vs hR hv => (h g w vs hR hv).mono ?_⟩
  rintro e w' ⟨⟨v, rfl, hv⟩, hb⟩
  have hx : HExt w w' := fun b ob e => by
    have h2 : b < w.heap.size := (Array.getElem?_eq_some_iff.1 e).1
    rw [hb.block b h2]; exact e
  have hR' : Rel g H n w' := Rel.grow hR hx (σ' := g.σ) (fun _ _ _ q => q) (fun _ _ _ q => .inl q)
  refine ⟨g, .ret r, H, n, ⟨rfl, rfl, rfl⟩, hv, hR', Nat.le_refl n, ?_⟩
  exact ⟨.refl g, fun _ _ q => .inl q, hb.os, hb.tape, hb.output, hb.size, fun b ob q => by rw [hx b ob q]; exact Kept.same _ _, fun _ _ _ q => q, fun _ _ _ _ q => .inl q⟩
end Go.AM
end
