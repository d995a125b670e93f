/-
  Booklets: the laws, part 6: what Layout returns is valid (plain) · Booklets: the laws, part 7: PressGood.
  Conditions: none beyond those of its parts.
-/
import Derived.Test.YtekbplnmbbmhdaaDoorBB

/- Booklets: the laws, part 6: what Layout returns is valid (plain). Conditions: none. -/
section
set_option maxRecDepth 10000
set_option linter.unusedSimpArgs false
set_option linter.unusedVariables false
set_option maxHeartbeats 1000000
set_option linter.unusedVariables false
set_option linter.unusedSimpArgs false
namespace Go.AM
open Go.Proofs Go.Lib

theorem spS_le {a b : Int} (h : a ≤ b) : spS a ≤ spS b := by unfold spS; omega
theorem spS_new (a : Int) : spS (2 * spS a + 1) = spS a + 1 := by unfold spS; omega
theorem kd_blkN (l : List Blk) {i : Nat} (h : i < l.length) : kd l i = (blkN l i).K := by simp [kd, blkN, h]
abbrev bk (l : List Blk) (x : Plc) : Blk := blkN l x.B.toNat
theorem blkAt_get {l : List Blk} {x : Plc} (h0 : 0 ≤ x.B) (h1 : x.B.toNat < l.length) : blkAt l x = some (bk l x) := by
  unfold blkAt
  rw [if_pos ⟨h0, by omega⟩, List.getElem?_eq_getElem h1]
  simp [blkN, h1]

/-- A place that is good with respect to what came before. -/
structure GX (p : Pap) (l : List Blk) (s : LSt) (i : Nat) (x : Plc) : Prop where
  b : x.B = i
  w : withinS p (blkN l i) x = true
  p0 : s.pg ≤ x.P
  p1 : x.P ≤ s.pg + 2
  z : s.out = [] → x.P = 0
  m : p.M ≤ x.X
  t : p.M ≤ x.Y
  g : x.P = s.pg → s.out ≠ [] → (x.Y = s.top ∧ x.X = s.nx ∧ p.M < x.X) ∨ (s.top + s.tall + p.S = x.Y)
  sp : (blkN l i).K = 2 → s.sol = false → s.out ≠ [] → x.P = 2 * spS s.pg + 1
structure GI (p : Pap) (l : List Blk) (s : LSt) (D : List Nat) : Prop where
  hB : s.out.map (·.B) = D.map (fun i : Nat => (i : Int))
  lt : ∀ i ∈ D, i < l.length
  nd : D.Nodup
  one : ∀ x ∈ s.out, withinS p (bk l x) x = true
  two : s.out.Pairwise fun x y => pairS p (bk l x) (bk l y) x y = true
  pg0 : ∀ x ∈ s.out, 0 ≤ x.P ∧ x.P ≤ s.pg
  geo : ∀ x ∈ s.out, x.P = s.pg → x.Y + (bk l x).H * p.C + p.S ≤ s.top ∨ (x.Y = s.top ∧ x.X + (bk l x).W * p.C + p.S ≤ s.nx ∧ (bk l x).H * p.C ≤ s.tall)
  nx : s.out ≠ [] → p.M < s.nx
  tp : s.out ≠ [] → p.M ≤ s.top
  ta : 0 ≤ s.tall
  pgs : s.out.Pairwise fun x y => x.P ≤ y.P
  ch : ∀ i (h : i + 1 < s.out.length), s.out[i + 1].P ≤ s.out[i].P + 2
  fst : ∀ h : 0 < s.out.length, s.out[0].P = 0
  lst : ∀ h : 0 < s.out.length, s.out[s.out.length - 1].P = s.pg
  e : s.out = [] → s.pg = 0
  s1 : s.sol = false → ∀ x ∈ s.out, (bk l x).K ≠ 2
  s2 : s.sol = true → ∀ x ∈ s.out, (bk l x).K = 1 → spS x.P < spS s.pg
  s3 : s.sol = true → ∃ y ∈ s.out, (bk l y).K = 2
  sep : s.out.Pairwise fun x y => (bk l y).K = 2 → (bk l x).K = 1 → spS x.P < spS y.P
theorem within_iff {p : Pap} {b : Blk} {x : Plc} : withinS p b x = true ↔ 0 ≤ x.P ∧ p.M ≤ x.X ∧ x.X + b.W * p.C ≤ p.W - p.M ∧ p.M ≤ x.Y ∧ x.Y + b.H * p.C ≤ p.H - p.M := by
  simp [withinS, and_assoc]
theorem GI.zero (p : Pap) (l : List Blk) : GI p l lay0 [] := by
  refine ⟨rfl, by simp, List.nodup_nil, by simp [lay0], by simp [lay0], by simp [lay0], by simp [lay0], by simp [lay0], by simp [lay0], by simp [lay0], by simp [lay0], by simp [lay0], by simp [lay0], by simp [lay0], by simp [lay0], by simp [lay0], by simp [lay0], by simp [lay0], by simp [lay0]⟩
theorem layX_good {p : Pap} {l : List Blk} {s : LSt} {D : List Nat} {i : Nat} (hb : FB p (blkN l i)) (g : GI p l s D) (hp : 0 ≤ s.pg) : GX p l s i (layX p (blkN l i) i s) := by
  obtain ⟨c, w, h, m, q, k, n, w1, h1, w2, h2⟩ := hb
  have hnx := g.nx
  have htp := g.tp
  have hta := g.ta
  have he := g.e
  have sp := spS_bd hp
  have hlen : s.out = [] ↔ s.out.length = 0 := by cases s.out <;> simp
  have spn : s.pg ≤ 2 * spS s.pg + 1 ∧ s.pg < 2 * spS s.pg + 1 := by unfold spS; omega
  unfold layX
  by_cases c0 : s.out.length = 0
  · rw [if_pos c0]
    have e0 := he (hlen.2 c0)
    refine ⟨rfl, within_iff.2 ⟨by simp only []; omega, by simp only []; omega, by simp only []; omega, by simp only []; omega, by simp only []; omega⟩, by simp only []; omega, by simp only []; omega, fun _ => rfl, Int.le_refl _, Int.le_refl _, fun _ hne => absurd (hlen.2 c0) hne, fun _ _ hne => absurd (hlen.2 c0) hne⟩
  rw [if_neg c0]
  have hne : s.out ≠ [] := fun e => c0 (hlen.1 e)
  have hnx := hnx hne
  have htp := htp hne
  by_cases c1 : (blkN l i).K = 2 ∧ s.sol = false
  · rw [if_pos c1]
    refine ⟨rfl, within_iff.2 ⟨by simp only []; omega, by simp only []; omega, by simp only []; omega, by simp only []; omega, by simp only []; omega⟩, by simp only []; omega, by simp only []; omega, fun e => absurd e hne, Int.le_refl _, Int.le_refl _, fun e _ => ?_, fun _ _ _ => rfl⟩
    simp only [] at e; omega
  rw [if_neg c1]
  have hsp : (blkN l i).K = 2 → s.sol = false → False := fun a b => c1 ⟨a, b⟩
  by_cases c2 : s.nx + (blkN l i).W * p.C ≤ p.W - p.M ∧ s.top + (blkN l i).H * p.C ≤ p.H - p.M
  · rw [if_pos c2]
    refine ⟨rfl, within_iff.2 ⟨by simp only []; omega, by simp only []; omega, by simp only []; omega, by simp only []; omega, by simp only []; omega⟩, Int.le_refl _, by simp only []; omega, fun e => absurd e hne, by simp only []; omega, by simp only []; omega, fun _ _ => .inl ⟨rfl, rfl, hnx⟩, fun a b _ => (hsp a b).elim⟩
  rw [if_neg c2]
  by_cases c3 : s.top + s.tall + p.S + (blkN l i).H * p.C ≤ p.H - p.M
  · rw [if_pos c3]
    refine ⟨rfl, within_iff.2 ⟨by simp only []; omega, by simp only []; omega, by simp only []; omega, by simp only []; omega, by simp only []; omega⟩, Int.le_refl _, by simp only []; omega, fun e => absurd e hne, by simp only []; omega, by simp only []; omega, fun _ _ => .inr rfl, fun a b _ => (hsp a b).elim⟩
  rw [if_neg c3]
  refine ⟨rfl, within_iff.2 ⟨by simp only []; omega, by simp only []; omega, by simp only []; omega, by simp only []; omega, by simp only []; omega⟩, by simp only []; omega, by simp only []; omega, fun e => absurd e hne, Int.le_refl _, Int.le_refl _, fun e _ => ?_, fun a b _ => (hsp a b).elim⟩
  simp only [] at e; omega

theorem pw_snoc {α : Type} {R : α → α → Prop} {l : List α} {x : α} (h : l.Pairwise R) (h2 : ∀ y ∈ l, R y x) : (l ++ [x]).Pairwise R :=
  List.pairwise_append.2 ⟨h, List.pairwise_singleton _ _, fun a ha b hb => by rw [List.mem_singleton.1 hb]; exact h2 a ha⟩
theorem lay1_good {p : Pap} {l : List Blk} {s : LSt} {D : List Nat} {i : Nat} (hi : i < l.length) (hb : FB p (blkN l i)) (g : GI p l s D) (hiD : i ∉ D) (hK : ∀ j ∈ D, (blkN l j).K ≤ (blkN l i).K) (hp : 0 ≤ s.pg) : GI p l (lay1 p l s i) (D ++ [i]) := by
  have hx := layX_good hb g hp
  unfold lay1
  generalize layX p (blkN l i) i s = x at hx
  obtain ⟨xb, xw, x0, x1, xz, xm, xt, xg, xs⟩ := hx
  obtain ⟨gB, glt, gnd, g1, g2, gp, gg, gn, gt, gta, gpg, gch, gf, gl, ge, gs1, gs2, gs3, gsep⟩ := g
  obtain ⟨c, w, h, m, q, k, n, w1, h1, w2, h2⟩ := hb
  have ebk : bk l x = blkN l i := by unfold bk; rw [xb]; rfl
  have hmem : ∀ y ∈ s.out, ∃ j ∈ D, y.B = (j : Int) := by
    intro y hy
    have : y.B ∈ s.out.map (·.B) := List.mem_map_of_mem hy
    rw [gB] at this
    obtain ⟨j, hj, e⟩ := List.mem_map.1 this
    exact ⟨j, hj, e.symm⟩
  have hne : ∀ y ∈ s.out, y.B ≠ x.B := by
    intro y hy e
    obtain ⟨j, hj, e2⟩ := hmem y hy
    rw [e2, xb] at e
    have : j = i := by omega
    exact hiD (this ▸ hj)
  have hkk : ∀ y ∈ s.out, (bk l y).K ≤ (blkN l i).K := by
    intro y hy
    obtain ⟨j, hj, e2⟩ := hmem y hy
    have : bk l y = blkN l j := by unfold bk; rw [e2]; rfl
    rw [this]; exact hK j hj
  have hne2 : ∀ y ∈ s.out, s.out ≠ [] := fun y hy e => by rw [e] at hy; cases hy
  have hsep : ∀ y ∈ s.out, (blkN l i).K = 2 → (bk l y).K = 1 → spS y.P < spS x.P := by
    intro y hy hk2 hk1
    cases hsol : s.sol with
    | false =>
      have e := xs hk2 hsol (hne2 y hy)
      have := spS_le (gp y hy).2
      rw [e, spS_new]; omega
    | true =>
      have h3 := gs2 hsol y hy hk1
      have := spS_le x0
      omega
  have hpair : ∀ y ∈ s.out, pairS p (bk l y) (bk l x) y x = true := by
    intro y hy
    rw [ebk]
    have hsp := hsep y hy
    have hyk := hkk y hy
    have hgeo := gg y hy
    have hyp := (gp y hy).2
    unfold pairS
    simp only [Bool.and_eq_true, Bool.not_eq_true', Bool.or_eq_false_iff, Bool.and_eq_false_iff, decide_eq_false_iff_not]
    refine ⟨⟨hne y hy, ?_⟩, ?_⟩
    · by_cases hP : y.P = x.P
      · have hpg : x.P = s.pg := by omega
        refine .inl (.inr ?_)
        have hd := hgeo (by omega)
        have hxg := xg hpg (hne2 y hy)
        simp only [aheadS, Bool.not_eq_false', Bool.or_eq_true, decide_eq_true_eq]
        rcases hxg with ⟨e1, e2, e3⟩ | e1
        · rcases hd with hd | ⟨d1, d2, d3⟩
          · right; omega
          · left; omega
        · rcases hd with hd | ⟨d1, d2, d3⟩
          · right; omega
          · right; omega
      · exact .inl (.inl hP)
    · by_cases hspe : spS y.P = spS x.P
      · right
        refine ⟨?_, ?_⟩
        · by_cases q1 : (bk l y).K = 1
          · right; intro q2; have := hsp q2 q1; omega
          · left; exact q1
        · by_cases q1 : (bk l y).K = 2
          · right; intro q2; omega
          · left; exact q1
      · exact .inl (.inr hspe)
  have hlenD : s.out.length = D.length := by have := congrArg List.length gB; simpa using this
  unfold putS
  constructor
  · simp only [List.map_append, gB, List.map_cons, List.map_nil, xb]
  · intro j hj
    rcases List.mem_append.1 hj with hj | hj
    · exact glt j hj
    · rw [List.mem_singleton.1 hj]; exact hi
  · exact List.nodup_append.2 ⟨gnd, by simp, fun a ha b hb' => by rw [List.mem_singleton.1 hb']; exact fun e => hiD (e ▸ ha)⟩
  · intro y hy
    rcases List.mem_append.1 hy with hy | hy
    · exact g1 y hy
    · rw [List.mem_singleton.1 hy, ebk]; exact xw
  · exact pw_snoc g2 hpair
  · intro y hy
    rcases List.mem_append.1 hy with hy | hy
    · have := gp y hy; exact ⟨this.1, by simp only []; omega⟩
    · rw [List.mem_singleton.1 hy]; exact ⟨by omega, Int.le_refl _⟩
  · intro y hy hP
    simp only [] at hP ⊢
    rcases List.mem_append.1 hy with hy | hy
    · have hyp := (gp y hy).2
      have hpg : x.P = s.pg := by omega
      have hd := gg y hy (by omega)
      rcases xg hpg (hne2 y hy) with ⟨e1, e2, e3⟩ | e1
      · rcases hd with hd | ⟨d1, d2, d3⟩
        · left; omega
        · right
          refine ⟨by omega, by omega, ?_⟩
          rw [if_neg (by omega)]; omega
      · rcases hd with hd | ⟨d1, d2, d3⟩
        · left; omega
        · left; omega
    · right
      rw [List.mem_singleton.1 hy, ebk]
      exact ⟨rfl, Int.le_refl _, by omega⟩
  · intro _; simp only []; omega
  · intro _; simp only []; omega
  · simp only []; split <;> omega
  · refine pw_snoc gpg fun y hy => ?_
    have := (gp y hy).2; omega
  · intro j hj
    simp only [List.length_append, List.length_cons, List.length_nil] at hj
    simp only []
    by_cases hj2 : j + 1 < s.out.length
    · rw [List.getElem_append_left hj2, List.getElem_append_left (by omega)]
      exact gch j hj2
    · have ej : j + 1 = s.out.length := by omega
      rw [List.getElem_append_right (by omega), List.getElem_append_left (by omega)]
      simp only [List.getElem_singleton]
      have hl := gl (by omega)
      have : s.out.length - 1 = j := by omega
      simp only [this] at hl
      rw [hl]; exact x1
  · intro hh
    simp only []
    by_cases h0 : s.out = []
    · simp only [h0, List.nil_append, List.getElem_cons_zero]
      exact xz h0
    · have : 0 < s.out.length := List.length_pos_iff.2 h0
      rw [List.getElem_append_left this]
      exact gf this
  · intro hh
    simp only [List.length_append, List.length_cons, List.length_nil, Nat.zero_add, Nat.add_sub_cancel]
    rw [List.getElem_append_right (by omega)]
    simp
  · intro h0; simp at h0
  · intro hs y hy
    simp only [Bool.or_eq_false_iff, decide_eq_false_iff_not] at hs
    rcases List.mem_append.1 hy with hy | hy
    · exact gs1 hs.1 y hy
    · rw [List.mem_singleton.1 hy, ebk]; exact hs.2
  · intro hs y hy hk1
    simp only [Bool.or_eq_true, decide_eq_true_eq] at hs
    simp only []
    rcases List.mem_append.1 hy with hy | hy
    · rcases hs with hs | hs
      · have := gs2 hs y hy hk1
        have := spS_le x0
        omega
      · exact hsep y hy hs hk1
    · rw [List.mem_singleton.1 hy, ebk] at hk1
      rcases hs with hs | hs
      · exfalso
        -- a solution came before
        obtain ⟨z, hz, hz2⟩ := gs3 hs
        have := hkk z hz
        omega
      · omega
  · intro hs
    simp only [Bool.or_eq_true, decide_eq_true_eq] at hs
    rcases hs with hs | hs
    · obtain ⟨z, hz, hz2⟩ := gs3 hs
      exact ⟨z, List.mem_append_left _ hz, hz2⟩
    · exact ⟨x, by simp, by rw [ebk]; exact hs⟩
  · refine pw_snoc gsep fun y hy a b => ?_
    rw [ebk] at a
    exact hsep y hy a b
/-- All blocks. -/
theorem fold_good {p : Pap} {l : List Blk} (hb : ∀ i < l.length, FB p (blkN l i)) : ∀ (L D : List Nat) (s : LSt), GI p l s D → LOK p s → (∀ i ∈ L, i < l.length) → (D ++ L).Nodup → (D ++ L).Pairwise (fun a b => (blkN l a).K ≤ (blkN l b).K) →
    GI p l (L.foldl (lay1 p l) s) (D ++ L)
  | [], D, s, g, ok, _, _, _ => by simpa using g
  | i :: L, D, s, g, ok, hi, hn, hk => by
    have hii := hi i (by simp)
    have hbi := hb i hii
    have e : D ++ i :: L = (D ++ [i]) ++ L := by simp
    have hiD : i ∉ D := fun h => (List.nodup_append.1 hn).2.2 i h i (by simp) rfl
    have hkD : ∀ j ∈ D, (blkN l j).K ≤ (blkN l i).K := fun j hj => (List.pairwise_append.1 hk).2.2 j hj i (by simp)
    have g' := lay1_good hii hbi g hiD hkD ok.p0
    have := fold_good hb L (D ++ [i]) (lay1 p l s i) g' (lay1_ok hbi ok) (fun j hj => hi j (by simp [hj])) (by rw [← e]; exact hn) (by rw [← e]; exact hk)
    rw [e]; exact this

/-- What Layout returns, as the law asks it. -/
structure OutOK (p : Pap) (l : List Blk) (X : List Plc) : Prop where
  len : X.length = l.length
  bl : ∀ i (h : i < X.length), 0 ≤ X[i].B ∧ X[i].B.toNat < l.length
  ks : ∀ i j (hi : i < X.length) (hj : j < X.length), i < j → (bk l X[i]).K ≤ (bk l X[j]).K
  inc : ∀ i j (hi : i < X.length) (hj : j < X.length), i < j → (bk l X[i]).K = (bk l X[j]).K → X[i].B < X[j].B
  p0 : ∀ h : 0 < X.length, X[0].P = 0
  pi : ∀ i (h : i + 1 < X.length), X[i].P ≤ X[i + 1].P ∧ X[i + 1].P ≤ X[i].P + 2
  pb : ∀ i (h : i < X.length), 0 ≤ X[i].P ∧ X[i].P < 1000
  sep : ∀ k i (hk : k < X.length) (hi : i < X.length), k < i → (bk l X[i]).K = 2 → (bk l X[k]).K = 1 → spS X[k].P ≠ spS X[i].P
  va : validS p l X = (true, 0)
theorem lay_out {p : Pap} {l : List Blk} (hc : checkS p l = 0) : OutOK p l (layS p l).1 := by
  obtain ⟨hl, hg, hfit⟩ := check_ok hc
  have hb : ∀ i < l.length, FB p (blkN l i) := fun i hi => by rw [blkN_get hi]; exact FB.of hg (hfit i hi)
  have hK : okK l := fun b hb' => by
    obtain ⟨i, hi, rfl⟩ := List.getElem_of_mem hb'
    have := (hb i hi).k; rwa [blkN_get hi] at this
  have hlt : ∀ i ∈ ordS l, i < l.length := by
    intro i hi
    obtain ⟨k, hk, rfl⟩ := List.getElem_of_mem hi
    exact ordS_lt hk
  have hpw := ordS_pw l
  have hnd : (ordS l).Nodup := hpw.imp fun {a b} h e => by subst e; rcases h with h | h <;> omega
  have hkpw : (ordS l).Pairwise fun a b => (blkN l a).K ≤ (blkN l b).K := by
    refine List.Pairwise.imp_of_mem (fun {a b} ha hb' h => ?_) hpw
    rw [← kd_blkN l (hlt a ha), ← kd_blkN l (hlt b hb')]
    rcases h with h | h <;> omega
  have hg' := fold_good hb (ordS l) [] lay0 (GI.zero p l) (LOK.zero p) hlt (by simpa using hnd) (by simpa using hkpw)
  have hpg := layS_pg hc
  have hlen := layS_len hc
  have ex : (layS p l).1 = ((ordS l).foldl (lay1 p l) lay0).out := by unfold layS; rw [if_pos hc]
  rw [ex] at hpg hlen ⊢
  generalize (ordS l).foldl (lay1 p l) lay0 = s at hg' hpg hlen
  rw [List.nil_append] at hg'
  obtain ⟨gB, glt, gnd, g1, g2, gp, gg, gn, gt, gta, gpg, gch, gf, gl, ge, gs1, gs2, gs3, gsep⟩ := hg'
  have hB : ∀ i (h : i < s.out.length), ∃ h2 : i < (ordS l).length, s.out[i].B = ((ordS l)[i] : Int) := by
    intro i h
    have h2 : i < (ordS l).length := by have := congrArg List.length gB; simp at this; omega
    refine ⟨h2, ?_⟩
    have : (s.out.map (·.B))[i]? = ((ordS l).map (fun i : Nat => (i : Int)))[i]? := by rw [gB]
    rw [List.getElem?_map, List.getElem?_map, List.getElem?_eq_getElem h, List.getElem?_eq_getElem h2] at this
    simpa using this
  have hbl : ∀ i (h : i < s.out.length), 0 ≤ s.out[i].B ∧ s.out[i].B.toNat < l.length := by
    intro i h
    obtain ⟨h2, e⟩ := hB i h
    rw [e]
    exact ⟨by omega, by simpa using ordS_lt h2⟩
  have hbk : ∀ i (h : i < s.out.length) (h2 : i < (ordS l).length), bk l s.out[i] = blkN l (ordS l)[i] := by
    intro i h h2
    obtain ⟨_, e⟩ := hB i h
    unfold bk; rw [e]; simp
  refine ⟨hlen, hbl, ?_, ?_, gf, ?_, ?_, ?_, ?_⟩
  · intro i j hi hj hij
    obtain ⟨hi2, _⟩ := hB i hi
    obtain ⟨hj2, _⟩ := hB j hj
    rw [hbk i hi hi2, hbk j hj hj2]
    exact List.pairwise_iff_getElem.1 hkpw i j hi2 hj2 hij
  · intro i j hi hj hij e
    obtain ⟨hi2, ei⟩ := hB i hi
    obtain ⟨hj2, ej⟩ := hB j hj
    rw [hbk i hi hi2, hbk j hj hj2, ← kd_blkN l (ordS_lt hi2), ← kd_blkN l (ordS_lt hj2)] at e
    rw [ei, ej]
    rcases List.pairwise_iff_getElem.1 hpw i j hi2 hj2 hij with h | h <;> omega
  · intro i h
    exact ⟨List.pairwise_iff_getElem.1 gpg i (i + 1) (by omega) h (by omega), gch i h⟩
  · intro i h
    exact (hpg _ (List.getElem_mem h)).p0
  · intro k i hk hi hki a b
    have := List.pairwise_iff_getElem.1 gsep k i hk hi hki a b
    omega
  · unfold validS
    rw [if_pos hc, if_pos hlen]
    congr 1
    rw [vok_iff]
    have hat : ∀ x ∈ s.out, blkAt l x = some (bk l x) := by
      intro x hx
      obtain ⟨i, hi, rfl⟩ := List.getElem_of_mem hx
      exact blkAt_get (hbl i hi).1 (hbl i hi).2
    refine ⟨fun x hx => ?_, List.Pairwise.imp_of_mem (fun {a b} ha hb' h => ?_) g2⟩
    · unfold oneS; rw [hat x hx]; exact g1 x hx
    · unfold twoS; rw [hat a ha, hat b hb']; exact h

end Go.AM
end

/- Booklets: the laws, part 7: PressGood. Conditions: none. -/
section
set_option maxRecDepth 10000
set_option linter.unusedSimpArgs false
set_option linter.unusedVariables false
set_option maxHeartbeats 1000000
set_option linter.unusedVariables false
set_option linter.unusedSimpArgs false
namespace Go.AM
open Go.Proofs Go.Lib

theorem mfind_int {k k' : Int} {v : AVal} {c : Nat} : ∀ (es : List (AVal × AVal × Nat)), mkfit (.int .i64) es → mfind (.int .i64 k) (mset (.int .i64 k') v c es) = if k = k' then some v else mfind (.int .i64 k) es
  | [], _ => by simp [mset, mfind, ceq]
  | (a, b, d) :: r, ⟨h1, h2⟩ => by
    have ih := mfind_int (k := k) (k' := k') (v := v) (c := c) r h2
    cases a <;> simp only [KT.is] at h1 <;> (try exact h1.elim)
    rename_i ka na
    by_cases e : k' = na
    · subst e
      by_cases e2 : k = k'
      · simp [mset, mfind, ceq, e2]
      · simp [mset, mfind, ceq, e2]
    · have e3 : mset (.int .i64 k') v c ((.int ka na, b, d) :: r) = (.int ka na, b, d) :: mset (.int .i64 k') v c r := by simp [mset, ceq, e]
      rw [e3]
      by_cases e2 : k = na
      · subst e2
        simp [mfind, ceq, Ne.symm e]
      · simp [mfind, ceq, e2, ih]
theorem mkfit_int {k' : Int} {v : AVal} {c : Nat} : ∀ (es : List (AVal × AVal × Nat)), mkfit (.int .i64) es → mkfit (.int .i64) (mset (.int .i64 k') v c es)
  | [], _ => ⟨rfl, trivial⟩
  | (a, b, d) :: r, ⟨h1, h2⟩ => by
    simp only [mset]
    split
    · exact ⟨h1, h2⟩
    · exact ⟨h1, mkfit_int r h2⟩
theorem sp_w64 {a : Int} (h0 : 0 ≤ a) (h1 : a < 1000) : w64 ((w64 (a + 1)).tdiv 2) = spS a := by
  have e1 : w64 (a + 1) = a + 1 := w64_in (by omega) (by omega)
  have e2 : (a + 1).tdiv 2 = (a + 1) / 2 := Int.tdiv_eq_ediv_of_nonneg (by omega)
  have e3 : w64 ((a + 1) / 2) = (a + 1) / 2 := w64_in (by omega) (by omega)
  rw [e1, e2, e3]
  unfold spS; omega
theorem T20_20 (a : List AVal) (H : AHeap) : T20 20 a H = s33 a H := rfl
/-- What the map says. -/
def MapK (l : List Blk) (X : List Plc) (i : Nat) (es : List (AVal × AVal × Nat)) : Prop :=
  mkfit (.int .i64) es ∧ ∀ k v, mfind (.int .i64 k) es = some v → ∃ t, ∃ h : t < X.length, t < i ∧ (bk l X[t]).K = k ∧ v = .int .i64 X[t].B
structure V6 where
  i : Nat
  H : AHeap
  n : Nat
  es : List (AVal × AVal × Nat)
  c : Nat
theorem p6 (p : Pap) (l : List Blk) : Pur Tryd.prog 6 [encP p, .sl (.none 4) (l.map encB)] (.bool true) := by
  refine .mk ⟨by simp [unders, AVal.under], ⟨trivial, encB_under 0 l⟩, trivial⟩ trivial (a6 (ev_awp T20_ok (ev_evK ?_)))
  by_cases hc : checkS p l = 0
  case neg =>
    simp only [kont_nil, kont_n, kont_r, k_skip, k_ret, k_seq, k_block, k_cond, k_reg, r_ext, r_nil, r_v, r_vg, r_pick, r_box, r_call, callT, penv, postC, rcs, rc1, rvS, gok, gvb, eget, lk, lkv, oks, AS.put, AS.keep, evk, Opk.opds, aload, isI, toI, isB, toB, sel, mk, icmp, nT, hget_hset, hget_nil, AVal.cells, Tok.esz, List.length_cons, List.length_nil, List.filterMap, List.map_cons, List.map_nil, List.append_nil, List.nil_append, Option.map_some, reduceCtorEq, and_true, true_and, forall_const, Nat.reduceEqDiff, ↓reduceIte, Bool.false_eq_true, Nat.reduceAdd, List.drop, List.take, List.take_succ_cons, Nat.le_refl, Bool.true_and, false_implies, implies_true, Nat.zero_add, Bool.cond_true_left, imp_self, beq_false, Bool.not_eq_true', Bool.not_eq_false', Bool.or_eq_true, Bool.or_eq_false_iff, decide_eq_true_eq, decide_eq_false_iff_not, impA1, and_self, true_or, ret_eq, Nat.add_zero, wk_bool, decide_false, c6, T20_10, T20_13, s10, s13, List.length_map, pap_eta, encd_map, decB_map, hc]
  obtain ⟨hl, hg, hfit⟩ := check_ok hc
  have hX := lay_out hc
  have hX2 : (layS p l).2 = 0 := by unfold layS; rw [if_pos hc]
  obtain ⟨X, hXe⟩ : ∃ X, X = (layS p l).1 := ⟨_, rfl⟩
  rw [← hXe] at hX
  obtain ⟨xlen, xbl, xks, xinc, xp0, xpi, xpb, xsep, xva⟩ := hX
  have hxP : okP X := fun x hx => by
    obtain ⟨i, hi, rfl⟩ := List.getElem_of_mem hx
    have := (xpb i hi).2; omega
  simp only [kont_nil, kont_n, kont_r, k_skip, k_ret, k_seq, k_block, k_cond, k_reg, r_ext, r_nil, r_v, r_vg, r_pick, r_box, r_call, callT, penv, postC, rcs, rc1, rvS, gok, gvb, eget, lk, lkv, oks, AS.put, AS.keep, evk, Opk.opds, aload, isI, toI, isB, toB, sel, mk, icmp, nT, hget_hset, hget_nil, AVal.cells, Tok.esz, List.length_cons, List.length_nil, List.filterMap, List.map_cons, List.map_nil, List.append_nil, List.nil_append, Option.map_some, reduceCtorEq, true_and, forall_const, Nat.reduceEqDiff, ↓reduceIte, Bool.false_eq_true, Nat.reduceAdd, List.drop, List.take, List.take_succ_cons, Nat.reduceLT, Nat.le_refl, Bool.true_and, implies_true, Nat.zero_add, Bool.cond_true_left, imp_self, beq_false, Bool.not_eq_true', Bool.not_eq_false', Bool.or_eq_true, Bool.or_eq_false_iff, and_self, true_or, or_false, ret_eq, Nat.add_zero, wk_bool, decide_true, c6, T20_10, T20_13, T20_15, T20_18, s10, s13, s15, s18, List.length_map, pap_eta, encd_map, decB_map, encdX_map, decX_map, List.getElem?_cons_zero, List.getElem?_cons_succ, Option.getD_some, hc, hX2, ← hXe, hxP, xva, xlen, xE]
  refine k_loop (fun v : V6 => ⟨[(1, true, .sl (.none 4) (l.map encB)), (5, true, .sl (.none 4) (X.map encX)), (9, true, .mp 2), (54, true, .sl (.none 4) (X.map encX)), (55, true, .int .i64 l.length), (56, true, .int .i64 v.i)], v.H, v.n⟩)
    (fun v => v.i ≤ l.length ∧ hget v.H 2 = some (.map v.es v.c) ∧ MapK l X v.i v.es ∧ Fresh v.H v.n ∧ 3 ≤ v.n) (fun v => l.length - v.i) ⟨0, hset (hset hnil 0 (boxP p)) 2 (.map [] 0), 4, [], 0⟩ rfl ⟨Nat.zero_le _, rfl, ⟨trivial, fun k v h => by simp [mfind] at h⟩, ?_, by simp⟩ ?_
  · intro m hm
    simp only [] at hm
    simp only [hget_hset, hget_nil]
    repeat rw [if_neg (by omega)]
  rintro ⟨i, H, n, es, c⟩ ⟨hi, g2, ⟨mf, mv⟩, fr, n3⟩
  simp only at hi g2 mf mv fr n3
  have fr' : ∀ id, n ≤ id → hget H id = none := fr
  by_cases hlt : i < l.length
  case neg =>
    simp only [kont_nil, kont_n, kont_e, kont_r, kont_be, kont_br, k_skip, k_exit, k_ret, k_seq, k_block, k_cond, k_reg, r_ext, r_nil, r_v, r_vg, r_pick, r_pickg, r_alloc, r_st, stE, lpQ_e, lpQ_r, postC, rcs, rc1, rvS, gok, gvb, eget, lk, lkv, oks, AS.put, AS.keep, evk, splice, Opk.opds, aload, isI, isInt, toI, isB, toB, sel, mk, icmp, iarith, bnd, bndI, nT, hget_hset, AVal.cells, Tok.esz, Option.toList, List.length_cons, List.length_nil, List.filterMap, List.map_cons, List.map_nil, List.append_nil, List.nil_append, Option.map_some, Option.map_none, reduceCtorEq, and_true, true_and, forall_const, Nat.reduceEqDiff, ↓reduceIte, Bool.false_eq_true, Nat.reduceAdd, List.drop, List.take, List.drop_zero, Int.reduceEq, Int.reduceLE, Int.reduceToNat, Nat.le_refl, Bool.true_and, isDiv, slTok, false_implies, implies_true, Nat.zero_add, Bool.cond_true_left, Bool.cond_false_right, imp_self, beq_true, beq_false, Bool.not_eq_true', Bool.or_eq_true, Bool.or_eq_false_iff, Bool.and_eq_true, decide_eq_true_eq, decide_eq_false_iff_not, ne_eq, not_true_eq_false, not_false_eq_true, impA1, impA2, and_self, or_true, ret_eq, Nat.add_zero, wk_bool, decide_false, Int.ofNat_lt, hlt]
  have hlx : i < X.length := by omega
  have hXi : (X.map encX)[i]? = some (encX X[i]) := by rw [List.getElem?_map, List.getElem?_eq_getElem hlx]; rfl
  obtain ⟨b0, b1⟩ := xbl i hlx
  have hb0 : (X[i].B < 0) = False := eq_false (by omega)
  have hb1 : ((l.length : Int) ≤ X[i].B) = False := eq_false (by omega)
  have hb2 : (0 ≤ X[i].B) = True := eq_true b0
  have hb3 : (X[i].B < (l.length : Int)) = True := eq_true (by omega)
  have hlB : (l.map encB)[X[i].B.toNat]? = some (encB (bk l X[i])) := by rw [List.getElem?_map, List.getElem?_eq_getElem b1]; simp [blkN, b1]
  obtain ⟨ok, at_, hlk, hok⟩ : ∃ ok at_, lookV (.int .i64 0) true (mfind (.int .i64 (bk l X[i]).K) es) = .tup [.int .i64 at_, .bool ok] ∧ (ok = true → at_ < X[i].B) := by
    cases hm : mfind (.int .i64 (bk l X[i]).K) es with
    | none => exact ⟨false, 0, rfl, by simp⟩
    | some v =>
      obtain ⟨t, ht, hti, hk, rfl⟩ := mv _ _ hm
      exact ⟨true, X[t].B, rfl, fun _ => xinc t i ht hlx hti hk⟩
  have hok2 : (bif ok then decide (X[i].B ≤ at_) else false) = false := by
    cases ok with
    | false => rfl
    | true => have := hok rfl; simp; omega
  have e := w64_succ (k := i) (by omega)
  have nn2 : (n = 2) = False := eq_false (by omega)
  obtain ⟨c2, hc2⟩ : ∃ c2, c2 = if (mfind (.int .i64 (bk l X[i]).K) es).isSome = true then c else c + 1 := ⟨_, rfl⟩
  obtain ⟨H2, hH2⟩ : ∃ H2, H2 = hset (hset (hset H (n + 3) (.box [.int .i64 0, .int .i64 0, .int .i64 0, .int .i64 0])) (n + 3) (.box [.int .i64 X[i].B, .int .i64 X[i].P, .int .i64 X[i].X, .int .i64 X[i].Y])) 2 (.map (mset (.int .i64 (bk l X[i]).K) (.int .i64 X[i].B) c es) c2) := ⟨_, rfl⟩
  have q2 : hget H2 2 = some (.map (mset (.int .i64 (bk l X[i]).K) (.int .i64 X[i].B) c es) c2) := by rw [hH2, hget_hset_eq]
  have q11 : hget H2 (n + 3) = some (.box [.int .i64 X[i].B, .int .i64 X[i].P, .int .i64 X[i].X, .int .i64 X[i].Y]) := by rw [hH2, hget_hset_ne _ _ _ _ (by omega), hget_hset_eq]
  have frH2 : Fresh H2 (n + 6) := by
    intro m hm
    rw [hH2]
    simp (disch := omega) only [hget_hset_ne]
    exact fr m (by omega)
  have frH2' : ∀ id, n + 6 ≤ id → hget H2 id = none := frH2
  have hpbi := xpb i hlx
  by_cases h0 : i = 0
  focus
    have hi0 : ((i : Int) = 0) = True := eq_true (by omega)
    have hi2 : (0 < (i : Int)) = False := eq_false (by omega)
    have hp0 : X[i].P = 0 := by subst h0; exact xp0 hlx
    have hp00 : (X[i].P = 0) = True := eq_true hp0
    simp only [kont_nil, kont_n, kont_e, kont_r, kont_be, kont_br, k_skip, k_exit, k_ret, k_seq, k_block, k_cond, k_reg, r_ext, r_nil, r_v, r_vg, r_pick, r_pickg, r_alloc, r_st, stE, lpQ_e, lpQ_r, postC, rcs, rc1, rvS, gok, gvb, eget, lk, lkv, oks, AS.put, AS.keep, evk, splice, Opk.opds, aload, isI, isInt, toI, isB, toB, sel, mk, icmp, iarith, bnd, bndI, nT, hget_hset, AVal.cells, Tok.esz, Option.toList, List.length_cons, List.length_nil, List.filterMap, List.map_cons, List.map_nil, List.append_nil, List.nil_append, Option.map_some, Option.map_none, reduceCtorEq, and_true, true_and, forall_const, Nat.reduceEqDiff, ↓reduceIte, Bool.false_eq_true, Nat.reduceAdd, List.drop, List.take, List.drop_zero, List.drop_succ_cons, List.take_succ_cons, Nat.reduceLeDiff, Nat.reduceLT, Int.reduceEq, Int.reduceLE, Int.reduceToNat, Nat.le_refl, List.headD_cons, Bool.true_and, Bool.and_true, beq_self_eq_true, isDiv, slTok, false_implies, implies_true, Nat.zero_add, Bool.cond_true_left, imp_self, beq_true, beq_false, Bool.or_eq_true, Bool.or_eq_false_iff, decide_eq_true_eq, decide_eq_false_iff_not, ne_eq, not_true_eq_false, not_false_eq_true, and_self, or_true, ret_eq, Nat.add_zero, Nat.le_add_right, wk_bool, decide_true, decide_false, Bool.false_and, Bool.and_false, cond_true, cond_false, Int.ofNat_lt, hlt, xlen, hXi, hb0, hb1, hb2, hb3, hlB, hlk, hok2, xE, mf, g2, fr', KT.is, Int.toNat_natCast, Option.getD_some, Int.natCast_nonneg, imp_self, List.getElem?_cons_zero, List.getElem?_cons_succ, List.length_map, hi0, hi2, hp00, false_and, and_false, Bool.not_true]
    refine ⟨by omega, ?_⟩
  rotate_left
  focus
    have hi1 : i - 1 < X.length := by omega
    have hi0 : ((i : Int) = 0) = False := eq_false (by omega)
    have hi2 : (0 < (i : Int)) = True := eq_true (by omega)
    have ew : IntKind.wrap .i64 ((i : Int) - 1) = ((i - 1 : Nat) : Int) := by rw [w64_in (by omega) (by omega)]; omega
    have hXp : (X.map encX)[i - 1]? = some (encX X[i - 1]) := by rw [List.getElem?_map, List.getElem?_eq_getElem hi1]; rfl
    obtain ⟨c0, c1⟩ := xbl (i - 1) hi1
    have hcc2 : (0 ≤ X[i - 1].B) = True := eq_true c0
    have hcc3 : (X[i - 1].B < (l.length : Int)) = True := eq_true (by omega)
    have hlC : (l.map encB)[X[i - 1].B.toNat]? = some (encB (bk l X[i - 1])) := by rw [List.getElem?_map, List.getElem?_eq_getElem c1]; simp [blkN, c1]
    have hpi : X[i - 1].P ≤ X[i].P ∧ X[i].P ≤ X[i - 1].P + 2 := by
      have := xpi (i - 1) (by omega)
      simpa only [show i - 1 + 1 = i from by omega] using this
    have hpb := xpb (i - 1) hi1
    have e2 : IntKind.wrap .i64 (X[i - 1].P + 2) = X[i - 1].P + 2 := w64_in (by omega) (by omega)
    have hd1 : (X[i].P < X[i - 1].P) = False := eq_false (by omega)
    have hd2 : (X[i - 1].P + 2 < X[i].P) = False := eq_false (by omega)
    have hd3 : ((bk l X[i]).K < (bk l X[i - 1]).K) = False := eq_false (by have := xks (i - 1) i hi1 hlx (by omega); omega)
    have hd4 : (((i - 1 : Nat) : Int) < (l.length : Int)) = True := eq_true (by omega)
    simp only [kont_nil, kont_n, kont_e, kont_r, kont_be, kont_br, k_skip, k_exit, k_ret, k_seq, k_block, k_cond, k_reg, r_ext, r_nil, r_v, r_vg, r_pick, r_pickg, r_alloc, r_st, stE, lpQ_e, lpQ_r, postC, rcs, rc1, rvS, gok, gvb, eget, lk, lkv, oks, AS.put, AS.keep, evk, splice, Opk.opds, aload, isI, isInt, toI, isB, toB, sel, mk, icmp, iarith, bnd, bndI, nT, hget_hset, AVal.cells, Tok.esz, Option.toList, List.length_cons, List.length_nil, List.filterMap, List.map_cons, List.map_nil, List.append_nil, List.nil_append, Option.map_some, Option.map_none, reduceCtorEq, and_true, true_and, forall_const, Nat.reduceEqDiff, ↓reduceIte, Bool.false_eq_true, Nat.reduceAdd, List.drop, List.take, List.drop_zero, List.drop_succ_cons, List.take_succ_cons, Nat.reduceLeDiff, Nat.reduceLT, Int.reduceEq, Int.reduceLE, Int.reduceToNat, Nat.le_refl, List.headD_cons, Bool.true_and, Bool.and_true, beq_self_eq_true, isDiv, slTok, false_implies, implies_true, Nat.zero_add, imp_self, beq_true, ne_eq, not_true_eq_false, not_false_eq_true, and_self, or_true, ret_eq, Nat.add_zero, Nat.le_add_right, wk_bool, decide_true, decide_false, Bool.and_false, cond_true, cond_false, Int.ofNat_lt, hlt, xlen, hXi, hb0, hb1, hb2, hb3, hlB, hlk, hok2, xE, mf, g2, fr', KT.is, Int.toNat_natCast, Option.getD_some, Int.natCast_nonneg, imp_self, List.getElem?_cons_zero, List.getElem?_cons_succ, List.length_map, hi0, hi2, ew, hXp, hcc2, hcc3, hlC, e2, hd1, hd2, hd3, hd4, and_false]
    refine ⟨by omega, ?_⟩
  all_goals
    refine k_loop (fun j : Nat => ⟨[(1, true, .sl (.none 4) (l.map encB)), (5, true, .sl (.none 4) (X.map encX)), (9, true, .mp 2), (11, true, .ptr (n + 3) 0), (12, true, .int .i64 (bk l X[i]).K), (54, true, .sl (.none 4) (X.map encX)), (55, true, .int .i64 l.length), (56, true, .int .i64 i),
      (144, true, .sl (.none 4) (List.take i (X.map encX))), (145, true, .int .i64 ((List.take i (X.map encX)).length : Nat)), (146, true, .int .i64 j)], H2, n + 6⟩) (fun j => j ≤ i) (fun j => i - j) 0 (by rw [hH2, hc2]; rfl) (Nat.zero_le _) ?_
    intro j hj
    have htl : (List.take i (X.map encX)).length = i := by simp; omega
    by_cases hji : j < i
    case neg =>
      have ej : j = i := by omega
      simp only [kont_nil, kont_n, kont_e, kont_r, kont_bn, kont_be, kont_br, k_skip, k_exit, k_ret, k_seq, k_block, k_cond, k_reg, r_nil, r_v, r_vg, r_pick, r_alloc, r_st, r_callg, stE, callT, lpQ_n, lpQ_e, lpQ_r, postC, rcs, rc1, rvS, gok, gvb, eget, lk, lkv, oks, AS.put, AS.keep, evk, splice, Opk.opds, aload, isI, isInt, toI, isB, toB, sel, mk, icmp, iarith, nT, hget_hset, AVal.cells, Tok.esz, List.length_cons, List.length_nil, List.filterMap, List.map_cons, List.map_nil, List.append_nil, List.nil_append, Option.map_some, reduceCtorEq, and_true, true_and, forall_const, Nat.reduceEqDiff, ↓reduceIte, Bool.false_eq_true, Nat.reduceAdd, List.drop, List.take, Int.reduceEq, Nat.le_refl, Bool.true_and, isDiv, false_implies, implies_true, Nat.zero_add, Bool.cond_false_right, imp_self, beq_true, Bool.and_eq_true, decide_eq_true_eq, decide_eq_false_iff_not, ne_eq, not_false_eq_true, natE2, impA1, and_self, ret_eq, Nat.add_zero, Nat.add_assoc, wk_bool, decide_false, htl, Int.ofNat_lt, hji, e]
      refine .mk ⟨i + 1, H2, n + 6, mset (.int .i64 (bk l X[i]).K) (.int .i64 X[i].B) c es, c2⟩ rfl ⟨hlt, q2, ⟨mkfit_int es mf, fun k v hm => ?_⟩, frH2, by simp only []; omega⟩ (by simp only []; omega)
      rw [mfind_int es mf] at hm
      split at hm
      · rename_i ek
        cases hm
        exact ⟨i, hlx, by simp only []; omega, ek.symm, rfl⟩
      · obtain ⟨t, ht, hti, hk, hv⟩ := mv k v hm
        exact ⟨t, ht, by simp only []; omega, hk, hv⟩
    have hjx : j < X.length := by omega
    have hTj : (List.take i (X.map encX))[j]? = some (encX X[j]) := by rw [List.getElem?_take_of_lt hji, List.getElem?_map, List.getElem?_eq_getElem hjx]; rfl
    obtain ⟨d0, d1⟩ := xbl j hjx
    have hd2 : (0 ≤ X[j].B) = True := eq_true d0
    have hd3 : (X[j].B < (l.length : Int)) = True := eq_true (by omega)
    have hlD : (l.map encB)[X[j].B.toNat]? = some (encB (bk l X[j])) := by rw [List.getElem?_map, List.getElem?_eq_getElem d1]; simp [blkN, d1]
    have hpbj := xpb j hjx
    have spi := sp_w64 hpbi.1 hpbi.2
    have spj := sp_w64 hpbj.1 hpbj.2
    have e3 := w64_succ (k := j) (by omega)
    have n3a : (n + 8 = n + 3) = False := eq_false (by omega)
    simp only [kont_nil, kont_n, kont_e, kont_r, kont_bn, kont_be, kont_br, k_skip, k_exit, k_ret, k_seq, k_block, k_cond, k_reg, r_nil, r_v, r_vg, r_pick, r_alloc, r_st, r_callg, stE, callT, lpQ_n, lpQ_e, lpQ_r, postC, rcs, rc1, rvS, gok, gvb, eget, lk, lkv, oks, AS.put, AS.keep, evk, splice, Opk.opds, aload, isI, isInt, toI, isB, toB, sel, mk, icmp, iarith, nT, hget_hset, AVal.cells, Tok.esz, List.length_cons, List.length_nil, List.filterMap, List.map_cons, List.map_nil, List.append_nil, List.nil_append, Option.map_some, reduceCtorEq, and_true, true_and, forall_const, Nat.reduceEqDiff, ↓reduceIte, Bool.false_eq_true, Nat.reduceAdd, List.drop, List.take, List.drop_succ_cons, List.take_succ_cons, Nat.reduceLeDiff, Int.reduceEq, Nat.le_refl, List.headD_cons, Bool.true_and, isDiv, false_implies, implies_true, Nat.zero_add, Bool.cond_false_right, imp_self, beq_true, Bool.and_eq_true, decide_eq_true_eq, decide_eq_false_iff_not, ne_eq, not_false_eq_true, natE2, and_self, ret_eq, Nat.add_zero, Nat.add_assoc, Nat.le_add_right, wk_bool, decide_true, htl, Int.ofNat_lt, hji, hTj, hd2, hd3, hlD, q11, frH2', T20_20, s33, spi, spj, e3, Int.toNat_natCast, Option.getD_some, Int.natCast_nonneg, List.length_map]
    have hne : ¬ (((bk l X[i]).K = 2 ∧ (bk l X[j]).K = 1) ∧ spS X[i].P = spS X[j].P) := fun ⟨⟨a, b⟩, q⟩ => xsep j i hjx hlx hji a b q.symm
    refine ⟨hne, fun _ => lpN.drop (j + 1) rfl rfl rfl rfl frH2 ?_ ?_ hji (by omega)⟩
    · exact .new frH2 (by omega) (.new frH2 (by omega) (.refl _))
    · exact ⟨⟨trivial, encB_under _ l⟩, ⟨trivial, encX_under _ X⟩, (by show 2 < n + 6; omega), (by show n + 3 < n + 6; omega), trivial, ⟨trivial, encX_under _ X⟩, trivial, trivial, ⟨trivial, by rw [← List.map_take]; exact encX_under _ _⟩, trivial, trivial, trivial⟩

end Go.AM
end
