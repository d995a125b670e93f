/-
  Booklets: from the rows to the abstract machine.
  Conditions: none beyond those of its parts.
-/
import Derived.Test.YtekbplnmbbmhdaaDoorB8
import Derived.Test.YtekbplnmbbmhdaaDoorB4
import Derived.Test.YtekbplnmbbmhdaaDoorRows

/- Booklets: from the rows to the abstract machine. Conditions: none. -/
section
set_option maxRecDepth 10000
set_option linter.unusedSimpArgs false
set_option linter.unusedVariables false
set_option maxHeartbeats 1000000
set_option linter.unusedVariables false
set_option linter.unusedSimpArgs false
namespace Go.AM
open Go.Proofs Go.Lib Go.ChangeShapes Go.WideShapes Go.ChangeAt Go.WideMaps Go.WideElems Go.RowKit

theorem own : ownKnob Tryd.prog.godebug = none := by kernel_rfl
abbrev laid3 : List (String × DataW Unit) := Go.Proofs.YtekbplnmbbmhdaaDoor.Rows.pressCheckSpecRow.laid
theorem gPow : Tryd.prog.globalNamed ((laid3[2]?.map (·.1)).getD "") = some 0 := by kernel_rfl
theorem door_met (os : Os) (args : Array Value) : laidMetH Tryd.prog laid3 ((World.doorLaid Tryd.prog 400 os).forCall (fun _ _ => 0) ⟨#[], args, []⟩).memory :=
  laidMetH_of_parts3 (fuel := 8) (laidMet_of_run' 8 (by kernel_rfl) (by kernel_rfl)) (by kernel_rfl) (by kernel_rfl)
def pow10 : List Int := [1, 10, 100, 1000, 10000, 100000, 1000000, 10000000, 100000000, 1000000000, 10000000000, 100000000000, 1000000000000, 10000000000000, 100000000000000, 1000000000000000, 10000000000000000, 100000000000000000, 1000000000000000000, 10000000000000000000]
theorem glob_laid {W : World} (h : laidMetH Tryd.prog laid3 W) : GlobOK (gW W) := by
  rw [MakeChecks.laidMetH_plain _ _ _ (by kernel_rfl)] at h
  obtain ⟨ps, ⟨g0, t0, cs0, f0, p0, q0, hg0, ht0, hv0, hd0, ⟨g1, t1, cs1, f1, p1, q1, hg1, ht1, hv1, hd1, ⟨g2, t2, cs2, f2, p2, q2, hg2, ht2, hv2, hd2, _, _⟩, _⟩, _⟩, _, _⟩ := h
  obtain rfl := Option.some.inj (gPow.symm.trans hg2)
  obtain ⟨n, e, ha, he, hc⟩ : ∃ n e, Tryd.prog.underlying t2 = some (.array n e) ∧ Tryd.prog.underlying e = some (.int .u64) ∧ Tryd.prog.cellsOf e = 1 := by
    have : (Tryd.prog.globals[0]?).map (·.type) = some 88 := by kernel_rfl
    obtain rfl := Option.some.inj (this.symm.trans ht2)
    exact ⟨_, _, Tryd.underlying88, Tryd.underlying77, by kernel_rfl⟩
  intro i cs hi
  match i, hi with
  | 0, hi =>
    obtain rfl := Option.some.inj hi
    exact pstab_array (ns := pow10) ha he hc (fun off => World.var?_cell hg2 hv2 off) hd2

abbrev i64 : Sh := .int .i64
abbrev shP : Sh := .st [i64, i64, i64, i64, i64]
abbrev sh4 : Sh := .st [i64, i64, i64, i64]
theorem rd4 {av : List AVal} (h : sh4.rd av) : ∃ a b c d : Int, av = [.int .i64 a, .int .i64 b, .int .i64 c, .int .i64 d] ∧ (Lit.int .i64 b).wf = true := by
  simp only [Sh.rd, Sh.rdL] at h
  obtain ⟨_, _, rfl, ⟨a, rfl, _⟩, _, _, rfl, ⟨b, rfl, hb⟩, _, _, rfl, ⟨c, rfl, _⟩, _, _, rfl, ⟨d, rfl, _⟩, rfl⟩ := h
  exact ⟨a, b, c, d, rfl, hb⟩
theorem rdP {av : List AVal} (h : shP.rd av) : ∃ p : Pap, shP.wrap av = encP p := by
  simp only [Sh.rd, Sh.rdL] at h
  obtain ⟨_, _, rfl, ⟨a, rfl, _⟩, _, _, rfl, ⟨b, rfl, hb⟩, _, _, rfl, ⟨c, rfl, _⟩, _, _, rfl, ⟨d, rfl, _⟩, _, _, rfl, ⟨e, rfl, _⟩, rfl⟩ := h
  exact ⟨⟨a, b, c, d, e⟩, rfl⟩
theorem rdB {av : List AVal} (h : (Sh.sl sh4).rd av) : ∃ l : List Blk, (Sh.sl sh4).wrap av = .sl (.none 4) (l.map encB) := by
  simp only [Sh.rd] at h
  obtain ⟨l, rfl, hln, h⟩ := h
  clear hln
  suffices ∃ m : List Blk, l.map sh4.wrap = m.map encB by
    obtain ⟨m, hm⟩ := this
    exact ⟨m, by rw [← hm]; rfl⟩
  induction l with
  | nil => exact ⟨[], rfl⟩
  | cons x l ih =>
    obtain ⟨m, hm⟩ := ih fun y hy => h y (by simp [hy])
    obtain ⟨a, b, c, d, rfl, _⟩ := rd4 (av := x) (by simpa only [Sh.rd] using h x (by simp))
    exact ⟨⟨a, b, c, d⟩ :: m, by rw [List.map_cons, List.map_cons, hm]; rfl⟩
theorem rdX {av : List AVal} (h : (Sh.sl sh4).rd av) : ∃ l : List Plc, (Sh.sl sh4).wrap av = .sl (.none 4) (l.map encX) ∧ okP l := by
  simp only [Sh.rd] at h
  obtain ⟨l, rfl, hln, h⟩ := h
  clear hln
  suffices ∃ m : List Plc, l.map sh4.wrap = m.map encX ∧ okP m by
    obtain ⟨m, hm, hk⟩ := this
    exact ⟨m, by rw [← hm]; rfl, hk⟩
  induction l with
  | nil => exact ⟨[], rfl, fun _ h => by cases h⟩
  | cons x l ih =>
    obtain ⟨m, hm, hk⟩ := ih fun y hy => h y (by simp [hy])
    obtain ⟨a, b, c, d, rfl, hb⟩ := rd4 (av := x) (by simpa only [Sh.rd] using h x (by simp))
    refine ⟨⟨a, b, c, d⟩ :: m, by rw [List.map_cons, List.map_cons, hm]; rfl, fun y hy => ?_⟩
    rcases List.mem_cons.1 hy with rfl | hy
    · have hw : IntKind.i64.min ≤ b ∧ b ≤ IntKind.i64.max := by simpa [Lit.wf] using hb
      exact hw.2
    · exact hk y hy
theorem args2 {av : List AVal} (h : Sh.rdA [shP, .sl sh4] av) : ∃ (p : Pap) (l : List Blk), av = [encP p, .sl (.none 4) (l.map encB)] := by
  simp only [Sh.rdA] at h
  obtain ⟨x, _, rfl, hx, y, _, rfl, hy, rfl⟩ := h
  obtain ⟨p, hp⟩ := rdP hx
  obtain ⟨l, hl⟩ := rdB hy
  exact ⟨p, l, by rw [hp, hl]⟩
theorem args3 {av : List AVal} (h : Sh.rdA [shP, .sl sh4, .sl sh4] av) : ∃ (p : Pap) (l : List Blk) (xs : List Plc), av = [encP p, .sl (.none 4) (l.map encB), .sl (.none 4) (xs.map encX)] ∧ okP xs := by
  simp only [Sh.rdA] at h
  obtain ⟨x, _, rfl, hx, y, _, rfl, hy, z, _, rfl, hz, rfl⟩ := h
  obtain ⟨p, hp⟩ := rdP hx
  obtain ⟨l, hl⟩ := rdB hy
  obtain ⟨m, hm, hk⟩ := rdX hz
  exact ⟨p, l, m, by rw [hp, hl, hm], hk⟩
theorem rdU8 {av : List AVal} (h : (Sh.int .u8).rd av) : ∃ i : Nat, i < 256 ∧ (Sh.int .u8).wrap av = .int .u8 i := by
  obtain ⟨n, rfl, hw⟩ := h
  have hw : IntKind.u8.min ≤ n ∧ n ≤ IntKind.u8.max := by simpa [Lit.wf] using hw
  have h0 : (0 : Int) ≤ n := hw.1
  have h1 : n ≤ 255 := hw.2
  exact ⟨n.toNat, by omega, by simp only [Sh.wrap, List.headD_cons]; congr 1; omega⟩
theorem args5 {av : List AVal} (h : Sh.rdA [shP, .sl sh4, .sl sh4, .int .u8, .int .u8] av) : ∃ (p : Pap) (l : List Blk) (xs : List Plc) (i j : Nat), av = [encP p, .sl (.none 4) (l.map encB), .sl (.none 4) (xs.map encX), .int .u8 i, .int .u8 j] ∧ okP xs ∧ i < 256 ∧ j < 256 := by
  simp only [Sh.rdA] at h
  obtain ⟨x, _, rfl, hx, y, _, rfl, hy, z, _, rfl, hz, u, _, rfl, hu, v, _, rfl, hv, rfl⟩ := h
  obtain ⟨p, hp⟩ := rdP hx
  obtain ⟨l, hl⟩ := rdB hy
  obtain ⟨m, hm, hk⟩ := rdX hz
  obtain ⟨i, hi, ei⟩ := rdU8 hu
  obtain ⟨j, hj, ej⟩ := rdU8 hv
  exact ⟨p, l, m, i, j, by rw [hp, hl, hm, ei, ej], hk, hi, hj⟩

end Go.AM
end
