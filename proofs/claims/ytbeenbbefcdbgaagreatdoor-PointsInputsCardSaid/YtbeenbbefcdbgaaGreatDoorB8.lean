/-
  Scoring programs, plainly: the numbers that programs give; programs joined; inputs that are not named · Scoring programs, plainly: parsing what is printed, white space, places · Scoring programs: the small functions of printing: signs, names, lists joined · Scoring programs: the closures of printing · Scoring programs: the expressions that a program leaves, as the code keeps them · Scoring programs: the expressions that a program leaves: the code, a round, numbers and inputs · Scoring programs: the expressions that a program leaves: the code, choices · Scoring programs: the expressions that a program leaves: the code, operations · Scoring programs: the expressions that a program leaves: the code, words that are not right · Scoring programs: the expressions that a program leaves: the code as a whole.
  Conditions: none beyond those of its parts.
-/
import Derived.Test.YtbeenbbefcdbgaaGreatDoorB7
import Derived.Test.YtbeenbbefcdbgaaGreatDoorB5

section
set_option maxRecDepth 20000
set_option linter.all false
set_option maxHeartbeats 1000000
namespace Go.AM
open Go.Proofs Go.Lib
def holdN (n : Int) : Int := max (-1099511627776) (min 1099511627776 n)
def absN (a : Int) : Int := max a (-a)
def timesN (a b : Int) : Int := if b ≠ 0 ∧ (1099511627776 : Int).tdiv (absN b) < absN a then (if decide (a < 0) ≠ decide (b < 0) then -1099511627776 else 1099511627776) else a * b
def overN (a b : Int) : Int := if b = 0 then 0 else if a.tmod b ≠ 0 ∧ decide (a < 0) ≠ decide (b < 0) then a.tdiv b - 1 else a.tdiv b
def lessN (a b : Int) : Int := if a < b then 1 else 0
def opN (o a b : Int) : Int := if o = 3 then holdN (a + b) else if o = 4 then holdN (a - b) else if o = 5 then timesN a b else if o = 6 then overN a b else if o = 7 then min a b else if o = 8 then max a b else lessN a b
def stepN (ins : List Int) (st : List Int) (w : Wd) : List Int :=
  if w.O = 1 then w.N :: st else if w.O = 2 then (ins[w.N.toNat]?.getD 0) :: st
  else if w.O = 10 then (match st with
    | d :: c :: b :: r => (if b ≠ 0 then c else d) :: r
    | _ => [])
  else (match st with
    | b :: a :: r => opN w.O a b :: r
    | _ => [])
def runN (ins : List Int) (st : List Int) (p : List Wd) : List Int := p.foldl (stepN ins) st
def clampN (n : Int) : Int := max 0 (min 1048576 n)
def insOK (ins : List Int) : Bool := decide (ins.length = 5) && ins.all fun n => decide (0 ≤ n) && decide (n ≤ 1048576)
def runV (p : List Wd) (ins : List Int) : Int × Int := match wholeP p with
  | none => (0, 520)
  | some _ => if insOK ins = true then (clampN ((runN ins [] p)[0]?.getD 0), 0) else (0, 1)
theorem runN_app (ins : List Int) (st : List Int) (p q : List Wd) : runN ins st (p ++ q) = runN ins (runN ins st p) q := List.foldl_append
def bdd (n : Int) : Prop := -1099511627776 ≤ n ∧ n ≤ 1099511627776
theorem hold_b (n : Int) : bdd (holdN n) := by unfold bdd holdN; omega
theorem times_b {a b : Int} (ha : bdd a) (hb : bdd b) : bdd (timesN a b) := by
  unfold timesN
  split
  · split <;> (unfold bdd; omega)
  · rename_i h
    unfold bdd at ha hb ⊢
    by_cases hb0 : b = 0
    · subst hb0; simp
    · have h2 : absN a ≤ (1099511627776 : Int).tdiv (absN b) := by
        rcases Int.lt_or_le ((1099511627776 : Int).tdiv (absN b)) (absN a) with q | q
        · exact absurd ⟨hb0, q⟩ h
        · exact q
      have hab : 0 < absN b := by unfold absN; omega
      rw [Int.tdiv_eq_ediv_of_nonneg (by decide)] at h2
      have h3 := (Int.le_ediv_iff_mul_le hab).1 h2
      have h4 : a * b ≤ absN a * absN b ∧ -(a * b) ≤ absN a * absN b := by
        unfold absN
        rcases Int.le_total a 0 with q1 | q1 <;> rcases Int.le_total b 0 with q2 | q2
        · rw [show max a (-a) = -a by omega, show max b (-b) = -b by omega]
          have : 0 ≤ (-a) * (-b) := Int.mul_nonneg (by omega) (by omega)
          rw [Int.neg_mul_neg] at this ⊢
          omega
        · rw [show max a (-a) = -a by omega, show max b (-b) = b by omega]
          have : 0 ≤ (-a) * b := Int.mul_nonneg (by omega) (by omega)
          rw [Int.neg_mul] at this ⊢
          omega
        · rw [show max a (-a) = a by omega, show max b (-b) = -b by omega]
          have : 0 ≤ a * (-b) := Int.mul_nonneg (by omega) (by omega)
          rw [Int.mul_neg] at this ⊢
          omega
        · rw [show max a (-a) = a by omega, show max b (-b) = b by omega]
          have : 0 ≤ a * b := Int.mul_nonneg (by omega) (by omega)
          omega
      omega
theorem tdiv_b {a b : Int} (hb : b ≠ 0) : -(absN a) ≤ a.tdiv b ∧ a.tdiv b ≤ absN a := by
  have h := Int.natAbs_tdiv a b
  have h2 : a.natAbs.div b.natAbs ≤ a.natAbs := Nat.div_le_self _ _
  rw [← h] at h2
  unfold absN; omega
theorem over_lo {a b : Int} (hb : b ≠ 0) (h : a.tmod b ≠ 0) (hs : decide (a < 0) ≠ decide (b < 0)) : -(absN a) + 1 ≤ a.tdiv b := by
  by_cases hb1 : b.natAbs = 1
  · exfalso
    have := Int.natAbs_tmod a b
    rw [hb1, Nat.mod_one] at this
    omega
  · have h1 := Int.natAbs_tdiv a b
    have ha : 0 < a.natAbs := by
      rcases Nat.eq_zero_or_pos a.natAbs with q | q
      · have : a = 0 := by omega
        subst this; simp at h
      · exact q
    have h2 : a.natAbs.div b.natAbs < a.natAbs := Nat.div_lt_self ha (by omega)
    rw [← h1] at h2
    unfold absN; omega
theorem over_b {a b : Int} (ha : bdd a) : bdd (overN a b) := by
  unfold overN
  split
  · unfold bdd; omega
  · rename_i hb
    have h1 := tdiv_b (a := a) hb
    have h3 : absN a ≤ 1099511627776 := by unfold absN bdd at *; omega
    split
    · rename_i h
      have := over_lo hb h.1 h.2
      unfold bdd; omega
    · unfold bdd; omega
theorem op_b {o a b : Int} (ha : bdd a) (hb : bdd b) : bdd (opN o a b) := by
  unfold opN
  split
  · exact hold_b _
  split
  · exact hold_b _
  split
  · exact times_b ha hb
  split
  · exact over_b ha
  split
  · unfold bdd at *; omega
  split
  · unfold bdd at *; omega
  · unfold lessN bdd; split <;> omega
theorem step_n {ins : List Int} (hi : insOK ins = true) {st st' : List Prt} {w : Wd} (hs : stepP st w = some st') {vs : List Int} (hl : vs.length = st.length) (hb : ∀ v ∈ vs, bdd v) :
    (stepN ins vs w).length = st'.length ∧ ∀ v ∈ stepN ins vs w, bdd v := by
  simp only [insOK, Bool.and_eq_true, decide_eq_true_eq, List.all_eq_true] at hi
  unfold stepP at hs
  unfold stepN
  split at hs
  · rename_i hO
    rw [if_pos hO]
    split at hs
    · rename_i hN
      cases hs
      refine ⟨by simp [hl], fun v hv => ?_⟩
      rcases List.mem_cons.1 hv with rfl | hv
      · unfold bdd; omega
      · exact hb v hv
    · cases hs
  rename_i hO1
  rw [if_neg hO1]
  split at hs
  · rename_i hO
    rw [if_pos hO]
    split at hs
    · rename_i hN
      cases hs
      refine ⟨by simp [hl], fun v hv => ?_⟩
      rcases List.mem_cons.1 hv with rfl | hv
      · have hlt : w.N.toNat < ins.length := by omega
        rw [List.getElem?_eq_getElem hlt, Option.getD_some]
        have := hi.2 _ (List.getElem_mem hlt)
        unfold bdd; omega
      · exact hb v hv
    · cases hs
  rename_i hO2
  rw [if_neg hO2]
  split at hs
  · cases hs
  split at hs
  · rename_i hO
    rw [if_pos hO]
    split at hs
    · rename_i d c b r
      split at hs
      · cases hs
        match vs, hl with
        | d' :: c' :: b' :: r', hl =>
          simp only [List.length_cons] at hl
          refine ⟨by simp; omega, fun v hv => ?_⟩
          rcases List.mem_cons.1 hv with rfl | hv
          · split
            · exact hb c' (by simp)
            · exact hb d' (by simp)
          · exact hb v (by simp [hv])
      · cases hs
    · cases hs
  rename_i hO3
  rw [if_neg hO3]
  split at hs
  · split at hs
    · rename_i b a r
      split at hs
      · cases hs
        match vs, hl with
        | b' :: a' :: r', hl =>
          simp only [List.length_cons] at hl
          refine ⟨by simp; omega, fun v hv => ?_⟩
          rcases List.mem_cons.1 hv with rfl | hv
          · exact op_b (hb a' (by simp)) (hb b' (by simp))
          · exact hb v (by simp [hv])
      · cases hs
    · cases hs
  · cases hs
theorem run_n {ins : List Int} (hi : insOK ins = true) : ∀ (q : List Wd) (st st' : List Prt) (vs : List Int), runP st q = some st' → vs.length = st.length → (∀ v ∈ vs, bdd v) →
    (runN ins vs q).length = st'.length ∧ ∀ v ∈ runN ins vs q, bdd v
  | [], st, st', vs, hr, hl, hb => by cases hr; exact ⟨hl, hb⟩
  | w :: r, st, st', vs, hr, hl, hb => by
    rw [runP] at hr
    split at hr
    · rename_i s1 hs
      obtain ⟨h1, h2⟩ := step_n hi hs hl hb
      exact run_n hi r _ _ _ hr h1 h2
    · cases hr
theorem whole_run {p : List Wd} {t : List Tkn} (h : wholeP p = some t) : p.length ≤ 256 ∧ runP [] p = some [⟨false, t⟩] := by
  unfold wholeP at h
  split at h
  · cases h
  · refine ⟨by omega, ?_⟩
    split at h
    · rename_i x hr
      split at h
      · cases h
      · rename_i hc
        cases h
        rw [hr]
        cases x; simp at hc; simp [hc]
    · cases h
theorem whole_num {p : List Wd} {t : List Tkn} {ins : List Int} (h : wholeP p = some t) (hi : insOK ins = true) : ∃ v, runN ins [] p = [v] ∧ bdd v := by
  obtain ⟨h1, h2⟩ := run_n hi p [] _ [] (whole_run h).2 rfl (fun v hv => by cases hv)
  obtain ⟨v, hv⟩ : ∃ v, runN ins [] p = [v] := List.length_eq_one_iff.1 h1
  exact ⟨v, hv, h2 v (by rw [hv]; simp)⟩
theorem step_frame {st st' : List Prt} {w : Wd} (hs : stepP st w = some st') (r : List Prt) : stepP (st ++ r) w = some (st' ++ r) := by
  unfold stepP at hs ⊢
  split at hs
  · split at hs
    · rename_i h1 h2
      cases hs; rw [if_pos h1, if_pos h2]; rfl
    · cases hs
  rename_i h1
  rw [if_neg h1]
  split at hs
  · split at hs
    · rename_i h1 h2
      cases hs; rw [if_pos h1, if_pos h2]; rfl
    · cases hs
  rename_i h1
  rw [if_neg h1]
  split at hs
  · cases hs
  rename_i h1
  rw [if_neg h1]
  split at hs
  · rename_i h1
    rw [if_pos h1]
    split at hs
    · split at hs
      · rename_i h2
        cases hs
        simp only [List.cons_append]
        rw [if_pos h2]
      · cases hs
    · cases hs
  rename_i h1
  rw [if_neg h1]
  split at hs
  · rename_i h1
    rw [if_pos h1]
    split at hs
    · split at hs
      · rename_i h2
        cases hs
        simp only [List.cons_append]
        rw [if_pos h2]
      · cases hs
    · cases hs
  · cases hs
theorem run_frame : ∀ (q : List Wd) (st st' : List Prt) (r : List Prt), runP st q = some st' → runP (st ++ r) q = some (st' ++ r)
  | [], st, st', r, hr => by cases hr; rfl
  | w :: q, st, st', r, hr => by
    rw [runP] at hr
    split at hr
    · rename_i s1 hs
      rw [runP, step_frame hs r]
      exact run_frame q _ _ r hr
    · cases hr
theorem stepN_frame {ins : List Int} {st st' : List Prt} {w : Wd} (hs : stepP st w = some st') {vs : List Int} (hl : vs.length = st.length) (r : List Int) : stepN ins (vs ++ r) w = stepN ins vs w ++ r := by
  unfold stepP at hs
  unfold stepN
  split at hs
  · rename_i h1
    rw [if_pos h1, if_pos h1]; rfl
  rename_i h1
  rw [if_neg h1, if_neg h1]
  split at hs
  · rename_i h1
    rw [if_pos h1, if_pos h1]; rfl
  rename_i h1
  rw [if_neg h1, if_neg h1]
  split at hs
  · cases hs
  split at hs
  · rename_i h1
    rw [if_pos h1, if_pos h1]
    split at hs
    · match vs, hl with
      | d' :: c' :: b' :: r', hl => rfl
    · cases hs
  rename_i h1
  rw [if_neg h1, if_neg h1]
  split at hs
  · split at hs
    · match vs, hl with
      | b' :: a' :: r', hl => rfl
    · cases hs
  · cases hs
theorem runN_frame {ins : List Int} (hi : insOK ins = true) : ∀ (q : List Wd) (st st' : List Prt) (vs r : List Int), runP st q = some st' → vs.length = st.length → (∀ v ∈ vs, bdd v) → runN ins (vs ++ r) q = runN ins vs q ++ r
  | [], st, st', vs, r, hr, hl, hb => rfl
  | w :: q, st, st', vs, r, hr, hl, hb => by
    rw [runP] at hr
    split at hr
    · rename_i s1 hs
      obtain ⟨h1, h2⟩ := step_n hi hs hl hb
      show runN ins (stepN ins (vs ++ r) w) q = runN ins (stepN ins vs w) q ++ r
      rw [stepN_frame hs hl]
      exact runN_frame hi q _ _ _ r hr h1 h2
    · cases hr
theorem on_top {p : List Wd} {t : List Tkn} {ins : List Int} {v : Int} (h : wholeP p = some t) (hi : insOK ins = true) (hv : runN ins [] p = [v]) (r : List Prt) (vs : List Int) :
    runP r p = some (⟨false, t⟩ :: r) ∧ runN ins vs p = v :: vs := by
  have h1 := (whole_run h).2
  refine ⟨by simpa using run_frame p [] _ r h1, ?_⟩
  have := runN_frame hi p [] _ [] vs h1 rfl (fun v hv => by cases hv)
  rw [hv] at this
  simpa using this
def applyN (o a b : Int) : Int := if o = 3 then min 1048576 (a + b) else if o = 4 then max 0 (a - b) else if o = 5 then min 1048576 (a * b) else if o = 6 then a.tdiv b else if o = 7 then min a b else max a b
theorem clamp_eq {v a : Int} (h : clampN v = a) (h1 : 1 ≤ a) (h2 : a < 1048576) : v = a := by unfold clampN at h; omega
theorem run_ok {p : List Wd} {ins : List Int} {a : Int} (h : runV p ins = (a, 0)) : ∃ t v, wholeP p = some t ∧ insOK ins = true ∧ runN ins [] p = [v] ∧ clampN v = a := by
  unfold runV at h
  split at h
  · cases h
  · rename_i t ht
    split at h
    · rename_i hi
      obtain ⟨v, hv, -⟩ := whole_num ht hi
      rw [hv] at h
      cases h
      exact ⟨t, v, ht, hi, hv, rfl⟩
    · cases h
theorem runV_of {p : List Wd} {ins : List Int} {t : List Tkn} {v : Int} (hl : p.length ≤ 256) (hr : runP [] p = some [⟨false, t⟩]) (hi : insOK ins = true) (hv : runN ins [] p = [v]) : runV p ins = (clampN v, 0) := by
  have : wholeP p = some t := by unfold wholeP; rw [if_neg (by omega), hr]; rfl
  unfold runV
  rw [this]
  simp only []
  rw [if_pos hi, hv]; rfl
theorem tdiv_pos {a b : Int} (h1 : 1 ≤ a) (h2 : 1 ≤ b) (h3 : a < 1048576) : 0 ≤ a.tdiv b ∧ a.tdiv b < 1048576 := by
  have h := Int.natAbs_tdiv a b
  have h4 : a.natAbs.div b.natAbs ≤ a.natAbs := Nat.div_le_self _ _
  have h5 : 0 ≤ a.tdiv b := Int.tdiv_nonneg (by omega) (by omega)
  rw [← h] at h4
  omega
theorem op_apply {o a b : Int} (ho : 3 ≤ o ∧ o ≤ 8) (ha : 1 ≤ a ∧ a < 1048576) (hb : 1 ≤ b ∧ b < 1048576) : clampN (opN o a b) = applyN o a b := by
  have hm1 : a * b ≤ 1048576 * 1048576 := Int.mul_le_mul (by omega) (by omega) (by omega) (by omega)
  have hm2 : 1 * 1 ≤ a * b := Int.mul_le_mul (by omega) (by omega) (by omega) (by omega)
  have : o = 3 ∨ o = 4 ∨ o = 5 ∨ o = 6 ∨ o = 7 ∨ o = 8 := by omega
  rcases this with rfl | rfl | rfl | rfl | rfl | rfl
  · simp [opN, applyN, clampN, holdN]; omega
  · simp [opN, applyN, clampN, holdN]; omega
  · have hab : absN a = a := by unfold absN; omega
    have hbb : absN b = b := by unfold absN; omega
    have : timesN a b = a * b := by
      unfold timesN
      rw [if_neg]
      rintro ⟨-, q⟩
      rw [hab, hbb, Int.tdiv_eq_ediv_of_nonneg (by decide)] at q
      have := (Int.ediv_lt_iff_lt_mul (by omega)).1 q
      omega
    simp [opN, applyN, clampN, this]; omega
  · have := tdiv_pos ha.1 hb.1 ha.2
    have : overN a b = a.tdiv b := by
      unfold overN
      rw [if_neg (by omega), if_neg]
      rintro ⟨-, q⟩
      apply q; simp; omega
    simp [opN, applyN, clampN, this]; omega
  · simp [opN, applyN, clampN]; omega
  · simp [opN, applyN, clampN]; omega
theorem join_op {p q : List Wd} {ins : List Int} {a b : Int} (hp : runV p ins = (a, 0)) (hq : runV q ins = (b, 0)) (ha : 1 ≤ a ∧ a < 1048576) (hb : 1 ≤ b ∧ b < 1048576) (hl : p.length + q.length ≤ 100) {o : Int} (ho : 3 ≤ o ∧ o ≤ 8) :
    runV (p ++ q ++ [⟨o, 0⟩]) ins = (applyN o a b, 0) := by
  obtain ⟨t1, v1, w1, hi, r1, c1⟩ := run_ok hp
  obtain ⟨t2, v2, w2, -, r2, c2⟩ := run_ok hq
  have e1 := clamp_eq c1 ha.1 ha.2
  have e2 := clamp_eq c2 hb.1 hb.2
  subst e1 e2
  rw [← op_apply ho ha hb]
  have p1 := on_top w1 hi r1 [] []
  have p2 := on_top w2 hi r2 [⟨false, t1⟩] [v1]
  refine runV_of (t := binT o t1 t2) (by simp; omega) ?_ hi ?_
  · rw [runP_app, runP_app, p1.1]
    simp only []
    rw [p2.1]
    simp only [runP, stepP]
    rw [if_neg (by omega), if_neg (by omega), if_neg (by simp), if_neg (by omega), if_pos (by omega)]
    simp
    omega
  · rw [runN_app, runN_app, p1.2, p2.2]
    simp only [runN, List.foldl_cons, List.foldl_nil, stepN]
    rw [if_neg (by omega), if_neg (by omega), if_neg (by omega)]
theorem join_if {p q : List Wd} {ins : List Int} {a b : Int} (hp : runV p ins = (a, 0)) (hq : runV q ins = (b, 0)) (ha : 1 ≤ a ∧ a < 1048576) (hb : 1 ≤ b ∧ b < 1048576) (hl : p.length + q.length ≤ 100) :
    runV (p ++ q ++ [⟨9, 0⟩] ++ (p ++ q ++ [⟨10, 0⟩])) ins = (min a b, 0) := by
  obtain ⟨t1, v1, w1, hi, r1, c1⟩ := run_ok hp
  obtain ⟨t2, v2, w2, -, r2, c2⟩ := run_ok hq
  have e1 := clamp_eq c1 ha.1 ha.2
  have e2 := clamp_eq c2 hb.1 hb.2
  subst e1 e2
  have p1 := on_top w1 hi r1 [] []
  have p2 := on_top w2 hi r2 [⟨false, t1⟩] [v1]
  have p3 := on_top w1 hi r1 [⟨true, binT 9 t1 t2⟩] [lessN v1 v2]
  have p4 := on_top w2 hi r2 [⟨false, t1⟩, ⟨true, binT 9 t1 t2⟩] [v1, lessN v1 v2]
  have hc : clampN (if lessN v1 v2 ≠ 0 then v1 else v2) = min v1 v2 := by
    unfold lessN clampN; split <;> simp <;> omega
  rw [← hc]
  have s1 : runP [⟨false, t2⟩, ⟨false, t1⟩] [⟨9, 0⟩] = some [⟨true, binT 9 t1 t2⟩] := by simp [runP, stepP]
  have s2 : runN ins [v2, v1] [⟨9, 0⟩] = [lessN v1 v2] := by simp [runN, stepN, opN]
  refine runV_of (t := ifT (binT 9 t1 t2) t1 t2) (by simp; omega) ?_ hi ?_
  · rw [runP_app, runP_app, runP_app, p1.1]
    simp only []
    rw [p2.1]
    simp only []
    rw [s1]
    simp only []
    rw [runP_app, runP_app, p3.1]
    simp only []
    rw [p4.1]
    simp [runP, stepP]
  · rw [runN_app ins [] (p ++ q ++ [(⟨9, 0⟩ : Wd)]), runN_app ins [] (p ++ q), runN_app ins [] p, p1.2, p2.2, s2, runN_app, runN_app, p3.2, p4.2]
    simp [runN, stepN]
theorem runN_set {ins : List Int} {k : Nat} {x : Int} : ∀ (p : List Wd) (st : List Int), (∀ w ∈ p, w.O = 2 → w.N.toNat ≠ k) → runN (ins.set k x) st p = runN ins st p
  | [], st, h => rfl
  | w :: r, st, h => by
    show runN (ins.set k x) (stepN (ins.set k x) st w) r = runN ins (stepN ins st w) r
    have e : stepN (ins.set k x) st w = stepN ins st w := by
      unfold stepN
      by_cases hO : w.O = 2
      · have := h w (by simp) hO
        rw [List.getElem?_set_ne (by omega)]
      · simp only [hO, if_false]
    rw [e]
    exact runN_set r _ fun w' hw => h w' (by simp [hw])
theorem set_ok {ins : List Int} {k : Nat} {x : Int} (h : insOK ins = true) (hx : 0 ≤ x ∧ x ≤ 1048576) : insOK (ins.set k x) = true := by
  simp only [insOK, Bool.and_eq_true, decide_eq_true_eq, List.all_eq_true, List.length_set] at h ⊢
  refine ⟨h.1, fun v hv => ?_⟩
  rcases List.mem_or_eq_of_mem_set hv with q | rfl
  · exact h.2 v q
  · exact hx
theorem step_nonneg {st st' : List Prt} {w : Wd} (h : stepP st w = some st') (hO : w.O = 2) : 0 ≤ w.N := by
  unfold stepP at h
  rw [if_neg (by omega), if_pos hO] at h
  split at h
  · rename_i q; exact q.1
  · cases h
theorem run_nonneg : ∀ (p : List Wd) (st st' : List Prt), runP st p = some st' → ∀ w ∈ p, w.O = 2 → 0 ≤ w.N
  | [], st, st', h => fun w hw => by cases hw
  | w :: r, st, st', h => fun w' hw hO => by
    rw [runP] at h
    split at h
    · rename_i s1 hs
      rcases List.mem_cons.1 hw with rfl | hw
      · exact step_nonneg hs hO
      · exact run_nonneg r _ _ h w' hw hO
    · cases h
theorem inputs_law {p : List Wd} {ins : List Int} {k : Nat} {x m : Int} (h : runV p ins = (m, 0)) (hx : 0 ≤ x ∧ x ≤ 1048576) (hn : ∀ w ∈ p, w.O = 2 → w.N ≠ k) : runV p (ins.set k x) = (m, 0) := by
  obtain ⟨t, v, w, hi, r, c⟩ := run_ok h
  have h1 := whole_run w
  have := runV_of (t := t) (v := v) h1.1 h1.2 (set_ok (k := k) hi hx) (by
    rw [runN_set p [] fun w hw hO => by have := run_nonneg p _ _ h1.2 w hw hO; have := hn w hw hO; omega]; exact r)
  rw [this, c]
end Go.AM
end
section
set_option maxRecDepth 20000
set_option linter.all false
set_option maxHeartbeats 1000000
namespace Go.AM
open Go.Proofs Go.Lib
structure PT where
  ws : List Wd
  a : Int
  e : Int
def PT.v (x : PT) : AVal := .tup [.sl (.none 2) (x.ws.map encW), .int .i64 x.a, .int .i64 x.e]
def parseL (src : List UInt8) (ts : List Tkn) : PT := match (gram ts (4 * ts.length + 4)).e 0 with
  | .ok ws i => if i < ts.length then ⟨[], placeN src ts i, 150⟩ else if 256 < ws.length then ⟨[], 0, 2⟩ else ⟨ws, 0, 0⟩
  | .bad i => ⟨[], placeN src ts i, 150⟩
  | .out => ⟨[], 0, 0⟩
def parseT (src : List UInt8) : PT := if 65536 < src.length then ⟨[], 0, 2⟩ else match lx src 0 with
  | .ok _ ts => parseL src ts
  | .err a => ⟨[], a, 100⟩
theorem parse_vL (src : List UInt8) (ts : List Tkn) : parseR src ts = (parseL src ts).v := by
  unfold parseR parseL
  cases (gram ts (4 * ts.length + 4)).e 0 with
  | ok ws i =>
    simp only []
    split
    · rfl
    · split <;> rfl
  | bad i => rfl
  | out => rfl
theorem parse_v (src : List UInt8) : parseV src = (parseT src).v := by
  unfold parseV parseT
  rw [lexR_lx]
  split
  · rfl
  · cases lx src 0 with
    | ok n ts => exact parse_vL src ts
    | err a => rfl
theorem isT_bare {l m : List Tkn} (h : l.map bare = m.map bare) : isT l = isT m := by
  funext a s
  have : (l.map bare)[a]? = (m.map bare)[a]? := by rw [h]
  rw [List.getElem?_map, List.getElem?_map] at this
  unfold isT
  cases h1 : l[a]? with
  | none => rw [h1] at this; cases h2 : m[a]? with
    | none => rfl
    | some y => rw [h2] at this; cases this
  | some x => rw [h1] at this; cases h2 : m[a]? with
    | none => rw [h2] at this; cases this
    | some y =>
      rw [h2] at this
      simp only [Option.map_some, Option.some.injEq, bare, Prod.mk.injEq] at this
      simp only [this.1, this.2.1]
theorem numW_bare {l m : List Tkn} (h : l.map bare = m.map bare) : numW l = numW m := by
  funext a
  have : (l.map bare)[a]? = (m.map bare)[a]? := by rw [h]
  rw [List.getElem?_map, List.getElem?_map] at this
  unfold numW
  cases h1 : l[a]? with
  | none => rw [h1] at this; cases h2 : m[a]? with
    | none => rfl
    | some y => rw [h2] at this; cases this
  | some x => rw [h1] at this; cases h2 : m[a]? with
    | none => rw [h2] at this; cases this
    | some y =>
      rw [h2] at this
      simp only [Option.map_some, Option.some.injEq, bare, Prod.mk.injEq] at this
      simp only [this.1, this.2.2]
theorem chainF_bare {l m : List Tkn} (h : isT l = isT m) {g : Nat → PR} {s1 s2 : List UInt8} {o1 o2 : Int} : ∀ (f : Nat) (ws : List Wd) (a : Nat), chainF l g s1 o1 s2 o2 f ws a = chainF m g s1 o1 s2 o2 f ws a
  | 0, ws, a => rfl
  | f + 1, ws, a => by
    rw [chainF, chainF, h]
    split
    · congr 1
      funext q i
      exact chainF_bare h f _ _
    · rfl
theorem gram_bare {l m : List Tkn} (h : l.map bare = m.map bare) : ∀ f, gram l f = gram m f
  | 0 => rfl
  | f + 1 => by
    have hi := isT_bare h
    have hn := numW_bare h
    have hl : l.length = m.length := by simpa using congrArg List.length h
    have hg := gram_bare h f
    rw [gram, gram, hg]
    congr 1
    · funext a; simp only [exprR, wantR, hi]
    · funext a; simp only [sumR, hl]; congr 1; funext ws i; exact chainF_bare hi _ _ _
    · funext a; simp only [prodR, hl]; congr 1; funext ws i; exact chainF_bare hi _ _ _
    · funext a; simp only [unitR, unitR2, unitR3, wantR, hi, hn]
theorem parse_back {p : List Wd} {t : List Tkn} (h : wholeP p = some t) : parseT (join (t.map wordS) [32]) = ⟨p, 0, 0⟩ ∧ (join (t.map wordS) [32]).length ≤ 65536 := by
  have hv := whole_valid h
  have hs := whole_size h
  have hlen : (join (t.map wordS) [32]).length ≤ 65536 := by
    have := join_len (B := 32) (t.map wordS) (fun w hw => by
      obtain ⟨x, hx, rfl⟩ := List.mem_map.1 hw
      exact word_len (List.all_eq_true.1 hv x hx))
    rw [List.length_map] at this
    have : t.length * (32 + 1) ≤ 1280 * (32 + 1) := Nat.mul_le_mul_right _ hs
    omega
  refine ⟨?_, hlen⟩
  obtain ⟨n, us, h1, h2⟩ := lx_words t hv
  unfold parseT
  rw [if_neg (by omega), h1]
  simp only []
  unfold parseL
  rw [whole_gram h h2]
  simp only []
  rw [if_neg (by omega), if_neg (by have := (whole_un h).1; omega)]
theorem lx_places : ∀ (n : Nat) (l : List UInt8) (a e : Nat) (ts : List Tkn), l.length = n → lx l a = .ok e ts → ∀ t ∈ ts, (a : Int) ≤ t.A ∧ t.A ≤ (a + l.length : Nat) := by
  intro n
  induction n using Nat.strongRecOn with
  | _ n ih =>
  intro l a e ts hn h
  by_cases hl : l = []
  · subst hl; rw [lx_nil] at h; cases h; intro t ht; cases ht
  have hlen := List.length_pos_iff.2 hl
  cases hs : st1 l with
  | none => rw [lx_none hl hs] at h; cases h
  | some p =>
    obtain ⟨k, o⟩ := p
    obtain ⟨k1, k2⟩ := st1_pos hs
    rw [lx_some hs] at h
    cases hr : lx (l.drop k) (a + k) with
    | err e' => rw [hr] at h; cases o <;> cases h
    | ok n' us =>
      rw [hr] at h
      have i1 := ih (l.drop k).length (by rw [List.length_drop]; omega) _ _ _ _ rfl hr
      rw [List.length_drop] at i1
      cases o with
      | none => cases h; intro t ht; have := i1 t ht; omega
      | some u =>
        cases h
        intro t ht
        rcases List.mem_cons.1 ht with rfl | ht
        · simp only []; omega
        · have := i1 t ht; omega
theorem place_in {src : List UInt8} {n : Nat} {ts : List Tkn} (h : lx src 0 = .ok n ts) (i : Nat) : 0 ≤ placeN src ts i ∧ placeN src ts i ≤ src.length := by
  unfold placeN
  split
  · rename_i t ht
    have := lx_places _ _ _ _ _ rfl h t (List.mem_of_getElem? ht)
    omega
  · omega
theorem parse_law (src : List UInt8) : ((parseT src).e = 0 ∧ (parseT src).a = 0 ∧ ∃ t, wholeP (parseT src).ws = some t) ∨ ((parseT src).e ≠ 0 ∧ (parseT src).ws = [] ∧ 0 ≤ (parseT src).a ∧ (parseT src).a ≤ src.length) := by
  unfold parseT
  split
  · exact .inr ⟨by simp, rfl, by simp, by simp⟩
  · split
    · rename_i n ts hx
      have hD : (gram ts (4 * ts.length + 4)).e 0 ≠ .out := (gram_deep ts ts.length 0 (by omega)).1 _ (Nat.le_refl _)
      unfold parseL
      split
      · rename_i ws i hg
        split
        · have := place_in hx i
          exact .inr ⟨by simp, rfl, this.1, this.2⟩
        · split
          · exact .inr ⟨by simp, rfl, by simp, by simp⟩
          · rename_i hw
            have hval := (lx_ok _ _ _ _ _ rfl hx).2.1
            refine .inl ⟨rfl, rfl, lv_whole ((gram_lv (fun t ht hk => ?_) _).1 _ _ _ hg) (by simp only []; omega)⟩
            exact (valid_num (List.all_eq_true.1 hval t ht) hk).1
      · have := place_in hx (by assumption)
        exact .inr ⟨by simp, rfl, this.1, this.2⟩
      · rename_i hg
        exact absurd hg hD
    · rename_i e hx
      have := lx_err [] _ _ _ _ rfl hx
      exact .inr ⟨by simp, rfl, by simp, by simp; omega⟩
theorem parse_sp (src : List UInt8) (hl : src.length ≤ 3000) : (parseT (10 :: 9 :: 32 :: (src ++ [10]))).ws = (parseT src).ws ∧ (parseT (10 :: 9 :: 32 :: (src ++ [10]))).e = (parseT src).e := by
  have e1 : lx (10 :: 9 :: 32 :: (src ++ [10])) 0 = match lx src 0 with | .err e => .err (e + 3) | .ok n ts => .ok (3 + src.length + 1) (ts.map (shT 3)) := by
    rw [lx_sp (by decide), lx_sp (by decide), lx_sp (by decide), lx_join [] _ _ _ rfl]
    have := lx_shift 3 _ src 0 rfl
    rw [show 0 + 1 + 1 + 1 = 0 + 3 from rfl, this]
    cases lx src 0 with
    | ok n ts => simp only [shR]; rw [lx_nil]; simp [appS]
    | err e => rfl
  unfold parseT
  rw [if_neg (by simp; omega), if_neg (by omega), e1]
  cases lx src 0 with
  | err e => exact ⟨rfl, rfl⟩
  | ok n ts =>
    simp only []
    have hb : (ts.map (shT 3)).map bare = ts.map bare := by rw [List.map_map]; rfl
    have hg := gram_bare hb
    unfold parseL
    rw [List.length_map, hg]
    split
    · split
      · exact ⟨rfl, rfl⟩
      · split <;> exact ⟨rfl, rfl⟩
    · exact ⟨rfl, rfl⟩
    · exact ⟨rfl, rfl⟩
end Go.AM
end
section
set_option maxRecDepth 20000
set_option linter.all false
set_option maxHeartbeats 1000000
namespace Go.AM
open Go.Proofs Go.Lib
theorem p67 (s : List UInt8) : Pur Tryz.prog 67 [.str s] (.sl (.none 4) [encK (tS s)]) := by
  refine .mk ⟨trivial, trivial⟩ (by simp [AVal.under, unders, Tok.under]) (a67 (ev_awp TabOK.tnil (ev_evK ?_)))
  simp only [kont_nil, kont_n, k_ret, k_seq, k_reg, r_nil, r_v, penv, postC, rcs, rc1, rvS, eget, lk, lkv, oks, AS.put, AS.keep, evk, evB_eq, allB, fillB, evS_eq, allS, fillS, splice, Opk.opds, nT, AVal.cells, List.length_cons, List.length_nil, List.filterMap, List.map_cons, List.map_nil, List.nil_append, List.cons_append, Option.map_some, reduceCtorEq, true_and, ↓reduceIte, Nat.reduceAdd, List.drop, List.take, List.drop_succ_cons, List.take_succ_cons, Nat.reduceLeDiff, Nat.reduceMul, Nat.reduceLT, List.set_cons_zero, List.replicate_succ, List.replicate_zero, Nat.zero_add, and_self, ret_eq, Nat.add_zero, c67]
  exact Wk.sl (.inl rfl)
theorem p70 (s : List UInt8) : Pur Tryz.prog 70 [.str s] (.sl (.none 4) [encK (tI s)]) := by
  refine .mk ⟨trivial, trivial⟩ (by simp [AVal.under, unders, Tok.under]) (a70 (ev_awp TabOK.tnil (ev_evK ?_)))
  simp only [kont_nil, kont_n, k_ret, k_seq, k_reg, r_nil, r_v, penv, postC, rcs, rc1, rvS, eget, lk, lkv, oks, AS.put, AS.keep, evk, evB_eq, allB, fillB, evS_eq, allS, fillS, splice, Opk.opds, nT, AVal.cells, List.length_cons, List.length_nil, List.filterMap, List.map_cons, List.map_nil, List.nil_append, List.cons_append, Option.map_some, reduceCtorEq, true_and, ↓reduceIte, Nat.reduceAdd, List.drop, List.take, List.drop_succ_cons, List.take_succ_cons, Nat.reduceLeDiff, Nat.reduceMul, Nat.reduceLT, List.set_cons_zero, List.replicate_succ, List.replicate_zero, Nat.zero_add, and_self, ret_eq, Nat.add_zero, c70]
  exact Wk.sl (.inl rfl)
abbrev s67 := sS fun x => .sl (.none 4) [encK (tS x)]
abbrev s70 := sS fun x => .sl (.none 4) [encK (tI x)]
def okL : AVal → Prop
  | .sl tok l => encdK l ∧ (tok.esz = 4 ∨ l = [])
  | _ => False
def decL : AVal → List Tkn
  | .sl _ l => l.map decK
  | _ => []
def okLs : List AVal → Prop
  | [] => True
  | v :: r => okL v ∧ okLs r
theorem okLs_get : ∀ {L : List AVal} {i : Nat} {v : AVal}, okLs L → L[i]? = some v → ∃ tok ts, v = .sl tok (ts.map encK) ∧ (tok.esz = 4 ∨ ts = []) ∧ decL v = ts
  | [], i, v, h, hv => by cases hv
  | x :: r, 0, v, h, hv => by
    cases hv
    have h := h.1
    unfold okL at h
    split at h
    · rename_i tok l h'
      refine ⟨tok, l.map decK, by rw [← h.1], ?_, rfl⟩
      rcases h.2 with q | q
      · exact .inl q
      · exact .inr (by rw [q]; rfl)
    · exact h.elim
  | x :: r, i + 1, v, h, hv => okLs_get h.2 hv
def szL (L : List AVal) : Nat := (L.map fun v => (decL v).length).sum
theorem sz_take : ∀ (L : List AVal) (i : Nat), szL (L.take i) ≤ szL L
  | [], i => by simp
  | v :: r, 0 => by simp [szL]
  | v :: r, i + 1 => by
    have := sz_take r i
    simp only [szL, List.take_succ_cons, List.map_cons, List.sum_cons] at this ⊢; omega
theorem sz_succ {L : List AVal} {i : Nat} {v : AVal} (h : L[i]? = some v) : szL (L.take (i + 1)) = szL (L.take i) + (decL v).length := by
  rw [List.take_add_one, h]; simp [szL]
def s66 : List AVal → AHeap → Prop × AVal := fun a H => match a with
  | [.sl t L] => (okLs L ∧ t.esz = 1 ∧ szL L ≤ 1000000 ∧ L.length ≤ 1000, .sl (.none 4) (((L.map decL).flatten).map encK))
  | _ => (False, .tup [])
structure W66 where
  i : Nat
  ts : List Tkn
  id : Nat
  H : AHeap
  n : Nat
theorem l91 : Callable Tryz.prog 91 := ⟨Tryz.f91, by kernel_rfl, by kernel_rfl, by kernel_rfl⟩
theorem q66 : ∀ args H n, (s66 args H).1 → Quiet Tryz.prog 66 args H n (s66 args H).2 := by
  intro args H0 n0 hh
  unfold s66 at hh ⊢
  split at hh
  case h_2 => exact hh.elim
  rename_i t L
  obtain ⟨hL, ht, hsz, hlen⟩ := hh
  refine Quiet.of l66 ⟨trivial, encK_under _ _⟩ (fun hfr0 => a66 (ev_awp TabOK.tnil (ev_evK ?_)))
  simp only [kont_n, k_seq, k_block, k_reg, r_nil, r_v, penv, eget, lk, lkv, oks, AS.put, AS.keep, evk, Opk.opds, List.filterMap, Option.map_some, reduceCtorEq, true_and, Nat.reduceEqDiff, ↓reduceIte, and_self, Nat.add_zero, c66]
  refine k_loop (fun i : Nat => ⟨[(0, true, .sl t L), (3, true, .int .i64 (szL (L.take i))), (9, true, .sl t L), (10, true, .int .i64 L.length), (11, true, .int .i64 i)], H0, n0⟩) (fun i => i ≤ L.length) (fun i => L.length - i) 0 rfl (Nat.zero_le _) ?_
  intro i hi
  by_cases hlt : i < L.length
  case pos =>
    have hg := List.getElem?_eq_getElem hlt
    obtain ⟨tk, ts, hv, htk, hd⟩ := okLs_get hL hg
    have e := w64_succ (k := i) (by omega)
    have h1 := sz_succ hg
    rw [hd] at h1
    have h2 := sz_take L (i + 1)
    have e2 : IntKind.wrap .i64 ((szL (L.take i) : Int) + ts.length) = (szL (L.take (i + 1)) : Nat) := by rw [w64_in (by omega) (by omega)]; omega
    have c1 : ((szL (L.take (i + 1)) : Int) < 0) = False := eq_false (by omega)
    rw [hv] at hg
    simp only [Tok.esz] at ht
    simp only [kont_nil, kont_n, kont_e, kont_p, kont_bn, kont_be, kont_bp, k_skip, k_exit, k_seq, k_block, k_cond, k_reg, r_nil, r_v, r_calli, r_pan, callI, lpQ_n, lpQ_e, lpQ_p, postC, eget, lk, lkv, oks, AS.put, AS.keep, evk, Opk.opds, aload, isI, isInt, toI, isB, toB, mk, icmp, iarith, AVal.cells, Tok.esz, List.length_cons, List.length_nil, List.filterMap, List.map_cons, List.map_nil, List.append_nil, List.nil_append, Option.map_some, reduceCtorEq, and_true, true_and, forall_const, Nat.reduceEqDiff, ↓reduceIte, Bool.false_eq_true, List.take, Int.reduceEq, Nat.le_refl, List.headD_cons, isDiv, false_implies, implies_true, Nat.zero_add, ne_eq, not_false_eq_true, and_self, Nat.add_zero, decide_true, decide_false, Int.ofNat_lt, hlt, hg, ht, Option.getD_some, Int.toNat_natCast, Int.natCast_nonneg, List.length_map, e, e2, c1]
    exact .mk (i + 1) rfl hlt (by omega)
  have hi' : i = L.length := by omega
  subst hi'
  simp only [kont_nil, kont_n, kont_e, kont_p, kont_bn, kont_be, kont_bp, k_skip, k_exit, k_seq, k_block, k_cond, k_reg, r_nil, r_v, r_calli, r_pan, callI, lpQ_n, lpQ_e, lpQ_p, postC, eget, lk, lkv, oks, AS.put, AS.keep, evk, Opk.opds, aload, isI, isInt, toI, isB, toB, mk, icmp, iarith, AVal.cells, Tok.esz, List.filterMap, List.map_cons, List.map_nil, List.append_nil, List.nil_append, Option.map_some, reduceCtorEq, and_true, true_and, forall_const, Nat.reduceEqDiff, ↓reduceIte, Bool.false_eq_true, Int.reduceEq, isDiv, false_implies, implies_true, decide_eq_true_eq, decide_eq_false_iff_not, ne_eq, not_false_eq_true, and_self, Nat.add_zero, decide_false, Int.ofNat_lt, hlt, List.take_length]
  refine (p91 l91 (szL L) (by omega) H0 n0).mono ?_
  rintro o H1 n1 ⟨rfl, rfl, rfl⟩
  simp only [kont_n, k_seq, k_block, k_reg, r_nil, r_v, eget, lk, lkv, oks, AS.put, AS.keep, evk, Opk.opds, List.filterMap, Option.map_some, reduceCtorEq, true_and, Nat.reduceEqDiff, ↓reduceIte, and_self, Nat.add_zero, retK]
  refine k_loop (fun w : W66 => ⟨[(6, true, .sl (.own w.id 4) (w.ts.map encK)), (25, true, .sl t L), (26, true, .int .i64 L.length), (27, true, .int .i64 w.i)], w.H, w.n⟩)
    (fun w => w.i ≤ L.length ∧ w.ts = ((L.take w.i).map decL).flatten ∧ w.ts.length = szL (L.take w.i) ∧ n0 ≤ w.id ∧ hget w.H w.id = some .tok ∧ Fresh w.H w.n ∧ n0 ≤ w.n ∧ Keeps H0 w.H) (fun w => L.length - w.i) ⟨0, [], n0, hset H0 n0 .tok, n0 + 1⟩ rfl
    ⟨Nat.zero_le _, rfl, rfl, Nat.le_refl _, hget_hset_eq .., hfr0.hset (by simp only []; omega) (by simp only []; omega), by simp only []; omega, Keeps.new hfr0 (Nat.le_refl _) (Keeps.refl _)⟩ ?_
  rintro ⟨i, ts, id, H, n⟩ ⟨hi, hts, hln, hid, htok, hfr, hn, hkp⟩
  simp only at hi hts hln hid htok hfr hn hkp
  by_cases hlt : i < L.length
  case neg =>
    have hi' : i = L.length := by omega
    subst hi'
    rw [List.take_length] at hts
    simp only [kont_nil, kont_n, kont_e, kont_bn, kont_be, k_skip, k_exit, k_ret, k_seq, k_block, k_cond, k_reg, r_nil, r_v, r_app, appE, lpQ_n, lpQ_e, postC, rcs, rc1, rvS, eget, lk, lkv, oks, AS.put, AS.keep, evk, Opk.opds, aload, isI, isInt, toI, isB, toB, mk, icmp, iarith, AVal.cells, Tok.esz, List.filterMap, Option.map_some, and_true, true_and, forall_const, Nat.reduceEqDiff, ↓reduceIte, Bool.false_eq_true, Nat.reduceLT, Int.reduceEq, isDiv, false_implies, implies_true, ne_eq, not_false_eq_true, and_self, qret_eq, Nat.add_zero, killTok, appOK, srcOf, decide_false, Int.ofNat_lt, hlt]
    exact ⟨by rw [← hts]; exact Wk.sl (.inl rfl), hkp⟩
  have hg := List.getElem?_eq_getElem hlt
  obtain ⟨tk, us, hv, htk, hd⟩ := okLs_get hL hg
  have e := w64_succ (k := i) (by omega)
  have h1 := sz_succ hg
  rw [hd] at h1
  have h2 := sz_take L (i + 1)
  have hnew := hfr (n + 2) (by omega)
  have hidn := hfr.lt htok
  have htu : (tk.esz = 4 ∨ us.length = 0) = True := eq_true (htk.imp (fun q => q) (fun q => by rw [q]; rfl))
  simp only [Tok.esz] at htu ht
  have hfl : ((L.take (i + 1)).map decL).flatten = ts ++ us := by
    rw [List.take_add_one, hg, hts, List.map_append, List.flatten_append]; simp [hd]
  rw [hv] at hg
  simp only [kont_nil, kont_n, kont_e, kont_bn, kont_be, k_skip, k_exit, k_ret, k_seq, k_block, k_cond, k_reg, r_nil, r_v, r_app, appE, lpQ_n, lpQ_e, postC, rcs, rc1, rvS, eget, lk, lkv, oks, AS.put, AS.keep, evk, Opk.opds, aload, isI, isInt, toI, isB, toB, mk, icmp, iarith, AVal.cells, Tok.esz, List.length_cons, List.length_nil, List.filterMap, Option.map_some, reduceCtorEq, and_true, true_and, forall_const, Nat.reduceEqDiff, ↓reduceIte, Bool.false_eq_true, List.take, Nat.reduceLT, Int.reduceEq, Nat.le_refl, List.headD_cons, isDiv, false_implies, implies_true, Nat.zero_add, ne_eq, not_false_eq_true, and_self, qret_eq, Nat.add_zero, killTok, appOK, srcOf, decide_true, Int.ofNat_lt, hlt, hg, ht, Option.getD_some, Int.toNat_natCast, Int.natCast_nonneg, List.length_map, e, htok, hnew, htu]
  refine ⟨?_, .mk ⟨i + 1, ts ++ us, n + 2, hset (hset H id .dead) (n + 2) .tok, n + 4⟩ (by simp only [List.map_append]) ⟨hlt, hfl.symm, by rw [h1]; simp; omega, by simp only []; omega, hget_hset_eq .., ?_, by simp only []; omega, ?_⟩ (by simp only []; omega)⟩
  · unfold small; omega
  · exact (Fresh.hset (Fresh.hset hfr (Nat.le_refl _) hidn) (by simp only []; omega) (by simp only []; omega))
  · exact Keeps.new hfr0 (by omega) (Keeps.new hfr0 hid hkp)
end Go.AM
end
section
set_option maxRecDepth 20000
set_option linter.all false
set_option maxHeartbeats 1000000
namespace Go.AM
open Go.Proofs Go.Lib
def TQ : Tab := tadd 66 s66 (tadd 67 s67 (tadd 70 s70 tnil))
theorem TQ_ok : TabOK Tryz.prog TQ := ((TabOK.tnil.add (qS p70)).add (qS p67)).add q66
theorem TQ_66 (a : List AVal) (H : AHeap) : TQ 66 a H = s66 a H := rfl
theorem TQ_67 (a : List AVal) (H : AHeap) : TQ 67 a H = s67 a H := rfl
theorem TQ_70 (a : List AVal) (H : AHeap) : TQ 70 a H = s70 a H := rfl
theorem ok_one {k n a : Int} {s : List UInt8} : okL (.sl (.none 4) [.agg [.int .i64 k, .str s, .int .i64 n, .int .i64 a]]) = True := eq_true ⟨rfl, .inl rfl⟩
theorem dec_one {k n a : Int} {s : List UInt8} {t : Tok} : decL (.sl t [.agg [.int .i64 k, .str s, .int .i64 n, .int .i64 a]]) = [⟨k, s, n, a⟩] := rfl
theorem decL_map {t : Tok} {a : List Tkn} : decL (.sl t (a.map encK)) = a := decK_map a
theorem okL_of {t : Tok} {A : List AVal} (h : okL (.sl t A)) : ∃ a, A = a.map encK ∧ a = A.map decK ∧ okL (.sl t (a.map encK)) :=
  ⟨A.map decK, h.1, rfl, by have h' := h; rw [h.1] at h'; exact h'⟩
def s65 : List AVal → AHeap → Prop × AVal := fun x H => match x with
  | [.sl t1 A, .sl t2 B, .ptr id 0] => (match hget H id with
    | some (.box [.str s]) => (okL (.sl t1 A) ∧ okL (.sl t2 B) ∧ A.length ≤ 100000 ∧ B.length ≤ 100000, .sl (.none 4) ((infT s (A.map decK) (B.map decK)).map encK))
    | _ => (False, .tup []))
  | _ => (False, .tup [])
theorem q65 : ∀ args H n, (s65 args H).1 → Quiet Tryz.prog 65 args H n (s65 args H).2 := by
  intro args H n hh
  unfold s65 at hh ⊢
  split at hh
  case h_2 => exact hh.elim
  rename_i t1 A t2 B id
  split at hh
  case h_2 => exact hh.elim
  rename_i s hb
  obtain ⟨h1, h2, h3, h4⟩ := hh
  obtain ⟨a, rfl, -, h1⟩ := okL_of h1
  obtain ⟨b, rfl, -, h2⟩ := okL_of h2
  rw [List.length_map] at h3 h4
  refine Quiet.of l65 ⟨trivial, encK_under _ _⟩ (fun hfr0 => a65 (ev_awp TQ_ok (ev_evK ?_)))
  have e1 : szL [.sl (.none 4) [encK (tS [40])], .sl t1 (a.map encK), .sl (.none 4) [encK (tS s)], .sl t2 (b.map encK), .sl (.none 4) [encK (tS [41])]] ≤ 1000000 := by
    simp only [szL, List.map_cons, List.map_nil, List.sum_cons, List.sum_nil, decL_map, dec_one, List.length_cons, List.length_nil]; omega
  simp only [eE, eN, reduceCtorEq, Nat.reduceEqDiff, ↓reduceIte, Nat.reduceAdd, Nat.reduceLeDiff, Nat.reduceMul, Nat.reduceLT, c65, TQ_66, TQ_67, sS, s66, okLs, ok_one, h1, h2, hb, e1]
  refine ⟨?_, Keeps.refl _⟩
  simp only [List.flatten_cons, List.flatten_nil, dec_one, decL_map, decK_map, infT, List.append_nil, List.cons_append, List.nil_append, List.append_assoc]
  exact Wk.refl _
def s69 : List AVal → AHeap → Prop × AVal := fun x H => match x with
  | [.sl t1 A, .sl t2 B, .ptr id 0] => (match hget H id with
    | some (.box [.str s]) => (okL (.sl t1 A) ∧ okL (.sl t2 B) ∧ A.length ≤ 100000 ∧ B.length ≤ 100000, .sl (.none 4) ((fcT s (A.map decK) (B.map decK)).map encK))
    | _ => (False, .tup []))
  | _ => (False, .tup [])
theorem q69 : ∀ args H n, (s69 args H).1 → Quiet Tryz.prog 69 args H n (s69 args H).2 := by
  intro args H n hh
  unfold s69 at hh ⊢
  split at hh
  case h_2 => exact hh.elim
  rename_i t1 A t2 B id
  split at hh
  case h_2 => exact hh.elim
  rename_i s hb
  obtain ⟨h1, h2, h3, h4⟩ := hh
  obtain ⟨a, rfl, -, h1⟩ := okL_of h1
  obtain ⟨b, rfl, -, h2⟩ := okL_of h2
  rw [List.length_map] at h3 h4
  refine Quiet.of l69 ⟨trivial, encK_under _ _⟩ (fun hfr0 => a69 (ev_awp TQ_ok (ev_evK ?_)))
  have e1 : szL [.sl (.none 4) [encK (tI s)], .sl (.none 4) [encK (tS [40])], .sl t1 (a.map encK), .sl (.none 4) [encK (tS [44])], .sl t2 (b.map encK), .sl (.none 4) [encK (tS [41])]] ≤ 1000000 := by
    simp only [szL, List.map_cons, List.map_nil, List.sum_cons, List.sum_nil, decL_map, dec_one, List.length_cons, List.length_nil]; omega
  simp only [eE, eN, reduceCtorEq, Nat.reduceEqDiff, ↓reduceIte, Nat.reduceAdd, Nat.reduceLeDiff, Nat.reduceMul, Nat.reduceLT, c69, TQ_66, TQ_67, TQ_70, sS, s66, okLs, ok_one, h1, h2, hb, e1]
  refine ⟨?_, Keeps.refl _⟩
  simp only [List.flatten_cons, List.flatten_nil, dec_one, decL_map, decK_map, fcT, List.append_nil, List.cons_append, List.nil_append, List.append_assoc]
  exact Wk.refl _
def s71 : List AVal → AHeap → Prop × AVal := fun x H => match x with
  | [.sl t1 A, .sl t2 B] => (okL (.sl t1 A) ∧ okL (.sl t2 B) ∧ A.length ≤ 100000 ∧ B.length ≤ 100000, .sl (.none 4) ((lessT (A.map decK) (B.map decK)).map encK))
  | _ => (False, .tup [])
theorem q71 : ∀ args H n, (s71 args H).1 → Quiet Tryz.prog 71 args H n (s71 args H).2 := by
  intro args H n hh
  unfold s71 at hh ⊢
  split at hh
  case h_2 => exact hh.elim
  rename_i t1 A t2 B
  obtain ⟨h1, h2, h3, h4⟩ := hh
  obtain ⟨a, rfl, -, h1⟩ := okL_of h1
  obtain ⟨b, rfl, -, h2⟩ := okL_of h2
  rw [List.length_map] at h3 h4
  refine Quiet.of l71 ⟨trivial, encK_under _ _⟩ (fun hfr0 => a71 (ev_awp TQ_ok (ev_evK ?_)))
  have e1 : szL [.sl t1 (a.map encK), .sl (.none 4) [encK (tS [60])], .sl t2 (b.map encK)] ≤ 1000000 := by
    simp only [szL, List.map_cons, List.map_nil, List.sum_cons, List.sum_nil, decL_map, dec_one, List.length_cons, List.length_nil]; omega
  simp only [eE, eN, reduceCtorEq, Nat.reduceEqDiff, ↓reduceIte, Nat.reduceAdd, Nat.reduceLeDiff, Nat.reduceMul, Nat.reduceLT, c71, TQ_66, TQ_67, sS, s66, okLs, ok_one, h1, h2, e1]
  refine ⟨?_, Keeps.refl _⟩
  simp only [List.flatten_cons, List.flatten_nil, dec_one, decL_map, decK_map, lessT, List.append_nil, List.cons_append, List.nil_append, List.append_assoc]
  exact Wk.refl _
def cmpA : AVal → Bool
  | .agg [_, .bool c] => c
  | _ => false
def isAg : AVal → Prop
  | .agg [_, .bool _] => True
  | _ => False
theorem isAg_get {v : AVal} (h : isAg v) : ∃ x, v = .agg [x, .bool (cmpA v)] := by
  unfold isAg at h
  split at h
  · exact ⟨_, rfl⟩
  · exact h.elim
theorem p74 (x : AVal) (c : Bool) (H : AHeap) (n : Nat) : Quiet Tryz.prog 74 [.agg [x, .bool c]] H n (.bool c) := by
  refine Quiet.of l74 trivial (fun hfr0 => a74 (ev_awp TabOK.tnil (ev_evK ?_)))
  have h0 := hfr0 n (Nat.le_refl _)
  simp only [eE, eN, Nat.reduceEqDiff, ↓reduceIte, Nat.reduceAdd, c74, h0]
  exact Keeps.new hfr0 (Nat.le_refl _) (Keeps.refl _)
def s74 : List AVal → AHeap → Prop × AVal := fun x H => match x with
  | [v] => (isAg v, .bool (cmpA v))
  | _ => (False, .tup [])
theorem q74 : ∀ args H n, (s74 args H).1 → Quiet Tryz.prog 74 args H n (s74 args H).2 := by
  intro args H n hh
  unfold s74 at hh ⊢
  split at hh
  case h_2 => exact hh.elim
  rename_i v
  obtain ⟨x, hx⟩ := isAg_get hh
  rw [hx]
  exact p74 x _ H n
def allAg (l : List AVal) : Prop := ∀ v ∈ l, isAg v
def idxC (l : List AVal) : Int := match l.findIdx? cmpA with
  | some i => i
  | none => -1
def refL (H : AHeap) (id off len : Nat) : List AVal := match hget H id with
  | some (.arr 2 L) => (L.drop off).take len
  | _ => []
def s92 : List AVal → AHeap → Prop × AVal := fun x H => match x with
  | [.ref id 2 off len cap, .fn (.func 74) [] []] => ((refL H id off len).length = len ∧ allAg (refL H id off len) ∧ len ≤ 100000, .int .i64 (idxC (refL H id off len)))
  | _ => (False, .tup [])
theorem refL_get {H : AHeap} {id off len i : Nat} (hi : i < (refL H id off len).length) (hl : (refL H id off len).length = len) : ∃ L, hget H id = some (.arr 2 L) ∧ off + i < L.length ∧ L[off + i]? = (refL H id off len)[i]? := by
  unfold refL at hi hl ⊢
  split at hi
  · rename_i L hL
    rw [hL] at hl ⊢
    simp only [List.length_take, List.length_drop] at hi hl
    refine ⟨L, rfl, by omega, ?_⟩
    rw [List.getElem?_take_of_lt (by omega), List.getElem?_drop]
  · simp at hi
theorem q92 : ∀ args H n, (s92 args H).1 → Quiet Tryz.prog 92 args H n (s92 args H).2 := by
  intro args H n hh
  unfold s92 at hh ⊢
  split at hh
  case h_2 => exact hh.elim
  rename_i id off len cap
  obtain ⟨h1, h2, h3⟩ := hh
  have hT := (TabOK.tnil (P := Tryz.prog)).add q74
  have T1 : ∀ x H, tadd 74 s74 tnil 74 x H = s74 x H := fun _ _ => rfl
  generalize tadd 74 s74 tnil = TT at hT T1
  refine Quiet.of l92 trivial (fun hfr0 => a92 (ev_awp hT (ev_evK ?_)))
  simp only [eE, eN, reduceCtorEq, Nat.reduceEqDiff, ↓reduceIte, Nat.reduceAdd, c92]
  refine k_loop (fun i : Nat => ⟨[(0, true, .ref id 2 off len cap), (1, true, .fn (.func 74) [] []), (7, true, .int .i64 len), (8, true, .int .i64 i)], H, n⟩) (fun i => i ≤ len ∧ ∀ j v, j < i → (refL H id off len)[j]? = some v → cmpA v = false) (fun i => len - i) 0 rfl ⟨Nat.zero_le _, fun j v hj => by omega⟩ ?_
  rintro i ⟨hi, hno⟩
  by_cases hlt : i < len
  case neg =>
    have : idxC (refL H id off len) = -1 := by
      unfold idxC
      rw [List.findIdx?_eq_none_iff.2]
      intro v hv
      obtain ⟨j, hj, rfl⟩ := List.mem_iff_getElem.1 hv
      exact hno j _ (by omega) (List.getElem?_eq_getElem hj)
    simp only [eE, eN, k_cond, reduceCtorEq, Nat.reduceEqDiff, ↓reduceIte, Int.reduceEq, Int.ofNat_lt, hlt]
    exact ⟨this.symm, Keeps.refl _⟩
  obtain ⟨L, hL, hoff, hget⟩ := refL_get (i := i) (by omega) h1
  have hgl : (refL H id off len)[i]? = some ((refL H id off len)[i]'(by omega)) := List.getElem?_eq_getElem _
  obtain ⟨x, hx⟩ := isAg_get (h2 _ (List.getElem_mem (by omega : i < (refL H id off len).length)))
  generalize hv : (refL H id off len)[i]'(by omega) = v at hgl hx
  rw [hgl] at hget
  have e := w64_succ (k := i) (by omega)
  generalize hc : cmpA v = c at hx
  subst hx
  have ha : isAg (.agg [x, .bool c]) := trivial
  simp only [eE, eN, k_cond, reduceCtorEq, Nat.reduceEqDiff, ↓reduceIte, Int.reduceEq, Int.ofNat_lt, hlt, hL, hoff, hget, Option.getD_some, Int.toNat_natCast, Int.natCast_nonneg, e, T1, s74, ha, cmpA]
  cases c with
  | true =>
    simp only [eE, reduceCtorEq]
    refine ⟨?_, Keeps.refl _⟩
    unfold idxC
    have : (refL H id off len).findIdx? cmpA = some i := by
      rw [List.findIdx?_eq_some_iff_getElem]
      refine ⟨by omega, by rw [hv]; exact hc, fun j hj => ?_⟩
      rw [hno j _ hj (List.getElem?_eq_getElem (by omega))]; decide
    rw [this]
  | false =>
    simp only [eE]
    refine .mk (i + 1) rfl ⟨hlt, fun j w hj hw => ?_⟩ (by omega)
    by_cases hji : j = i
    · subst hji; rw [hgl] at hw; cases hw; exact hc
    · exact hno j w (by omega) hw
def s73 : List AVal → AHeap → Prop × AVal := fun x H => match x with
  | [.ref id 2 off len cap, .fn (.func 74) [] []] => ((refL H id off len).length = len ∧ allAg (refL H id off len) ∧ len ≤ 100000, .bool ((refL H id off len).any cmpA))
  | _ => (False, .tup [])
theorem idx_any (l : List AVal) : (decide (0 ≤ idxC l)) = l.any cmpA := by
  unfold idxC
  cases h : l.findIdx? cmpA with
  | none =>
    rw [List.findIdx?_eq_none_iff] at h
    have : l.any cmpA = false := by simpa using h
    simp [this]
  | some i =>
    rw [List.findIdx?_eq_some_iff_getElem] at h
    obtain ⟨h1, h2, -⟩ := h
    have : l.any cmpA = true := List.any_eq_true.2 ⟨_, List.getElem_mem h1, h2⟩
    simp [this]
theorem q73 : ∀ args H n, (s73 args H).1 → Quiet Tryz.prog 73 args H n (s73 args H).2 := by
  intro args H n hh
  unfold s73 at hh ⊢
  split at hh
  case h_2 => exact hh.elim
  rename_i id off len cap
  obtain ⟨h1, h2, h3⟩ := hh
  have hT := (TabOK.tnil (P := Tryz.prog)).add q92
  have T1 : ∀ x H, tadd 92 s92 tnil 92 x H = s92 x H := fun _ _ => rfl
  generalize tadd 92 s92 tnil = TT at hT T1
  refine Quiet.of l73 trivial (fun hfr0 => a73 (ev_awp hT (ev_evK ?_)))
  simp only [eE, eN, reduceCtorEq, Nat.reduceEqDiff, ↓reduceIte, Nat.reduceAdd, c73, T1, s92, h1, h2, h3]
  exact ⟨idx_any _, Keeps.refl _⟩
def s72 : List AVal → AHeap → Prop × AVal := fun x H => match x with
  | [.int .i64 2, .ptr c 0] => (match hget H c with
    | some (.box [.sl .nil []]) => (True, .bool false)
    | some (.box [.ref id 2 0 len cap]) => ((refL H id 0 len).length = len ∧ allAg (refL H id 0 len) ∧ len ≤ cap ∧ len ≤ 100000, .bool (decide (2 ≤ len) && !(refL H id (len - 2) 2).any cmpA))
    | _ => (False, .tup []))
  | _ => (False, .tup [])
theorem refL_sub {H : AHeap} {id len : Nat} (h1 : (refL H id 0 len).length = len) (h2 : allAg (refL H id 0 len)) (h3 : 2 ≤ len) : (refL H id (len - 2) 2).length = 2 ∧ allAg (refL H id (len - 2) 2) := by
  unfold refL at h1 h2 ⊢
  split at h1
  · rename_i L hL
    rw [hL] at h2
    simp only [List.drop_zero, List.length_take, List.length_drop] at h1 h2 ⊢
    refine ⟨by omega, fun v hv => h2 v ?_⟩
    have e : (L.drop (len - 2)).take 2 = (L.take len).drop (len - 2) := by rw [List.drop_take]; congr 1; omega
    rw [e] at hv
    exact List.mem_of_mem_drop hv
  · simp at h1; omega
theorem q72 : ∀ args H n, (s72 args H).1 → Quiet Tryz.prog 72 args H n (s72 args H).2 := by
  intro args H n hh
  have hT := (TabOK.tnil (P := Tryz.prog)).add q73
  have T1 : ∀ x H, tadd 73 s73 tnil 73 x H = s73 x H := fun _ _ => rfl
  generalize tadd 73 s73 tnil = TT at hT T1
  unfold s72 at hh ⊢
  split at hh
  case h_2 => exact hh.elim
  rename_i c
  split at hh
  case h_3 => exact hh.elim
  case h_1 =>
    rename_i hc
    refine Quiet.of l72 trivial (fun hfr0 => a72 (ev_awp hT (ev_evK ?_)))
    have k1 : ((2 : Int) ≤ ((0 : Nat) : Int)) = False := eq_false (by decide)
    simp only [eE, eN, sel, reduceCtorEq, Nat.reduceEqDiff, ↓reduceIte, Nat.reduceAdd, Int.reduceEq, c72, hc, k1]
    exact Keeps.refl _
  case h_2 =>
    rename_i id len cap hc
    obtain ⟨h1, h2, h3, h4⟩ := hh
    refine Quiet.of l72 trivial (fun hfr0 => a72 (ev_awp hT (ev_evK ?_)))
    by_cases hk : 2 ≤ len
    · have k1 : ((2 : Int) ≤ len) = True := eq_true (by omega)
      have e1 : IntKind.wrap .i64 ((len : Int) - 2) = ((len - 2 : Nat) : Int) := by rw [w64_in (by omega) (by omega)]; omega
      have e2 : len - (len - 2) = 2 := by omega
      have e3 : ((len - 2 : Nat) : Int) ≤ len := by omega
      have e4 : ((len - 2 : Nat) : Int) < cap := by omega
      obtain ⟨g1, g2⟩ := refL_sub h1 h2 hk
      simp only [eE, eN, sel, reduceCtorEq, Nat.reduceEqDiff, ↓reduceIte, Nat.reduceAdd, Nat.reduceLeDiff, Int.reduceEq, c72, hc, k1, hk, e1, e2, e3, e4, h3, T1, s73, g1, g2, Int.natCast_nonneg, Int.toNat_natCast]
      exact ⟨by omega, Keeps.refl _⟩
    · have k1 : ((2 : Int) ≤ len) = False := eq_false (by omega)
      simp only [eE, eN, sel, reduceCtorEq, Nat.reduceEqDiff, ↓reduceIte, Nat.reduceAdd, Int.reduceEq, c72, hc, k1, hk]
      exact Keeps.refl _
end Go.AM
end
section
set_option maxRecDepth 20000
set_option linter.all false
set_option maxHeartbeats 1000000
namespace Go.AM
open Go.Proofs Go.Lib
abbrev QP := Tok × Prt
abbrev encQ (q : QP) : AVal := .agg [.sl q.1 (q.2.t.map encK), .bool q.2.c]
def stk (qs : List QP) : List Prt := (qs.map (·.2)).reverse
theorem stk_app (q0 : List QP) (a : QP) : stk (q0 ++ [a]) = a.2 :: stk q0 := by simp [stk]
theorem stk2 (q0 : List QP) (a b : QP) : stk (q0 ++ [a, b]) = b.2 :: a.2 :: stk q0 := by simp [stk]
theorem stk3 (q0 : List QP) (a b c : QP) : stk (q0 ++ [a, b, c]) = c.2 :: b.2 :: a.2 :: stk q0 := by simp [stk]
theorem split1 {α : Type} {l : List α} (h : 1 ≤ l.length) : ∃ q0 a, l = q0 ++ [a] := ⟨l.dropLast, l.getLast (by intro e; rw [e] at h; simp at h), (List.dropLast_concat_getLast _).symm⟩
theorem split2 {α : Type} {l : List α} (h : 2 ≤ l.length) : ∃ q0 a b, l = q0 ++ [a, b] := by
  obtain ⟨q1, b, rfl⟩ := split1 (l := l) (by omega)
  obtain ⟨q0, a, rfl⟩ := split1 (l := q1) (by simp at h; omega)
  exact ⟨q0, a, b, by simp⟩
theorem split3 {α : Type} {l : List α} (h : 3 ≤ l.length) : ∃ q0 a b c, l = q0 ++ [a, b, c] := by
  obtain ⟨q1, b, c, rfl⟩ := split2 (l := l) (by omega)
  obtain ⟨q0, a, rfl⟩ := split1 (l := q1) (by simp at h; omega)
  exact ⟨q0, a, b, c, by simp⟩
def LvOK (H : AHeap) (lv : AVal) (qs : List QP) : Prop := (lv = .sl .nil [] ∧ qs = []) ∨ ∃ id rest, lv = .ref id 2 0 qs.length (qs.length + rest.length) ∧ 29 ≤ id ∧ hget H id = some (.arr 2 (qs.map encQ ++ rest))
theorem LvOK.cut {H : AHeap} {id : Nat} {q0 q1 : List QP} {rest : List AVal} (h2 : 29 ≤ id) (h3 : hget H id = some (.arr 2 ((q0 ++ q1).map encQ ++ rest))) : LvOK H (.ref id 2 0 q0.length ((q0 ++ q1).length + rest.length)) q0 := by
  refine .inr ⟨id, q1.map encQ ++ rest, ?_, h2, ?_⟩
  · simp; omega
  · rw [h3]; simp
theorem app_lv {H : AHeap} {m : Nat} {lv z v : AVal} {qs : List QP} {q : QP} {K : AHeap → AVal → Prop} (h : LvOK H lv qs) (hv : v = encQ q) (hz : z.cells.length = 2) (hm : hget H m = none) (hm2 : 29 ≤ m) (hk : qs.length ≤ 1000)
    (hK : ∀ id rest, 29 ≤ id → (id = m ∨ ∃ L, hget H id = some (.arr 2 L)) → K (hset H id (.arr 2 ((qs ++ [q]).map encQ ++ rest))) (.ref id 2 0 (qs ++ [q]).length ((qs ++ [q]).length + rest.length))) : appRK H m 2 32 z K lv (some [v]) := by
  subst hv
  have el : (qs ++ [q]).length = qs.length + 1 := by simp
  rcases h with ⟨rfl, rfl⟩ | ⟨id, rest, rfl, h2, h3⟩
  · rw [appRK_sl]
    refine ⟨hm, by decide, hz, .inl rfl, by unfold small; simp, by simp, (fun e => by cases e), fun _ cap hcap => ?_⟩
    have := hK m (List.replicate (cap - 1) z) hm2 (.inl rfl)
    simp only [List.nil_append, List.map_cons, List.map_nil, List.length_cons, List.length_nil, List.length_replicate] at this hcap ⊢
    rw [show 0 + 1 + (cap - 1) = cap by omega] at this
    exact this
  · rw [appRK_ref h3]
    refine ⟨hm, by decide, hz, rfl, rfl, by unfold small; simp; omega, by simp; omega, rfl, by simp, by omega, fun hr => ?_, fun hr cap' hc => ?_⟩
    · have := hK id (rest.drop 1) h2 (.inr ⟨_, h3⟩)
      simp only [List.length_cons, List.length_nil] at hr ⊢
      have e1 : List.take qs.length (qs.map encQ ++ rest) = qs.map encQ := by rw [List.take_append_of_le_length (by simp), List.take_of_length_le (by simp)]
      have e2 : List.drop (qs.length + (0 + 1)) (qs.map encQ ++ rest) = rest.drop 1 := by rw [List.drop_append, List.drop_eq_nil_of_le (by simp)]; simp
      rw [e1, e2]
      rw [el, List.map_append, List.length_drop, show qs.length + 1 + (rest.length - 1) = qs.length + rest.length by omega] at this
      exact this
    · have := hK m (List.replicate (cap' - (qs.length + 1)) z) hm2 (.inl rfl)
      simp only [List.length_cons, List.length_nil] at hr hc ⊢
      have e1 : List.take qs.length (qs.map encQ ++ rest) = qs.map encQ := by rw [List.take_append_of_le_length (by simp), List.take_of_length_le (by simp)]
      rw [e1]
      rw [el, List.map_append, List.length_replicate, show qs.length + 1 + (cap' - (qs.length + 1)) = cap' by omega] at this
      exact this
theorem id_ok {H : AHeap} {n id m : Nat} {X : List AVal} (hfr : Fresh H n) (h : id = m ∨ ∃ L, hget (hset H (n + 2) (.box X)) id = some (.arr 2 L)) (hm : n + 2 < m) : id ≤ m ∧ id ≠ n + 2 := by
  rcases h with rfl | ⟨L, h⟩
  · exact ⟨Nat.le_refl _, by omega⟩
  · by_cases e : id = n + 2
    · subst e; rw [hget_hset_eq] at h; cases h
    · rw [hget_hset_ne _ _ _ _ (by omega)] at h
      have := hfr.lt h
      exact ⟨by omega, e⟩
structure View (H : AHeap) (m id : Nat) (qs : List QP) (rest L : List AVal) : Prop where
  get : ∀ b, hget (hset H m b) id = some (.arr 2 L)
  len : L.length = qs.length + rest.length
  at' : ∀ (j : Nat) (q : QP), qs[j]? = some q → L[j]? = some (encQ q)
  ref : ∀ b, refL (hset H m b) id 0 qs.length = qs.map encQ
  sub : ∀ b q0 x y, qs = q0 ++ [x, y] → refL (hset H m b) id (qs.length - 2) 2 = [encQ x, encQ y]
theorem view {H : AHeap} {m id : Nat} {qs : List QP} {rest : List AVal} (h : hget H id = some (.arr 2 (qs.map encQ ++ rest))) (hne : m ≠ id) : ∃ L, L = qs.map encQ ++ rest ∧ View H m id qs rest L := by
  have hg : ∀ b, hget (hset H m b) id = some (.arr 2 (qs.map encQ ++ rest)) := fun b => by rw [hget_hset_ne _ _ _ _ hne]; exact h
  refine ⟨_, rfl, hg, by simp, fun j q hq => ?_, fun b => ?_, fun b q0 x y hq => ?_⟩
  · have := (List.getElem?_eq_some_iff.1 hq).1
    rw [List.getElem?_append_left (by simpa using this), List.getElem?_map, hq]; rfl
  · unfold refL
    rw [hg b]
    simp
  · unfold refL
    rw [hg b]
    subst hq
    simp only [List.length_append, List.length_cons, List.length_nil, List.map_append, List.append_assoc]
    rw [show q0.length + (0 + 1 + 1) - 2 = (q0.map encQ).length by simp, List.drop_left]
    simp
theorem ag_all (qs : List QP) : allAg (qs.map encQ) = True := eq_true fun v hv => by
  obtain ⟨q, -, rfl⟩ := List.mem_map.1 hv
  trivial
abbrev fns27 : List AVal := [.nilfn, .nilfn, .nilfn, .fn (.func 65) [] [.ptr 17 0], .fn (.func 65) [] [.ptr 19 0], .fn (.func 65) [] [.ptr 21 0], .fn (.func 65) [] [.ptr 23 0], .fn (.func 69) [] [.ptr 25 0], .fn (.func 69) [] [.ptr 27 0], .fn (.func 71) [] []]
structure Stt (p : List Wd) (i : Nat) (qs : List QP) (lv : AVal) (H : AHeap) (n : Nat) : Prop where
  hi : i ≤ p.length
  fr : Fresh H n
  n29 : 29 ≤ n
  lvo : LvOK H lv qs
  c0 : hget H 0 = some (.box [lv])
  c15 : hget H 15 = some (.box fns27)
  c17 : hget H 17 = some (.box [.str [43]])
  c19 : hget H 19 = some (.box [.str [45]])
  c21 : hget H 21 = some (.box [.str [42]])
  c23 : hget H 23 = some (.box [.str [47]])
  c25 : hget H 25 = some (.box [.str sMin])
  c27 : hget H 27 = some (.box [.str sMax])
  run : runP [] (p.take i) = some (stk qs)
  tk : ∀ q ∈ qs, q.1.esz = 4
theorem Stt.next {p : List Wd} {i : Nat} {qs qs' : List QP} {lv : AVal} {H H' : AHeap} {n n' id : Nat} {rest : List AVal} {b : AObj} (h : Stt p i qs lv H n) (hi : i < p.length) (hs : stepP (stk qs) p[i] = some (stk qs')) (ht : ∀ q ∈ qs', q.1.esz = 4)
    (hid : 29 ≤ id) (hid' : id < n') (hn : n + 4 ≤ n') (hne : id ≠ n + 2) (he : H' = hset (hset (hset H (n + 2) b) id (.arr 2 (qs'.map encQ ++ rest))) 0 (.box [.ref id 2 0 qs'.length (qs'.length + rest.length)])) :
    Stt p (i + 1) qs' (.ref id 2 0 qs'.length (qs'.length + rest.length)) H' n' := by
  have n29 := h.n29
  have low : ∀ k, 0 < k → k < 29 → hget H' k = hget H k := fun k h0 hk => by
    rw [he, hget_hset_ne _ _ _ _ (by omega), hget_hset_ne _ _ _ _ (by omega), hget_hset_ne _ _ _ _ (by omega)]
  refine ⟨hi, ?_, by omega, .inr ⟨id, rest, rfl, hid, ?_⟩, ?_, ?_, ?_, ?_, ?_, ?_, ?_, ?_, ?_, ht⟩
  · intro j hj
    rw [he, hget_hset_ne _ _ _ _ (by omega), hget_hset_ne _ _ _ _ (by omega), hget_hset_ne _ _ _ _ (by omega)]
    exact h.fr j (by omega)
  · rw [he, hget_hset_ne _ _ _ _ (by omega), hget_hset_eq]
  · rw [he, hget_hset_eq]
  · rw [low _ (by decide) (by decide)]; exact h.c15
  · rw [low _ (by decide) (by decide)]; exact h.c17
  · rw [low _ (by decide) (by decide)]; exact h.c19
  · rw [low _ (by decide) (by decide)]; exact h.c21
  · rw [low _ (by decide) (by decide)]; exact h.c23
  · rw [low _ (by decide) (by decide)]; exact h.c25
  · rw [low _ (by decide) (by decide)]; exact h.c27
  · rw [List.take_add_one, List.getElem?_eq_getElem hi, runP_app, h.run]
    simp only [Option.toList, runP]
    rw [hs]
theorem Stt.bad {p : List Wd} {i : Nat} {qs : List QP} {lv : AVal} {H : AHeap} {n : Nat} (h : Stt p i qs lv H n) (hi : i < p.length) (hs : stepP (stk qs) p[i] = none) : wholeP p = none := by
  have e : runP [] p = none := by
    rw [← List.take_append_drop i p, runP_app, h.run]
    simp only []
    rw [List.drop_eq_getElem_cons hi, runP, hs]
  unfold wholeP
  rw [e]
  split <;> rfl
theorem Stt.size {p : List Wd} {i : Nat} {qs : List QP} {lv : AVal} {H : AHeap} {n : Nat} (h : Stt p i qs lv H n) (hp : p.length ≤ 256) : qs.length ≤ 256 ∧ ∀ q ∈ qs, q.2.t.length ≤ 1280 := by
  have h1 := run_size _ _ _ h.run
  have h2 : ∀ (q : List Wd) (st st' : List Prt), runP st q = some st' → st'.length ≤ st.length + q.length := by
    intro q
    induction q with
    | nil => intro st st' hr; cases hr; simp
    | cons w r ih =>
      intro st st' hr
      rw [runP] at hr
      split at hr
      · rename_i s1 hs
        have := ih _ _ hr
        have := (step_size hs).2
        simp; omega
      · cases hr
  have h3 := h2 _ _ _ h.run
  have h4 := h.hi
  simp only [List.length_take, stk, List.length_reverse, List.length_map, List.length_nil, szP, List.map_nil, List.sum_nil] at h1 h3
  refine ⟨by omega, fun q hq => ?_⟩
  have : q.2.t.length ∈ (stk qs).map (fun x => x.t.length) := List.mem_map.2 ⟨q.2, by simp only [stk, List.mem_reverse, List.mem_map]; exact ⟨q, hq, rfl⟩, rfl⟩
  have hsum : ∀ (l : List Nat) (x : Nat), x ∈ l → x ≤ l.sum := by
    intro l
    induction l with
    | nil => intro x hx; cases hx
    | cons y r ih =>
      intro x hx
      rcases List.mem_cons.1 hx with rfl | hx
      · simp
      · have := ih x hx; simp; omega
  have := hsum _ _ this
  simp only [stk] at this
  omega
def T27 : Tab := tadd 30 s30' (tadd 65 s65 (tadd 66 s66 (tadd 67 s67 (tadd 69 s69 (tadd 70 s70 (tadd 71 s71 (tadd 72 s72 tnil)))))))
theorem T27_ok : TabOK Tryz.prog T27 := (((((((TabOK.tnil.add q72).add q71).add (qS p70)).add q69).add (qS p67)).add q66).add q65).add q30'
theorem T27_30 (a : List AVal) (H : AHeap) : T27 30 a H = s30' a H := rfl
theorem T27_65 (a : List AVal) (H : AHeap) : T27 65 a H = s65 a H := rfl
theorem T27_66 (a : List AVal) (H : AHeap) : T27 66 a H = s66 a H := rfl
theorem T27_67 (a : List AVal) (H : AHeap) : T27 67 a H = s67 a H := rfl
theorem T27_69 (a : List AVal) (H : AHeap) : T27 69 a H = s69 a H := rfl
theorem T27_70 (a : List AVal) (H : AHeap) : T27 70 a H = s70 a H := rfl
theorem T27_71 (a : List AVal) (H : AHeap) : T27 71 a H = s71 a H := rfl
theorem T27_72 (a : List AVal) (H : AHeap) : T27 72 a H = s72 a H := rfl
end Go.AM
end
section
set_option maxRecDepth 20000
set_option linter.all false
set_option maxHeartbeats 1000000
namespace Go.AM
open Go.Proofs Go.Lib
theorem p64 (s : List UInt8) {H : AHeap} {n : Nat} (h0 : hget H n = none) : ACalls Tryz.prog 64 [.str s] H n fun o H' n' => o = .ret (.fn (.func 65) [] [.ptr n 0]) ∧ H' = hset H n (.box [.str s]) ∧ n' = n + 2 := by
  refine a64 (ev_awp TabOK.tnil (ev_evK ?_))
  simp only [eE, eN, Nat.reduceEqDiff, ↓reduceIte, c64, h0]
theorem p68 (s : List UInt8) {H : AHeap} {n : Nat} (h0 : hget H n = none) : ACalls Tryz.prog 68 [.str s] H n fun o H' n' => o = .ret (.fn (.func 69) [] [.ptr n 0]) ∧ H' = hset H n (.box [.str s]) ∧ n' = n + 2 := by
  refine a68 (ev_awp TabOK.tnil (ev_evK ?_))
  simp only [eE, eN, Nat.reduceEqDiff, ↓reduceIte, c68, h0]
structure V27 where
  i : Nat
  qs : List QP
  lv : AVal
  H : AHeap
  n : Nat
def R27 (p : List Wd) : AOut → AHeap → Nat → Prop := fun out H' n' => (wholeP p = none ∧ ∃ lv, out = .ret (.tup [lv, .bool false])) ∨
  ∃ t tok id rest cap, wholeP p = some t ∧ tok.esz = 4 ∧ out = .ret (.tup [.ref id 2 0 1 cap, .bool true]) ∧ hget H' id = some (.arr 2 (.agg [.sl tok (t.map encK), .bool false] :: rest))
def bodyOf27 : ACode := match c27 with
  | .seq _ (.seq _ (.seq _ (.seq _ (.seq _ (.seq (.seq _ (.block _ (.loop x))) _))))) => x
  | _ => .skip
abbrev st27 (p : List Wd) (v : V27) : AS := ⟨[(0, true, .sl (.none 2) (p.map encW)), (2, true, .ptr 0 0), (6, true, .ptr 15 0), (7, true, .fn (.func 72) [] [.ptr 0 0]), (27, true, .sl (.none 2) (p.map encW)), (28, true, .int .i64 p.length), (29, true, .int .i64 v.i)], v.H, v.n⟩
abbrev inv27 (p : List Wd) (v : V27) : Prop := Stt p v.i v.qs v.lv v.H v.n
abbrev m27 (p : List Wd) (v : V27) : Nat := p.length - v.i
def G27 (p : List Wd) (Q : AExit → AS → Prop) (v : V27) : Prop := evK Tryz.prog T27 bodyOf27 [] (lpQ (st27 p) (inv27 p) (m27 p) v Q) (st27 p v)
theorem tk_app {qs : List QP} {t : Tok} {x : Prt} (h : ∀ q ∈ qs, q.1.esz = 4) (ht : t.esz = 4) : ∀ q ∈ qs ++ [(t, x)], q.1.esz = 4 := fun q hq => by
  rcases List.mem_append.1 hq with hq | hq
  · exact h q hq
  · rw [List.mem_singleton.1 hq]; exact ht
theorem frH {H : AHeap} {n : Nat} (h : Fresh H n) : ∀ k b, hget (hset H (n + 2) b) (n + 4 + k) = none := fun k b => by rw [hget_hset_ne _ _ _ _ (by omega)]; exact h _ (by omega)
theorem lvH {H : AHeap} {n : Nat} {lv : AVal} {qs : List QP} (hfr : Fresh H n) (h : LvOK H lv qs) : ∀ b, LvOK (hset H (n + 2) b) lv qs := fun b => by
  rcases h with q | ⟨id, rest, q1, q2, q3⟩
  · exact .inl q
  · exact .inr ⟨id, rest, q1, q2, by rw [hget_hset_ne _ _ _ _ (by have := hfr.lt q3; omega)]; exact q3⟩
theorem brA {p : List Wd} {Q : AExit → AS → Prop} {i : Nat} {qs : List QP} {lv : AVal} {H : AHeap} {n : Nat} (h : Stt p i qs lv H n) (hqn : qs.length ≤ 256) (hp : p.length ≤ 256) (hlt : i < p.length) {N : Int} (hw : p[i] = ⟨1, N⟩) (h1 : 0 ≤ N) (h2 : N ≤ 1048576) : G27 p Q ⟨i, qs, lv, H, n⟩ := by
  have c0 := h.c0
  have hg : p[i]? = some p[i] := List.getElem?_eq_getElem hlt
  have hn2 := h.fr (n + 2) (by omega)
  have n29 := h.n29
  have z0 : (n + 2 = 0) = False := eq_false (by omega)
  have e := w64_succ (k := i) (by omega)
  have hs : stepP (stk qs) p[i] = some (stk (qs ++ [(.exact 4, ⟨false, [tN N]⟩)])) := by
    rw [hw, stk_app]; simp [stepP, h1, h2]
  rw [hw] at hg
  unfold G27
  simp only [eE, eN, k_cond, sel, reduceCtorEq, Nat.reduceEqDiff, ↓reduceIte, Nat.reduceAdd, Nat.reduceLeDiff, Nat.reduceMul, Nat.reduceLT, Int.reduceEq, Int.reduceLE, Int.reduceLT, Int.reduceToNat, bodyOf27, c27, Int.ofNat_lt, hlt, hg, List.getElem?_map, Option.getD_some, Int.toNat_natCast, Int.natCast_nonneg, List.length_map, c0, hn2, z0, h1, h2, hset_hset]
  refine app_lv (q := (.exact 4, ⟨false, [tN N]⟩)) (lvH h.fr h.lvo _) rfl rfl (frH h.fr 7 _) (by omega) (by omega) (fun id rest hid hid2 => ?_)
  obtain ⟨i1, i2⟩ := id_ok h.fr hid2 (by omega)
  have zi : (id = 0) = False := eq_false (by omega)
  simp only [eE, eN, reduceCtorEq, Nat.reduceEqDiff, ↓reduceIte, Int.reduceEq, afterR, zi, z0, c0, e]
  exact .mk ⟨i + 1, qs ++ [(.exact 4, ⟨false, [tN N]⟩)], _, _, _⟩ rfl (h.next hlt hs (tk_app h.tk rfl) hid (by simp only []; omega) (by simp only []; omega) i2 rfl) (by simp only [m27]; omega)
theorem brB {p : List Wd} {Q : AExit → AS → Prop} {i : Nat} {qs : List QP} {lv : AVal} {H : AHeap} {n : Nat} (h : Stt p i qs lv H n) (hqn : qs.length ≤ 256) (hp : p.length ≤ 256) (hlt : i < p.length) {N : Int} (hw : p[i] = ⟨2, N⟩) (h1 : 0 ≤ N) (h2 : N < 5) : G27 p Q ⟨i, qs, lv, H, n⟩ := by
  have c0 := h.c0
  have hg : p[i]? = some p[i] := List.getElem?_eq_getElem hlt
  have hn2 := h.fr (n + 2) (by omega)
  have n29 := h.n29
  have z0 : (n + 2 = 0) = False := eq_false (by omega)
  have e := w64_succ (k := i) (by omega)
  obtain ⟨k, rfl⟩ : ∃ k : Nat, N = k := ⟨N.toNat, by omega⟩
  obtain ⟨nm, hnm⟩ : ∃ s, namesI[k]? = some s := ⟨_, List.getElem?_eq_getElem (by simp only [namesI, List.length_cons, List.length_nil]; omega)⟩
  have hs : stepP (stk qs) p[i] = some (stk (qs ++ [(.none 4, ⟨false, [tI nm]⟩)])) := by
    rw [hw, stk_app]; simp only [stepP]; rw [if_neg (by decide), if_pos trivial, if_pos ⟨by omega, h2⟩, Int.toNat_natCast, hnm]; rfl
  have hnm' : (namesI.map AVal.str)[k]? = some (.str nm) := by rw [List.getElem?_map, hnm]; rfl
  have hlen : ((namesI.map AVal.str).length : Int) = 5 := rfl
  obtain ⟨NM, hNM⟩ : ∃ NM, NM = namesI.map AVal.str := ⟨_, rfl⟩
  have hT : ∀ H', T27 30 [] H' = (True, .sl (.none 1) NM) := fun H' => by rw [hNM]; rfl
  rw [← hNM] at hnm' hlen
  rw [hw] at hg
  unfold G27
  simp only [eE, eN, k_cond, sel, reduceCtorEq, Nat.reduceEqDiff, ↓reduceIte, Nat.reduceAdd, Nat.reduceLeDiff, Nat.reduceMul, Nat.reduceLT, Int.reduceEq, Int.reduceLE, Int.reduceLT, Int.reduceToNat, bodyOf27, c27, Int.ofNat_lt, hlt, hg, List.getElem?_map, Option.getD_some, Int.toNat_natCast, Int.natCast_nonneg, List.length_map, c0, hn2, z0, h2, hset_hset, hT, hlen, hnm', T27_70, sS]
  refine app_lv (q := (.none 4, ⟨false, [tI nm]⟩)) (lvH h.fr h.lvo _) rfl rfl (frH h.fr 9 _) (by omega) (by omega) (fun id rest hid hid2 => ?_)
  obtain ⟨i1, i2⟩ := id_ok h.fr hid2 (by omega)
  have zi : (id = 0) = False := eq_false (by omega)
  simp only [eE, eN, reduceCtorEq, Nat.reduceEqDiff, ↓reduceIte, Int.reduceEq, afterR, zi, z0, c0, e]
  exact .mk ⟨i + 1, qs ++ [(.none 4, ⟨false, [tI nm]⟩)], _, _, _⟩ rfl (h.next hlt hs (tk_app h.tk rfl) hid (by simp only []; omega) (by simp only []; omega) i2 rfl) (by simp only [m27]; omega)
end Go.AM
end
section
set_option maxRecDepth 20000
set_option linter.all false
set_option maxHeartbeats 1000000
namespace Go.AM
open Go.Proofs Go.Lib
theorem okQ {q : QP} (h : q.1.esz = 4) : okL (.sl q.1 (q.2.t.map encK)) = True := eq_true ⟨encdK_map _, .inl h⟩
theorem brC {p : List Wd} {Q : AExit → AS → Prop} {i : Nat} {q0 : List QP} {b c d : QP} {lv : AVal} {H : AHeap} {n : Nat} (h : Stt p i (q0 ++ [b, c, d]) lv H n) (hqn : (q0 ++ [b, c, d]).length ≤ 256) (hqt : ∀ q ∈ q0 ++ [b, c, d], q.2.t.length ≤ 1280) (hp : p.length ≤ 256) (hlt : i < p.length) (hw : p[i] = ⟨10, 0⟩) (h1 : b.2.c = true) (h2 : c.2.c = false) (h3 : d.2.c = false) : G27 p Q ⟨i, q0 ++ [b, c, d], lv, H, n⟩ := by
  have c0 := h.c0
  have hg : p[i]? = some p[i] := List.getElem?_eq_getElem hlt
  have hn2 := h.fr (n + 2) (by omega)
  have n29 := h.n29
  have z0 : (n + 2 = 0) = False := eq_false (by omega)
  have e := w64_succ (k := i) (by omega)
  have hs : stepP (stk (q0 ++ [b, c, d])) p[i] = some (stk (q0 ++ [(.none 4, ⟨false, ifT b.2.t c.2.t d.2.t⟩)])) := by
    rw [hw, stk_app, stk3]; simp [stepP, h1, h2, h3]
  have len3 : (q0 ++ [b, c, d]).length = q0.length + 3 := by simp
  rw [len3] at hqn
  rcases h.lvo with ⟨-, q⟩ | ⟨id, rest, rfl, hid, hob⟩
  · simp at q
  have hidn : id ≠ n + 2 := by have := h.fr.lt hob; omega
  obtain ⟨L, hL, V⟩ := view (m := n + 2) hob (Ne.symm hidn)
  have g0 := V.at' q0.length b (by rw [List.getElem?_append_right (by omega), Nat.sub_self]; rfl)
  have g1 := V.at' (q0.length + 1) c (by rw [List.getElem?_append_right (by omega), Nat.add_sub_cancel_left]; rfl)
  have g2 := V.at' (q0.length + 2) d (by rw [List.getElem?_append_right (by omega), Nat.add_sub_cancel_left]; rfl)
  have lL := V.len
  rw [len3] at lL
  have l0 : q0.length < L.length := by omega
  have l1 : q0.length + 1 < L.length := by omega
  have l2 : q0.length + 2 < L.length := by omega
  have hget := V.get
  have href := V.ref
  have hsub := fun X => V.sub X (q0 ++ [b]) c d (by simp)
  rw [len3] at href hsub
  have hR1 : ∀ X, (refL (hset H (n + 2) X) id 0 (q0.length + 3)).length = q0.length + 3 := fun X => by rw [href]; simp
  have hR2 : ∀ X, allAg (refL (hset H (n + 2) X) id 0 (q0.length + 3)) = True := fun X => by rw [href]; exact ag_all _
  have hR3 : ∀ X, (refL (hset H (n + 2) X) id (q0.length + 3 - 2) 2).any cmpA = false := fun X => by rw [hsub]; simp [cmpA, h2, h3]
  have tb := h.tk b (by simp)
  have tc := h.tk c (by simp)
  have td := h.tk d (by simp)
  have sb := hqt b (by simp)
  have sc := hqt c (by simp)
  have sd := hqt d (by simp)
  have e1 : szL [.sl (.none 4) [encK (tS [40])], .sl (.none 4) [encK (tI sIf)], .sl b.1 (b.2.t.map encK), .sl (.none 4) [encK (tI sThen)], .sl c.1 (c.2.t.map encK), .sl (.none 4) [encK (tI sElse)], .sl d.1 (d.2.t.map encK), .sl (.none 4) [encK (tS [41])]] ≤ 1000000 := by
    simp only [szL, List.map_cons, List.map_nil, List.sum_cons, List.sum_nil, decL_map, dec_one, List.length_cons, List.length_nil]; omega
  have w1 : IntKind.wrap .i64 (((q0.length + 3 : Nat) : Int) - 3) = (q0.length : Int) := by rw [w64_in (by omega) (by omega)]; omega
  have w2 := w64_succ (k := q0.length) (by omega)
  have w3 : IntKind.wrap .i64 ((q0.length : Int) + 2) = ((q0.length + 2 : Nat) : Int) := by rw [w64_in (by omega) (by omega)]; omega
  have k1 : ((2 : Int) < ((q0.length + 3 : Nat) : Int)) = True := eq_true (by omega)
  have k2 : ((q0.length : Int) < ((q0.length + 3 : Nat) : Int)) = True := eq_true (by omega)
  have k3 : (((q0.length + 1 : Nat) : Int) < ((q0.length + 3 : Nat) : Int)) = True := eq_true (by omega)
  have k4 : (((q0.length + 2 : Nat) : Int) < ((q0.length + 3 : Nat) : Int)) = True := eq_true (by omega)
  have k5 : ((q0.length : Int) ≤ ((q0.length + 3 : Nat) : Int)) = True := eq_true (by omega)
  have k7 : (2 ≤ q0.length + 3) = True := eq_true (by omega)
  have k8 : (q0.length + 3 ≤ 100000) = True := eq_true (by omega)
  have hcut : LvOK H (.ref id 2 0 q0.length ((q0 ++ [b, c, d]).length + rest.length)) q0 := LvOK.cut (q1 := [b, c, d]) hid hob
  rw [len3] at c0 hcut
  generalize hcap : q0.length + 3 + rest.length = cap at c0 hcut
  have k6 : ((0 : Int) < (cap : Int)) = True := eq_true (by omega)
  have k9 : (q0.length + 3 ≤ cap) = True := eq_true (by omega)
  have o1 := okQ tb
  have o2 := okQ tc
  have o3 := okQ td
  rw [hw] at hg
  unfold G27
  simp only [eE, eN, k_cond, sel, reduceCtorEq, Nat.reduceEqDiff, ↓reduceIte, Nat.reduceAdd, Nat.reduceLeDiff, Nat.reduceMul, Nat.reduceLT, Int.reduceEq, Int.reduceLE, Int.reduceLT, Int.reduceToNat, bodyOf27, c27, Int.ofNat_lt, hlt, hg, List.getElem?_map, Option.getD_some, Int.toNat_natCast, Int.natCast_nonneg, List.length_map, c0, hn2, z0, hset_hset, len3, T27_30, s30', T27_72, s72, hR1, hR2, hR3, w1, k1, k2, k7, k8, k9, hget, g0, g1, g2, l0, l1, l2, h1,
    T27_66, T27_67, T27_70, sS, s66, okLs, ok_one, o1, o2, o3, e1, w2, w3, k3, k4, k5, k6, Nat.sub_zero]
  refine app_lv (q := (.none 4, ⟨false, ifT b.2.t c.2.t d.2.t⟩)) (lvH h.fr hcut _) (by simp only [encQ, ifT, decL_map, dec_one, List.flatten_cons, List.flatten_nil, List.append_nil, List.append_assoc]) rfl (frH h.fr 6 _) (by omega) (by omega) (fun id2 rest2 hid3 hid2 => ?_)
  obtain ⟨i1, i2⟩ := id_ok h.fr hid2 (by omega)
  have zi : (id2 = 0) = False := eq_false (by omega)
  simp only [eE, eN, reduceCtorEq, Nat.reduceEqDiff, ↓reduceIte, Int.reduceEq, afterR, zi, z0, c0, e]
  exact .mk ⟨i + 1, q0 ++ [(.none 4, ⟨false, ifT b.2.t c.2.t d.2.t⟩)], _, _, _⟩ rfl (h.next hlt hs (tk_app (fun q hq => h.tk q (by simp [hq])) rfl) hid3 (by simp only []; omega) (by simp only []; omega) i2 rfl) (by simp only [m27]; omega)
end Go.AM
end
section
set_option maxRecDepth 20000
set_option linter.all false
set_option maxHeartbeats 1000000
namespace Go.AM
open Go.Proofs Go.Lib
theorem brD {p : List Wd} {Q : AExit → AS → Prop} {i : Nat} {q0 : List QP} {a b : QP} {lv : AVal} {H : AHeap} {n : Nat} (h : Stt p i (q0 ++ [a, b]) lv H n) (hqn : (q0 ++ [a, b]).length ≤ 256) (hqt : ∀ q ∈ q0 ++ [a, b], q.2.t.length ≤ 1280) (hp : p.length ≤ 256) (hlt : i < p.length) {O : Int} (hw : p[i] = ⟨O, 0⟩) (hO : 3 ≤ O ∧ O ≤ 9) (h1 : a.2.c = false) (h2 : b.2.c = false) : G27 p Q ⟨i, q0 ++ [a, b], lv, H, n⟩ := by
  have c0 := h.c0
  have c15 := h.c15
  have c17 := h.c17
  have c19 := h.c19
  have c21 := h.c21
  have c23 := h.c23
  have c25 := h.c25
  have c27' := h.c27
  have hg : p[i]? = some p[i] := List.getElem?_eq_getElem hlt
  have hn2 := h.fr (n + 2) (by omega)
  have n29 := h.n29
  have z0 : (n + 2 = 0) = False := eq_false (by omega)
  have z15 : (n + 2 = 15) = False := eq_false (by omega)
  have z17 : (n + 2 = 17) = False := eq_false (by omega)
  have z19 : (n + 2 = 19) = False := eq_false (by omega)
  have z21 : (n + 2 = 21) = False := eq_false (by omega)
  have z23 : (n + 2 = 23) = False := eq_false (by omega)
  have z25 : (n + 2 = 25) = False := eq_false (by omega)
  have z27 : (n + 2 = 27) = False := eq_false (by omega)
  have e := w64_succ (k := i) (by omega)
  have hs : ∀ x, x = binT O a.2.t b.2.t → stepP (stk (q0 ++ [a, b])) p[i] = some (stk (q0 ++ [(.none 4, ⟨decide (O = 9), x⟩)])) := fun x hx => by
    subst hx
    rw [hw, stk_app, stk2]; simp only [stepP]
    rw [if_neg (by omega), if_neg (by omega), if_neg (by simp), if_neg (by omega), if_pos hO, if_pos ⟨h1, h2⟩]
  have len3 : (q0 ++ [a, b]).length = q0.length + 2 := by simp
  rw [len3] at hqn
  rcases h.lvo with ⟨-, q⟩ | ⟨id, rest, rfl, hid, hob⟩
  · simp at q
  have hidn : id ≠ n + 2 := by have := h.fr.lt hob; omega
  obtain ⟨L, hL, V⟩ := view (m := n + 2) hob (Ne.symm hidn)
  have g0 := V.at' q0.length a (by rw [List.getElem?_append_right (by omega), Nat.sub_self]; rfl)
  have g1 := V.at' (q0.length + 1) b (by rw [List.getElem?_append_right (by omega), Nat.add_sub_cancel_left]; rfl)
  have lL := V.len
  rw [len3] at lL
  have l0 : q0.length < L.length := by omega
  have l1 : q0.length + 1 < L.length := by omega
  have hget := V.get
  have href := V.ref
  have hsub := fun X => V.sub X q0 a b rfl
  rw [len3] at href hsub
  have hR1 : ∀ X, (refL (hset H (n + 2) X) id 0 (q0.length + 2)).length = q0.length + 2 := fun X => by rw [href]; simp
  have hR2 : ∀ X, allAg (refL (hset H (n + 2) X) id 0 (q0.length + 2)) = True := fun X => by rw [href]; exact ag_all _
  have hR3 : ∀ X, (refL (hset H (n + 2) X) id (q0.length + 2 - 2) 2).any cmpA = false := fun X => by rw [hsub]; simp [cmpA, h1, h2]
  have ta := h.tk a (by simp)
  have tb := h.tk b (by simp)
  have sa := hqt a (by simp)
  have sb := hqt b (by simp)
  have w1 : IntKind.wrap .i64 (((q0.length + 2 : Nat) : Int) - 2) = (q0.length : Int) := by rw [w64_in (by omega) (by omega)]; omega
  have w2 := w64_succ (k := q0.length) (by omega)
  have k2 : ((q0.length : Int) < ((q0.length + 2 : Nat) : Int)) = True := eq_true (by omega)
  have k3 : (((q0.length + 1 : Nat) : Int) < ((q0.length + 2 : Nat) : Int)) = True := eq_true (by omega)
  have k5 : ((q0.length : Int) ≤ ((q0.length + 2 : Nat) : Int)) = True := eq_true (by omega)
  have k7 : (2 ≤ q0.length + 2) = True := eq_true (by omega)
  have k8 : (q0.length + 2 ≤ 100000) = True := eq_true (by omega)
  have k10 : (a.2.t.length ≤ 100000) = True := eq_true (by omega)
  have k11 : (b.2.t.length ≤ 100000) = True := eq_true (by omega)
  have hcut : LvOK H (.ref id 2 0 q0.length ((q0 ++ [a, b]).length + rest.length)) q0 := LvOK.cut (q1 := [a, b]) hid hob
  rw [len3] at c0 hcut
  generalize hcap : q0.length + 2 + rest.length = cap at c0 hcut
  have k6 : ((0 : Int) < (cap : Int)) = True := eq_true (by omega)
  have k9 : (q0.length + 2 ≤ cap) = True := eq_true (by omega)
  have o1 := okQ ta
  have o2 := okQ tb
  rw [hw] at hg
  unfold G27
  have hcase : O = 3 ∨ O = 4 ∨ O = 5 ∨ O = 6 ∨ O = 7 ∨ O = 8 ∨ O = 9 := by omega
  rcases hcase with q | q | q | q | q | q | q
  all_goals
    rw [q] at hg
    simp only [kont_nil, kont_n, kont_e, kont_r, kont_br, k_skip, k_exit, k_ret, k_seq, k_block, k_cond, k_reg, r_appR, r_nil, r_v, r_vg, r_pick, r_alloc, r_st, r_call, r_callg, stE, callT, lpQ_e, lpQ_r, gok, gvb, eget, lk, lkv, oks, AS.put, AS.keep, evk, evB_eq, allB, fillB, evS_eq, allS, fillS, splice, Opk.opds, aload, isI, isInt, toI, isB, toB, sel_f, sel_bb, mk, icmp, iarith, bnd, bndI, nT, hget_hset, AVal.cells, Tok.esz, Option.toList, List.length_cons, List.length_nil, List.filterMap, List.map_cons, List.map_nil, List.append_nil, List.nil_append, List.cons_append, Option.map_some, reduceCtorEq, and_true, true_and, forall_const, Nat.reduceEqDiff, ↓reduceIte, Bool.false_eq_true, Nat.reduceAdd, List.drop, List.take, List.drop_succ_cons, List.take_succ_cons, Nat.reduceLeDiff, Nat.reduceMul, Nat.reduceLT, Int.reduceEq, Int.reduceLE, Int.reduceLT, Int.reduceToNat, List.set_cons_zero, List.set_cons_succ, List.replicate_succ, List.replicate_zero, Nat.le_refl, List.headD_cons, Bool.true_and, Bool.and_true, beq_self_eq_true, isDiv, false_implies, implies_true, Nat.zero_add, imp_self, beq_true, Bool.not_eq_true', Bool.not_eq_false', ne_eq, not_false_eq_true, impA1, and_self, or_false, Nat.add_zero, Nat.add_assoc, srcOf, decide_true, decide_false, Bool.and_false, cond_true, cond_false, bodyOf27, c27, Int.ofNat_lt, hlt, hg, List.getElem?_map, Option.getD_some, Int.toNat_natCast, Int.natCast_nonneg, List.length_map, c0, c15, c17, c19, c21, c23, c25, c27', z15, z17, z19, z21, z23, z25, z27, hn2, z0, hset_hset, len3, T27_30, s30', T27_72, s72, hR1, hR2, hR3, w1, k7, k8, k9, hget, g0, g1, l0, l1, T27_65, T27_69, T27_71, s65, s69, s71, o1, o2, decK_map, k10, k11, w2, k2, k3, k5, k6, Nat.sub_zero]
    refine ⟨by decide, ?_⟩
    refine app_lv (z := .agg [.sl .nil [], .bool false]) (q := (.none 4, ⟨decide (O = 9), binT O a.2.t b.2.t⟩)) (lvH h.fr hcut _) (by rw [q] <;> rfl) rfl (frH h.fr 24 _) (by omega) (by omega) (fun id2 rest2 hid3 hid2 => ?_)
    obtain ⟨i1, i2⟩ := id_ok h.fr hid2 (by omega)
    have zi : (id2 = 0) = False := eq_false (by omega)
    simp only [kont_nil, kont_n, kont_bn, k_reg, r_nil, r_v, r_st, stE, lpQ_n, eget, lk, lkv, oks, AS.put, AS.keep, evk, splice, Opk.opds, isI, toI, iarith, nT, hget_hset, AVal.cells, List.length_cons, List.length_nil, List.filterMap, List.append_nil, List.nil_append, Option.map_some, reduceCtorEq, true_and, Nat.reduceEqDiff, ↓reduceIte, Bool.false_eq_true, List.drop, List.take, List.drop_succ_cons, Int.reduceEq, Nat.le_refl, isDiv, implies_true, Nat.zero_add, ne_eq, not_false_eq_true, and_self, Nat.add_zero, afterR, zi, z0, c0, e]
    exact .mk ⟨i + 1, q0 ++ [(.none 4, ⟨decide (O = 9), binT O a.2.t b.2.t⟩)], _, _, _⟩ rfl (h.next hlt (hs _ rfl) (tk_app (fun q hq => h.tk q (by simp [hq])) rfl) hid3 (by simp only []; omega) (by simp only []; omega) i2 rfl) (by simp only [m27]; omega)
end Go.AM
end
section
set_option maxRecDepth 20000
set_option linter.all false
set_option maxHeartbeats 1000000
namespace Go.AM
open Go.Proofs Go.Lib
def Bad27 (Q : AExit → AS → Prop) : Prop := ∀ H' n', hget H' 0 = some (.box [.sl .nil []]) → Q .ret ⟨[(2, true, .ptr 0 0), (3, true, .bool false)], H', n'⟩
theorem and_no {a b : Bool} (h : ¬ (a = true ∧ b = true)) : (a && b) = false := by cases a <;> cases b <;> simp_all
theorem brE0 {p : List Wd} {Q : AExit → AS → Prop} {i : Nat} {qs : List QP} {lv : AVal} {H : AHeap} {n : Nat} (h : Stt p i qs lv H n) (hqn : qs.length ≤ 256) (hp : p.length ≤ 256) (hlt : i < p.length) {O N : Int} (hw : p[i] = ⟨O, N⟩)
    (hO : (O = 1 ∧ ¬ (0 ≤ N ∧ N ≤ 1048576)) ∨ (O = 2 ∧ ¬ (0 ≤ N ∧ N < 5)) ∨ (O = 10 ∧ N ≠ 0) ∨ (3 ≤ O ∧ O ≤ 9 ∧ N ≠ 0) ∨ O < 1 ∨ 10 < O) (hQ : Bad27 Q) : G27 p Q ⟨i, qs, lv, H, n⟩ := by
  have c0 := h.c0
  have hg : p[i]? = some p[i] := List.getElem?_eq_getElem hlt
  have hn2 := h.fr (n + 2) (by omega)
  have n29 := h.n29
  have z0 : (n + 2 = 0) = False := eq_false (by omega)
  have hlen : ((namesI.map AVal.str).length : Int) = 5 := rfl
  obtain ⟨NM, hNM⟩ : ∃ NM, NM = namesI.map AVal.str := ⟨_, rfl⟩
  have hT : ∀ H', T27 30 [] H' = (True, .sl (.none 1) NM) := fun H' => by rw [hNM]; rfl
  rw [← hNM] at hlen
  rw [hw] at hg
  unfold G27
  rcases hO with ⟨rfl, hN⟩ | ⟨rfl, hN⟩ | ⟨rfl, hN⟩ | ⟨o1, o2, hN⟩ | o1
  · have hN' : (decide (0 ≤ N) && decide (N ≤ 1048576)) = false := and_no (by simpa using hN)
    simp only [eE, eN, k_cond, sel_f, sel_bb, reduceCtorEq, Nat.reduceEqDiff, ↓reduceIte, Nat.reduceAdd, Nat.reduceLeDiff, Nat.reduceMul, Nat.reduceLT, Int.reduceEq, Int.reduceLE, Int.reduceLT, Int.reduceToNat, bodyOf27, c27, Int.ofNat_lt, hlt, hg, List.getElem?_map, Option.getD_some, Int.toNat_natCast, Int.natCast_nonneg, List.length_map, c0, hn2, z0, hset_hset, hT, hlen, hN']
    exact hQ _ _ (hget_hset_eq ..)
  · have hN' : (decide (0 ≤ N) && decide (N < 5)) = false := and_no (by simpa using hN)
    simp only [eE, eN, k_cond, sel_f, sel_bb, reduceCtorEq, Nat.reduceEqDiff, ↓reduceIte, Nat.reduceAdd, Nat.reduceLeDiff, Nat.reduceMul, Nat.reduceLT, Int.reduceEq, Int.reduceLE, Int.reduceLT, Int.reduceToNat, bodyOf27, c27, Int.ofNat_lt, hlt, hg, List.getElem?_map, Option.getD_some, Int.toNat_natCast, Int.natCast_nonneg, List.length_map, c0, hn2, z0, hset_hset, hT, hlen, hN']
    exact hQ _ _ (hget_hset_eq ..)
  · simp only [eE, eN, k_cond, sel_f, sel_bb, reduceCtorEq, Nat.reduceEqDiff, ↓reduceIte, Nat.reduceAdd, Nat.reduceLeDiff, Nat.reduceMul, Nat.reduceLT, Int.reduceEq, Int.reduceLE, Int.reduceLT, Int.reduceToNat, bodyOf27, c27, Int.ofNat_lt, hlt, hg, List.getElem?_map, Option.getD_some, Int.toNat_natCast, Int.natCast_nonneg, List.length_map, c0, hn2, z0, hset_hset, hT, hlen, hN]
    exact hQ _ _ (hget_hset_eq ..)
  · have x1 : (O = 1) = False := eq_false (by omega)
    have x2 : (O = 2) = False := eq_false (by omega)
    have x3 : (O = 10) = False := eq_false (by omega)
    have x4 : (3 ≤ O) = True := eq_true o1
    have x5 : (O < 10) = True := eq_true (by omega)
    simp only [eE, eN, k_cond, sel_f, sel_bb, reduceCtorEq, Nat.reduceEqDiff, ↓reduceIte, Nat.reduceAdd, Nat.reduceLeDiff, Nat.reduceMul, Nat.reduceLT, Int.reduceEq, Int.reduceLE, Int.reduceToNat, bodyOf27, c27, Int.ofNat_lt, hlt, hg, List.getElem?_map, Option.getD_some, Int.toNat_natCast, Int.natCast_nonneg, List.length_map, c0, hn2, z0, hset_hset, hT, hlen, hN, x1, x2, x3, x4, x5]
    exact hQ _ _ (hget_hset_eq ..)
  · have x1 : (O = 1) = False := eq_false (by omega)
    have x2 : (O = 2) = False := eq_false (by omega)
    have x3 : (O = 10) = False := eq_false (by omega)
    have x4 : (decide (3 ≤ O) && decide (O < 10)) = false := and_no (by simp; omega)
    simp only [eE, eN, k_cond, sel_f, sel_bb, reduceCtorEq, Nat.reduceEqDiff, ↓reduceIte, Nat.reduceAdd, Nat.reduceLeDiff, Nat.reduceMul, Nat.reduceLT, Int.reduceEq, Int.reduceLE, Int.reduceToNat, bodyOf27, c27, Int.ofNat_lt, hlt, hg, List.getElem?_map, Option.getD_some, Int.toNat_natCast, Int.natCast_nonneg, List.length_map, c0, hn2, z0, hset_hset, hT, hlen, x1, x2, x3, x4]
    exact hQ _ _ (hget_hset_eq ..)
theorem brE1 {p : List Wd} {Q : AExit → AS → Prop} {i : Nat} {H : AHeap} {n : Nat} (h : Stt p i [] (.sl .nil []) H n) (hp : p.length ≤ 256) (hlt : i < p.length) {O : Int} (hw : p[i] = ⟨O, 0⟩) (hO : 3 ≤ O ∧ O ≤ 10) (hQ : Bad27 Q) : G27 p Q ⟨i, [], .sl .nil [], H, n⟩ := by
  have c0 := h.c0
  have hg : p[i]? = some p[i] := List.getElem?_eq_getElem hlt
  have hn2 := h.fr (n + 2) (by omega)
  have n29 := h.n29
  have z0 : (n + 2 = 0) = False := eq_false (by omega)
  rw [hw] at hg
  have x1 : (O = 1) = False := eq_false (by omega)
  have x2 : (O = 2) = False := eq_false (by omega)
  have x4 : (3 ≤ O) = True := eq_true hO.1
  have k0 : ((2 : Int) < ((0 : Nat) : Int)) = False := eq_false (by decide)
  unfold G27
  by_cases h10 : O = 10
  · subst h10
    simp only [eE, eN, k_cond, sel_f, sel_bb, reduceCtorEq, Nat.reduceEqDiff, ↓reduceIte, Nat.reduceAdd, Nat.reduceLeDiff, Nat.reduceMul, Nat.reduceLT, Int.reduceEq, Int.reduceLE, Int.reduceLT, Int.reduceToNat, bodyOf27, c27, Int.ofNat_lt, hlt, hg, List.getElem?_map, Option.getD_some, Int.toNat_natCast, Int.natCast_nonneg, List.length_map, c0, hn2, z0, hset_hset, k0, T27_72, s72]
    exact hQ _ _ (hget_hset_eq ..)
  · have x3 : (O = 10) = False := eq_false h10
    have x5 : (O < 10) = True := eq_true (by omega)
    simp only [eE, eN, k_cond, sel_f, sel_bb, reduceCtorEq, Nat.reduceEqDiff, ↓reduceIte, Nat.reduceAdd, Nat.reduceLeDiff, Nat.reduceMul, Nat.reduceLT, Int.reduceEq, Int.reduceLE, Int.reduceToNat, bodyOf27, c27, Int.ofNat_lt, hlt, hg, List.getElem?_map, Option.getD_some, Int.toNat_natCast, Int.natCast_nonneg, List.length_map, c0, hn2, z0, hset_hset, k0, T27_72, s72, x1, x2, x3, x4, x5]
    exact hQ _ _ (hget_hset_eq ..)
theorem brE2 {p : List Wd} {Q : AExit → AS → Prop} {i : Nat} {qs : List QP} {id : Nat} {rest : List AVal} {H : AHeap} {n : Nat} (h : Stt p i qs (.ref id 2 0 qs.length (qs.length + rest.length)) H n) (hob : hget H id = some (.arr 2 (qs.map encQ ++ rest))) (hqn : qs.length ≤ 256) (hp : p.length ≤ 256) (hlt : i < p.length) {O : Int} (hw : p[i] = ⟨O, 0⟩) (hO : 3 ≤ O ∧ O ≤ 10)
    (hs : stepP (stk qs) ⟨O, 0⟩ = none) (hQ : Bad27 Q) : G27 p Q ⟨i, qs, .ref id 2 0 qs.length (qs.length + rest.length), H, n⟩ := by
  have c0 := h.c0
  have hg : p[i]? = some p[i] := List.getElem?_eq_getElem hlt
  have hn2 := h.fr (n + 2) (by omega)
  have n29 := h.n29
  have z0 : (n + 2 = 0) = False := eq_false (by omega)
  have hidn : id ≠ n + 2 := by have := h.fr.lt hob; omega
  obtain ⟨L, hL, V⟩ := view (m := n + 2) hob (Ne.symm hidn)
  have hget := V.get
  have href := V.ref
  have lL := V.len
  have hR1 : ∀ X, (refL (hset H (n + 2) X) id 0 qs.length).length = qs.length := fun X => by rw [href]; simp
  have hR2 : ∀ X, allAg (refL (hset H (n + 2) X) id 0 qs.length) = True := fun X => by rw [href]; exact ag_all _
  rw [hw] at hg
  have x1 : (O = 1) = False := eq_false (by omega)
  have x2 : (O = 2) = False := eq_false (by omega)
  have x4 : (3 ≤ O) = True := eq_true hO.1
  have k8 : (qs.length ≤ 100000) = True := eq_true (by omega)
  generalize hcap : qs.length + rest.length = cap at c0 lL
  have k9 : (qs.length ≤ cap) = True := eq_true (by omega)
  unfold G27
  by_cases h10 : O = 10
  · subst h10
    by_cases hm : 3 ≤ qs.length
    · obtain ⟨q0, b, c, d, rfl⟩ := split3 hm
      have g0 := V.at' q0.length b (by rw [List.getElem?_append_right (by omega), Nat.sub_self]; rfl)
      have hsub := fun X => V.sub X (q0 ++ [b]) c d (by simp)
      have len3 : (q0 ++ [b, c, d]).length = q0.length + 3 := by simp
      have l0 : q0.length < L.length := by omega
      have w1 : IntKind.wrap .i64 (((q0 ++ [b, c, d]).length : Int) - 3) = (q0.length : Int) := by rw [w64_in (by omega) (by omega)]; omega
      have k1 : ((2 : Int) < ((q0 ++ [b, c, d]).length : Int)) = True := eq_true (by omega)
      have k2 : ((q0.length : Int) < ((q0 ++ [b, c, d]).length : Int)) = True := eq_true (by omega)
      have hP : ∀ X, (b.2.c && (decide (2 ≤ (q0 ++ [b, c, d]).length) && !(refL (hset H (n + 2) X) id ((q0 ++ [b, c, d]).length - 2) 2).any cmpA)) = false := fun X => by
        rw [hsub]
        rw [stk3] at hs
        have : ¬ (b.2.c = true ∧ c.2.c = false ∧ d.2.c = false) := fun q => by simp [stepP, q] at hs
        cases h1 : b.2.c <;> cases h2 : c.2.c <;> cases h3 : d.2.c <;> simp_all [cmpA]
      generalize hqs : q0 ++ [b, c, d] = qs at *
      cases hb : b.2.c with
      | false =>
        simp only [eE, eN, k_cond, sel_bb, reduceCtorEq, Nat.reduceEqDiff, ↓reduceIte, Nat.reduceAdd, Nat.reduceLeDiff, Nat.reduceMul, Nat.reduceLT, Int.reduceEq, Int.reduceLE, Int.reduceLT, Int.reduceToNat, bodyOf27, c27, Int.ofNat_lt, hlt, hg, List.getElem?_map, Option.getD_some, Int.toNat_natCast, Int.natCast_nonneg, List.length_map, c0, hn2, z0, hset_hset, T27_72, s72, hR1, hR2, k8, k9, hget, g0, l0, w1, k1, k2, hb]
        exact hQ _ _ (hget_hset_eq ..)
      | true =>
        rw [hb] at hP
        simp only [Bool.true_and] at hP
        simp only [eE, eN, k_cond, sel_bb, reduceCtorEq, Nat.reduceEqDiff, ↓reduceIte, Nat.reduceAdd, Nat.reduceLeDiff, Nat.reduceMul, Nat.reduceLT, Int.reduceEq, Int.reduceLE, Int.reduceLT, Int.reduceToNat, bodyOf27, c27, Int.ofNat_lt, hlt, hg, List.getElem?_map, Option.getD_some, Int.toNat_natCast, Int.natCast_nonneg, List.length_map, c0, hn2, z0, hset_hset, T27_72, s72, hR1, hR2, k8, k9, hget, g0, l0, w1, k1, k2, hb, hP]
        exact hQ _ _ (hget_hset_eq ..)
    · have k1 : ((2 : Int) < (qs.length : Int)) = False := eq_false (by omega)
      simp only [eE, eN, k_cond, sel_f, sel_bb, reduceCtorEq, Nat.reduceEqDiff, ↓reduceIte, Nat.reduceAdd, Nat.reduceLeDiff, Nat.reduceMul, Nat.reduceLT, Int.reduceEq, Int.reduceLE, Int.reduceLT, Int.reduceToNat, bodyOf27, c27, Int.ofNat_lt, hlt, hg, List.getElem?_map, Option.getD_some, Int.toNat_natCast, Int.natCast_nonneg, List.length_map, c0, hn2, z0, hset_hset, T27_72, s72, hR1, hR2, k8, k9, k1]
      exact hQ _ _ (hget_hset_eq ..)
  · have x3 : (O = 10) = False := eq_false h10
    have x5 : (O < 10) = True := eq_true (by omega)
    have hP : ∀ X, (decide (2 ≤ qs.length) && !(refL (hset H (n + 2) X) id (qs.length - 2) 2).any cmpA) = false := fun X => by
      by_cases hm : 2 ≤ qs.length
      · obtain ⟨q0, a, b, rfl⟩ := split2 hm
        have hsub := fun X => V.sub X q0 a b rfl
        rw [hsub]
        rw [stk2] at hs
        have : ¬ (a.2.c = false ∧ b.2.c = false) := fun q => by
          simp only [stepP] at hs
          rw [if_neg (by omega), if_neg (by omega), if_neg (by simp), if_neg h10, if_pos (by omega), if_pos q] at hs
          cases hs
        cases h1 : a.2.c <;> cases h2 : b.2.c <;> simp_all [cmpA]
      · simp [hm]
    simp only [eE, eN, k_cond, sel_f, sel_bb, reduceCtorEq, Nat.reduceEqDiff, ↓reduceIte, Nat.reduceAdd, Nat.reduceLeDiff, Nat.reduceMul, Nat.reduceLT, Int.reduceEq, Int.reduceLE, Int.reduceToNat, bodyOf27, c27, Int.ofNat_lt, hlt, hg, List.getElem?_map, Option.getD_some, Int.toNat_natCast, Int.natCast_nonneg, List.length_map, c0, hn2, z0, hset_hset, T27_72, s72, hR1, hR2, k8, k9, x1, x2, x3, x4, x5, hP]
    exact hQ _ _ (hget_hset_eq ..)
end Go.AM
end
section
set_option maxRecDepth 20000
set_option linter.all false
set_option maxHeartbeats 1000000
namespace Go.AM
open Go.Proofs Go.Lib
theorem p27 (p : List Wd) (hp : p.length ≤ 256) : ACalls Tryz.prog 27 [.sl (.none 2) (p.map encW)] hnil 0 (R27 p) := by
  refine a27 (ev_awp T27_ok (ev_evK ?_))
  simp only [eE, eN, reduceCtorEq, Nat.reduceEqDiff, ↓reduceIte, Nat.reduceAdd, c27]
  refine (p64 [43] (by rfl)).mono ?_
  rintro o H1 n1 ⟨rfl, rfl, rfl⟩
  simp only [eE, reduceCtorEq, Nat.reduceEqDiff, ↓reduceIte, Nat.reduceAdd, retK]
  refine (p64 [45] (by rfl)).mono ?_
  rintro o H1 n1 ⟨rfl, rfl, rfl⟩
  simp only [eE, reduceCtorEq, Nat.reduceEqDiff, ↓reduceIte, Nat.reduceAdd, retK]
  refine (p64 [42] (by rfl)).mono ?_
  rintro o H1 n1 ⟨rfl, rfl, rfl⟩
  simp only [eE, reduceCtorEq, Nat.reduceEqDiff, ↓reduceIte, Nat.reduceAdd, retK]
  refine (p64 [47] (by rfl)).mono ?_
  rintro o H1 n1 ⟨rfl, rfl, rfl⟩
  simp only [eE, reduceCtorEq, Nat.reduceEqDiff, ↓reduceIte, Nat.reduceAdd, retK]
  refine (p68 [109, 105, 110] (by rfl)).mono ?_
  rintro o H1 n1 ⟨rfl, rfl, rfl⟩
  simp only [eE, reduceCtorEq, Nat.reduceEqDiff, ↓reduceIte, Nat.reduceAdd, retK]
  refine (p68 [109, 97, 120] (by rfl)).mono ?_
  rintro o H1 n1 ⟨rfl, rfl, rfl⟩
  simp only [eE, eN, reduceCtorEq, Nat.reduceEqDiff, ↓reduceIte, Nat.reduceAdd, Nat.reduceLeDiff, retK, List.length_map, hset_hset]
  refine k_loop (st27 p) (inv27 p) (m27 p) ⟨0, [], .sl .nil [], hset (hset (hset (hset (hset (hset (hset (hset hnil 0 (.box [.sl .nil []])) 17 (.box [.str [43]])) 19 (.box [.str [45]])) 21 (.box [.str [42]])) 23 (.box [.str [47]])) 25 (.box [.str sMin])) 27 (.box [.str sMax])) 15 (.box fns27), 29⟩ rfl ?_ ?_
  · refine ⟨Nat.zero_le _, ?_, Nat.le_refl _, .inl ⟨rfl, rfl⟩, by rfl, by rfl, by rfl, by rfl, by rfl, by rfl, by rfl, by rfl, rfl, fun q hq => by cases hq⟩
    intro j hj
    simp only [] at hj
    simp only [hget_hset]
    repeat rw [if_neg (by omega)]
    rfl
  rintro ⟨i, qs, lv, H, n⟩ h
  have h : Stt p i qs lv H n := h
  obtain ⟨hqn, hqt⟩ := h.size hp
  have c0 := h.c0
  by_cases hlt : i < p.length
  case neg =>
    have hi : i = p.length := by have := h.hi; omega
    subst hi
    have hrun := h.run
    rw [List.take_length] at hrun
    have hpT : ((p.length : Int) ≤ 256) = True := eq_true (by omega)
    rcases h.lvo with ⟨rfl, rfl⟩ | ⟨id, rest, rfl, hid, hob⟩
    · have hw : wholeP p = none := by unfold wholeP; rw [hrun]; simp [stk]
      have k1 : (((0 : Nat) : Int) = 1) = False := eq_false (by decide)
      simp only [eE, eN, k_cond, sel, reduceCtorEq, Nat.reduceEqDiff, ↓reduceIte, Nat.reduceAdd, Nat.reduceLeDiff, Nat.reduceMul, Nat.reduceLT, Int.reduceEq, Int.reduceLE, Int.reduceToNat, Int.ofNat_lt, hlt, c0, hpT, k1, rcell, List.length_map]
      exact .inl ⟨hw, _, rfl⟩
    · have zid : (id = 0) = False := eq_false (by omega)
      by_cases h1 : qs.length = 1
      · obtain ⟨q, rfl⟩ := List.length_eq_one_iff.1 h1
        have k1 : (((([q] : List QP).length : Nat) : Int) = 1) = True := eq_true rfl
        have hl : (0 : Nat) < (([q] : List QP).map encQ ++ rest).length := by simp
        have hq0 : (([q] : List QP).map encQ ++ rest)[0]? = some (encQ q) := rfl
        generalize hL : ([q] : List QP).map encQ ++ rest = L at hob hl hq0
        simp only [eE, eN, k_cond, sel, reduceCtorEq, Nat.reduceEqDiff, ↓reduceIte, Nat.reduceAdd, Nat.reduceLeDiff, Nat.reduceMul, Nat.reduceLT, Int.reduceEq, Int.reduceLE, Int.reduceToNat, Int.ofNat_lt, hlt, c0, hpT, h1, rcell, List.length_map, hob, hq0, hl, Option.getD_some]
        refine ⟨fun _ => by decide, fun _ => by omega, ?_⟩
        cases hc : q.2.c with
        | true =>
          refine .inl ⟨?_, _, by simp []; rfl⟩
          unfold wholeP; rw [hrun]; simp [stk, hc]
        | false =>
          refine .inr ⟨q.2.t, q.1, id, rest, 1 + rest.length, ?_, h.tk q (by simp), by simp [], ?_⟩
          · unfold wholeP; rw [if_neg (by omega), hrun]; simp [stk, hc]
          · rw [hget_hset_ne _ _ _ _ (by omega), hob, ← hL]; simp [encQ, hc]
      · have k1 : ((qs.length : Int) = 1) = False := eq_false (by omega)
        simp only [eE, eN, k_cond, sel, reduceCtorEq, Nat.reduceEqDiff, ↓reduceIte, Nat.reduceAdd, Nat.reduceLeDiff, Nat.reduceMul, Nat.reduceLT, Int.reduceEq, Int.reduceLE, Int.reduceToNat, Int.ofNat_lt, hlt, c0, hpT, k1, rcell, List.length_map]
        refine .inl ⟨?_, _, rfl⟩
        unfold wholeP; rw [if_neg (by omega), hrun]
        split
        · rename_i x hx
          exact absurd (by have := congrArg (fun l : Option (List Prt) => (l.getD []).length) hx; simpa [stk] using this) h1
        · rfl
  generalize hQg : (kont Tryz.prog T27 _ _ : AExit → AS → Prop) = Q
  have hB : wholeP p = none → Bad27 Q := fun hw H' n' h0 => by
    subst hQg
    simp only [eE, eN, Nat.reduceEqDiff, ↓reduceIte, h0, rcell]
    exact .inl ⟨hw, _, rfl⟩
  show G27 p Q ⟨i, qs, lv, H, n⟩
  generalize hw : p[i] = w
  obtain ⟨O, N⟩ := w
  cases hs : stepP (stk qs) ⟨O, N⟩ with
  | none =>
    have hQ := hB (h.bad hlt (by rw [hw]; exact hs))
    by_cases hO : (O = 1 ∧ ¬ (0 ≤ N ∧ N ≤ 1048576)) ∨ (O = 2 ∧ ¬ (0 ≤ N ∧ N < 5)) ∨ (O = 10 ∧ N ≠ 0) ∨ (3 ≤ O ∧ O ≤ 9 ∧ N ≠ 0) ∨ O < 1 ∨ 10 < O
    · exact brE0 h hqn hp hlt hw hO hQ
    · have h1 : O ≠ 1 := fun q => by
        subst q
        by_cases hN : 0 ≤ N ∧ N ≤ 1048576
        · simp [stepP, hN] at hs
        · exact hO (.inl ⟨rfl, hN⟩)
      have h2 : O ≠ 2 := fun q => by
        subst q
        by_cases hN : 0 ≤ N ∧ N < 5
        · simp [stepP, hN] at hs
        · exact hO (.inr (.inl ⟨rfl, hN⟩))
      have hN : N = 0 := by
        rcases Decidable.em (N = 0) with q | q
        · exact q
        · by_cases h10 : O = 10
          · exact absurd (.inr (.inr (.inl ⟨h10, q⟩))) hO
          · exact absurd (.inr (.inr (.inr (by omega)))) hO
      subst hN
      have h3 : 3 ≤ O ∧ O ≤ 10 := by omega
      rcases h.lvo with ⟨rfl, rfl⟩ | ⟨id, rest, rfl, hid, hob⟩
      · exact brE1 h hp hlt hw h3 hQ
      · exact brE2 h hob hqn hp hlt hw h3 hs hQ
  | some st' =>
    have hs' := hs
    unfold stepP at hs
    split at hs
    · rename_i hO
      simp only at hO
      split at hs
      · rename_i hN
        subst hO
        exact brA h hqn hp hlt hw hN.1 hN.2
      · cases hs
    split at hs
    · rename_i hO
      simp only at hO
      split at hs
      · rename_i hN
        subst hO
        exact brB h hqn hp hlt hw hN.1 hN.2
      · cases hs
    split at hs
    · cases hs
    rename_i hN
    have hN : N = 0 := by simpa using hN
    subst hN
    split at hs
    · rename_i hO
      simp only at hO
      subst hO
      have hm : 3 ≤ qs.length := by
        have : (stk qs).length = qs.length := by simp [stk]
        split at hs
        · rename_i he; rw [he] at this; simp at this; omega
        · cases hs
      obtain ⟨q0, b, c, d, rfl⟩ := split3 hm
      rw [stk3] at hs
      simp only [] at hs
      split at hs
      · rename_i hc
        exact brC h hqn hqt hp hlt hw hc.1 hc.2.1 hc.2.2
      · cases hs
    split at hs
    · rename_i hO
      simp only at hO
      have hm : 2 ≤ qs.length := by
        have : (stk qs).length = qs.length := by simp [stk]
        split at hs
        · rename_i he; rw [he] at this; simp at this; omega
        · cases hs
      obtain ⟨q0, a, b, rfl⟩ := split2 hm
      rw [stk2] at hs
      simp only [] at hs
      split at hs
      · rename_i hc
        exact brD h hqn hqt hp hlt hw hO hc.1 hc.2
      · cases hs
    · cases hs
end Go.AM
end
