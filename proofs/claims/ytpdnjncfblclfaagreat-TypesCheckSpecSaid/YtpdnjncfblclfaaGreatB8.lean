/-
  Names: each name's number put into a map; two elements with one name end the work · Names: a name's number, sets of symbols, lists copied to be written to · Names: lists copied to be written to; what is sealed at the end; a closure that recovers · Names: Resolve.
  Conditions: none beyond those of its parts.
-/
import Derived.Test.YtpdnjncfblclfaaGreatB7
import Derived.Test.YtpdnjncfblclfaaGreatB5

section
set_option maxRecDepth 20000
set_option linter.all false
namespace Go.AM
open Go.Proofs Go.Lib
abbrev errV (n : Int) : AVal := .ifc 31 (.int .i64 n)
abbrev nmO (l : List Bs) : AObj := .map (nmEs l 0) l.length
def IxPost (H : AHeap) (n id : Nat) (pre ns : List Bs) : AOut → AHeap → Nat → Prop := fun o H' n' =>
  if twiceD (pre ++ ns) = true then o = .pan (errV 161) ∧ H' = hset H id .dead ∧ n' = n else o = .ret (.mp id) ∧ H' = hset H id (nmO (pre ++ ns)) ∧ n' = n
def IxRaw (H : AHeap) (id : Nat) (pre ns : List Bs) : AOut → AHeap → Nat → Prop := fun o H' n' =>
  if twiceD (pre ++ ns) = true then o = .pan (errV 161) ∧ (∃ ob, hget H' id = some ob) ∧ KeepsB id H H' else (∃ v, o = .ret v ∧ Wk v (.mp id)) ∧ hget H' id = some (nmO (pre ++ ns)) ∧ KeepsB id H H'
theorem nmO_under (n : Nat) (l : List Bs) : (nmO l).under n := by
  suffices h : ∀ (i n c : Nat), (AObj.map (nmEs l i) c).under n from h 0 n l.length
  induction l with
  | nil => intro i n c; trivial
  | cons x r ih => intro i n c; exact ⟨trivial, trivial, ih (i + 1) n c⟩
theorem ix_forget {H H' : AHeap} {n id : Nat} {ob ob1 : AObj} (hf : Fresh H n) (hid : id < n) (h1 : hget H' id = some ob1) (hw : OWk ob1 ob) (hu : ob.under n) (h2 : KeepsB id H H') : ForgetOK n H H' (hset H id ob) := by
  refine ⟨fun i o ho => ?_, fun i hi => ?_⟩
  · rw [hget_hset] at ho
    by_cases e : id = i
    · subst e
      rw [if_pos rfl] at ho
      cases ho
      exact ⟨hid, ⟨_, h1, hw⟩, .inl hu⟩
    · rw [if_neg e] at ho
      exact ⟨hf.lt ho, ⟨o, h2 i o (Ne.symm e) ho, OWk.refl _⟩, .inr ho⟩
  · rw [hget_hset]
    split
    · exact fun h => by cases h
    · exact hi
theorem owk_dead (ob : AObj) : OWk ob .dead := ⟨fun _ _ _ _ => trivial, fun h => by cases h⟩
theorem IxPost.of {fid : FuncId} {args : List AVal} {H : AHeap} {n id : Nat} {pre ns : List Bs} (hc : Callable Tryz.prog fid) (hp : hget H id = some (nmO pre)) (h : Fresh H n → id < n → ACalls Tryz.prog fid args H n (IxRaw H id pre ns)) : ACalls Tryz.prog fid args H n (IxPost H n id pre ns) := by
  refine ACalls.fresh hc fun hf => ?_
  have hid := hf.lt hp
  refine ACalls.forget (h hf hid) ?_
  intro o H' n' q
  unfold IxRaw at q
  by_cases ht : twiceD (pre ++ ns) = true
  · rw [if_pos ht] at q
    obtain ⟨rfl, ⟨ob, h1⟩, h2⟩ := q
    exact ⟨.pan (errV 161), hset H id .dead, by unfold IxPost; rw [if_pos ht]; exact ⟨rfl, rfl, rfl⟩, ix_forget hf hid h1 (owk_dead _) trivial h2, Wk.refl _, trivial⟩
  · rw [if_neg ht] at q
    obtain ⟨⟨v, rfl, hw⟩, h1, h2⟩ := q
    exact ⟨.ret (.mp id), hset H id (nmO (pre ++ ns)), by unfold IxPost; rw [if_neg ht]; exact ⟨rfl, rfl, rfl⟩, ix_forget hf hid h1 (OWk.refl _) (nmO_under n _) h2, hw, hid⟩
structure VIx where
  i : Nat
  H : AHeap
  n : Nat
structure IIx (H : AHeap) (n id : Nat) (pre ns : List Bs) (v : VIx) : Prop where
  hi : v.i ≤ ns.length
  hn : n ≤ v.n
  fr : Fresh v.H v.n
  hm : hget v.H id = some (nmO (pre ++ ns.take v.i))
  hk : KeepsB id H v.H
  tw : twiceD (pre ++ ns.take v.i) = false
theorem tw_more {pre ns : List Bs} {i : Nat} (h : i < ns.length) (hin : ns[i] ∈ pre ++ ns.take i) : twiceD (pre ++ ns) = true := by
  have e : pre ++ ns = (pre ++ ns.take i) ++ ns[i] :: ns.drop (i + 1) := by
    rw [List.append_assoc, ← List.drop_eq_getElem_cons h, List.take_append_drop]
  rw [e]; exact twice_in hin
theorem tw_next {l : List Bs} {s : Bs} (h : twiceD l = false) (hs : s ∉ l) : twiceD (l ++ [s]) = false := twice_app.2 ⟨h, hs⟩
theorem p37 (x : DSym) : Pur Tryz.prog 37 [encSy x] (.str x.nm) := by
  refine .mk ⟨encSy_under 0 x, trivial⟩ trivial (a37 (ev_awp TabOK.tnil (ev_evK ?_)))
  simp only [eE, eN, Nat.reduceEqDiff, ↓reduceIte, Nat.reduceAdd, Nat.reduceLeDiff, c37]
theorem p39 (x : DReg) : Pur Tryz.prog 39 [encRg x] (.str x.nm) := by
  refine .mk ⟨encRg_under 0 x, trivial⟩ trivial (a39 (ev_awp TabOK.tnil (ev_evK ?_)))
  simp only [eE, eN, Nat.reduceEqDiff, ↓reduceIte, Nat.reduceAdd, Nat.reduceLeDiff, c39]
theorem p44 (x : DClu) : Pur Tryz.prog 44 [encCl x] (.str x.nm) := by
  refine .mk ⟨encCl_under 0 x, trivial⟩ trivial (a44 (ev_awp TabOK.tnil (ev_evK ?_)))
  simp only [eE, eN, Nat.reduceEqDiff, ↓reduceIte, Nat.reduceAdd, Nat.reduceLeDiff, c44]
theorem p48 (x : DRul) : Pur Tryz.prog 48 [encRu x] (.str x.nm) := by
  refine .mk ⟨encRu_under 0 x, trivial⟩ trivial (a48 (ev_awp TabOK.tnil (ev_evK ?_)))
  simp only [eE, eN, Nat.reduceEqDiff, ↓reduceIte, Nat.reduceAdd, Nat.reduceLeDiff, c48]
theorem p42 (x : Bs) : Pur Tryz.prog 42 [.str x] (.str x) := by
  refine .mk ⟨trivial, trivial⟩ trivial (a42 (ev_awp TabOK.tnil (ev_evK ?_)))
  simp only [eE, eN, reduceCtorEq, ↓reduceIte, c42]
theorem p41 : Pur Tryz.prog 41 [] (eSs givenF) := by
  refine .mk trivial (eSs_under 0 _) (a41 (ev_awp TabOK.tnil (ev_evK ?_)))
  simp only [eE, eN, ↓reduceIte, Nat.reduceLeDiff, Nat.reduceMul, Nat.reduceLT, c41]
  exact Wk.sl (.inl rfl)
def Tx1 : Tab := tadd 37 (s1 dSy any1 fun x => .str ((fun x : DSym => x.nm) x)) tnil
theorem Tx1_ok : TabOK Tryz.prog Tx1 := TabOK.tnil.add (q1 fun x _ => p37 x)
theorem Tx1_e (a : List AVal) (H : AHeap) : Tx1 37 a H = s1 dSy any1 (fun x => .str ((fun x : DSym => x.nm) x)) a H := rfl
theorem t_nsixSy {H : AHeap} {n id : Nat} {pre : List Bs} {l : List DSym} {f : Int} (hl : few l) (hpl : pre.length < 1000000000) (hf0 : f = (pre.length : Int)) (hp : hget H id = some (nmO pre)) (hd : twiceD pre = false) :
    ACalls Tryz.prog 36 [eSys l, .int .i64 f, .fn (.func 37) [] [], .mp id] H n (IxPost H n id pre (l.map (fun x : DSym => x.nm))) := by
  subst hf0
  refine IxPost.of l36 hp fun hf hid => a36 (ev_awp Tx1_ok (ev_evK ?_))
  have hll : l.length < 1000000000 := hl
  simp only [eE, eN, reduceCtorEq, Nat.reduceEqDiff, ↓reduceIte, Nat.reduceAdd, List.length_map, c36]
  refine k_loop (fun v : VIx => ⟨[(1, true, .int .i64 pre.length), (2, true, .fn (.func 37) [] []), (3, true, .mp id), (13, true, eSys l), (14, true, .int .i64 l.length), (15, true, .int .i64 v.i)], v.H, v.n⟩) (IIx H n id pre (l.map (fun x : DSym => x.nm))) (fun v => l.length - v.i)
    ⟨0, H, n⟩ rfl ⟨Nat.zero_le _, Nat.le_refl _, hf, by rw [List.take_zero, List.append_nil]; exact hp, KeepsB.refl _, by rw [List.take_zero, List.append_nil]; exact hd⟩ ?_
  rintro ⟨i, H1, n1⟩ hI
  have hi := hI.hi
  have hn := hI.hn
  have hfr := hI.fr
  have hm := hI.hm
  have hk := hI.hk
  have htw := hI.tw
  simp only [List.length_map] at hi hn hfr hm hk htw
  by_cases hlt : i < l.length
  · have hltm : i < (l.map (fun x : DSym => x.nm)).length := by rw [List.length_map]; exact hlt
    have hg := List.getElem?_eq_getElem hlt
    have hgm : (l.map (fun x : DSym => x.nm))[i] = (fun x : DSym => x.nm) l[i] := List.getElem_map ..
    have e := w64_succ (k := i) (by omega)
    have htk : (l.map (fun x : DSym => x.nm)).take (i + 1) = (l.map (fun x : DSym => x.nm)).take i ++ [(fun x : DSym => x.nm) l[i]] := by rw [List.take_add_one, List.getElem?_eq_getElem hltm, hgm]; rfl
    have hpl2 : (pre ++ (l.map (fun x : DSym => x.nm)).take i).length = pre.length + i := by rw [List.length_append, List.length_take, List.length_map]; omega
    have ew : IntKind.wrap .i64 ((pre.length : Int) + (i : Int)) = ((pre.length + i : Nat) : Int) := by rw [w64_in (by omega) (by omega)]; omega
    have y1 : ∀ k, (n1 + k = id) = False := fun k => eq_false (by omega)
    have y2 : ∀ k, (id = n1 + k) = False := fun k => eq_false (by omega)
    have hin := fun q => tw_more (pre := pre) hltm (by rw [hgm]; exact q)
    generalize hx : l[i] = x at hg hgm htk hin
    have hfi := nm_find0 (pre ++ (l.map (fun x : DSym => x.nm)).take i) ((fun x : DSym => x.nm) x)
    cases hno : numOf (pre ++ (l.map (fun x : DSym => x.nm)).take i) ((fun x : DSym => x.nm) x) with
    | some k =>
      have htt : twiceD (pre ++ l.map (fun x : DSym => x.nm)) = true := hin (by
        apply Classical.byContradiction
        intro q
        rw [numOf_none.2 q] at hno; cases hno)
      rw [hno, Option.map_some] at hfi
      simp only [eE, eC, eN, Nat.reduceEqDiff, ↓reduceIte, Nat.reduceAdd, Nat.reduceLT, xE, Option.getD_some, Option.isSome_some, isF, Int.toNat_natCast, Int.natCast_nonneg, List.length_map, List.getElem?_map, List.getElem?_cons_zero, List.getElem?_cons_succ, lt_T hlt, hg, Tx1_e, s1, dSy_ok, dSy_dec, hm, hfi, nm_fit, KT.is, lookV, fr1 hfr, y1, hset_hset]
      unfold IxRaw
      rw [if_pos htt]
      refine ⟨rfl, ⟨nmO (pre ++ (l.map (fun x : DSym => x.nm)).take i), ?_⟩, ?_⟩
      · rw [hget_hset_ne _ _ _ _ (by omega)]; exact hm
      · exact hk.new hf (by omega)
    | none =>
      rw [hno, Option.map_none] at hfi
      have hms := nm_set hno
      rw [hpl2] at hms
      simp only [eE, eC, eN, Nat.reduceEqDiff, ↓reduceIte, Nat.reduceAdd, Nat.reduceLT, Int.reduceEq, xE, Option.getD_none, Option.getD_some, Option.isSome_none, Int.toNat_natCast, Int.natCast_nonneg, List.length_map, List.getElem?_map, List.getElem?_cons_zero, List.getElem?_cons_succ, lt_T hlt, hg, Tx1_e, s1, dSy_ok, dSy_dec, hm, hfi, nm_fit, KT.is, lookV, fr1 hfr, y1, e, ew, hpl2, hms, hset_hset]
      refine .mk ⟨i + 1, hset (hset H1 (n1 + 3) (.box (encSy x).cells)) id (.map (nmEs (pre ++ (l.map (fun x : DSym => x.nm)).take i ++ [(fun x : DSym => x.nm) x]) 0) (pre.length + (i + 1))), n1 + 6⟩ rfl ⟨by simp only [List.length_map]; omega, by simp only []; omega, ?_, ?_, ?_, ?_⟩ (by simp only []; omega)
      · exact (hfr.hset (m := n1 + 6) (by omega) (by omega)).hset (Nat.le_refl (n1 + 6)) (show id < n1 + 6 by omega)
      · simp only []
        rw [hget_hset_eq, htk, ← List.append_assoc, nmO, List.length_append, hpl2]; rfl
      · exact (hk.new hf (by omega)).set
      · simp only []
        rw [htk, ← List.append_assoc]; exact tw_next htw (numOf_none.1 hno)
  have hi' : i = l.length := by omega
  subst hi'
  have hta : (l.map (fun x : DSym => x.nm)).take l.length = l.map (fun x : DSym => x.nm) := List.take_of_length_le (by rw [List.length_map]; omega)
  rw [hta] at hm htw
  simp only [eE, eC, eN, Nat.reduceEqDiff, ↓reduceIte, lt_F hlt]
  unfold IxRaw
  rw [htw, if_neg (by decide)]
  exact ⟨⟨_, rfl, Wk.refl _⟩, hm, hk⟩
def Tx2 : Tab := tadd 39 (s1 dRg any1 fun x => .str ((fun x : DReg => x.nm) x)) tnil
theorem Tx2_ok : TabOK Tryz.prog Tx2 := TabOK.tnil.add (q1 fun x _ => p39 x)
theorem Tx2_e (a : List AVal) (H : AHeap) : Tx2 39 a H = s1 dRg any1 (fun x => .str ((fun x : DReg => x.nm) x)) a H := rfl
theorem t_nsixRg {H : AHeap} {n id : Nat} {pre : List Bs} {l : List DReg} {f : Int} (hl : few l) (hpl : pre.length < 1000000000) (hf0 : f = (pre.length : Int)) (hp : hget H id = some (nmO pre)) (hd : twiceD pre = false) :
    ACalls Tryz.prog 38 [eRgs l, .int .i64 f, .fn (.func 39) [] [], .mp id] H n (IxPost H n id pre (l.map (fun x : DReg => x.nm))) := by
  subst hf0
  refine IxPost.of l38 hp fun hf hid => a38 (ev_awp Tx2_ok (ev_evK ?_))
  have hll : l.length < 1000000000 := hl
  simp only [eE, eN, reduceCtorEq, Nat.reduceEqDiff, ↓reduceIte, Nat.reduceAdd, List.length_map, c38]
  refine k_loop (fun v : VIx => ⟨[(1, true, .int .i64 pre.length), (2, true, .fn (.func 39) [] []), (3, true, .mp id), (13, true, eRgs l), (14, true, .int .i64 l.length), (15, true, .int .i64 v.i)], v.H, v.n⟩) (IIx H n id pre (l.map (fun x : DReg => x.nm))) (fun v => l.length - v.i)
    ⟨0, H, n⟩ rfl ⟨Nat.zero_le _, Nat.le_refl _, hf, by rw [List.take_zero, List.append_nil]; exact hp, KeepsB.refl _, by rw [List.take_zero, List.append_nil]; exact hd⟩ ?_
  rintro ⟨i, H1, n1⟩ hI
  have hi := hI.hi
  have hn := hI.hn
  have hfr := hI.fr
  have hm := hI.hm
  have hk := hI.hk
  have htw := hI.tw
  simp only [List.length_map] at hi hn hfr hm hk htw
  by_cases hlt : i < l.length
  · have hltm : i < (l.map (fun x : DReg => x.nm)).length := by rw [List.length_map]; exact hlt
    have hg := List.getElem?_eq_getElem hlt
    have hgm : (l.map (fun x : DReg => x.nm))[i] = (fun x : DReg => x.nm) l[i] := List.getElem_map ..
    have e := w64_succ (k := i) (by omega)
    have htk : (l.map (fun x : DReg => x.nm)).take (i + 1) = (l.map (fun x : DReg => x.nm)).take i ++ [(fun x : DReg => x.nm) l[i]] := by rw [List.take_add_one, List.getElem?_eq_getElem hltm, hgm]; rfl
    have hpl2 : (pre ++ (l.map (fun x : DReg => x.nm)).take i).length = pre.length + i := by rw [List.length_append, List.length_take, List.length_map]; omega
    have ew : IntKind.wrap .i64 ((pre.length : Int) + (i : Int)) = ((pre.length + i : Nat) : Int) := by rw [w64_in (by omega) (by omega)]; omega
    have y1 : ∀ k, (n1 + k = id) = False := fun k => eq_false (by omega)
    have y2 : ∀ k, (id = n1 + k) = False := fun k => eq_false (by omega)
    have hin := fun q => tw_more (pre := pre) hltm (by rw [hgm]; exact q)
    generalize hx : l[i] = x at hg hgm htk hin
    have hfi := nm_find0 (pre ++ (l.map (fun x : DReg => x.nm)).take i) ((fun x : DReg => x.nm) x)
    cases hno : numOf (pre ++ (l.map (fun x : DReg => x.nm)).take i) ((fun x : DReg => x.nm) x) with
    | some k =>
      have htt : twiceD (pre ++ l.map (fun x : DReg => x.nm)) = true := hin (by
        apply Classical.byContradiction
        intro q
        rw [numOf_none.2 q] at hno; cases hno)
      rw [hno, Option.map_some] at hfi
      simp only [eE, eC, eN, Nat.reduceEqDiff, ↓reduceIte, Nat.reduceAdd, Nat.reduceLT, xE, Option.getD_some, Option.isSome_some, isF, Int.toNat_natCast, Int.natCast_nonneg, List.length_map, List.getElem?_map, List.getElem?_cons_zero, List.getElem?_cons_succ, lt_T hlt, hg, Tx2_e, s1, dRg_ok, dRg_dec, hm, hfi, nm_fit, KT.is, lookV, fr1 hfr, y1, hset_hset]
      unfold IxRaw
      rw [if_pos htt]
      refine ⟨rfl, ⟨nmO (pre ++ (l.map (fun x : DReg => x.nm)).take i), ?_⟩, ?_⟩
      · rw [hget_hset_ne _ _ _ _ (by omega)]; exact hm
      · exact hk.new hf (by omega)
    | none =>
      rw [hno, Option.map_none] at hfi
      have hms := nm_set hno
      rw [hpl2] at hms
      simp only [eE, eC, eN, Nat.reduceEqDiff, ↓reduceIte, Nat.reduceAdd, Nat.reduceLT, Int.reduceEq, xE, Option.getD_none, Option.getD_some, Option.isSome_none, Int.toNat_natCast, Int.natCast_nonneg, List.length_map, List.getElem?_map, List.getElem?_cons_zero, List.getElem?_cons_succ, lt_T hlt, hg, Tx2_e, s1, dRg_ok, dRg_dec, hm, hfi, nm_fit, KT.is, lookV, fr1 hfr, y1, e, ew, hpl2, hms, hset_hset]
      refine .mk ⟨i + 1, hset (hset H1 (n1 + 3) (.box (encRg x).cells)) id (.map (nmEs (pre ++ (l.map (fun x : DReg => x.nm)).take i ++ [(fun x : DReg => x.nm) x]) 0) (pre.length + (i + 1))), n1 + 6⟩ rfl ⟨by simp only [List.length_map]; omega, by simp only []; omega, ?_, ?_, ?_, ?_⟩ (by simp only []; omega)
      · exact (hfr.hset (m := n1 + 6) (by omega) (by omega)).hset (Nat.le_refl (n1 + 6)) (show id < n1 + 6 by omega)
      · simp only []
        rw [hget_hset_eq, htk, ← List.append_assoc, nmO, List.length_append, hpl2]; rfl
      · exact (hk.new hf (by omega)).set
      · simp only []
        rw [htk, ← List.append_assoc]; exact tw_next htw (numOf_none.1 hno)
  have hi' : i = l.length := by omega
  subst hi'
  have hta : (l.map (fun x : DReg => x.nm)).take l.length = l.map (fun x : DReg => x.nm) := List.take_of_length_le (by rw [List.length_map]; omega)
  rw [hta] at hm htw
  simp only [eE, eC, eN, Nat.reduceEqDiff, ↓reduceIte, lt_F hlt]
  unfold IxRaw
  rw [htw, if_neg (by decide)]
  exact ⟨⟨_, rfl, Wk.refl _⟩, hm, hk⟩
def Tx3 : Tab := tadd 42 (s1 dS any1 fun x => .str ((fun x : Bs => x) x)) tnil
theorem Tx3_ok : TabOK Tryz.prog Tx3 := TabOK.tnil.add (q1 fun x _ => p42 x)
theorem Tx3_e (a : List AVal) (H : AHeap) : Tx3 42 a H = s1 dS any1 (fun x => .str ((fun x : Bs => x) x)) a H := rfl
theorem t_nsixS {H : AHeap} {n id : Nat} {pre : List Bs} {l : List Bs} {f : Int} (hl : few l) (hpl : pre.length < 1000000000) (hf0 : f = (pre.length : Int)) (hp : hget H id = some (nmO pre)) (hd : twiceD pre = false) :
    ACalls Tryz.prog 40 [eSs l, .int .i64 f, .fn (.func 42) [] [], .mp id] H n (IxPost H n id pre (l.map (fun x : Bs => x))) := by
  subst hf0
  refine IxPost.of l40 hp fun hf hid => a40 (ev_awp Tx3_ok (ev_evK ?_))
  have hll : l.length < 1000000000 := hl
  simp only [eE, eN, reduceCtorEq, Nat.reduceEqDiff, ↓reduceIte, Nat.reduceAdd, List.length_map, c40]
  refine k_loop (fun v : VIx => ⟨[(1, true, .int .i64 pre.length), (2, true, .fn (.func 42) [] []), (3, true, .mp id), (13, true, eSs l), (14, true, .int .i64 l.length), (15, true, .int .i64 v.i)], v.H, v.n⟩) (IIx H n id pre (l.map (fun x : Bs => x))) (fun v => l.length - v.i)
    ⟨0, H, n⟩ rfl ⟨Nat.zero_le _, Nat.le_refl _, hf, by rw [List.take_zero, List.append_nil]; exact hp, KeepsB.refl _, by rw [List.take_zero, List.append_nil]; exact hd⟩ ?_
  rintro ⟨i, H1, n1⟩ hI
  have hi := hI.hi
  have hn := hI.hn
  have hfr := hI.fr
  have hm := hI.hm
  have hk := hI.hk
  have htw := hI.tw
  simp only [List.length_map] at hi hn hfr hm hk htw
  by_cases hlt : i < l.length
  · have hltm : i < (l.map (fun x : Bs => x)).length := by rw [List.length_map]; exact hlt
    have hg := List.getElem?_eq_getElem hlt
    have hgm : (l.map (fun x : Bs => x))[i] = (fun x : Bs => x) l[i] := List.getElem_map ..
    have e := w64_succ (k := i) (by omega)
    have htk : (l.map (fun x : Bs => x)).take (i + 1) = (l.map (fun x : Bs => x)).take i ++ [(fun x : Bs => x) l[i]] := by rw [List.take_add_one, List.getElem?_eq_getElem hltm, hgm]; rfl
    have hpl2 : (pre ++ (l.map (fun x : Bs => x)).take i).length = pre.length + i := by rw [List.length_append, List.length_take, List.length_map]; omega
    have ew : IntKind.wrap .i64 ((pre.length : Int) + (i : Int)) = ((pre.length + i : Nat) : Int) := by rw [w64_in (by omega) (by omega)]; omega
    have y1 : ∀ k, (n1 + k = id) = False := fun k => eq_false (by omega)
    have y2 : ∀ k, (id = n1 + k) = False := fun k => eq_false (by omega)
    have hin := fun q => tw_more (pre := pre) hltm (by rw [hgm]; exact q)
    generalize hx : l[i] = x at hg hgm htk hin
    have hfi := nm_find0 (pre ++ (l.map (fun x : Bs => x)).take i) ((fun x : Bs => x) x)
    cases hno : numOf (pre ++ (l.map (fun x : Bs => x)).take i) ((fun x : Bs => x) x) with
    | some k =>
      have htt : twiceD (pre ++ l.map (fun x : Bs => x)) = true := hin (by
        apply Classical.byContradiction
        intro q
        rw [numOf_none.2 q] at hno; cases hno)
      rw [hno, Option.map_some] at hfi
      simp only [eE, eC, eN, Nat.reduceEqDiff, ↓reduceIte, Nat.reduceAdd, Nat.reduceLT, xE, Option.getD_some, Option.isSome_some, isF, Int.toNat_natCast, Int.natCast_nonneg, List.length_map, List.getElem?_map, List.getElem?_cons_zero, List.getElem?_cons_succ, lt_T hlt, hg, Tx3_e, s1, dS_ok, dS_dec, hm, hfi, nm_fit, KT.is, lookV]
      unfold IxRaw
      rw [if_pos htt]
      refine ⟨rfl, ⟨nmO (pre ++ (l.map (fun x : Bs => x)).take i), ?_⟩, ?_⟩
      · exact hm
      · exact hk
    | none =>
      rw [hno, Option.map_none] at hfi
      have hms := nm_set hno
      rw [hpl2] at hms
      simp only [eE, eC, eN, Nat.reduceEqDiff, ↓reduceIte, Nat.reduceAdd, Nat.reduceLT, Int.reduceEq, xE, Option.getD_none, Option.getD_some, Option.isSome_none, Int.toNat_natCast, Int.natCast_nonneg, List.length_map, List.getElem?_map, List.getElem?_cons_zero, List.getElem?_cons_succ, lt_T hlt, hg, Tx3_e, s1, dS_ok, dS_dec, hm, hfi, nm_fit, KT.is, lookV, e, ew, hpl2, hms]
      refine .mk ⟨i + 1, hset H1 id (.map (nmEs (pre ++ (l.map (fun x : Bs => x)).take i ++ [(fun x : Bs => x) x]) 0) (pre.length + (i + 1))), n1⟩ rfl ⟨by simp only [List.length_map]; omega, by simp only []; omega, ?_, ?_, ?_, ?_⟩ (by simp only []; omega)
      · exact hfr.hset (m := n1) (Nat.le_refl _) (by omega)
      · simp only []
        rw [hget_hset_eq, htk, ← List.append_assoc, nmO, List.length_append, hpl2]; rfl
      · exact hk.set
      · simp only []
        rw [htk, ← List.append_assoc]; exact tw_next htw (numOf_none.1 hno)
  have hi' : i = l.length := by omega
  subst hi'
  have hta : (l.map (fun x : Bs => x)).take l.length = l.map (fun x : Bs => x) := List.take_of_length_le (by rw [List.length_map]; omega)
  rw [hta] at hm htw
  simp only [eE, eC, eN, Nat.reduceEqDiff, ↓reduceIte, lt_F hlt]
  unfold IxRaw
  rw [htw, if_neg (by decide)]
  exact ⟨⟨_, rfl, Wk.refl _⟩, hm, hk⟩
def Tx4 : Tab := tadd 44 (s1 dCl any1 fun x => .str ((fun x : DClu => x.nm) x)) tnil
theorem Tx4_ok : TabOK Tryz.prog Tx4 := TabOK.tnil.add (q1 fun x _ => p44 x)
theorem Tx4_e (a : List AVal) (H : AHeap) : Tx4 44 a H = s1 dCl any1 (fun x => .str ((fun x : DClu => x.nm) x)) a H := rfl
theorem t_nsixCl {H : AHeap} {n id : Nat} {pre : List Bs} {l : List DClu} {f : Int} (hl : few l) (hpl : pre.length < 1000000000) (hf0 : f = (pre.length : Int)) (hp : hget H id = some (nmO pre)) (hd : twiceD pre = false) :
    ACalls Tryz.prog 43 [eCls l, .int .i64 f, .fn (.func 44) [] [], .mp id] H n (IxPost H n id pre (l.map (fun x : DClu => x.nm))) := by
  subst hf0
  refine IxPost.of l43 hp fun hf hid => a43 (ev_awp Tx4_ok (ev_evK ?_))
  have hll : l.length < 1000000000 := hl
  simp only [eE, eN, reduceCtorEq, Nat.reduceEqDiff, ↓reduceIte, Nat.reduceAdd, List.length_map, c43]
  refine k_loop (fun v : VIx => ⟨[(1, true, .int .i64 pre.length), (2, true, .fn (.func 44) [] []), (3, true, .mp id), (13, true, eCls l), (14, true, .int .i64 l.length), (15, true, .int .i64 v.i)], v.H, v.n⟩) (IIx H n id pre (l.map (fun x : DClu => x.nm))) (fun v => l.length - v.i)
    ⟨0, H, n⟩ rfl ⟨Nat.zero_le _, Nat.le_refl _, hf, by rw [List.take_zero, List.append_nil]; exact hp, KeepsB.refl _, by rw [List.take_zero, List.append_nil]; exact hd⟩ ?_
  rintro ⟨i, H1, n1⟩ hI
  have hi := hI.hi
  have hn := hI.hn
  have hfr := hI.fr
  have hm := hI.hm
  have hk := hI.hk
  have htw := hI.tw
  simp only [List.length_map] at hi hn hfr hm hk htw
  by_cases hlt : i < l.length
  · have hltm : i < (l.map (fun x : DClu => x.nm)).length := by rw [List.length_map]; exact hlt
    have hg := List.getElem?_eq_getElem hlt
    have hgm : (l.map (fun x : DClu => x.nm))[i] = (fun x : DClu => x.nm) l[i] := List.getElem_map ..
    have e := w64_succ (k := i) (by omega)
    have htk : (l.map (fun x : DClu => x.nm)).take (i + 1) = (l.map (fun x : DClu => x.nm)).take i ++ [(fun x : DClu => x.nm) l[i]] := by rw [List.take_add_one, List.getElem?_eq_getElem hltm, hgm]; rfl
    have hpl2 : (pre ++ (l.map (fun x : DClu => x.nm)).take i).length = pre.length + i := by rw [List.length_append, List.length_take, List.length_map]; omega
    have ew : IntKind.wrap .i64 ((pre.length : Int) + (i : Int)) = ((pre.length + i : Nat) : Int) := by rw [w64_in (by omega) (by omega)]; omega
    have y1 : ∀ k, (n1 + k = id) = False := fun k => eq_false (by omega)
    have y2 : ∀ k, (id = n1 + k) = False := fun k => eq_false (by omega)
    have hin := fun q => tw_more (pre := pre) hltm (by rw [hgm]; exact q)
    generalize hx : l[i] = x at hg hgm htk hin
    have hfi := nm_find0 (pre ++ (l.map (fun x : DClu => x.nm)).take i) ((fun x : DClu => x.nm) x)
    cases hno : numOf (pre ++ (l.map (fun x : DClu => x.nm)).take i) ((fun x : DClu => x.nm) x) with
    | some k =>
      have htt : twiceD (pre ++ l.map (fun x : DClu => x.nm)) = true := hin (by
        apply Classical.byContradiction
        intro q
        rw [numOf_none.2 q] at hno; cases hno)
      rw [hno, Option.map_some] at hfi
      simp only [eE, eC, eN, Nat.reduceEqDiff, ↓reduceIte, Nat.reduceAdd, Nat.reduceLT, xE, Option.getD_some, Option.isSome_some, isF, Int.toNat_natCast, Int.natCast_nonneg, List.length_map, List.getElem?_map, List.getElem?_cons_zero, List.getElem?_cons_succ, lt_T hlt, hg, Tx4_e, s1, dCl_ok, dCl_dec, hm, hfi, nm_fit, KT.is, lookV, fr1 hfr, y1, hset_hset]
      unfold IxRaw
      rw [if_pos htt]
      refine ⟨rfl, ⟨nmO (pre ++ (l.map (fun x : DClu => x.nm)).take i), ?_⟩, ?_⟩
      · rw [hget_hset_ne _ _ _ _ (by omega)]; exact hm
      · exact hk.new hf (by omega)
    | none =>
      rw [hno, Option.map_none] at hfi
      have hms := nm_set hno
      rw [hpl2] at hms
      simp only [eE, eC, eN, Nat.reduceEqDiff, ↓reduceIte, Nat.reduceAdd, Nat.reduceLT, Int.reduceEq, xE, Option.getD_none, Option.getD_some, Option.isSome_none, Int.toNat_natCast, Int.natCast_nonneg, List.length_map, List.getElem?_map, List.getElem?_cons_zero, List.getElem?_cons_succ, lt_T hlt, hg, Tx4_e, s1, dCl_ok, dCl_dec, hm, hfi, nm_fit, KT.is, lookV, fr1 hfr, y1, e, ew, hpl2, hms, hset_hset]
      refine .mk ⟨i + 1, hset (hset H1 (n1 + 3) (.box (encCl x).cells)) id (.map (nmEs (pre ++ (l.map (fun x : DClu => x.nm)).take i ++ [(fun x : DClu => x.nm) x]) 0) (pre.length + (i + 1))), n1 + 6⟩ rfl ⟨by simp only [List.length_map]; omega, by simp only []; omega, ?_, ?_, ?_, ?_⟩ (by simp only []; omega)
      · exact (hfr.hset (m := n1 + 6) (by omega) (by omega)).hset (Nat.le_refl (n1 + 6)) (show id < n1 + 6 by omega)
      · simp only []
        rw [hget_hset_eq, htk, ← List.append_assoc, nmO, List.length_append, hpl2]; rfl
      · exact (hk.new hf (by omega)).set
      · simp only []
        rw [htk, ← List.append_assoc]; exact tw_next htw (numOf_none.1 hno)
  have hi' : i = l.length := by omega
  subst hi'
  have hta : (l.map (fun x : DClu => x.nm)).take l.length = l.map (fun x : DClu => x.nm) := List.take_of_length_le (by rw [List.length_map]; omega)
  rw [hta] at hm htw
  simp only [eE, eC, eN, Nat.reduceEqDiff, ↓reduceIte, lt_F hlt]
  unfold IxRaw
  rw [htw, if_neg (by decide)]
  exact ⟨⟨_, rfl, Wk.refl _⟩, hm, hk⟩
def Tx5 : Tab := tadd 48 (s1 dRu any1 fun x => .str ((fun x : DRul => x.nm) x)) tnil
theorem Tx5_ok : TabOK Tryz.prog Tx5 := TabOK.tnil.add (q1 fun x _ => p48 x)
theorem Tx5_e (a : List AVal) (H : AHeap) : Tx5 48 a H = s1 dRu any1 (fun x => .str ((fun x : DRul => x.nm) x)) a H := rfl
theorem t_nsixRu {H : AHeap} {n id : Nat} {pre : List Bs} {l : List DRul} {f : Int} (hl : few l) (hpl : pre.length < 1000000000) (hf0 : f = (pre.length : Int)) (hp : hget H id = some (nmO pre)) (hd : twiceD pre = false) :
    ACalls Tryz.prog 47 [eRus l, .int .i64 f, .fn (.func 48) [] [], .mp id] H n (IxPost H n id pre (l.map (fun x : DRul => x.nm))) := by
  subst hf0
  refine IxPost.of l47 hp fun hf hid => a47 (ev_awp Tx5_ok (ev_evK ?_))
  have hll : l.length < 1000000000 := hl
  simp only [eE, eN, reduceCtorEq, Nat.reduceEqDiff, ↓reduceIte, Nat.reduceAdd, List.length_map, c47]
  refine k_loop (fun v : VIx => ⟨[(1, true, .int .i64 pre.length), (2, true, .fn (.func 48) [] []), (3, true, .mp id), (13, true, eRus l), (14, true, .int .i64 l.length), (15, true, .int .i64 v.i)], v.H, v.n⟩) (IIx H n id pre (l.map (fun x : DRul => x.nm))) (fun v => l.length - v.i)
    ⟨0, H, n⟩ rfl ⟨Nat.zero_le _, Nat.le_refl _, hf, by rw [List.take_zero, List.append_nil]; exact hp, KeepsB.refl _, by rw [List.take_zero, List.append_nil]; exact hd⟩ ?_
  rintro ⟨i, H1, n1⟩ hI
  have hi := hI.hi
  have hn := hI.hn
  have hfr := hI.fr
  have hm := hI.hm
  have hk := hI.hk
  have htw := hI.tw
  simp only [List.length_map] at hi hn hfr hm hk htw
  by_cases hlt : i < l.length
  · have hltm : i < (l.map (fun x : DRul => x.nm)).length := by rw [List.length_map]; exact hlt
    have hg := List.getElem?_eq_getElem hlt
    have hgm : (l.map (fun x : DRul => x.nm))[i] = (fun x : DRul => x.nm) l[i] := List.getElem_map ..
    have e := w64_succ (k := i) (by omega)
    have htk : (l.map (fun x : DRul => x.nm)).take (i + 1) = (l.map (fun x : DRul => x.nm)).take i ++ [(fun x : DRul => x.nm) l[i]] := by rw [List.take_add_one, List.getElem?_eq_getElem hltm, hgm]; rfl
    have hpl2 : (pre ++ (l.map (fun x : DRul => x.nm)).take i).length = pre.length + i := by rw [List.length_append, List.length_take, List.length_map]; omega
    have ew : IntKind.wrap .i64 ((pre.length : Int) + (i : Int)) = ((pre.length + i : Nat) : Int) := by rw [w64_in (by omega) (by omega)]; omega
    have y1 : ∀ k, (n1 + k = id) = False := fun k => eq_false (by omega)
    have y2 : ∀ k, (id = n1 + k) = False := fun k => eq_false (by omega)
    have hin := fun q => tw_more (pre := pre) hltm (by rw [hgm]; exact q)
    generalize hx : l[i] = x at hg hgm htk hin
    have hfi := nm_find0 (pre ++ (l.map (fun x : DRul => x.nm)).take i) ((fun x : DRul => x.nm) x)
    cases hno : numOf (pre ++ (l.map (fun x : DRul => x.nm)).take i) ((fun x : DRul => x.nm) x) with
    | some k =>
      have htt : twiceD (pre ++ l.map (fun x : DRul => x.nm)) = true := hin (by
        apply Classical.byContradiction
        intro q
        rw [numOf_none.2 q] at hno; cases hno)
      rw [hno, Option.map_some] at hfi
      simp only [eE, eC, eN, Nat.reduceEqDiff, ↓reduceIte, Nat.reduceAdd, Nat.reduceLT, xE, Option.getD_some, Option.isSome_some, isF, Int.toNat_natCast, Int.natCast_nonneg, List.length_map, List.getElem?_map, List.getElem?_cons_zero, List.getElem?_cons_succ, lt_T hlt, hg, Tx5_e, s1, dRu_ok, dRu_dec, hm, hfi, nm_fit, KT.is, lookV, fr1 hfr, y1, hset_hset]
      unfold IxRaw
      rw [if_pos htt]
      refine ⟨rfl, ⟨nmO (pre ++ (l.map (fun x : DRul => x.nm)).take i), ?_⟩, ?_⟩
      · rw [hget_hset_ne _ _ _ _ (by omega)]; exact hm
      · exact hk.new hf (by omega)
    | none =>
      rw [hno, Option.map_none] at hfi
      have hms := nm_set hno
      rw [hpl2] at hms
      simp only [eE, eC, eN, Nat.reduceEqDiff, ↓reduceIte, Nat.reduceAdd, Nat.reduceLT, Int.reduceEq, xE, Option.getD_none, Option.getD_some, Option.isSome_none, Int.toNat_natCast, Int.natCast_nonneg, List.length_map, List.getElem?_map, List.getElem?_cons_zero, List.getElem?_cons_succ, lt_T hlt, hg, Tx5_e, s1, dRu_ok, dRu_dec, hm, hfi, nm_fit, KT.is, lookV, fr1 hfr, y1, e, ew, hpl2, hms, hset_hset]
      refine .mk ⟨i + 1, hset (hset H1 (n1 + 3) (.box (encRu x).cells)) id (.map (nmEs (pre ++ (l.map (fun x : DRul => x.nm)).take i ++ [(fun x : DRul => x.nm) x]) 0) (pre.length + (i + 1))), n1 + 6⟩ rfl ⟨by simp only [List.length_map]; omega, by simp only []; omega, ?_, ?_, ?_, ?_⟩ (by simp only []; omega)
      · exact (hfr.hset (m := n1 + 6) (by omega) (by omega)).hset (Nat.le_refl (n1 + 6)) (show id < n1 + 6 by omega)
      · simp only []
        rw [hget_hset_eq, htk, ← List.append_assoc, nmO, List.length_append, hpl2]; rfl
      · exact (hk.new hf (by omega)).set
      · simp only []
        rw [htk, ← List.append_assoc]; exact tw_next htw (numOf_none.1 hno)
  have hi' : i = l.length := by omega
  subst hi'
  have hta : (l.map (fun x : DRul => x.nm)).take l.length = l.map (fun x : DRul => x.nm) := List.take_of_length_le (by rw [List.length_map]; omega)
  rw [hta] at hm htw
  simp only [eE, eC, eN, Nat.reduceEqDiff, ↓reduceIte, lt_F hlt]
  unfold IxRaw
  rw [htw, if_neg (by decide)]
  exact ⟨⟨_, rfl, Wk.refl _⟩, hm, hk⟩
end Go.AM
end
section
set_option maxRecDepth 20000
set_option linter.all false
namespace Go.AM
open Go.Proofs Go.Lib
def NPost (H : AHeap) (n : Nat) (r : Option Int) : AOut → AHeap → Nat → Prop := fun o H' n' => H' = H ∧ n' = n ∧ match r with
  | some k => o = .ret (.int .i64 k)
  | none => o = .pan (errV 160)
theorem t_must {H : AHeap} {n id : Nat} {l : List Bs} {s : Bs} (hp : hget H id = some (nmO l)) : ACalls Tryz.prog 46 [.mp id, .str s] H n (NPost H n (numOf l s)) := by
  refine a46 (ev_awp TabOK.tnil (ev_evK ?_))
  have hf := nm_find0 l s
  cases hno : numOf l s with
  | some k =>
    rw [hno, Option.map_some] at hf
    simp only [eE, eC, eN, reduceCtorEq, Nat.reduceEqDiff, ↓reduceIte, Nat.reduceAdd, Nat.reduceLT, Bool.not_true, xE, Option.getD_some, Option.isSome_some, List.getElem?_cons_zero, List.getElem?_cons_succ, c46, hp, hf, nm_fit, KT.is, lookV]
    exact ⟨rfl, rfl, rfl⟩
  | none =>
    rw [hno, Option.map_none] at hf
    simp only [eE, eC, eN, reduceCtorEq, Nat.reduceEqDiff, ↓reduceIte, Nat.reduceAdd, Nat.reduceLT, Bool.not_false, xE, Option.getD_none, Option.getD_some, Option.isSome_none, isF, List.getElem?_cons_zero, List.getElem?_cons_succ, c46, hp, hf, nm_fit, KT.is, lookV]
    exact ⟨rfl, rfl, rfl⟩
theorem or_nat {a b : Nat} (ha : a < 65536) (hb : b < 65536) : ibits .or .i64 (a : Int) (b : Int) = ((a ||| b : Nat) : Int) := by
  have hab : a ||| b < 65536 := Nat.or_lt_two_pow (n := 16) ha hb
  have e : ∀ x : Nat, BitVec.ofInt 64 (x : Int) = BitVec.ofNat 64 x := fun x => by
    apply BitVec.eq_of_toNat_eq
    simp [BitVec.toNat_ofNat]
  show IntKind.wrap .i64 ((BitVec.ofInt 64 (a : Int) ||| BitVec.ofInt 64 (b : Int)).toNat : Int) = _
  rw [e, e, BitVec.toNat_or, BitVec.toNat_ofNat, BitVec.toNat_ofNat, Nat.mod_eq_of_lt (by omega), Nat.mod_eq_of_lt (by omega), w64_in (by omega) (by omega)]
theorem shl_nat {j : Nat} (h : j < 16) : ishift .shl .i64 1 (j : Int) = ((1 <<< j : Nat) : Int) := by
  have h2 : 2 ^ j < 65536 := Nat.pow_lt_pow_right (by decide) (show j < 16 from h)
  show IntKind.wrap .i64 (1 * 2 ^ (min (j : Int).toNat 64)) = _
  rw [Int.one_mul, Int.toNat_natCast, Nat.min_eq_left (by omega), Nat.shiftLeft_eq, Nat.one_mul]
  have e : ((2 : Int) ^ j) = ((2 ^ j : Nat) : Int) := by rw [Int.natCast_pow]; rfl
  rw [e]
  generalize 2 ^ j = p at h2
  exact w64_in (by omega) (by omega)
theorem shl_lt {j : Nat} (h : j < 16) : 1 <<< j < 65536 := by
  rw [Nat.shiftLeft_eq, Nat.one_mul]; exact Nat.pow_lt_pow_right (by decide) (show j < 16 from h)
def setAcc (l : List Bs) (acc : Nat) (ss : List Bs) : Option Int := (setOf l ss).map fun k => ((acc ||| k.toNat : Nat) : Int)
theorem setAcc_nil (l : List Bs) (acc : Nat) : setAcc l acc [] = some (acc : Int) := by simp [setAcc, setOf]
theorem setAcc_cons {l : List Bs} {acc : Nat} {s : Bs} {r : List Bs} : setAcc l acc (s :: r) = match numOf l s with
    | none => none
    | some j => setAcc l (acc ||| 1 <<< j.toNat) r := by
  unfold setAcc
  rw [setOf_cons, numOf]
  cases l.findIdx? fun x => decide (x = s) with
  | none => rfl
  | some i =>
    simp only [Option.map_some, Int.toNat_natCast]
    cases setOf l r with
    | none => rfl
    | some n =>
      simp only [Option.map_some, Option.some.injEq]
      congr 1
      show acc ||| (Int.ofNat (Nat.lor (1 <<< i) n.toNat)).toNat = _
      rw [Nat.or_assoc]; rfl
theorem setAcc_0 (l ss : List Bs) : setAcc l 0 ss = setOf l ss := by
  unfold setAcc
  rw [setOf_bits]
  cases allSome (fun s => l.findIdx? fun x => decide (x = s)) ss with
  | none => rfl
  | some is => simp
theorem t_set {H : AHeap} {n id sid : Nat} {l ss : List Bs} (hl : l.length ≤ 16) (hss : few ss) (hs : hget H sid = some (.box [.mp id])) (hp : hget H id = some (nmO l)) : ACalls Tryz.prog 50 [eSs ss, .ptr sid 0] H n (NPost H n (setOf l ss)) := by
  refine a50 (ev_awp TabOK.tnil (ev_evK ?_))
  have hsl : ss.length < 1000000000 := hss
  rw [← setAcc_0]
  simp only [eE, eN, reduceCtorEq, Nat.reduceEqDiff, ↓reduceIte, Nat.reduceAdd, List.length_map, c50]
  refine k_loop (fun v : Nat × Nat => ⟨[(1, true, .ptr sid 0), (3, true, .int .i64 v.2), (6, true, eSs ss), (7, true, .int .i64 ss.length), (8, true, .int .i64 v.1)], H, n⟩) (fun v => v.1 ≤ ss.length ∧ v.2 < 65536 ∧ setAcc l 0 ss = setAcc l v.2 (ss.drop v.1)) (fun v => ss.length - v.1) (0, 0) rfl ⟨Nat.zero_le _, by decide, rfl⟩ ?_
  rintro ⟨i, acc⟩ ⟨hi, hacc, heq⟩
  simp only at hi hacc heq
  by_cases hlt : i < ss.length
  · have hg := List.getElem?_eq_getElem hlt
    have e := w64_succ (k := i) (by omega)
    rw [List.drop_eq_getElem_cons hlt, setAcc_cons] at heq
    generalize ss[i] = s at hg heq
    simp only [eE, eC, eN, Nat.reduceEqDiff, ↓reduceIte, Option.getD_some, Int.toNat_natCast, Int.natCast_nonneg, List.length_map, List.getElem?_map, lt_T hlt, hg, hs]
    refine (t_must hp).mono fun o H' n' hq => ?_
    obtain ⟨rfl, rfl, hq⟩ := hq
    cases hno : numOf l s with
    | none =>
      rw [hno] at hq heq
      subst hq
      simp only at heq
      rw [heq]
      simp only [eE, eN, retK]
      exact ⟨rfl, rfl, rfl⟩
    | some k =>
      rw [hno] at hq heq
      subst hq
      simp only at heq
      obtain ⟨h0, h1⟩ := numOf_rng hno
      obtain ⟨j, rfl⟩ : ∃ j : Nat, k = j := ⟨k.toNat, by omega⟩
      rw [Int.toNat_natCast] at heq
      simp only [eE, eN, Nat.reduceEqDiff, ↓reduceIte, Int.reduceEq, Int.natCast_nonneg, retK, shl_nat (show j < 16 by omega), or_nat hacc (shl_lt (show j < 16 by omega)), e]
      exact .mk (i + 1, acc ||| 1 <<< j) rfl ⟨hlt, Nat.or_lt_two_pow (n := 16) hacc (shl_lt (by omega)), heq⟩ (by simp only []; omega)
  obtain rfl : i = ss.length := by omega
  rw [List.drop_length, setAcc_nil] at heq
  rw [heq]
  simp only [eE, eC, eN, Nat.reduceEqDiff, ↓reduceIte, lt_F hlt]
  exact ⟨rfl, rfl, rfl⟩
end Go.AM
end
section
set_option maxRecDepth 20000
set_option linter.all false
namespace Go.AM
open Go.Proofs Go.Lib
def LV (e : Nat) (v : AVal) (H : AHeap) (l : List AVal) : Prop :=
  (l = [] ∧ ∃ t, v = .sl t [] ∧ (t = .nil ∨ t = .exact e)) ∨ (l ≠ [] ∧ ∃ id cap rest, v = .ref id e 0 l.length cap ∧ hget H id = some (.arr e (l ++ rest)) ∧ l.length + rest.length = cap)
def ClPost (e : Nat) (H : AHeap) (n : Nat) (l : List AVal) : AOut → AHeap → Nat → Prop := fun o H' n' =>
  (l = [] ∧ H' = H ∧ n ≤ n' ∧ ∃ t, o = .ret (.sl t []) ∧ (t = .nil ∨ t = .exact e)) ∨ (l ≠ [] ∧ n' = n + 4 ∧ ∃ cap rest, o = .ret (.ref (n + 2) e 0 l.length cap) ∧ H' = hset H (n + 2) (.arr e (l ++ rest)) ∧ l.length + rest.length = cap)
theorem ACalls.out {P : Program} {f : FuncId} {args : List AVal} {H : AHeap} {n : Nat} {R R' : AOut → AHeap → Nat → Prop} (h : ACalls P f args H n R)
    (hr : ∀ o H' n', R o H' n' → ∃ o2, R' o2 H' n' ∧ ∀ g w e, Rel g H' n' w → ERel g o e → ERel g o2 e) : ACalls P f args H n R' :=
  ⟨h.1, fun g w vs r v => (h.2 g w vs r v).mono fun e w' ⟨g', out, H', n', q, he, hR, hn, ht⟩ =>
    let ⟨o2, q2, hw⟩ := hr _ _ _ q; ⟨g', o2, H', n', q2, hw _ _ _ hR he, hR, hn, ht⟩⟩
theorem ACalls.seal {P : Program} {f : FuncId} {args : List AVal} {H : AHeap} {n : Nat} {R R' : AOut → AHeap → Nat → Prop} (h : ACalls P f args H n R)
    (hr : ∀ o H' n', R o H' n' → R' o H' n' ∨ ∃ id e l, hget H' id = some (.arr e l) ∧ R' o (hset H' id (.frz e l)) n') : ACalls P f args H n R' := by
  refine ⟨h.1, fun g w vs r v => (h.2 g w vs r v).mono ?_⟩
  rintro e w' ⟨g', out, H', n', q, he, hR, hn, ht⟩
  rcases hr _ _ _ q with q | ⟨id, es, l, h0, q⟩
  · exact ⟨g', out, H', n', q, he, hR, hn, ht⟩
  · obtain ⟨σ', r1, t1⟩ := hR.freeze (m := n) h0
    refine ⟨_, out, _, n', q, ?_, r1, hn, ht.trans t1⟩
    cases out <;> cases e <;> first | exact he.elim | skip
    · exact VRel.mono t1.le _ _ he
    · obtain ⟨v, hv, hr⟩ := he
      exact ⟨v, hv, VRel.mono t1.le _ _ hr⟩
def LF (e : Nat) (v : AVal) (H : AHeap) (l : List AVal) : Prop :=
  (l = [] ∧ ∃ t, v = .sl t [] ∧ (t = .nil ∨ t = .exact e)) ∨ (l ≠ [] ∧ ∃ id cap rest, v = .ref id e 0 l.length cap ∧ hget H id = some (.frz e (l ++ rest)) ∧ l.length + rest.length = cap)
theorem lf_rel {e : Nat} {v : AVal} {H : AHeap} {l : List AVal} (h : LF e v H l) {g : Ghost} {n : Nat} {w : World} {x : Value} (hR : Rel g H n w) (hv : VRel g v x) : VRel g (.sl (.none e) l) x := by
  rcases h with ⟨rfl, t, rfl, ht⟩ | ⟨hne, id, cap, rest, rfl, ho, hc⟩
  · exact Wk.sl (.inr rfl) _ _ hv
  · obtain ⟨L, h1, h2, rfl⟩ := hv
    obtain ⟨L', j1, j2, j3⟩ := hR.obj id _ ho
    rw [h1] at j1; cases j1
    refine .inr ⟨trivial, L.blk, 0, cap, ⟨none, by simp, .inl rfl⟩, by omega, ?_, trivial⟩
    have := Stab.take l.length _ _ j3
    rw [List.take_left] at this
    exact this
theorem t_clnCl {H : AHeap} {n : Nat} (l : List DClu) (hl : few l) : ACalls Tryz.prog 45 [eCls l] H n (ClPost 6 H n (l.map encCl)) := by
  refine ACalls.fresh l45 fun hf => a45 (ev_awp TabOK.tnil (ev_evK ?_))
  have hll : l.length < 1000000000 := hl
  cases l with
  | nil =>
    simp only [eE, eC, eN, reduceCtorEq, ↓reduceIte, c45]
    refine ⟨?_, ?_⟩
    · simp only [eE, eC, eN, reduceCtorEq, Nat.reduceEqDiff, ↓reduceIte, Nat.reduceAdd, Nat.reduceLT, appRK_sl, afterR, fr1 hf, small, Nat.zero_mul, Nat.zero_le]
      exact .inl ⟨rfl, rfl, Nat.le_add_right _ _, .exact 6, rfl, .inr rfl⟩
    · simp only [eE, eC, eN, reduceCtorEq, ↓reduceIte, Bool.not_false]
      exact .inl ⟨rfl, rfl, Nat.le_refl _, .nil, rfl, .inl rfl⟩
  | cons x r =>
    rw [List.length_cons] at hll
    simp only [eE, eC, eN, reduceCtorEq, Nat.reduceEqDiff, ↓reduceIte, Nat.reduceAdd, Nat.reduceLeDiff, Nat.reduceMul, Nat.reduceLT, List.length_map, c45, eCls, appRK_sl, afterR, fr1 hf]
    refine ⟨small_of (by omega) (by decide), by omega, fun cap hcap => .inr ⟨by simp, rfl, cap, List.replicate (cap - (r.length + 1)) (.agg [.str [], .str [], .int .i64 0, .int .i64 0, .int .i64 0, .int .i64 0]), ?_, ?_, ?_⟩⟩
    · simp
    · simp
    · simp; omega
theorem t_clnRu {H : AHeap} {n : Nat} (l : List DRul) (hl : few l) : ACalls Tryz.prog 49 [eRus l] H n (ClPost 12 H n (l.map encRu)) := by
  refine ACalls.fresh l49 fun hf => a49 (ev_awp TabOK.tnil (ev_evK ?_))
  have hll : l.length < 1000000000 := hl
  cases l with
  | nil =>
    simp only [eE, eC, eN, reduceCtorEq, ↓reduceIte, c49]
    refine ⟨?_, ?_⟩
    · simp only [eE, eC, eN, reduceCtorEq, Nat.reduceEqDiff, ↓reduceIte, Nat.reduceAdd, Nat.reduceLT, appRK_sl, afterR, fr1 hf, small, Nat.zero_mul, Nat.zero_le]
      exact .inl ⟨rfl, rfl, Nat.le_add_right _ _, .exact 12, rfl, .inr rfl⟩
    · simp only [eE, eC, eN, reduceCtorEq, ↓reduceIte, Bool.not_false]
      exact .inl ⟨rfl, rfl, Nat.le_refl _, .nil, rfl, .inl rfl⟩
  | cons x r =>
    rw [List.length_cons] at hll
    simp only [eE, eC, eN, reduceCtorEq, Nat.reduceEqDiff, ↓reduceIte, Nat.reduceAdd, Nat.reduceLeDiff, Nat.reduceMul, Nat.reduceLT, List.length_map, c49, eRus, appRK_sl, afterR, fr1 hf]
    refine ⟨small_of (by omega) (by decide), by omega, fun cap hcap => .inr ⟨by simp, rfl, cap, List.replicate (cap - (r.length + 1)) (.agg [.str [], .str [], .int .i64 0, .int .i64 0, .sl .nil [], .sl .nil [], .int .i64 0, .int .i64 0, .int .i64 0, .int .i64 0, .str [], .int .i64 0]), ?_, ?_, ?_⟩⟩
    · simp
    · simp
    · simp; omega
abbrev decl0 : List AVal := [.str [], .int .i64 0, .int .i64 0, .int .i64 0, .int .i64 0, .sl .nil [], .sl .nil [], .sl .nil [], .sl .nil [], .sl .nil []]
theorem d_rn {H : AHeap} {n i0 i1 : Nat} : ADefer Tryz.prog 35 [.ptr i0 0, .ptr i1 0] .nilifc H n (fun H' n' => H' = H ∧ n' = n) := by
  refine a35 (ev_awp TabOK.tnil (ev_evK ?_))
  simp only [eE, eC, eN, reduceCtorEq, Nat.reduceEqDiff, ↓reduceIte, Nat.reduceAdd, Bool.not_true, xE, c35]
theorem d_rp {H : AHeap} {n : Nat} {xs : List AVal} {y : AVal} {p : Int} (h0 : hget H 1 = some (.box xs)) (hx : xs.length = 10) (h1 : hget H 2 = some (.box [y])) :
    ADefer Tryz.prog 35 [.ptr 1 0, .ptr 2 0] (errV p) H n (fun H' n' => hget H' 1 = some (.box decl0) ∧ hget H' 2 = some (.box [.int .i64 p])) := by
  refine a35 (ev_awp TabOK.tnil (ev_evK ?_))
  obtain ⟨a, b, c, d, e, f, g, h, i, j, rfl⟩ : ∃ a b c d e f g h i j, xs = [a, b, c, d, e, f, g, h, i, j] := by
    match xs, hx with
    | [a, b, c, d, e, f, g, h, i, j], _ => exact ⟨a, b, c, d, e, f, g, h, i, j, rfl⟩
  simp only [eE, eC, eN, reduceCtorEq, Nat.reduceEqDiff, ↓reduceIte, Nat.reduceAdd, xE, c35, h0, h1]
end Go.AM
end
section
set_option maxRecDepth 20000
set_option linter.all false
namespace Go.AM
open Go.Proofs Go.Lib
theorem rx_st0 {P : Program} {T : Tab} {b : Nat} {cx : Nat → AVal} {rx : List (Nat × AOp)} {kp : List Nat} {k : List Item} {Q : AExit → AS → Prop} {s : AS} {d : Option Nat} {sz : Nat} {a x : Opd} : runXK P T b cx ((0, ⟨d, none, .st sz a x⟩) :: rx) kp k Q s = ((lk s.env a).1 = true ∧ (lk s.env x).1 = true ∧ nT (lkv s.env x) ∧ (lkv s.env x).cells.length = sz ∧ (stE s.H sz (lkv s.env x) (lkv s.env a)).1 ∧ runXK P T b cx rx kp k Q ({ s with H := (stE s.H sz (lkv s.env x) (lkv s.env a)).2 }.put d true (.tup []))) := by
  rw [rx_sto, step_st, stE_eq]
  simp only [gvb, forall_const, sideO, true_and]; rfl
abbrev dcl0 : Dcl := ⟨[], 0, 0, 0, 0, [], [], [], [], []⟩
def nresV (d : Dcl) : AVal := match resD d with
  | .error e => .tup [encD dcl0, .int .i64 e]
  | .ok x => .tup [encD x, .int .i64 0]
abbrev cellsNR (d : Dcl) (vc vr : AVal) : List AVal := [.str d.nm, .int .i64 d.ver, .int .i64 d.sh, .int .i64 d.w, .int .i64 d.h, eIs d.holes, eSys d.syms, eRgs d.regs, vc, vr]
def RR (d : Dcl) : AOut → AHeap → Nat → Prop := fun o H' n' => match resD d with
  | .error e => ∃ v, o = .ret v ∧ Wk v (.tup [encD dcl0, .int .i64 e])
  | .ok x => ∃ vc vr, o = .ret (.tup [.agg (cellsNR d vc vr), .int .i64 0]) ∧ LV 6 vc H' (x.clus.map encCl) ∧ LV 12 vr H' (x.ruls.map encRu) ∧ (∀ i a b c e j f g h k, vc = .ref i a b c e → vr = .ref j f g h k → i ≠ j)
def Tnr : Tab := tadd 41 (fun a _ => match a with
  | [] => (True, eSs givenF)
  | _ => (False, .tup [])) tnil
theorem Tnr_ok : TabOK Tryz.prog Tnr := TabOK.tnil.add fun args H n h => by
  cases args with
  | nil => exact p41.quiet H n
  | cons _ _ => exact h.elim
theorem Tnr_g (H : AHeap) : Tnr 41 [] H = (True, eSs givenF) := rfl
abbrev rsR : List RC := [.c 2 10 true, .c 3 1 false]
abbrev envR : List (Nat × Bool × AVal) := [(1, true, .ptr 0 0), (2, true, .ptr 1 0), (3, true, .ptr 2 0)]
abbrev argsR : List AVal := [.ptr 1 0, .ptr 2 0]
theorem ADefer.mono {P : Program} {fid : FuncId} {args : List AVal} {rv : AVal} {H : AHeap} {n : Nat} {Rc Rc' : AHeap → Nat → Prop} (h : ADefer P fid args rv H n Rc) (hr : ∀ H' n', Rc H' n' → Rc' H' n') : ADefer P fid args rv H n Rc' :=
  fun g w vs u hR hV hu => CallsDIn.mono (h g w vs u hR hV hu) fun e u' w' ⟨h1, h2, g', H', n', h3, h4⟩ => ⟨h1, h2, g', H', n', hr _ _ h3, h4⟩
def afst : ACode → ACode
  | .seq a _ => a
  | c => c
def asnd : ACode → ACode
  | .seq _ b => b
  | c => c
def asndN : Nat → ACode → ACode
  | 0, c => c
  | k + 1, c => asndN k (asnd c)
abbrev QR (d : Dcl) : AExit → AS → Prop := postX Tryz.prog 35 argsR rsR envR (RR d)
theorem ten {xs : List AVal} (h : xs.length = 10) : ∃ a b c d e f g h i j, xs = [a, b, c, d, e, f, g, h, i, j] := by
  match xs, h with
  | [a, b, c, d, e, f, g, h, i, j], _ => exact ⟨a, b, c, d, e, f, g, h, i, j, rfl⟩
theorem px_panR {d : Dcl} {H : AHeap} {m : Nat} {xs : List AVal} {y : AVal} {p : Int} (h1 : hget H 1 = some (.box xs)) (hx : xs.length = 10) (h2 : hget H 2 = some (.box [y])) (hr : resD d = .error p) : QR d (.pan (errV p)) ⟨[], H, m⟩ := by
  refine ADefer.mono (d_rp h1 hx h2) ?_
  rintro H2 n2 ⟨k1, k2⟩
  unfold RcOf
  simp only [eE, Nat.reduceEqDiff, ↓reduceIte, Nat.reduceAdd, rcell, k1, k2]
  unfold RR
  rw [hr]
  exact ⟨_, rfl, Wk.tup (.cons (Wk.agg (.cons (Wk.refl _) (.cons (Wk.refl _) (.cons (Wk.refl _) (.cons (Wk.refl _) (.cons (Wk.refl _) (.cons (Wk.sl (.inr rfl)) (.cons (Wk.sl (.inr rfl)) (.cons (Wk.sl (.inr rfl)) (.cons (Wk.sl (.inr rfl)) (.cons (Wk.sl (.inr rfl)) .nil))))))))))) (.cons (Wk.refl _) .nil))⟩
theorem px_retR {d : Dcl} {env : List (Nat × Bool × AVal)} {H : AHeap} {m : Nat} {xs : List AVal} {y : AVal} (h1 : hget H 1 = some (.box xs)) (hx : xs.length = 10) (h2 : hget H 2 = some (.box [y])) (hr : RR d (.ret (.tup [.agg xs, y])) H m) : QR d .ret ⟨env, H, m⟩ := by
  refine ADefer.mono d_rn ?_
  rintro H2 n2 ⟨rfl, rfl⟩
  obtain ⟨a, b, c, d, e, f, g, h, i, j, rfl⟩ := ten hx
  unfold RcOf
  simp only [eE, Nat.reduceEqDiff, ↓reduceIte, Nat.reduceAdd, rcell, h1, h2]
  exact hr
end Go.AM
end
