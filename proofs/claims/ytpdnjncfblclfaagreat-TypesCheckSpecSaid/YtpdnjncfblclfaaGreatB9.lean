/-
  Names: Resolve, its rules · Names: Resolve, its clues · Names: Resolve, from its beginning · Types: the forms of rules, clues · Types: whether all is well-formed, what cannot be read off · Types: Sum.
  Conditions: none beyond those of its parts.
-/
import Derived.Test.YtpdnjncfblclfaaGreatB8
import Derived.Test.YtpdnjncfblclfaaGreatB5

section
set_option maxRecDepth 20000
set_option linter.all false
namespace Go.AM
open Go.Proofs Go.Lib
structure NM (d : Dcl) (vc vr : AVal) (H : AHeap) : Prop where
  h0 : hget H 0 = some (.box (cellsNR d vc vr))
  h1 : hget H 1 = some (.box decl0)
  h2 : hget H 2 = some (.box [.int .i64 0])
  h5 : hget H 5 = some (nmO (d.syms.map fun x : DSym => x.nm))
  h7 : hget H 7 = some (.box [.mp 5])
  h12 : hget H 12 = some (nmO (famNs d))
  h18 : hget H 18 = some (nmO (d.clus.map fun x : DClu => x.nm))
def notM (i : Nat) : Prop := i ≠ 0 ∧ i ≠ 1 ∧ i ≠ 2 ∧ i ≠ 5 ∧ i ≠ 7 ∧ i ≠ 12 ∧ i ≠ 18
theorem NM.set {d : Dcl} {vc vr : AVal} {H : AHeap} {i : Nat} {ob : AObj} (h : NM d vc vr H) (hi : notM i) : NM d vc vr (hset H i ob) := by
  obtain ⟨a, b, c, e, f, g, k⟩ := hi
  exact ⟨by rw [hget_hset_ne _ _ _ _ a]; exact h.h0, by rw [hget_hset_ne _ _ _ _ b]; exact h.h1, by rw [hget_hset_ne _ _ _ _ c]; exact h.h2, by rw [hget_hset_ne _ _ _ _ e]; exact h.h5, by rw [hget_hset_ne _ _ _ _ f]; exact h.h7, by rw [hget_hset_ne _ _ _ _ g]; exact h.h12, by rw [hget_hset_ne _ _ _ _ k]; exact h.h18⟩
theorem NM.put {d : Dcl} {vc vr vc' vr' : AVal} {H : AHeap} (h : NM d vc vr H) : NM d vc' vr' (hset H 0 (.box (cellsNR d vc' vr'))) :=
  ⟨hget_hset_eq .., by rw [hget_hset_ne _ _ _ _ (by decide)]; exact h.h1, by rw [hget_hset_ne _ _ _ _ (by decide)]; exact h.h2, by rw [hget_hset_ne _ _ _ _ (by decide)]; exact h.h5, by rw [hget_hset_ne _ _ _ _ (by decide)]; exact h.h7, by rw [hget_hset_ne _ _ _ _ (by decide)]; exact h.h12, by rw [hget_hset_ne _ _ _ _ (by decide)]; exact h.h18⟩
theorem NM.ne {d : Dcl} {vc vr : AVal} {H : AHeap} {id e : Nat} {A : List AVal} (hnm : NM d vc vr H) (ho : hget H id = some (.arr e A)) : notM id := by
  refine ⟨?_, ?_, ?_, ?_, ?_, ?_, ?_⟩ <;> rintro rfl
  · rw [hnm.h0] at ho; cases ho
  · rw [hnm.h1] at ho; cases ho
  · rw [hnm.h2] at ho; cases ho
  · rw [hnm.h5] at ho; cases ho
  · rw [hnm.h7] at ho; cases ho
  · rw [hnm.h12] at ho; cases ho
  · rw [hnm.h18] at ho; cases ho
theorem notM_ge {i : Nat} (h : 21 ≤ i) : notM i := ⟨by omega, by omega, by omega, by omega, by omega, by omega, by omega⟩
theorem allSome_cons {α β : Type} (f : α → Option β) (x : α) (r : List α) : allSome f (x :: r) = (match f x with
    | some y => (allSome f r).map fun s => y :: s
    | none => none) := by
  simp only [allSome]
  cases f x with
  | none => rfl
  | some y => cases allSome f r <;> rfl
structure VRl where
  i : Nat
  dn : List DRul
  H : AHeap
structure IRl (d : Dcl) (cs : List DClu) (vc vr : AVal) (n : Nat) (v : VRl) : Prop where
  hi : v.i ≤ d.ruls.length
  ln : v.dn.length = v.i
  fr : Fresh v.H n
  nm : NM d vc vr v.H
  lc : LV 6 vc v.H (cs.map encCl)
  lv : LV 12 vr v.H ((v.dn ++ d.ruls.drop v.i).map encRu)
  eq : allSome (resRul d) d.ruls = (allSome (resRul d) (d.ruls.drop v.i)).map fun r => v.dn ++ r
section
variable {a b c d e f g h i j k l v : AVal}
theorem apR3 (hv : v.cells = [v]) : apSet (.agg [a, b, c, d, e, f, g, h, i, j, k, l]) 3 1 12 v = (True, .agg [a, b, c, v, e, f, g, h, i, j, k, l]) := by
  rw [apSet_agg (by decide)]; simp [splice, hv]
theorem apR6 (hv : v.cells = [v]) : apSet (.agg [a, b, c, d, e, f, g, h, i, j, k, l]) 6 1 12 v = (True, .agg [a, b, c, d, e, f, v, h, i, j, k, l]) := by
  rw [apSet_agg (by decide)]; simp [splice, hv]
theorem apR7 (hv : v.cells = [v]) : apSet (.agg [a, b, c, d, e, f, g, h, i, j, k, l]) 7 1 12 v = (True, .agg [a, b, c, d, e, f, g, v, i, j, k, l]) := by
  rw [apSet_agg (by decide)]; simp [splice, hv]
theorem apR11 (hv : v.cells = [v]) : apSet (.agg [a, b, c, d, e, f, g, h, i, j, k, l]) 11 1 12 v = (True, .agg [a, b, c, d, e, f, g, h, i, j, k, v]) := by
  rw [apSet_agg (by decide)]; simp [splice, hv]
end
theorem LV.set {e : Nat} {v : AVal} {H : AHeap} {l : List AVal} {id : Nat} {ob : AObj} (h : LV e v H l) (hne : ∀ a b c x, v ≠ .ref id a b c x) : LV e v (hset H id ob) l := by
  rcases h with h | ⟨h0, i, cap, rest, rfl, ho, hc⟩
  · exact .inl h
  · exact .inr ⟨h0, i, cap, rest, rfl, by rw [hget_hset_ne _ _ _ _ (fun q => hne _ _ _ _ (by rw [q]))]; exact ho, hc⟩
theorem LV.no {e : Nat} {H : AHeap} {l : List AVal} {i a b c x : Nat} (h : LV e (.ref i a b c x) H l) (hn : ∀ e' A, hget H i ≠ some (.arr e' A)) : False := by
  rcases h with ⟨-, t, h, -⟩ | ⟨-, id, cap, rest, h, ho, -⟩
  · cases h
  · cases h; exact hn _ _ ho
theorem t_res3 (d : Dcl) (hd : FewD d) (h16 : ¬ 16 < d.syms.length) (ht1 : twiceD (d.syms.map fun x : DSym => x.nm) = false) (ht2 : twiceD (famNs d) = false) (ht3 : twiceD (d.clus.map fun x : DClu => x.nm) = false) {cs : List DClu} (hcs : allSome (resClu d) d.clus = some cs) (ht4 : twiceD (d.ruls.map fun x : DRul => x.nm) = false)
    {vc vr : AVal} {H : AHeap} {n : Nat} (hf : Fresh H n) (hm : NM d vc vr H) (hvc : LV 6 vc H (cs.map encCl)) (hvr : LV 12 vr H (d.ruls.map encRu)) (hdj : ∀ i a b c e j f g h k, vc = .ref i a b c e → vr = .ref j f g h k → i ≠ j) :
    evK Tryz.prog Tnr (asnd (afst (asndN 9 c18))) [.c (asnd (asndN 9 c18))] (QR d) ⟨[(1, true, .ptr 0 0), (2, true, .ptr 1 0), (3, true, .ptr 2 0), (5, true, .mp 12), (6, true, .mp 18), (8, true, .fn (.func 50) [] [.ptr 7 0]), (66, true, .int .i64 d.ruls.length), (67, true, .int .i64 0)], H, n⟩ := by
  have hrl : d.ruls.length < 1000000000 := hd.ru
  have hbase : ∀ x, allSome (resRul d) d.ruls = x → resD d = (match x with | none => .error 160 | some rs => .ok { d with clus := cs, ruls := rs }) := fun x hx => by
    unfold resD
    rw [if_neg h16, ht1, ht2, ht3, hcs]
    simp only [Bool.false_eq_true, if_false]
    rw [ht4, hx]
    rfl
  simp only [eE, asndN, asnd, afst, c18]
  refine k_loop (fun v : VRl => ⟨[(1, true, .ptr 0 0), (2, true, .ptr 1 0), (3, true, .ptr 2 0), (5, true, .mp 12), (6, true, .mp 18), (8, true, .fn (.func 50) [] [.ptr 7 0]), (66, true, .int .i64 d.ruls.length), (67, true, .int .i64 v.i)], v.H, n⟩) (IRl d cs vc vr n) (fun v => d.ruls.length - v.i)
    ⟨0, [], H⟩ rfl ⟨Nat.zero_le _, rfl, hf, hm, hvc, hvr, by rw [List.drop_zero]; cases allSome (resRul d) d.ruls <;> rfl⟩ ?_
  rintro ⟨i, dn, H1⟩ hI
  have hi := hI.hi
  have hln := hI.ln
  have hfr := hI.fr
  have hnm := hI.nm
  have hlc := hI.lc
  have hlv := hI.lv
  have heq := hI.eq
  clear hI hf hm hvc hvr
  simp only at hi hln hfr hnm hlc hlv heq
  by_cases hlt : i < d.ruls.length
  case neg =>
    obtain rfl : i = d.ruls.length := by omega
    rw [List.drop_length] at heq hlv
    rw [List.append_nil] at hlv
    have hr := hbase _ heq
    simp only [allSome, Option.map_some, List.append_nil] at hr
    simp only [eE, eC, eN, Nat.reduceEqDiff, ↓reduceIte, Nat.reduceAdd, lt_F hlt, hnm.h0, cellsNR, hnm.h1, hnm.h2]
    refine px_retR (xs := cellsNR d vc vr) (y := .int .i64 0) ?_ rfl ?_ ?_
    · simp only [hget_hset]; rfl
    · simp only [hget_hset]; rfl
    unfold RR
    rw [hr]
    have hn1 : ∀ a b c x, vc ≠ .ref 1 a b c x ∧ vc ≠ .ref 2 a b c x ∧ vr ≠ .ref 1 a b c x ∧ vr ≠ .ref 2 a b c x := by
      intro a b c x
      refine ⟨?_, ?_, ?_, ?_⟩ <;> rintro rfl
      · exact hlc.no (by rw [hnm.h1]; simp)
      · exact hlc.no (by rw [hnm.h2]; simp)
      · exact hlv.no (by rw [hnm.h1]; simp)
      · exact hlv.no (by rw [hnm.h2]; simp)
    exact ⟨vc, vr, rfl, (hlc.set fun a b c x => (hn1 a b c x).1).set fun a b c x => (hn1 a b c x).2.1, (hlv.set fun a b c x => (hn1 a b c x).2.2.1).set fun a b c x => (hn1 a b c x).2.2.2, hdj⟩
  have hrx := (hd.rus _ (List.getElem_mem hlt))
  rw [List.drop_eq_getElem_cons hlt] at heq hlv
  rw [allSome_cons] at heq
  generalize d.ruls[i] = r at heq hlv hrx
  have hll : ((dn ++ r :: d.ruls.drop (i + 1)).map encRu).length = d.ruls.length := by simp; omega
  rcases hlv with ⟨h0, -⟩ | ⟨-, id, cap, rest, hvr, ho, hcr⟩
  · simp at h0
  rw [hll] at hvr hcr
  subst hvr
  have e := w64_succ (k := i) (by omega)
  have hid : id < n := hfr.lt ho
  have hne := hnm.ne ho
  have h0 := hnm.h0
  have hgi : ((dn ++ r :: d.ruls.drop (i + 1)).map encRu ++ rest)[i]? = some (encRu r) := by
    rw [List.map_append, List.append_assoc, List.getElem?_append_right (by simp; omega)]
    simp [hln]
  have hil : i < ((dn ++ r :: d.ruls.drop (i + 1)).map encRu ++ rest).length := by rw [List.length_append, hll]; omega
  have hse : ∀ r' : DRul, ((dn ++ r :: d.ruls.drop (i + 1)).map encRu ++ rest).set i (encRu r') = ((dn ++ [r']) ++ d.ruls.drop (i + 1)).map encRu ++ rest := fun r' => by
    rw [List.map_append, List.append_assoc, List.set_append_right _ _ (by simp; omega)]
    simp [hln]
  generalize hA : (dn ++ r :: d.ruls.drop (i + 1)).map encRu ++ rest = A at ho hgi hil hse
  have hls : ∀ x, (i < (A.set i x).length) = True := fun x => eq_true (by rw [List.length_set]; exact hil)
  have hgs : ∀ x, (A.set i x)[i]? = some x := fun x => List.getElem?_set_self hil
  have hss : ∀ x y, (A.set i x).set i y = A.set i y := fun x y => List.set_set ..
  have z0' : (id = 0) = False := eq_false hne.1
  have z5' : (id = 5) = False := eq_false hne.2.2.2.1
  have z7' : (id = 7) = False := eq_false hne.2.2.2.2.1
  have z12' : (id = 12) = False := eq_false hne.2.2.2.2.2.1
  have z18' : (id = 18) = False := eq_false hne.2.2.2.2.2.2
  have h7 := hnm.h7
  have h5 := hnm.h5
  have hbad : resRul d r = none → resD d = .error 160 := fun q => by
    rw [q] at heq
    exact hbase _ heq
  have hnv : ∀ ob, NM d vc (.ref id 12 0 d.ruls.length cap) (hset H1 id ob) := fun ob => hnm.set hne
  have hvn : ∀ a b c x, vc ≠ .ref id a b c x := fun a b c x q => hdj _ _ _ _ _ _ _ _ _ _ q rfl rfl
  have fin : ∀ (F a b c : Int), resRul d r = some { r with fam := F, set := a, oth := b, clue := c } → lpN (fun v : VRl => ⟨[(1, true, .ptr 0 0), (2, true, .ptr 1 0), (3, true, .ptr 2 0), (5, true, .mp 12), (6, true, .mp 18), (8, true, .fn (.func 50) [] [.ptr 7 0]), (66, true, .int .i64 d.ruls.length), (67, true, .int .i64 v.i)], v.H, n⟩) (IRl d cs vc (.ref id 12 0 d.ruls.length cap) n) (fun v => d.ruls.length - v.i) ⟨i, dn, H1⟩
      ⟨[(1, true, .ptr 0 0), (2, true, .ptr 1 0), (3, true, .ptr 2 0), (5, true, .mp 12), (6, true, .mp 18), (8, true, .fn (.func 50) [] [.ptr 7 0]), (66, true, .int .i64 d.ruls.length), (67, true, .int .i64 ((i + 1 : Nat) : Int))], hset H1 id (.arr 12 (A.set i (.agg [.str r.nm, .str r.on, .int .i64 r.kind, .int .i64 F, eSs r.ns, eSs r.os, .int .i64 a, .int .i64 b, .int .i64 r.op, .int .i64 r.n, .str r.byN, .int .i64 c]))), n⟩ := fun F a b c hrr => by
    rw [hrr] at heq
    have hse2 := hse { r with fam := F, set := a, oth := b, clue := c }
    refine .mk ⟨i + 1, dn ++ [{ r with fam := F, set := a, oth := b, clue := c }], hset H1 id (.arr 12 (A.set i (encRu { r with fam := F, set := a, oth := b, clue := c })))⟩ rfl ⟨hlt, by simp [hln], hfr.hset (Nat.le_refl _) hid, hnv _, hlc.set hvn, .inr ⟨by simp, id, cap, rest, ?_, ?_, ?_⟩, ?_⟩ (by simp only []; omega)
    · simp only [List.length_map, List.length_append, List.length_cons, List.length_nil, List.length_drop, hln]
      congr 1; omega
    · simp only []
      rw [hget_hset_eq, hse2]
    · simp only [List.length_map, List.length_append, List.length_cons, List.length_nil, List.length_drop, hln]
      omega
    · simp only []
      rw [heq]
      cases allSome (resRul d) (d.ruls.drop (i + 1)) <;> simp
  by_cases hon : r.on = []
  · have hb : scmp .neq r.on [] = false := by rw [scmp_ne, hon]; rfl
    simp only [eE, eC, eN, eX, reduceCtorEq, Nat.reduceEqDiff, ↓reduceIte, Nat.reduceAdd, Nat.reduceLeDiff, Nat.reduceLT, Nat.reduceMod, Nat.reduceSub, Nat.reduceDiv, Option.getD_some, Int.toNat_natCast, Int.natCast_nonneg, atN, atK, below, lt_T hlt, h0, cellsNR, ho, hgi, eq_true hil, addr, eq_true hid, hls, hgs, hss, encRu, cellsRu, apR3, apR11, hset_hset, hb]
    refine (t_set (by rw [List.length_map]; omega) hrx.1 (hnv _).h7 (hnv _).h5).mono fun o H' n' hq => ?_
    obtain ⟨rfl, rfl, hq⟩ := hq
    cases hs1 : setOf (d.syms.map fun x : DSym => x.nm) r.ns with
    | none =>
      rw [hs1] at hq
      subst hq
      simp only [eE, eN, retXK]
      exact px_panR (hnv _).h1 rfl (hnv _).h2 (hbad (by unfold resRul; rw [if_pos hon, hs1]))
    | some a =>
      rw [hs1] at hq
      subst hq
      simp only [eE, eC, eX, Nat.reduceEqDiff, ↓reduceIte, Nat.reduceLeDiff, Nat.reduceMod, Nat.reduceSub, Nat.reduceDiv, retXK]
      refine (t_set (by rw [List.length_map]; omega) hrx.2 (hnv _).h7 (hnv _).h5).mono fun o H' n' hq => ?_
      obtain ⟨rfl, rfl, hq⟩ := hq
      cases hs2 : setOf (d.syms.map fun x : DSym => x.nm) r.os with
      | none =>
        rw [hs2] at hq
        subst hq
        simp only [eE, eN, retXK]
        exact px_panR (hnv _).h1 rfl (hnv _).h2 (hbad (by unfold resRul; rw [if_pos hon, hs1, hs2]))
      | some b =>
        rw [hs2] at hq
        subst hq
        by_cases hby : r.byN = []
        · have hb2 : scmp .neq r.byN [] = false := by rw [scmp_ne, hby]; rfl
          simp only [eE, eC, eN, eX, Nat.reduceEqDiff, ↓reduceIte, Nat.reduceAdd, Nat.reduceLeDiff, Int.reduceEq, Nat.reduceSub, Nat.reduceDiv, Option.getD_some, retXK, hb2, rx_st0, hls, hgs, hss, apR6, apR7, hset_hset, e]
          exact fin 0 a b (-1) (by unfold resRul; rw [if_pos hon, hs1, hs2, if_pos hby])
        · have hb2 : scmp .neq r.byN [] = true := by rw [scmp_ne, dec_F hby]; rfl
          simp only [eE, eC, eN, eX, Nat.reduceEqDiff, ↓reduceIte, Nat.reduceAdd, Nat.reduceLeDiff, Nat.reduceSub, Nat.reduceDiv, Option.getD_some, retXK, hb2, rx_st0, hls, hgs, hss, apR6, apR7, hset_hset]
          refine (t_must (hnv _).h18).mono fun o H' n' hq => ?_
          obtain ⟨rfl, rfl, hq⟩ := hq
          cases hnb : numOf (d.clus.map fun x : DClu => x.nm) r.byN with
          | none =>
            rw [hnb] at hq
            subst hq
            simp only [eE, eN, retK]
            exact px_panR (hnv _).h1 rfl (hnv _).h2 (hbad (by unfold resRul; rw [if_pos hon, hs1, hs2, if_neg hby, hnb]))
          | some c =>
            rw [hnb] at hq
            subst hq
            simp only [eE, eN, Nat.reduceEqDiff, ↓reduceIte, Int.reduceEq, Option.getD_some, retK, hls, hgs, hss, apR11, hset_hset, e]
            exact fin 0 a b c (by unfold resRul; rw [if_pos hon, hs1, hs2, if_neg hby, hnb])
  · have hb : scmp .neq r.on [] = true := by rw [scmp_ne, dec_F hon]; rfl
    simp only [eE, eC, eN, Nat.reduceEqDiff, ↓reduceIte, Nat.reduceAdd, Nat.reduceLeDiff, Option.getD_some, Int.toNat_natCast, Int.natCast_nonneg, lt_T hlt, h0, cellsNR, ho, hgi, eq_true hil, hls, hgs, hss, encRu, cellsRu, apR3, apR11, hset_hset, hb]
    refine (t_must (hnv _).h12).mono fun o H' n' hq => ?_
    obtain ⟨rfl, rfl, hq⟩ := hq
    cases hno : numOf (famNs d) r.on with
    | none =>
      rw [hno] at hq
      subst hq
      simp only [eE, eN, retK]
      exact px_panR (hnv _).h1 rfl (hnv _).h2 (hbad (by unfold resRul; rw [if_neg hon, hno]))
    | some F =>
      rw [hno] at hq
      subst hq
      simp only [eE, eN, eX, reduceCtorEq, Nat.reduceEqDiff, ↓reduceIte, Nat.reduceAdd, Nat.reduceLeDiff, Nat.reduceLT, Nat.reduceMod, Nat.reduceSub, Nat.reduceDiv, Option.getD_some, atN, atK, below, retK, addr, eq_true hid, hls, hgs, hss, apR3, hset_hset]
      refine (t_set (by rw [List.length_map]; omega) hrx.1 (hnv _).h7 (hnv _).h5).mono fun o H' n' hq => ?_
      obtain ⟨rfl, rfl, hq⟩ := hq
      cases hs1 : setOf (d.syms.map fun x : DSym => x.nm) r.ns with
      | none =>
        rw [hs1] at hq
        subst hq
        simp only [eE, eN, retXK]
        exact px_panR (hnv _).h1 rfl (hnv _).h2 (hbad (by unfold resRul; rw [if_neg hon, hno, hs1]))
      | some a =>
        rw [hs1] at hq
        subst hq
        simp only [eE, eC, eX, Nat.reduceEqDiff, ↓reduceIte, Nat.reduceLeDiff, Nat.reduceMod, Nat.reduceSub, Nat.reduceDiv, retXK]
        refine (t_set (by rw [List.length_map]; omega) hrx.2 (hnv _).h7 (hnv _).h5).mono fun o H' n' hq => ?_
        obtain ⟨rfl, rfl, hq⟩ := hq
        cases hs2 : setOf (d.syms.map fun x : DSym => x.nm) r.os with
        | none =>
          rw [hs2] at hq
          subst hq
          simp only [eE, eN, retXK]
          exact px_panR (hnv _).h1 rfl (hnv _).h2 (hbad (by unfold resRul; rw [if_neg hon, hno, hs1, hs2]))
        | some b =>
          rw [hs2] at hq
          subst hq
          by_cases hby : r.byN = []
          · have hb2 : scmp .neq r.byN [] = false := by rw [scmp_ne, hby]; rfl
            simp only [eE, eC, eN, eX, Nat.reduceEqDiff, ↓reduceIte, Nat.reduceAdd, Nat.reduceLeDiff, Int.reduceEq, Nat.reduceSub, Nat.reduceDiv, Option.getD_some, retXK, hb2, rx_st0, hls, hgs, hss, apR6, apR7, hset_hset, e]
            exact fin F a b (-1) (by unfold resRul; rw [if_neg hon, hno, hs1, hs2, if_pos hby])
          · have hb2 : scmp .neq r.byN [] = true := by rw [scmp_ne, dec_F hby]; rfl
            simp only [eE, eC, eN, eX, Nat.reduceEqDiff, ↓reduceIte, Nat.reduceAdd, Nat.reduceLeDiff, Nat.reduceSub, Nat.reduceDiv, Option.getD_some, retXK, hb2, rx_st0, hls, hgs, hss, apR6, apR7, hset_hset]
            refine (t_must (hnv _).h18).mono fun o H' n' hq => ?_
            obtain ⟨rfl, rfl, hq⟩ := hq
            cases hnb : numOf (d.clus.map fun x : DClu => x.nm) r.byN with
            | none =>
              rw [hnb] at hq
              subst hq
              simp only [eE, eN, retK]
              exact px_panR (hnv _).h1 rfl (hnv _).h2 (hbad (by unfold resRul; rw [if_neg hon, hno, hs1, hs2, if_neg hby, hnb]))
            | some c =>
              rw [hnb] at hq
              subst hq
              simp only [eE, eN, Nat.reduceEqDiff, ↓reduceIte, Int.reduceEq, Option.getD_some, retK, hls, hgs, hss, apR11, hset_hset, e]
              exact fin F a b c (by unfold resRul; rw [if_neg hon, hno, hs1, hs2, if_neg hby, hnb])
end Go.AM
end
section
set_option maxRecDepth 20000
set_option linter.all false
namespace Go.AM
open Go.Proofs Go.Lib
structure VCl where
  i : Nat
  dn : List DClu
  H : AHeap
structure ICl (d : Dcl) (vc : AVal) (n : Nat) (v : VCl) : Prop where
  hi : v.i ≤ d.clus.length
  ln : v.dn.length = v.i
  fr : Fresh v.H n
  nm : NM d vc (eRus d.ruls) v.H
  lv : LV 6 vc v.H ((v.dn ++ d.clus.drop v.i).map encCl)
  eq : allSome (resClu d) d.clus = (allSome (resClu d) (d.clus.drop v.i)).map fun r => v.dn ++ r
theorem apS2 {a b c d e f v : AVal} (h : v.cells = [v]) : apSet (.agg [a, b, c, d, e, f]) 2 1 6 v = (True, .agg [a, b, v, d, e, f]) := by
  rw [apSet_agg (by decide)]; simp [splice, h]
theorem t_res2 (d : Dcl) (hd : FewD d) (h16 : ¬ 16 < d.syms.length) (ht1 : twiceD (d.syms.map fun x : DSym => x.nm) = false) (ht2 : twiceD (famNs d) = false) (ht3 : twiceD (d.clus.map fun x : DClu => x.nm) = false)
    {vc : AVal} {H : AHeap} {n : Nat} {ml : Int} (hml : ml = (d.clus.length : Int)) (hn : 21 ≤ n) (hf : Fresh H n) (hm : NM d vc (eRus d.ruls) H) (hv : LV 6 vc H (d.clus.map encCl)) :
    evK Tryz.prog Tnr (asnd (afst (asndN 5 c18))) [.c (asnd (asndN 5 c18))] (QR d) ⟨[(1, true, .ptr 0 0), (2, true, .ptr 1 0), (3, true, .ptr 2 0), (4, true, .ptr 7 0), (5, true, .mp 12), (6, true, .mp 18), (37, true, .int .i64 ml), (38, true, .int .i64 0)], H, n⟩ := by
  subst hml
  have hcl : d.clus.length < 1000000000 := hd.cl
  simp only [eE, asndN, asnd, afst, c18]
  refine k_loop (fun v : VCl => ⟨[(1, true, .ptr 0 0), (2, true, .ptr 1 0), (3, true, .ptr 2 0), (4, true, .ptr 7 0), (5, true, .mp 12), (6, true, .mp 18), (37, true, .int .i64 d.clus.length), (38, true, .int .i64 v.i)], v.H, n⟩) (ICl d vc n) (fun v => d.clus.length - v.i)
    ⟨0, [], H⟩ rfl ⟨Nat.zero_le _, rfl, hf, hm, hv, by rw [List.drop_zero]; cases allSome (resClu d) d.clus <;> rfl⟩ ?_
  rintro ⟨i, dn, H1⟩ hI
  have hi := hI.hi
  have hln := hI.ln
  have hfr := hI.fr
  have hnm := hI.nm
  have hlv := hI.lv
  have heq := hI.eq
  simp only at hi hln hfr hnm hlv heq
  by_cases hlt : i < d.clus.length
  · rw [List.drop_eq_getElem_cons hlt] at heq hlv
    rw [allSome_cons] at heq
    generalize d.clus[i] = c at heq hlv
    have hll : ((dn ++ c :: d.clus.drop (i + 1)).map encCl).length = d.clus.length := by simp; omega
    rcases hlv with ⟨h0, -⟩ | ⟨-, id, cap, rest, hvc, ho, hcr⟩
    · simp at h0
    rw [hll] at hvc hcr
    subst hvc
    have e := w64_succ (k := i) (by omega)
    have hid : id < n := hfr.lt ho
    have h0 := hnm.h0
    have hgi : ((dn ++ c :: d.clus.drop (i + 1)).map encCl ++ rest)[i]? = some (.agg [.str c.nm, .str c.on, .int .i64 c.fam, .int .i64 c.ty, .int .i64 c.lo, .int .i64 c.hi]) := by
      rw [List.map_append, List.append_assoc, List.getElem?_append_right (by simp; omega)]
      simp [hln]
    have hil : (i < ((dn ++ c :: d.clus.drop (i + 1)).map encCl ++ rest).length) = True := eq_true (by rw [List.length_append, hll]; omega)
    have hse : ∀ c' : DClu, ((dn ++ c :: d.clus.drop (i + 1)).map encCl ++ rest).set i (encCl c') = ((dn ++ [c']) ++ d.clus.drop (i + 1)).map encCl ++ rest := fun c' => by
      rw [List.map_append, List.append_assoc, List.set_append_right _ _ (by simp; omega)]
      simp [hln]
    have hne := hnm.ne ho
    generalize hA : (dn ++ c :: d.clus.drop (i + 1)).map encCl ++ rest = A at ho hgi hil hse
    simp only [eE, eC, eN, eX, reduceCtorEq, Nat.reduceEqDiff, ↓reduceIte, Nat.reduceAdd, Nat.reduceLeDiff, Nat.reduceLT, Nat.reduceMod, Nat.reduceSub, Nat.reduceDiv, Option.getD_some, Int.toNat_natCast, Int.natCast_nonneg, atN, atK, below, lt_T hlt, h0, cellsNR, ho, hgi, hil, addr, eq_true hid]
    refine (t_must hnm.h12).mono fun o H' n' hq => ?_
    obtain ⟨rfl, rfl, hq⟩ := hq
    cases hno : numOf (famNs d) c.on with
    | none =>
      rw [hno] at hq
      subst hq
      have hrc : resClu d c = none := by unfold resClu; rw [hno]; rfl
      rw [hrc] at heq
      have hr : resD d = .error 160 := by unfold resD; rw [if_neg h16, ht1, ht2, ht3, heq]; rfl
      simp only [eE, eN, retXK]
      exact px_panR hnm.h1 rfl hnm.h2 hr
    | some k =>
      rw [hno] at hq
      subst hq
      have hrc : resClu d c = some { c with fam := k } := by unfold resClu; rw [hno]; rfl
      rw [hrc] at heq
      have hs2 := hse { c with fam := k }
      simp only [eE, eC, eN, eX, Nat.reduceEqDiff, ↓reduceIte, Nat.reduceLeDiff, Int.reduceEq, Nat.reduceSub, Nat.reduceDiv, Option.getD_some, Int.toNat_natCast, Int.natCast_nonneg, retXK, rx_st0, ho, hgi, hil, apS2 (v := .int .i64 k) rfl, e]
      refine ⟨by omega, .mk ⟨i + 1, dn ++ [{ c with fam := k }], hset H' id (.arr 6 (A.set i (encCl { c with fam := k })))⟩ rfl ⟨hlt, by simp [hln], hfr.hset (Nat.le_refl _) hid, hnm.set hne, .inr ⟨by simp, id, cap, rest, ?_, ?_, ?_⟩, ?_⟩ (by simp only []; omega)⟩
      · simp only [List.length_map, List.length_append, List.length_cons, List.length_nil, List.length_drop, hln]
        congr 1; omega
      · simp only []
        rw [hget_hset_eq, hs2]
      · simp only [List.length_map, List.length_append, List.length_cons, List.length_nil, List.length_drop, hln]
        omega
      · simp only []
        rw [heq]
        cases allSome (resClu d) (d.clus.drop (i + 1)) <;> simp
  obtain rfl : i = d.clus.length := by omega
  rw [List.drop_length] at heq hlv
  rw [List.append_nil] at hlv
  have hcs : allSome (resClu d) d.clus = some dn := by rw [heq]; simp [allSome]
  have h0 := hnm.h0
  have y0 : ∀ k, (n + k = 0) = False := fun k => eq_false (by omega)
  simp only [eE, eC, eN, Nat.reduceEqDiff, ↓reduceIte, Nat.reduceAdd, xE, lt_F hlt, h0, cellsNR, fr1 hfr]
  refine (t_nsixRu (pre := []) hd.ru (by decide) rfl (hget_hset_eq ..) rfl).mono fun o H' n' hq => ?_
  unfold IxPost at hq
  rw [List.nil_append] at hq
  have hnv : ∀ a b, NM d vc (eRus d.ruls) (hset (hset H1 (n + 2) a) (n + 2) b) := fun a b => (hnm.set (notM_ge (by omega))).set (notM_ge (by omega))
  cases ht4 : twiceD (d.ruls.map fun x : DRul => x.nm) with
  | true =>
    rw [ht4, if_pos rfl] at hq
    obtain ⟨rfl, rfl, rfl⟩ := hq
    have hr : resD d = .error 161 := by
      unfold resD
      rw [if_neg h16, ht1, ht2, ht3, hcs]
      simp only [Bool.false_eq_true, if_false]
      rw [ht4]; rfl
    simp only [eE, eN, retK]
    exact px_panR (hnv _ _).h1 rfl (hnv _ _).h2 hr
  | false =>
  rw [ht4, if_neg (by decide)] at hq
  obtain ⟨rfl, rfl, rfl⟩ := hq
  have hH := hnv (nmO []) (nmO (d.ruls.map fun x : DRul => x.nm))
  have hlc : LV 6 vc (hset (hset H1 (n + 2) (nmO [])) (n + 2) (nmO (d.ruls.map fun x : DRul => x.nm))) (dn.map encCl) := by
    have hv2 : ∀ a b c x, vc ≠ .ref (n + 2) a b c x := by
      rintro a b c x rfl
      exact hlv.no (by rw [hfr _ (by omega)]; simp)
    exact (hlv.set hv2).set hv2
  have hf2 : Fresh (hset (hset H1 (n + 2) (nmO [])) (n + 2) (nmO (d.ruls.map fun x : DRul => x.nm))) (n + 4) := (hfr.hset (m := n + 4) (by omega) (by omega)).hset (Nat.le_refl _) (by omega)
  generalize hset (hset H1 (n + 2) (nmO [])) (n + 2) (nmO (d.ruls.map fun x : DRul => x.nm)) = H2 at hH hlc hf2
  have h02 := hH.h0
  simp only [eE, eN, Nat.reduceEqDiff, ↓reduceIte, Nat.reduceAdd, retK, h02, cellsNR]
  refine (t_clnRu d.ruls hd.ru).mono fun o H' n' hq => ?_
  rcases hq with ⟨h0', rfl, hn', t, rfl, htk⟩ | ⟨h0', rfl, cap, rest, rfl, rfl, hcr⟩
  · have hrl : d.ruls.length = 0 := by have := congrArg List.length h0'; simpa using this
    simp only [eE, Nat.reduceEqDiff, ↓reduceIte, Nat.reduceAdd, retK, h02, cellsNR]
    rw [kont_n]
    simp only [eE, Nat.reduceEqDiff, ↓reduceIte]
    rw [kont_n]
    simp only [eE, Nat.reduceEqDiff, ↓reduceIte, Nat.reduceAdd, c0]
    rw [kont_n]
    have hc0 : ∀ a b c x, vc ≠ .ref 0 a b c x := by
      rintro a b c x rfl
      exact hlc.no (by rw [h02]; simp)
    have := t_res3 d hd h16 ht1 ht2 ht3 hcs ht4 (vr := .sl t []) (hf2.hset (id := 0) (m := n') (by omega) (by omega)) hH.put (hlc.set hc0) (.inl ⟨h0', t, rfl, htk⟩) (fun i a b c e j f g h k _ q => by cases q)
    rw [hrl] at this
    exact this
  · have y4 : ∀ k, (n + 4 + k = 0) = False := fun k => eq_false (by omega)
    simp only [eE, Nat.reduceEqDiff, ↓reduceIte, Nat.reduceAdd, retK, h02, cellsNR, y0]
    rw [kont_n]
    simp only [eE, Nat.reduceEqDiff, ↓reduceIte]
    rw [kont_n]
    simp only [eE, Nat.reduceEqDiff, ↓reduceIte, Nat.reduceAdd, List.length_map]
    rw [kont_n]
    have hc0 : ∀ a b c x, vc ≠ .ref 0 a b c x := by
      rintro a b c x rfl
      exact hlc.no (by rw [h02]; simp)
    have hc6 : ∀ a b c x, vc ≠ .ref (n + 6) a b c x := by
      rintro a b c x rfl
      exact hlc.no (by rw [hf2 _ (by omega)]; simp)
    refine t_res3 d hd h16 ht1 ht2 ht3 hcs ht4 (vr := .ref (n + 6) 12 0 d.ruls.length cap) (((hf2.hset (m := n + 8) (by omega) (by omega)).hset (Nat.le_refl _) (by omega))) (hH.set (notM_ge (by omega))).put ((hlc.set hc6).set hc0) (.inr ⟨h0', n + 6, cap, rest, by rw [List.length_map], ?_, hcr⟩) (fun i a b c e j f g h k q1 q2 => ?_)
    · rw [hget_hset_ne _ _ _ _ (by omega)]; exact hget_hset_eq ..
    · cases q2
      rintro rfl
      exact hc6 _ _ _ _ q1
end Go.AM
end
section
set_option maxRecDepth 20000
set_option linter.all false
namespace Go.AM
open Go.Proofs Go.Lib
theorem t_resolve (d : Dcl) (hd : FewD d) : ACalls Tryz.prog 18 [encD d] hnil 0 (RR d) := by
  refine a18 (ev_awp Tnr_ok (ev_evK ?_))
  simp only [eE, eN, reduceCtorEq, Nat.reduceEqDiff, ↓reduceIte, Nat.reduceAdd, c18_0, aspine, postD, stepOp, encD]
  refine ⟨_, _, rfl, ev_awp Tnr_ok (ev_evK ?_)⟩
  generalize hE : List.filter (fun (e : Nat × Bool × AVal) => Nat.blt e.1 4) _ = E
  have hE' : E = envR := by rw [← hE]; rfl
  subst hE'
  clear hE
  rw [List.nil_append]
  by_cases h16 : 16 < d.syms.length
  · have hr : resD d = .error 2 := by unfold resD; rw [if_pos h16]
    simp only [eE, eC, eN, reduceCtorEq, Nat.reduceEqDiff, ↓reduceIte, Nat.reduceAdd, Nat.reduceLeDiff, List.length_map, c18, eq_true (show (16 : Int) < (d.syms.length : Int) by omega), cellsD]
    refine px_retR (xs := decl0) rfl rfl rfl ?_
    unfold RR
    rw [hr]
    exact ⟨_, rfl, Wk.tup (.cons (Wk.agg (.cons (Wk.refl _) (.cons (Wk.refl _) (.cons (Wk.refl _) (.cons (Wk.refl _) (.cons (Wk.refl _) (.cons (Wk.sl (.inr rfl)) (.cons (Wk.sl (.inr rfl)) (.cons (Wk.sl (.inr rfl)) (.cons (Wk.sl (.inr rfl)) (.cons (Wk.sl (.inr rfl)) .nil))))))))))) (.cons (Wk.refl _) .nil))⟩
  simp only [eE, eC, eN, reduceCtorEq, Nat.reduceEqDiff, ↓reduceIte, Nat.reduceAdd, Nat.reduceLeDiff, xE, List.length_map, c18, eq_false (show ¬ (16 : Int) < (d.syms.length : Int) by omega), cellsD]
  refine (t_nsixSy (pre := []) hd.sy (by decide) rfl rfl rfl).mono fun o H' n' hq => ?_
  unfold IxPost at hq
  rw [List.nil_append] at hq
  cases ht1 : twiceD (d.syms.map fun x : DSym => x.nm) with
  | true =>
    rw [ht1, if_pos rfl] at hq
    obtain ⟨rfl, rfl, rfl⟩ := hq
    have hr : resD d = .error 161 := by unfold resD; rw [if_neg h16, ht1]; rfl
    simp only [eE, eN, retK]
    exact px_panR (xs := decl0) rfl rfl rfl hr
  | false =>
  rw [ht1, if_neg (by decide)] at hq
  obtain ⟨rfl, rfl, rfl⟩ := hq
  simp only [eE, eC, eN, eX, reduceCtorEq, Nat.reduceEqDiff, ↓reduceIte, Nat.reduceAdd, Nat.reduceLeDiff, Nat.reduceLT, Nat.reduceMod, Nat.reduceSub, Nat.reduceDiv, xE, retK, Tnr_g, addr]
  refine ⟨⟨trivial, eSs_under 0 _⟩, (t_nsixS (pre := []) (by decide) (by decide) rfl rfl rfl).mono fun o H' n' hq => ?_⟩
  unfold IxPost at hq
  rw [List.nil_append, show twiceD (givenF.map fun x : Bs => x) = false by decide, if_neg (by decide)] at hq
  obtain ⟨rfl, rfl, rfl⟩ := hq
  simp only [eE, eX, Nat.reduceEqDiff, ↓reduceIte, Nat.reduceAdd, Nat.reduceLeDiff, Nat.reduceMod, Nat.reduceSub, Nat.reduceDiv, retXK]
  refine (t_nsixRg (pre := givenF) hd.rg (by decide) rfl rfl (by decide)).mono fun o H' n' hq => ?_
  unfold IxPost at hq
  cases ht2 : twiceD (famNs d) with
  | true =>
    rw [show givenF ++ d.regs.map (fun x : DReg => x.nm) = famNs d from rfl, ht2, if_pos rfl] at hq
    obtain ⟨rfl, rfl, rfl⟩ := hq
    have hr : resD d = .error 161 := by unfold resD; rw [if_neg h16, ht1, ht2]; rfl
    simp only [eE, eN, retXK]
    exact px_panR (xs := decl0) rfl rfl rfl hr
  | false =>
  rw [show givenF ++ d.regs.map (fun x : DReg => x.nm) = famNs d from rfl, ht2, if_neg (by decide)] at hq
  obtain ⟨rfl, rfl, rfl⟩ := hq
  simp only [eE, eN, eX, reduceCtorEq, Nat.reduceEqDiff, ↓reduceIte, Nat.reduceAdd, Nat.reduceLeDiff, Nat.reduceSub, Nat.reduceDiv, xE, retXK]
  refine (t_nsixCl (pre := []) hd.cl (by decide) rfl rfl rfl).mono fun o H' n' hq => ?_
  unfold IxPost at hq
  rw [List.nil_append] at hq
  cases ht3 : twiceD (d.clus.map fun x : DClu => x.nm) with
  | true =>
    rw [ht3, if_pos rfl] at hq
    obtain ⟨rfl, rfl, rfl⟩ := hq
    have hr : resD d = .error 161 := by unfold resD; rw [if_neg h16, ht1, ht2, ht3]; rfl
    simp only [eE, eN, retK]
    exact px_panR (xs := decl0) rfl rfl rfl hr
  | false =>
  rw [ht3, if_neg (by decide)] at hq
  obtain ⟨rfl, rfl, rfl⟩ := hq
  simp only [eE, eN, reduceCtorEq, Nat.reduceEqDiff, ↓reduceIte, Nat.reduceAdd, Nat.reduceLeDiff, retK]
  refine (t_clnCl d.clus hd.cl).mono fun o H' n' hq => ?_
  rcases hq with ⟨h0, rfl, hn, t, rfl, htk⟩ | ⟨h0, rfl, cap, rest, rfl, rfl, hcr⟩
  · have hcl : d.clus.length = 0 := by have := congrArg List.length h0; simpa using this
    simp only [eE, reduceCtorEq, Nat.reduceEqDiff, ↓reduceIte, Nat.reduceAdd, Nat.reduceLeDiff, retK]
    rw [kont_n]
    simp only [eE, Nat.reduceEqDiff, ↓reduceIte, Nat.reduceAdd, Nat.reduceLeDiff, c0]
    rw [kont_n]
    refine t_res2 d hd h16 ht1 ht2 ht3 (vc := .sl t []) (by rw [hcl]; rfl) hn (fun id hid => ?_) (NM.mk (d := d) (vr := eRus d.ruls) rfl rfl rfl rfl rfl rfl rfl) (.inl ⟨h0, t, rfl, htk⟩)
    simp only [hget_hset]
    repeat rw [if_neg (by omega)]
    rfl
  · simp only [eE, reduceCtorEq, Nat.reduceEqDiff, ↓reduceIte, Nat.reduceAdd, Nat.reduceLeDiff, retK]
    rw [kont_n]
    simp only [eE, Nat.reduceEqDiff, ↓reduceIte, Nat.reduceAdd, Nat.reduceLeDiff, List.length_map]
    rw [kont_n]
    refine t_res2 d hd h16 ht1 ht2 ht3 (vc := .ref 23 6 0 d.clus.length cap) rfl (by omega) (fun id hid => ?_) (NM.mk (d := d) (vr := eRus d.ruls) rfl rfl rfl rfl rfl rfl rfl) (.inr ⟨h0, 23, cap, rest, by rw [List.length_map], rfl, hcr⟩)
    simp only [hget_hset]
    repeat rw [if_neg (by omega)]
    rfl
def RS (d : Dcl) : AOut → AHeap → Nat → Prop := fun o H' n' => match resD d with
  | .error e => ∃ v, o = .ret v ∧ Wk v (.tup [encD dcl0, .int .i64 e])
  | .ok x => ∃ vc vr, o = .ret (.tup [.agg (cellsNR d vc vr), .int .i64 0]) ∧ LF 6 vc H' (x.clus.map encCl) ∧ LV 12 vr H' (x.ruls.map encRu)
def RT (d : Dcl) : AOut → AHeap → Nat → Prop := fun o H' n' => match resD d with
  | .error e => ∃ v, o = .ret v ∧ Wk v (.tup [encD dcl0, .int .i64 e])
  | .ok x => ∃ vc vr, o = .ret (.tup [.agg (cellsNR d vc vr), .int .i64 0]) ∧ LF 6 vc H' (x.clus.map encCl) ∧ LF 12 vr H' (x.ruls.map encRu)
theorem p18 (d : Dcl) (hd : FewD d) : Pur Tryz.prog 18 [encD d] (nresV d) := by
  refine .mk ⟨encD_under 0 d, trivial⟩ (by unfold nresV; split <;> exact ⟨encD_under 0 _, trivial, trivial⟩) ?_
  refine ACalls.out (R := RT d) (ACalls.seal (R := RS d) (ACalls.seal (R := RR d) (t_resolve d hd) ?_) ?_) ?_
  · intro o H' n' h
    unfold RR at h
    unfold RS
    split at h
    · rename_i e he
      try rw [he]
      exact .inl h
    · rename_i x hx
      try rw [hx]
      obtain ⟨vc, vr, rfl, h1, h2, h3⟩ := h
      rcases h1 with h1 | ⟨h0, id, cap, rest, rfl, ho, hc⟩
      · exact .inl ⟨vc, vr, rfl, .inl h1, h2⟩
      · refine .inr ⟨id, _, _, ho, _, vr, rfl, .inr ⟨h0, id, cap, rest, rfl, hget_hset_eq .., hc⟩, h2.set fun a b c x => ?_⟩
        rintro rfl
        exact h3 _ _ _ _ _ _ _ _ _ _ rfl rfl rfl
  · intro o H' n' h
    unfold RS at h
    unfold RT
    split at h
    · rename_i e he
      try rw [he]
      exact .inl h
    · rename_i x hx
      try rw [hx]
      obtain ⟨vc, vr, rfl, h1, h2⟩ := h
      rcases h2 with h2 | ⟨h0, id, cap, rest, rfl, ho, hc⟩
      · exact .inl ⟨vc, vr, rfl, h1, .inl h2⟩
      · refine .inr ⟨id, _, _, ho, vc, _, rfl, ?_, .inr ⟨h0, id, cap, rest, rfl, hget_hset_eq .., hc⟩⟩
        rcases h1 with h1 | ⟨q0, i2, c2, r2, rfl, o2, hc2⟩
        · exact .inl h1
        · refine .inr ⟨q0, i2, c2, r2, rfl, ?_, hc2⟩
          rw [hget_hset_ne _ _ _ _ (by rintro rfl; rw [ho] at o2; cases o2)]; exact o2
  · intro o H' n' h
    unfold RT at h
    unfold nresV
    split at h
    · rename_i e he
      try rw [he]
      obtain ⟨v, rfl, hw⟩ := h
      exact ⟨.ret v, ⟨v, rfl, hw⟩, fun g w e _ q => q⟩
    · rename_i x hx
      try rw [hx]
      obtain ⟨vc, vr, rfl, h1, h2⟩ := h
      refine ⟨.ret (.tup [encD x, .int .i64 0]), ⟨_, rfl, Wk.refl _⟩, fun g w e hR q => ?_⟩
      obtain ⟨e1, e2, e3, e4, e5, e6, e7, e8⟩ := res_same hx
      cases e with
      | panicked c => exact q.elim
      | outgrown => exact q.elim
      | returned y =>
        obtain ⟨vs, rfl, y1, r1, q1, q2, q3⟩ := q
        refine ⟨vs, rfl, y1, r1, q1, ?_, q3⟩
        obtain ⟨us, rfl, p1, p2⟩ := q2
        refine ⟨us, rfl, ?_, p2⟩
        obtain ⟨a1, b1, f1, g1, a2, b2, f2, g2, a3, b3, f3, g3, a4, b4, f4, g4, a5, b5, f5, g5, a6, b6, f6, g6, a7, b7, f7, g7, a8, b8, f8, g8, a9, b9, f9, g9, a10, b10, f10, g10, g11⟩ := p1
        rw [← e1] at g1
        rw [← e2] at g2
        rw [← e3] at g3
        rw [← e4] at g4
        rw [← e5] at g5
        rw [← e6] at g6
        rw [← e7] at g7
        rw [← e8] at g8
        exact ⟨a1, b1, f1, g1, a2, b2, f2, g2, a3, b3, f3, g3, a4, b4, f4, g4, a5, b5, f5, g5, a6, b6, f6, g6, a7, b7, f7, g7, a8, b8, f8, g8, a9, b9, f9, lf_rel h1 hR g9, a10, b10, f10, lf_rel h2 hR g10, g11⟩
end Go.AM
end
section
set_option maxRecDepth 20000
set_option linter.all false
namespace Go.AM
open Go.Proofs Go.Lib
abbrev encF (f : FormD) : AVal := .agg [.bool f.on, .bool f.set, .bool f.oth, .bool f.bnd, .bool f.num, .bool f.rdb, .bool f.knw, .int .i64 f.clue]
theorem formK_out {k : Int} (h : k < 0 ∨ 14 ≤ k) : formK k = {} := by
  unfold formK
  repeat rw [if_neg (by omega)]
theorem p34 (k : Int) : Pur Tryz.prog 34 [.int .i64 k] (encF (formK k)) := by
  refine .mk ⟨trivial, trivial⟩ ⟨trivial, trivial, trivial, trivial, trivial, trivial, trivial, trivial, trivial⟩ (a34 (ev_awp TabOK.tnil (ev_evK ?_)))
  by_cases hk : k < 0 ∨ 14 ≤ k
  · have hb : (decide (k < 0) || decide (14 ≤ k)) = true := by simpa using hk
    rw [formK_out hk]
    simp only [eE, eC, eN, reduceCtorEq, Nat.reduceEqDiff, ↓reduceIte, Nat.reduceAdd, Nat.reduceLeDiff, rcell, c34, hb]
    exact Wk.refl _
  · have hb : (decide (k < 0) || decide (14 ≤ k)) = false := by simp; omega
    simp only [eE, eC, eN, reduceCtorEq, Nat.reduceEqDiff, ↓reduceIte, Nat.reduceAdd, Nat.reduceLeDiff, rcell, c34, hb]
    have hk2 : k = 0 ∨ k = 1 ∨ k = 2 ∨ k = 3 ∨ k = 4 ∨ k = 5 ∨ k = 6 ∨ k = 7 ∨ k = 8 ∨ k = 9 ∨ k = 10 ∨ k = 11 ∨ k = 12 ∨ k = 13 := by omega
    rcases hk2 with rfl | rfl | rfl | rfl | rfl | rfl | rfl | rfl | rfl | rfl | rfl | rfl | rfl | rfl <;> exact ⟨by decide, by decide, rfl, rfl, Wk.refl _⟩
theorem p68 (c : DClu) : Pur Tryz.prog 68 [encCl c] (.bool (cluOK c)) := by
  refine .mk ⟨encCl_under 0 c, trivial⟩ trivial (a68 (ev_awp TabOK.tnil (ev_evK ?_)))
  unfold cluOK
  by_cases h1 : c.ty = 1
  · simp only [eE, eC, eN, Nat.reduceEqDiff, ↓reduceIte, Nat.reduceAdd, Nat.reduceLeDiff, Int.reduceEq, c68, h1]
  by_cases h2 : c.ty = 2
  · simp only [eE, eC, eN, Nat.reduceEqDiff, ↓reduceIte, Nat.reduceAdd, Nat.reduceLeDiff, Int.reduceEq, c68, h2]
  by_cases h3 : c.ty = 3
  · simp only [eE, eC, eN, Nat.reduceEqDiff, ↓reduceIte, Nat.reduceAdd, Nat.reduceLeDiff, Int.reduceEq, c68, h3]
  simp only [eE, eC, eN, Nat.reduceEqDiff, ↓reduceIte, Nat.reduceAdd, Nat.reduceLeDiff, c68, h1, h2, h3]
theorem p16 (b : Bool) (e : Int) : Pur Tryz.prog 16 [.bool b, .int .i64 e] (.int .i64 (if b = true then 0 else e)) := by
  refine .mk ⟨trivial, trivial, trivial⟩ trivial (a16 (ev_awp TabOK.tnil (ev_evK ?_)))
  cases b <;> simp only [eE, eC, eN, reduceCtorEq, Nat.reduceEqDiff, ↓reduceIte, Nat.reduceAdd, c16]
def Tsh : Tab := tadd 34 (s1 dI any1 fun k => encF (formK k)) tnil
theorem Tsh_ok : TabOK Tryz.prog Tsh := TabOK.tnil.add (q1 fun k _ => p34 k)
theorem Tsh_e (a : List AVal) (H : AHeap) : Tsh 34 a H = s1 dI any1 (fun k => encF (formK k)) a H := rfl
theorem form_rd (k : Int) : (formK k).rdb = (decide (1 ≤ k) && decide (k ≤ 11)) := by
  by_cases hk : k < 0 ∨ 14 ≤ k
  · rw [formK_out hk]
    symm
    simp; omega
  · have hk2 : k = 0 ∨ k = 1 ∨ k = 2 ∨ k = 3 ∨ k = 4 ∨ k = 5 ∨ k = 6 ∨ k = 7 ∨ k = 8 ∨ k = 9 ∨ k = 10 ∨ k = 11 ∨ k = 12 ∨ k = 13 := by omega
    rcases hk2 with rfl | rfl | rfl | rfl | rfl | rfl | rfl | rfl | rfl | rfl | rfl | rfl | rfl | rfl <;> rfl
theorem p14 (r : DRul) : Pur Tryz.prog 14 [encRu r] (.bool (readR r)) := by
  refine .mk ⟨encRu_under 0 r, trivial⟩ trivial (a14 (ev_awp Tsh_ok (ev_evK ?_)))
  simp only [eE, eN, Nat.reduceEqDiff, ↓reduceIte, Nat.reduceAdd, Nat.reduceLeDiff, c14, Tsh_e, s1, dI_ok, dI_dec, encF]
  exact form_rd r.kind
abbrev ruE1 (r : DRul) (on set oth : Bool) : Bool := on != scmp .neq r.on [] || set != !decide (r.set = 0) || oth != !decide (r.oth = 0) || !on && !decide (r.fam = 0) || !set && decide ((0 : Int) < (r.ns.length : Int)) || !oth && decide ((0 : Int) < (r.os.length : Int))
abbrev ruE2 (r : DRul) (bnd : Bool) : Bool := bnd != (decide (1 ≤ r.op) && decide (r.op ≤ 3)) || !bnd && !decide (r.op = 0) || decide (r.n < 0) || decide (65536 < r.n)
abbrev ruE3 (r : DRul) (bnd num : Bool) : Bool := !(num || bnd && scmp .eql r.byN []) && !decide (r.n = 0)
theorem rul_code {cl : List DClu} {r : DRul} {on set oth bnd num rdb : Bool} {clue : Int} (hf : formK r.kind = ⟨on, set, oth, bnd, num, rdb, true, clue⟩) :
    rulOK cl r = if ruE1 r on set oth = true then false else if ruE2 r bnd = true then false else if ruE3 r bnd num = true then false else
      if (if (bnd && scmp .neq r.byN []) = true then 2 else clue) = 0 then decide (r.byN = []) && decide (r.clue = -1) else cluP cl r (if (bnd && scmp .neq r.byN []) = true then 2 else clue) := by
  unfold rulOK
  rw [hf]
  have e1 : ∀ (l : List Bs), decide ((0 : Int) < (l.length : Int)) = decide (0 < l.length) := fun l => by
    rw [Bool.eq_iff_iff, decide_eq_true_eq, decide_eq_true_eq]; omega
  simp only [ruE1, ruE2, ruE3, scmp_ne, scmp_eq, e1, ne_eq, decide_not, Bool.true_eq_false, if_false]
  rfl
theorem p67 (d : Dcl) (r : DRul) : Pur Tryz.prog 67 [encD d, encRu r] (.bool (rulOK d.clus r)) := by
  refine .mk ⟨encD_under 0 d, encRu_under 0 r, trivial⟩ trivial (a67 (ev_awp Tsh_ok (ev_evK ?_)))
  cases hf : (formK r.kind) with
  | mk on set oth bnd num rdb knw clue =>
  cases knw with
  | false =>
    have hR : rulOK d.clus r = false := by unfold rulOK; rw [hf]; rfl
    rw [hR]
    simp only [eE, eC, eN, reduceCtorEq, Nat.reduceEqDiff, ↓reduceIte, Nat.reduceAdd, Nat.reduceLeDiff, Bool.not_false, c67, Tsh_e, s1, dI_ok, dI_dec, hf, encF]
  | true =>
  rw [rul_code hf]
  cases h1 : ruE1 r on set oth with
  | true =>
    rw [if_pos rfl]
    simp only [eE, eC, eN, reduceCtorEq, Nat.reduceEqDiff, ↓reduceIte, Nat.reduceAdd, Nat.reduceLeDiff, Bool.not_true, List.length_map, c67, Tsh_e, s1, dI_ok, dI_dec, hf, encF, h1]
  | false =>
  rw [if_neg (by decide)]
  cases h2 : ruE2 r bnd with
  | true =>
    rw [if_pos rfl]
    simp only [eE, eC, eN, reduceCtorEq, Nat.reduceEqDiff, ↓reduceIte, Nat.reduceAdd, Nat.reduceLeDiff, Bool.not_true, List.length_map, c67, Tsh_e, s1, dI_ok, dI_dec, hf, encF, h1, h2]
  | false =>
  rw [if_neg (by decide)]
  cases h3 : ruE3 r bnd num with
  | true =>
    rw [if_pos rfl]
    simp only [eE, eC, eN, reduceCtorEq, Nat.reduceEqDiff, ↓reduceIte, Nat.reduceAdd, Nat.reduceLeDiff, Bool.not_true, List.length_map, c67, Tsh_e, s1, dI_ok, dI_dec, hf, encF, h1, h2, h3]
  | false =>
  rw [if_neg (by decide)]
  cases h4 : (bnd && scmp .neq r.byN []) with
  | true =>
    simp only [if_true]
    rw [if_neg (by decide)]
    by_cases hc : r.clue < 0 ∨ (d.clus.length : Int) ≤ r.clue
    · have hcb : (decide (r.clue < 0) || decide ((d.clus.length : Int) ≤ r.clue)) = true := by simpa using hc
      have hP : cluP d.clus r 2 = false := by unfold cluP; rw [if_pos hc]
      rw [hP]
      simp only [eE, eC, eN, reduceCtorEq, Nat.reduceEqDiff, ↓reduceIte, Nat.reduceAdd, Nat.reduceLeDiff, Int.reduceEq, Bool.not_true, List.length_map, c67, Tsh_e, s1, dI_ok, dI_dec, hf, encF, h1, h2, h3, h4, hcb]
    · have hcb : (decide (r.clue < 0) || decide ((d.clus.length : Int) ≤ r.clue)) = false := by simp; omega
      obtain ⟨j, hj⟩ : ∃ j : Nat, r.clue = (j : Int) := ⟨r.clue.toNat, by omega⟩
      have hjl : j < d.clus.length := by omega
      have hg := List.getElem?_eq_getElem hjl
      generalize d.clus[j] = c at hg
      have hP : cluP d.clus r 2 = (decide (c.ty = 2) && (decide (2 = 1) || decide (c.fam = r.fam))) := by
        unfold cluP; (rw [if_neg hc, hj, Int.toNat_natCast, hg]) <;> rfl
      rw [hP]
      rw [hj] at hcb
      simp only [eE, eC, eN, reduceCtorEq, Nat.reduceEqDiff, ↓reduceIte, Nat.reduceAdd, Nat.reduceLeDiff, Int.reduceEq, Bool.not_true, Option.getD_some, Int.toNat_natCast, Int.natCast_nonneg, List.length_map, List.getElem?_map, c67, Tsh_e, s1, dI_ok, dI_dec, hf, encF, h1, h2, h3, h4, hj, hcb, lt_T hjl, hg]
  | false =>
    simp only [Bool.false_eq_true, if_false]
    by_cases h5 : clue = 0
    · rw [if_pos h5]
      subst h5
      simp only [eE, eC, eN, reduceCtorEq, Nat.reduceEqDiff, ↓reduceIte, Nat.reduceAdd, Nat.reduceLeDiff, Bool.not_true, List.length_map, c67, Tsh_e, s1, dI_ok, dI_dec, hf, encF, h1, h2, h3, h4]
      rw [scmp_eq]
    · rw [if_neg h5]
      by_cases hc : r.clue < 0 ∨ (d.clus.length : Int) ≤ r.clue
      · have hcb : (decide (r.clue < 0) || decide ((d.clus.length : Int) ≤ r.clue)) = true := by simpa using hc
        have hP : cluP d.clus r clue = false := by unfold cluP; rw [if_pos hc]
        rw [hP]
        simp only [eE, eC, eN, reduceCtorEq, Nat.reduceEqDiff, ↓reduceIte, Nat.reduceAdd, Nat.reduceLeDiff, Bool.not_true, List.length_map, c67, Tsh_e, s1, dI_ok, dI_dec, hf, encF, h1, h2, h3, h4, dec_F h5, hcb]
      · have hcb : (decide (r.clue < 0) || decide ((d.clus.length : Int) ≤ r.clue)) = false := by simp; omega
        obtain ⟨j, hj⟩ : ∃ j : Nat, r.clue = (j : Int) := ⟨r.clue.toNat, by omega⟩
        have hjl : j < d.clus.length := by omega
        have hg := List.getElem?_eq_getElem hjl
        generalize d.clus[j] = c at hg
        have hP : cluP d.clus r clue = (decide (c.ty = clue) && (decide (clue = 1) || decide (c.fam = r.fam))) := by
          unfold cluP; (rw [if_neg hc, hj, Int.toNat_natCast, hg]) <;> rfl
        rw [hP]
        rw [hj] at hcb
        simp only [eE, eC, eN, reduceCtorEq, Nat.reduceEqDiff, ↓reduceIte, Nat.reduceAdd, Nat.reduceLeDiff, Bool.not_true, Option.getD_some, Int.toNat_natCast, Int.natCast_nonneg, List.length_map, List.getElem?_map, c67, Tsh_e, s1, dI_ok, dI_dec, hf, encF, h1, h2, h3, h4, dec_F h5, hj, hcb, lt_T hjl, hg]
end Go.AM
end
section
set_option maxRecDepth 20000
set_option linter.all false
namespace Go.AM
open Go.Proofs Go.Lib
def Trd : Tab := tadd 14 (s1 dRu any1 fun r => .bool (readR r)) tnil
theorem Trd_ok : TabOK Tryz.prog Trd := TabOK.tnil.add (q1 fun r _ => p14 r)
theorem Trd_e (a : List AVal) (H : AHeap) : Trd 14 a H = s1 dRu any1 (fun r => .bool (readR r)) a H := rfl
structure VU where
  i : Nat
  tk : Tok
  H : AHeap
  n : Nat
structure IU (rs : List DRul) (v : VU) : Prop where
  hi : v.i ≤ rs.length
  fr : Fresh v.H v.n
  hn : 2 ≤ v.n
  tok : tkG 1 1 v.H v.tk
  es : v.tk.esz = 1 ∨ unread (rs.take v.i) = []
theorem unread_len (rs : List DRul) : (unread rs).length ≤ rs.length := by
  unfold unread
  rw [List.length_map]
  exact Nat.le_trans (List.length_filter_le ..) (by simp)
theorem unread_take {rs : List DRul} {i : Nat} (h : i < rs.length) : unread (rs.take (i + 1)) = unread (rs.take i) ++ (if readR rs[i] = true then [] else [(i : Int)]) := by
  rw [List.take_add_one, List.getElem?_eq_getElem h]
  show unread (rs.take i ++ [rs[i]]) = _
  rw [unread_app, List.length_take, Nat.min_eq_left (by omega)]
theorem p13 (d : Dcl) (hr : few d.ruls) : Pur Tryz.prog 13 [encD d] (eIs (unread d.ruls)) := by
  refine .mk ⟨encD_under 0 d, trivial⟩ (eIs_under 0 _) (a13 (ev_awp Trd_ok (ev_evK ?_)))
  have hrl : d.ruls.length < 1000000000 := hr
  simp only [eE, eN, Nat.reduceEqDiff, ↓reduceIte, Nat.reduceAdd, List.length_map, c13]
  refine k_loop (fun v : VU => ⟨[(2, true, .sl v.tk ((unread (d.ruls.take v.i)).map eI)), (6, true, eRus d.ruls), (7, true, .int .i64 d.ruls.length), (8, true, .int .i64 v.i)], v.H, v.n⟩) (IU d.ruls) (fun v => d.ruls.length - v.i)
    ⟨0, .nil, hset hnil 0 (.box (cellsD d)), 2⟩ rfl ⟨Nat.zero_le _, Fresh.nil.hset (m := 2) (Nat.zero_le 2) (show 0 < 2 by decide), Nat.le_refl _, .inl rfl, .inr rfl⟩ ?_
  rintro ⟨i, tk, H, n⟩ ⟨hi, hfr, hn, htk, hes⟩
  simp only at hi hfr hn htk hes
  by_cases hlt : i < d.ruls.length
  · have hg := List.getElem?_eq_getElem hlt
    have e := w64_succ (k := i) (by omega)
    have hu := unread_take hlt
    have hul := unread_len (d.ruls.take i)
    rw [List.length_take] at hul
    generalize d.ruls[i] = r at hg hu
    cases hrr : readR r with
    | true =>
      rw [hrr, if_pos rfl, List.append_nil] at hu
      simp only [eE, eC, eN, Nat.reduceEqDiff, ↓reduceIte, Nat.reduceAdd, Int.reduceEq, Bool.not_true, Option.getD_some, Int.toNat_natCast, Int.natCast_nonneg, List.length_map, List.getElem?_map, lt_T hlt, hg, fr1 hfr, Trd_e, s1, dRu_ok, dRu_dec, hrr, e, hset_hset]
      refine .mk ⟨i + 1, tk, hset H (n + 3) (.box (cellsRu r)), n + 6⟩ ?_ ⟨hlt, hfr.hset (m := n + 6) (by omega) (by omega), by simp only []; omega, htk.set (.inr (.inr (hfr _ (by omega)))), by simp only [hu]; exact hes⟩ (by simp only []; omega)
      simp only [hu]
    | false =>
      rw [hrr, if_neg (by decide)] at hu
      have gt : tkG 1 1 (hset H (n + 3) (.box (cellsRu r))) tk := htk.set (.inr (.inr (hfr _ (by omega))))
      have gf : Fresh (hset H (n + 3) (.box (cellsRu r))) (n + 6) := hfr.hset (m := n + 6) (by omega) (by omega)
      have q1 : appOK (hset H (n + 3) (.box (cellsRu r))) 1 tk = True := eq_true gt.app
      have q2 : ((unread (d.ruls.take i)).length ≤ 35184372088831) = True := eq_true (by omega)
      have q3 : small ((unread (d.ruls.take i)).length + 1) 8 = True := eq_true (small_of (by omega) (by decide))
      simp only [eE, eC, eN, reduceCtorEq, Nat.reduceEqDiff, ↓reduceIte, Nat.reduceAdd, Nat.reduceLeDiff, Nat.reduceMul, Nat.reduceLT, Int.reduceEq, Bool.not_false, Option.getD_some, Int.toNat_natCast, Int.natCast_nonneg, List.length_map, List.getElem?_map, lt_T hlt, hg, fr1 hfr, Trd_e, s1, dRu_ok, dRu_dec, hrr, e, hset_hset, q1, q2, q3]
      refine .mk ⟨i + 1, .own (n + 9) 1, hset (killTok (hset H (n + 3) (.box (cellsRu r))) tk) (n + 9) .tok, n + 11⟩ ?_ ⟨hlt, (kill_fresh gt gf).hset (m := n + 11) (by omega) (by omega), by simp only []; omega, .inr (.inr ⟨n + 9, rfl, by omega, hget_hset_eq ..⟩), .inl rfl⟩ (by simp only []; omega)
      simp only [hu, List.map_append]; rfl
  obtain rfl : i = d.ruls.length := by omega
  rw [List.take_length] at hes
  simp only [eE, eC, eN, Nat.reduceEqDiff, ↓reduceIte, lt_F hlt, List.take_length]
  exact Wk.sl (hes.imp id fun q => by rw [q]; rfl)
def Tfm : Tab := tadd 67 (s2 dD dRu any2 fun d r => .bool (rulOK d.clus r)) (tadd 68 (s1 dCl any1 fun c => .bool (cluOK c)) tnil)
theorem Tfm_ok : TabOK Tryz.prog Tfm := (TabOK.tnil.add (q1 fun c _ => p68 c)).add (q2 fun d r _ => p67 d r)
theorem Tfm_r (a : List AVal) (H : AHeap) : Tfm 67 a H = s2 dD dRu any2 (fun d r => .bool (rulOK d.clus r)) a H := rfl
theorem Tfm_c (a : List AVal) (H : AHeap) : Tfm 68 a H = s1 dCl any1 (fun c => .bool (cluOK c)) a H := rfl
structure VF where
  i : Nat
  H : AHeap
  n : Nat
structure VM2 where
  i : Nat
  es : List (AVal × AVal × Nat)
  c : Nat
  H : AHeap
  n : Nat
structure IM2 (d : Dcl) (id : Nat) (v : VM2) : Prop where
  hi : v.i ≤ d.ruls.length
  fr : Fresh v.H v.n
  hn : id < v.n
  h0 : hget v.H 0 = some (.box (cellsD d))
  hm : hget v.H id = some (.map v.es v.c)
  ct : CntOK (d.ruls.take v.i) v.es
  ok : d.ruls.all (rulOK d.clus) = (d.ruls.drop v.i).all (rulOK d.clus)
theorem CntOK.nil : CntOK [] [] := ⟨trivial, fun z => rfl⟩
theorem p26 (d : Dcl) (hd : FewD d) : Pur Tryz.prog 26 [encD d] (.bool (formOK d)) := by
  refine .mk ⟨encD_under 0 d, trivial⟩ trivial (a26 (ev_awp Tfm_ok (ev_evK ?_)))
  have hsl : d.syms.length < 1000000000 := hd.sy
  have hrl : d.ruls.length < 1000000000 := hd.ru
  have hcl : d.clus.length < 1000000000 := hd.cl
  simp only [eE, eN, Nat.reduceEqDiff, ↓reduceIte, Nat.reduceAdd, Nat.reduceLeDiff, List.length_map, c26]
  refine k_loop (fun v : VF => ⟨[(1, true, .ptr 0 0), (11, true, eSys d.syms), (12, true, .int .i64 d.syms.length), (13, true, .int .i64 v.i)], v.H, v.n⟩) (fun v => v.i ≤ d.syms.length ∧ Fresh v.H v.n ∧ 2 ≤ v.n ∧ hget v.H 0 = some (.box (cellsD d)) ∧ (d.syms.all fun s => decide (0 ≤ s.v) && decide (s.v ≤ 99)) = ((d.syms.drop v.i).all fun s => decide (0 ≤ s.v) && decide (s.v ≤ 99))) (fun v => d.syms.length - v.i)
    ⟨0, hset hnil 0 (.box (cellsD d)), 2⟩ rfl ⟨Nat.zero_le _, Fresh.nil.hset (m := 2) (Nat.zero_le 2) (show 0 < 2 by decide), Nat.le_refl _, rfl, rfl⟩ ?_
  rintro ⟨i, H, n⟩ ⟨hi, hfr, hn, h0, hall⟩
  simp only at hi hfr hn h0 hall
  by_cases hlt : i < d.syms.length
  · have hg := List.getElem?_eq_getElem hlt
    have e := w64_succ (k := i) (by omega)
    rw [List.drop_eq_getElem_cons hlt, List.all_cons] at hall
    generalize d.syms[i] = s at hg hall
    by_cases hs : 0 ≤ s.v ∧ s.v ≤ 99
    · have hb : (decide (s.v < 0) || decide (99 < s.v)) = false := by simp; omega
      simp only [eE, eC, eN, Nat.reduceEqDiff, ↓reduceIte, Nat.reduceAdd, Int.reduceEq, Option.getD_some, Int.toNat_natCast, Int.natCast_nonneg, List.length_map, List.getElem?_map, lt_T hlt, hg, fr1 hfr, e, hset_hset, hb]
      refine .mk ⟨i + 1, hset H (n + 2) (.box [.str s.nm, .int .i64 s.v]), n + 4⟩ rfl ⟨hlt, hfr.hset (m := n + 4) (by omega) (by omega), by simp only []; omega, by simp only []; rw [hget_hset_ne _ _ _ _ (by omega)]; exact h0, ?_⟩ (by simp only []; omega)
      simp only []
      rw [hall, dec_T hs.1, dec_T hs.2]; rfl
    · have hb : (decide (s.v < 0) || decide (99 < s.v)) = true := by simp; omega
      have hR : formOK d = false := by
        unfold formOK
        rw [hall, show (decide (0 ≤ s.v) && decide (s.v ≤ 99)) = false by simp; omega]; rfl
      rw [hR]
      simp only [eE, eC, eN, Nat.reduceEqDiff, ↓reduceIte, Nat.reduceAdd, Option.getD_some, Int.toNat_natCast, Int.natCast_nonneg, List.length_map, List.getElem?_map, lt_T hlt, hg, fr1 hfr, hset_hset, hb]
  obtain rfl : i = d.syms.length := by omega
  rw [List.drop_length] at hall
  have y0 : (n = 0) = False := eq_false (by omega)
  simp only [eE, eC, eN, Nat.reduceEqDiff, ↓reduceIte, Nat.reduceAdd, xE, List.length_map, lt_F hlt, h0, fr0 hfr, y0]
  refine k_loop (fun v : VM2 => ⟨[(1, true, .ptr 0 0), (5, true, .mp n), (28, true, eRus d.ruls), (29, true, .int .i64 d.ruls.length), (30, true, .int .i64 v.i)], v.H, v.n⟩) (IM2 d n) (fun v => d.ruls.length - v.i)
    ⟨0, [], 0, hset H n (.map [] 0), n + 2⟩ rfl ⟨Nat.zero_le _, hfr.hset (m := n + 2) (by omega) (by omega), by simp only []; omega, by simp only []; rw [hget_hset_ne _ _ _ _ (by omega)]; exact h0, hget_hset_eq .., CntOK.nil, rfl⟩ ?_
  rintro ⟨k, es, c, H1, n1⟩ hI
  have hk := hI.hi
  have hfr1 := hI.fr
  have hn1 := hI.hn
  have h01 := hI.h0
  have hm := hI.hm
  have hct := hI.ct
  have hok := hI.ok
  simp only at hk hfr1 hn1 h01 hm hct hok
  by_cases hlk : k < d.ruls.length
  · have hg := List.getElem?_eq_getElem hlk
    have e := w64_succ (k := k) (by omega)
    have htk : d.ruls.take (k + 1) = d.ruls.take k ++ [d.ruls[k]] := by rw [List.take_add_one, List.getElem?_eq_getElem hlk]; rfl
    rw [List.drop_eq_getElem_cons hlk, List.all_cons] at hok
    have y1 : ∀ q, (n1 + q = n) = False := fun q => eq_false (by omega)
    have y2 : ∀ q, (n = n1 + q) = False := fun q => eq_false (by omega)
    have y3 : ∀ q, (n1 + q = 0) = False := fun q => eq_false (by omega)
    have y4 : ∀ q, (0 = n1 + q) = False := fun q => eq_false (by omega)
    generalize d.ruls[k] = r at hg hok htk
    cases hr : rulOK d.clus r with
    | false =>
      have hR : formOK d = false := by
        unfold formOK
        rw [hok, hr]; simp
      rw [hR]
      simp only [eE, eC, eN, Nat.reduceEqDiff, ↓reduceIte, Nat.reduceAdd, Bool.not_false, Option.getD_some, Int.toNat_natCast, Int.natCast_nonneg, List.length_map, List.getElem?_map, lt_T hlk, hg, Tfm_r, s2, dD_ok, dD_dec, dRu_ok, dRu_dec, hr, h01, fr1 hfr1, y3, hset_hset]
    | true =>
    rw [hr, Bool.true_and] at hok
    have hcl := cnt_le (d.ruls.take k) r.clue
    rw [List.length_take] at hcl
    have ew := w64_succ (k := cntZ (d.ruls.take k) r.clue) (by omega)
    have hq := hct.2 r.clue
    simp only [eE, eC, eN, Nat.reduceEqDiff, ↓reduceIte, Nat.reduceAdd, Int.reduceEq, Bool.not_true, xE, Option.getD_some, Int.toNat_natCast, Int.natCast_nonneg, List.length_map, List.getElem?_map, lt_T hlk, hg, Tfm_r, s2, dD_ok, dD_dec, dRu_ok, dRu_dec, hr, h01, fr1 hfr1, y1, y3, hset_hset, hm, hct.1, KT.is, lookV, hq, e, ew]
    refine .mk ⟨k + 1, mset (.int .i64 r.clue) (.int .i64 ((cntZ (d.ruls.take k) r.clue + 1 : Nat) : Int)) c es, (if (mfind (AVal.int IntKind.i64 r.clue) es).isSome = true then c else c + 1), hset (hset H1 (n1 + 2) (.box (cellsRu r))) n (.map (mset (.int .i64 r.clue) (.int .i64 ((cntZ (d.ruls.take k) r.clue + 1 : Nat) : Int)) c es) (if (mfind (AVal.int IntKind.i64 r.clue) es).isSome = true then c else c + 1)), n1 + 4⟩ rfl
      ⟨hlk, (hfr1.hset (m := n1 + 4) (by omega) (by omega)).hset (Nat.le_refl (n1 + 4)) (show n < n1 + 4 by omega), by simp only []; omega, ?_, hget_hset_eq .., by simp only []; rw [htk]; exact hct.next, hok⟩ (by simp only []; omega)
    simp only []
    rw [hget_hset_ne _ _ _ _ (by omega), hget_hset_ne _ _ _ _ (by omega)]; exact h01
  obtain rfl : k = d.ruls.length := by omega
  rw [List.drop_length] at hok
  rw [List.take_length] at hct
  simp only [eE, eC, eN, Nat.reduceEqDiff, ↓reduceIte, Nat.reduceAdd, Nat.reduceLeDiff, List.length_map, lt_F hlk, h01]
  refine k_loop (fun v : VF => ⟨[(5, true, .mp n), (45, true, eCls d.clus), (46, true, .int .i64 d.clus.length), (47, true, .int .i64 v.i)], v.H, v.n⟩) (fun v => v.i ≤ d.clus.length ∧ Fresh v.H v.n ∧ n < v.n ∧ hget v.H n = some (.map es c) ∧ ∀ j (h : j < d.clus.length), j < v.i → manyC d.ruls j = 1 ∧ cluOK d.clus[j] = true) (fun v => d.clus.length - v.i)
    ⟨0, H1, n1⟩ rfl ⟨Nat.zero_le _, hfr1, hn1, hm, fun j h q => absurd q (Nat.not_lt_zero _)⟩ ?_
  rintro ⟨j, H2, n2⟩ ⟨hj, hfr2, hn2, hm2, hal⟩
  simp only at hj hfr2 hn2 hm2 hal
  by_cases hlj : j < d.clus.length
  · have hg := List.getElem?_eq_getElem hlj
    have e := w64_succ (k := j) (by omega)
    have y1 : ∀ q, (n2 + q = n) = False := fun q => eq_false (by omega)
    have y2 : ∀ q, (n = n2 + q) = False := fun q => eq_false (by omega)
    have hq := hct.2 (j : Int)
    rw [cnt_many] at hq
    have hbad : ¬ (manyC d.ruls j = 1 ∧ cluOK d.clus[j] = true) → formOK d = false := fun q => by
      unfold formOK
      rw [hall, hok]
      cases q1 : ((List.range d.clus.length).all fun i => decide (manyC d.ruls i = 1)) with
      | false => rfl
      | true =>
      cases q2 : d.clus.all cluOK with
      | false => rfl
      | true => exact absurd ⟨of_decide_eq_true (List.all_eq_true.1 q1 j (List.mem_range.2 hlj)), List.all_eq_true.1 q2 _ (List.getElem_mem hlj)⟩ q
    have hnext : manyC d.ruls j = 1 ∧ cluOK d.clus[j] = true → ∀ q (h : q < d.clus.length), q < j + 1 → manyC d.ruls q = 1 ∧ cluOK d.clus[q] = true := fun z q h hq => by
      by_cases w : q = j
      · subst w; exact z
      · exact hal q h (by omega)
    generalize hx : d.clus[j] = x at hg hbad hnext
    by_cases hmc : manyC d.ruls j = 1
    · have hmb : (((manyC d.ruls j : Nat) : Int) = 1) = True := eq_true (by omega)
      cases hc : cluOK x with
      | false =>
        rw [hbad (by rw [hc]; simp)]
        simp only [eE, eC, eN, Nat.reduceEqDiff, ↓reduceIte, Nat.reduceAdd, Bool.not_true, Bool.not_false, xE, Option.getD_some, Int.toNat_natCast, Int.natCast_nonneg, List.length_map, List.getElem?_map, lt_T hlj, hg, Tfm_c, s1, dCl_ok, dCl_dec, hc, fr1 hfr2, y1, hset_hset, hm2, hct.1, KT.is, lookV, hq, hmb]
      | true =>
        simp only [eE, eC, eN, Nat.reduceEqDiff, ↓reduceIte, Nat.reduceAdd, Int.reduceEq, Bool.not_true, xE, Option.getD_some, Int.toNat_natCast, Int.natCast_nonneg, List.length_map, List.getElem?_map, lt_T hlj, hg, Tfm_c, s1, dCl_ok, dCl_dec, hc, fr1 hfr2, y1, hset_hset, hm2, hct.1, KT.is, lookV, hq, e, hmb]
        refine .mk ⟨j + 1, hset H2 (n2 + 3) (.box (encCl x).cells), n2 + 6⟩ rfl ⟨hlj, hfr2.hset (m := n2 + 6) (by omega) (by omega), by simp only []; omega, ?_, hnext ⟨hmc, hc⟩⟩ (by simp only []; omega)
        simp only []
        rw [hget_hset_ne _ _ _ _ (by omega)]; exact hm2
    · have hmb : (((manyC d.ruls j : Nat) : Int) = 1) = False := eq_false (by omega)
      rw [hbad (fun q => hmc q.1)]
      simp only [eE, eC, eN, reduceCtorEq, Nat.reduceEqDiff, ↓reduceIte, Nat.reduceAdd, Bool.not_true, Bool.not_false, xE, Option.getD_some, Int.toNat_natCast, Int.natCast_nonneg, List.length_map, List.getElem?_map, lt_T hlj, hg, Tfm_c, s1, dCl_ok, dCl_dec, fr1 hfr2, y1, hset_hset, hm2, hct.1, KT.is, lookV, hq, hmb]
  obtain rfl : j = d.clus.length := by omega
  have hR : formOK d = true := by
    have z2 : d.clus.all cluOK = true := List.all_eq_true.2 fun q hq => by
      obtain ⟨m, hm, rfl⟩ := List.mem_iff_getElem.1 hq
      exact (hal m hm hm).2
    unfold formOK
    rw [hall, hok, List.all_eq_true.2 fun q hq => decide_eq_true (hal q (List.mem_range.1 hq) (List.mem_range.1 hq)).1, z2]
    rfl
  rw [hR]
  simp only [eE, eC, eN, Nat.reduceEqDiff, ↓reduceIte, lt_F hlj]
end Go.AM
end
section
set_option maxRecDepth 20000
set_option linter.all false
namespace Go.AM
open Go.Proofs Go.Lib
structure VSu where
  i : Nat
  lo : Int
  hi : Int
  ok : Bool
  H : AHeap
  n : Nat
def pkS (B : Int → Bool) (l : List DSym) (k : Nat) : List Int := ((l.zipIdx k).filter fun p => B p.2).map fun p => p.1.v
theorem pk_take {B : Int → Bool} {l : List DSym} {i : Nat} (h : i < l.length) : pkS B (l.take (i + 1)) 0 = pkS B (l.take i) 0 ++ if B i = true then [l[i].v] else [] := by
  rw [List.take_add_one, List.getElem?_eq_getElem h]
  show pkS B (l.take i ++ [l[i]]) 0 = _
  unfold pkS
  rw [List.zipIdx_append, List.filter_append, List.map_append]
  simp only [List.length_take, Nat.min_eq_left (Nat.le_of_lt h), List.zipIdx_singleton, List.filter_cons, Nat.zero_add]
  split <;> rfl
theorem pk_split {B : Int → Bool} {l : List DSym} (i : Nat) : pkS B l 0 = pkS B (l.take i) 0 ++ pkS B (l.drop i) (0 + (l.take i).length) := by
  conv => lhs; rw [← List.take_append_drop i l]
  unfold pkS
  rw [List.zipIdx_append, List.filter_append, List.map_append]
def mnF : List Int → Int
  | [] => 0
  | v :: r => r.foldl min v
def mxF : List Int → Int
  | [] => 0
  | v :: r => r.foldl max v
theorem mn_app {l : List Int} (x : Int) (h : l ≠ []) : mnF (l ++ [x]) = min (mnF l) x := by
  cases l with
  | nil => exact absurd rfl h
  | cons v r => simp [mnF, List.foldl_append]
theorem mx_app {l : List Int} (x : Int) (h : l ≠ []) : mxF (l ++ [x]) = max (mxF l) x := by
  cases l with
  | nil => exact absurd rfl h
  | cons v r => simp [mxF, List.foldl_append]
def okv (v : Int) : Bool := decide (0 ≤ v) && decide (v ≤ 99)
structure ISu (L : List DSym) (B : Int → Bool) (v : VSu) : Prop where
  hi : v.i ≤ L.length
  fr : Fresh v.H v.n
  hn : 4 ≤ v.n
  all : (pkS B (L.take v.i) 0).all okv = true
  lo : v.lo = mnF (pkS B (L.take v.i) 0)
  up : v.hi = mxF (pkS B (L.take v.i) 0)
  ok : v.ok = !(pkS B (L.take v.i) 0).isEmpty
def bitZ (set i : Int) : Bool := !decide (ibits .and .i64 (ishift .shr .i64 set i) 1 = 0)
abbrev encSum (x : Int × Int × Bool) : AVal := .tup [.int .i64 x.1, .int .i64 x.2.1, .bool x.2.2]
theorem pick_pk (syms : List DSym) (B : Int → Bool) : pickS syms B = pkS B (syms.take 16) 0 := rfl
theorem sum_bad {syms : List DSym} {B : Int → Bool} {n : Int} (h : (pickS syms B).all okv = false) : sumS syms B n = (0, 0, false) := by
  unfold sumS
  split
  · rfl
  · split
    · rfl
    · rename_i v r q
      rw [q] at h
      exact if_pos h
theorem sum_good {syms : List DSym} {B : Int → Bool} {n : Int} (hn : ¬ (n < 0 ∨ 256 < n)) (h : (pickS syms B).all okv = true) : sumS syms B n = (n * mnF (pickS syms B), n * mxF (pickS syms B), !(pickS syms B).isEmpty) := by
  unfold sumS
  rw [if_neg hn]
  split
  · rename_i q; rw [q]; simp [mnF, mxF]
  · rename_i v r q
    rw [q] at h
    have h' : ((v :: r).all fun v => decide (0 ≤ v) && decide (v ≤ 99)) = true := h
    rw [q, h', if_neg (by decide)]; rfl
theorem mn_rng {l : List Int} (h : l.all okv = true) : 0 ≤ mnF l ∧ mnF l ≤ 99 ∧ 0 ≤ mxF l ∧ mxF l ≤ 99 := by
  cases l with
  | nil => simp [mnF, mxF]
  | cons v r =>
    have hv : ∀ x ∈ v :: r, 0 ≤ x ∧ x ≤ 99 := fun x hx => by
      have := List.all_eq_true.1 h x hx
      simpa [okv] using this
    have h1 := (foldl_min r v).2.2
    have h2 := (foldl_max r v).2.2
    have a1 : r.foldl min v ∈ v :: r := by
      rcases h1 with h1 | h1
      · rw [h1]; simp
      · simp [h1]
    have a2 : r.foldl max v ∈ v :: r := by
      rcases h2 with h2 | h2
      · rw [h2]; simp
      · simp [h2]
    exact ⟨(hv _ a1).1, (hv _ a1).2, (hv _ a2).1, (hv _ a2).2⟩
theorem p10 (d : Dcl) (set n : Int) (hd : FewD d) : Pur Tryz.prog 10 [encD d, .int .i64 set, .int .i64 n] (encSum (sumS d.syms (bitZ set) n)) := by
  refine .mk ⟨encD_under 0 d, trivial, trivial, trivial⟩ ⟨trivial, trivial, trivial, trivial⟩ (a10 (ev_awp TabOK.tnil (ev_evK ?_)))
  have hsl : d.syms.length < 1000000000 := hd.sy
  by_cases hn : n < 0 ∨ 256 < n
  · have hb : (decide (n < 0) || decide (256 < n)) = true := by simpa using hn
    have hR : sumS d.syms (bitZ set) n = (0, 0, false) := by unfold sumS; rw [if_pos hn]
    rw [hR]
    simp only [eE, eC, eN, reduceCtorEq, Nat.reduceEqDiff, ↓reduceIte, Nat.reduceAdd, c10, hb]
    exact Wk.refl _
  have hb : (decide (n < 0) || decide (256 < n)) = false := by simp; omega
  have hT : List.take (min (d.syms.length : Int) 16).toNat (d.syms.map encSy) = (d.syms.take 16).map encSy := by
    rw [← List.map_take]
    congr 1
    rw [show (min (d.syms.length : Int) 16).toNat = min 16 d.syms.length by omega, ← List.take_take, List.take_length]
  have h3 : (0 ≤ min (d.syms.length : Int) 16 ∧ min (d.syms.length : Int) 16 ≤ d.syms.length) = True := eq_true (by omega)
  have ht16 : (d.syms.take 16).length ≤ 16 := by rw [List.length_take]; omega
  have hpk := pick_pk d.syms (bitZ set)
  simp only [eE, eC, eN, reduceCtorEq, Nat.reduceEqDiff, ↓reduceIte, Nat.reduceAdd, Nat.reduceLeDiff, Int.toNat_zero, Int.le_refl, List.length_map, c10, hb, h3, hT]
  generalize hL : d.syms.take 16 = L at *
  refine k_loop (fun v : VSu => ⟨[(1, true, .int .i64 set), (2, true, .int .i64 n), (6, true, .int .i64 v.lo), (7, true, .int .i64 v.hi), (8, true, .bool v.ok), (23, true, .sl (.none 2) (L.map encSy)), (24, true, .int .i64 L.length), (25, true, .int .i64 v.i)], v.H, v.n⟩) (ISu L (bitZ set)) (fun v => L.length - v.i)
    ⟨0, 0, 0, false, hset hnil 0 (.box (cellsD d)), 4⟩ rfl ⟨Nat.zero_le _, Fresh.nil.hset (m := 4) (Nat.zero_le 4) (show 0 < 4 by decide), Nat.le_refl _, rfl, rfl, rfl, rfl⟩ ?_
  rintro ⟨i, lo, hi, ok, H, m⟩ hI
  have hil := hI.hi
  have hfr := hI.fr
  have hm := hI.hn
  have hal := hI.all
  have e1 := hI.lo
  have e2 := hI.up
  have e3 := hI.ok
  simp only at hil hfr hm hal e1 e2 e3
  by_cases hlt : i < L.length
  · have hg := List.getElem?_eq_getElem hlt
    have e := w64_succ (k := i) (by omega)
    have hs := pk_take (B := bitZ set) hlt
    have hsp := pk_split (B := bitZ set) (l := L) (i + 1)
    generalize L[i] = s at hg hs
    have hbz : decide (ibits .and .i64 (ishift .shr .i64 set i) 1 = 0) = !bitZ set i := (Bool.not_not _).symm
    cases hz : bitZ set i with
    | false =>
      rw [hz, if_neg (by decide), List.append_nil] at hs
      rw [hz] at hbz
      simp only [eE, eC, eN, Nat.reduceEqDiff, ↓reduceIte, Nat.reduceAdd, Int.reduceEq, Bool.not_false, Option.getD_some, Int.toNat_natCast, Int.natCast_nonneg, List.length_map, List.getElem?_map, lt_T hlt, hg, e, fr1 hfr, hbz, Bool.not_false, hset_hset]
      exact .mk ⟨i + 1, lo, hi, ok, hset H (m + 3) (.box [.str s.nm, .int .i64 s.v]), m + 6⟩ rfl ⟨hlt, hfr.hset (m := m + 6) (by omega) (by omega), by simp only []; omega, by simp only []; rw [hs]; exact hal, by simp only []; rw [hs]; exact e1, by simp only []; rw [hs]; exact e2, by simp only []; rw [hs]; exact e3⟩ (by simp only []; omega)
    | true =>
    rw [hz, if_pos rfl] at hs
    rw [hz] at hbz
    by_cases hv : 0 ≤ s.v ∧ s.v ≤ 99
    · have hb2 : (decide (s.v < 0) || decide (99 < s.v)) = false := by simp; omega
      have hov : okv s.v = true := by simp [okv, hv]
      have hal2 : (pkS (bitZ set) (L.take (i + 1)) 0).all okv = true := by rw [hs, List.all_append, hal]; simp [hov]
      cases ok with
      | false =>
        have hnil : pkS (bitZ set) (L.take i) 0 = [] := by
          cases q : pkS (bitZ set) (L.take i) 0 with
          | nil => rfl
          | cons a b => rw [q] at e3; cases e3
        rw [hnil, List.nil_append] at hs
        simp only [eE, eC, eN, Nat.reduceEqDiff, ↓reduceIte, Nat.reduceAdd, Int.reduceEq, Bool.not_true, Bool.not_false, Option.getD_some, Int.toNat_natCast, Int.natCast_nonneg, List.length_map, List.getElem?_map, lt_T hlt, hg, e, fr1 hfr, hbz, Bool.not_true, hset_hset, hb2, Int.min_self, Int.max_self]
        exact .mk ⟨i + 1, s.v, s.v, true, hset H (m + 3) (.box [.str s.nm, .int .i64 s.v]), m + 6⟩ rfl ⟨hlt, hfr.hset (m := m + 6) (by omega) (by omega), by simp only []; omega, hal2, by simp only []; rw [hs]; rfl, by simp only []; rw [hs]; rfl, by simp only []; rw [hs]; rfl⟩ (by simp only []; omega)
      | true =>
        have hne : pkS (bitZ set) (L.take i) 0 ≠ [] := fun q => by rw [q] at e3; cases e3
        simp only [eE, eC, eN, Nat.reduceEqDiff, ↓reduceIte, Nat.reduceAdd, Int.reduceEq, Bool.not_true, Option.getD_some, Int.toNat_natCast, Int.natCast_nonneg, List.length_map, List.getElem?_map, lt_T hlt, hg, e, fr1 hfr, hbz, Bool.not_true, hset_hset, hb2]
        refine .mk ⟨i + 1, min lo s.v, max hi s.v, true, hset H (m + 3) (.box [.str s.nm, .int .i64 s.v]), m + 6⟩ rfl ⟨hlt, hfr.hset (m := m + 6) (by omega) (by omega), by simp only []; omega, hal2, by simp only []; rw [hs, mn_app _ hne, e1], by simp only []; rw [hs, mx_app _ hne, e2], ?_⟩ (by simp only []; omega)
        simp only []
        rw [hs]
        cases pkS (bitZ set) (L.take i) 0 <;> rfl
    · have hb2 : (decide (s.v < 0) || decide (99 < s.v)) = true := by simp; omega
      have hov : okv s.v = false := by simp [okv]; omega
      have hR : sumS d.syms (bitZ set) n = (0, 0, false) := sum_bad (by
        rw [hpk, hsp, hs, List.all_append, List.all_append]; simp [hov])
      rw [hR]
      simp only [eE, eC, eN, Nat.reduceEqDiff, ↓reduceIte, Nat.reduceAdd, Int.reduceEq, Bool.not_true, Option.getD_some, Int.toNat_natCast, Int.natCast_nonneg, List.length_map, List.getElem?_map, lt_T hlt, hg, fr1 hfr, hbz, Bool.not_true, hset_hset, hb2]
      exact Wk.refl _
  obtain rfl : i = L.length := by omega
  rw [List.take_length] at hal e1 e2 e3
  rw [sum_good hn (by rw [hpk]; exact hal), hpk, ← e1, ← e2, ← e3]
  have hrg := mn_rng hal
  rw [← e1, ← e2] at hrg
  have b1 : 0 ≤ n := by omega
  have b2 : n ≤ 256 := by omega
  have w1 : IntKind.wrap .i64 (n * lo) = n * lo := w64_in (by have := Int.mul_nonneg b1 hrg.1; omega) (by have := Int.mul_le_mul b2 hrg.2.1 hrg.1 (by decide); omega)
  have w2 : IntKind.wrap .i64 (n * hi) = n * hi := w64_in (by have := Int.mul_nonneg b1 hrg.2.2.1; omega) (by have := Int.mul_le_mul b2 hrg.2.2.2 hrg.2.2.1 (by decide); omega)
  simp only [eE, eC, eN, Nat.reduceEqDiff, ↓reduceIte, lt_F hlt, w1, w2]
  exact Wk.refl _
end Go.AM
end
