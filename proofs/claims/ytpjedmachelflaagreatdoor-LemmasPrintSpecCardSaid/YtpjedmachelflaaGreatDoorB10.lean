/-
  Rules of deduction: the reference's reader, its small steps · Rules of deduction: the reference's reader, names with commas between them · Rules of deduction: the reference's reader, a condition or a premise · Rules of deduction: the reference's reader, a lemma · Rules of deduction: the reference's lemma with indices · Rules of deduction: the reference's Parse · Rules of deduction: the reference's printing of names · Rules of deduction: the reference's text of a lemma · Rules of deduction: the reference's Print.
  Conditions: none beyond those of its parts.
-/
import Derived.Test.YtpjedmachelflaaGreatDoorB9

section
set_option maxRecDepth 20000
set_option linter.all false
namespace Go.AM
open Go.Proofs Go.Lib
abbrev rB (l : List Tkn) (a : Nat) (b : Bool) : AObj := .box [.sl (.none 4) (l.map encK), .int .i64 a, .bool b]
def rk {α : Type} : Bool → α → List Tkn → Rs α
  | true, _, r => .bad r
  | false, a, r => .ok a r
def gB {α : Type} : Bool → (List Tkn → Rs α) → List Tkn → Rs α
  | true, _, r => .bad r
  | false, g, r => g r
def RPost {α : Type} (enc : α → AVal) (l : List Tkn) (H : AHeap) (n rid : Nat) (x : Rs α) (o : AOut) (H' : AHeap) (n' : Nat) : Prop :=
  ∃ a at' b', o = .ret (enc a) ∧ H' = hset H rid (rB l at' b') ∧ n' = n ∧ at' ≤ l.length ∧ x = rk b' a (l.drop at')
def RW {α : Type} (enc : α → AVal) (l : List Tkn) (H : AHeap) (rid : Nat) (x : Rs α) (o : AOut) (H' : AHeap) (n' : Nat) : Prop :=
  ∃ a at' b', (∃ v, o = .ret v ∧ Wk v (enc a)) ∧ hget H' rid = some (rB l at' b') ∧ KeepsB rid H H' ∧ at' ≤ l.length ∧ x = rk b' a (l.drop at')
def RStep {α : Type} (fid : FuncId) (xs : List AVal) (enc : α → AVal) (g : List Tkn → Rs α) : Prop :=
  ∀ (l : List Tkn) (rid : Nat) (H : AHeap) (n at' : Nat) (b : Bool), l.length < 1000000000 → at' ≤ l.length → hget H rid = some (rB l at' b) → ACalls Tryz.prog fid (.ptr rid 0 :: xs) H n (RPost enc l H n rid (gB b g (l.drop at')))
theorem rB_under (n : Nat) (l : List Tkn) (a : Nat) (b : Bool) : (rB l a b).under n := ⟨⟨trivial, encK_under n l⟩, trivial, trivial, trivial⟩
theorem rstep_forget {H H' : AHeap} {n rid a a' : Nat} {b b' : Bool} {l : List Tkn} (hf : Fresh H n) (hp : hget H rid = some (rB l a b)) (h1 : hget H' rid = some (rB l a' b')) (h2 : KeepsB rid H H') : ForgetOK n H H' (hset H rid (rB l a' b')) := by
  refine ⟨fun id ob ho => ?_, fun id hid => ?_⟩
  · rw [hget_hset] at ho
    by_cases e : rid = id
    · subst e
      rw [if_pos rfl] at ho
      cases ho
      exact ⟨hf.lt hp, ⟨_, h1, OWk.refl _⟩, .inl (rB_under n l a' b')⟩
    · rw [if_neg e] at ho
      exact ⟨hf.lt ho, ⟨ob, h2 id ob (Ne.symm e) ho, OWk.refl _⟩, .inr ho⟩
  · rw [hget_hset]
    split
    · exact fun h => by cases h
    · exact hid
theorem rstep_exact {α : Type} {fid : FuncId} {xs : List AVal} {enc : α → AVal} {x : Rs α} {l : List Tkn} {rid a : Nat} {b : Bool} {H : AHeap} {n : Nat} (hc : Callable Tryz.prog fid) (he : ∀ n a, (enc a).under n) (hp : hget H rid = some (rB l a b))
    (h : Fresh H n → rid < n → ACalls Tryz.prog fid (.ptr rid 0 :: xs) H n (RW enc l H rid x)) : ACalls Tryz.prog fid (.ptr rid 0 :: xs) H n (RPost enc l H n rid x) := by
  refine ACalls.fresh hc fun hf => ?_
  refine ACalls.forget (h hf (hf.lt hp)) ?_
  rintro o H' n' ⟨v, a', b', ⟨w, rfl, hw⟩, h1, h2, h3, h4⟩
  exact ⟨.ret (enc v), _, ⟨v, a', b', rfl, rfl, rfl, h3, h4⟩, rstep_forget hf hp h1 h2, hw, he n v⟩
theorem RStep.of {α : Type} {fid : FuncId} {xs : List AVal} {enc : α → AVal} {g : List Tkn → Rs α} (hc : Callable Tryz.prog fid) (he : ∀ n a, (enc a).under n)
    (h : ∀ (l : List Tkn) (rid : Nat) (H : AHeap) (n at' : Nat) (b : Bool), l.length < 1000000000 → at' ≤ l.length → Fresh H n → rid < n → hget H rid = some (rB l at' b) → ACalls Tryz.prog fid (.ptr rid 0 :: xs) H n (RW enc l H rid (gB b g (l.drop at')))) : RStep fid xs enc g :=
  fun l rid H n a b hl ha hp => rstep_exact hc he hp fun hf hlt => h l rid H n a b hl ha hf hlt hp
end Go.AM
end
section
set_option maxRecDepth 20000
set_option linter.all false
namespace Go.AM
open Go.Proofs Go.Lib
theorem Lc.len {α : Type} {g : List Tkn → Rs α} (h : Lc g) {b b' : Bool} {l : List Tkn} {a a' : Nat} {v : α} (ha : a ≤ l.length) (ha' : a' ≤ l.length) (e : gB b g (l.drop a) = rk b' v (l.drop a')) : a ≤ a' := by
  have key : ∀ r', (∃ u, l.drop a = u ++ r') → r' = l.drop a' → a ≤ a' := by
    rintro r' ⟨u, hu⟩ rfl
    have := congrArg List.length hu
    simp only [List.length_append, List.length_drop] at this
    omega
  cases b with
  | true =>
    cases b' with
    | true =>
      simp only [gB, rk, Rs.bad.injEq] at e
      exact key (l.drop a) ⟨[], rfl⟩ e
    | false => cases e
  | false =>
    cases b' with
    | true =>
      obtain ⟨u, h1, -⟩ := h.bad _ _ e
      exact key _ ⟨u, h1⟩ rfl
    | false =>
      obtain ⟨u, h1, -⟩ := h.ok _ _ _ e
      exact key _ ⟨u, h1⟩ rfl
end Go.AM
end
section
set_option maxRecDepth 20000
set_option linter.all false
namespace Go.AM
open Go.Proofs Go.Lib
end Go.AM
end
section
set_option maxRecDepth 20000
set_option linter.all false
namespace Go.AM
open Go.Proofs Go.Lib
end Go.AM
end
section
set_option maxRecDepth 20000
set_option linter.all false
namespace Go.AM
open Go.Proofs Go.Lib
end Go.AM
end
section
set_option maxRecDepth 20000
set_option linter.all false
namespace Go.AM
open Go.Proofs Go.Lib
end Go.AM
end
section
set_option maxRecDepth 20000
set_option linter.all false
namespace Go.AM
open Go.Proofs Go.Lib
def jt (T : List Tkn) : Bs := joinTail [32] (T.map wordS)
theorem jt_nil : jt [] = [] := rfl
theorem jt_cons (t : Tkn) (T : List Tkn) : jt (t :: T) = 32 :: (wordS t ++ jt T) := by simp [jt, joinTail]
theorem jt_app (T U : List Tkn) : jt (T ++ U) = jt T ++ jt U := by
  induction T with
  | nil => rfl
  | cons t r ih => rw [List.cons_append, jt_cons, ih, jt_cons]; simp
theorem jt_join (t : Tkn) (T : List Tkn) : join ((t :: T).map wordS) [32] = wordS t ++ jt T := by rw [List.map_cons, join_cons]; rfl
theorem wS_I (s : Bs) : wordS (kI s) = s := rfl
theorem wS_S (s : Bs) : wordS (kS s) = s := rfl
theorem wS_N (v : Nat) : wordS (kN v) = decDigits v := itoa_nat v
theorem jt_len {T : List Tkn} (h : ∀ t ∈ T, (wordS t).length ≤ 32) : (jt T).length ≤ T.length * 33 := by
  have := tail_len (B := 32) (T.map wordS) (fun w hw => by obtain ⟨t, ht, rfl⟩ := List.mem_map.1 hw; exact h t ht)
  rwa [List.length_map] at this
theorem small1 {a : Nat} (h : a ≤ 35184372088832) : small a 1 := by unfold small; omega
theorem name_32 {s : Bs} (h : nameS s = true) : s.length ≤ 32 := by
  unfold nameS at h
  simp only [Bool.and_eq_true, decide_eq_true_eq] at h
  exact h.1.1.2
theorem p98 (l : List Bs) (hl : few l) : Pur Tryz.prog 98 [eSs l] (eIs (rangeI l.length)) := by
  refine .mk ⟨⟨trivial, strs_under 0 l⟩, trivial⟩ ⟨trivial, eI_under 0 _⟩ (a98 (ev_awp TabOK.tnil (ev_evK ?_)))
  simp only [eE, eN, reduceCtorEq, Nat.reduceEqDiff, ↓reduceIte, Nat.reduceLeDiff, Nat.reduceMul, c98]
  refine k_loop (fun v : Vg => ⟨[(0, true, eSs l), (3, true, .sl v.tk ((rangeI v.i).map eI)), (4, true, .int .i64 v.i)], v.H, v.n⟩) (Ig 1 l.length) (fun v => l.length - v.i) ⟨0, .exact 1, hnil, 0⟩ rfl ⟨Nat.zero_le _, Fresh.nil, .inr (.inl rfl), .inr rfl⟩ ?_
  rintro ⟨i, tk, H, n⟩ hI
  have hi : i ≤ l.length := hI.hi
  by_cases hlt : i < l.length
  case neg =>
    obtain rfl : i = l.length := by omega
    simp only [eE, eC, eN, reduceCtorEq, Nat.reduceEqDiff, ↓reduceIte, List.length_map, lt_F hlt]
    refine Wk.sl (hI.es.imp id fun e => ?_)
    simp only at e
    rw [e]; rfl
  have e := w64_succ (k := i) (by omega)
  have q1 : appOK H 1 tk = True := eq_true hI.tok.app
  have q2 : (i ≤ 35184372088831) = True := eq_true (by omega)
  have q3 : small (i + 1) 8 = True := eq_true (small_of (by omega) (by decide))
  simp only [eE, eC, eN, reduceCtorEq, Nat.reduceEqDiff, ↓reduceIte, Nat.reduceLeDiff, Nat.reduceMul, Nat.reduceLT, Int.reduceEq, List.length_map, lt_T hlt, e, q1, q2, q3, rangeI_len, fr1 hI.fr]
  exact .mk _ (by rw [rangeI_succ]) (hI.next (id := n + 3) (n' := n + 5) hlt (by simp only []; omega) (by omega)) (by simp only []; omega)
def okK (l : List Bs) (ks : List Int) : Prop := ∀ k ∈ ks, 0 ≤ k ∧ k < l.length ∧ nameS (getS l k) = true
theorem getS_get {l : List Bs} {k : Int} (h0 : 0 ≤ k) (h1 : k < l.length) : l[k.toNat]? = some (getS l k) := by
  unfold getS
  rw [List.getElem?_eq_getElem (by omega)]; rfl
theorem nsT_32 {l : List Bs} (h : ∀ s ∈ l, s.length ≤ 32) : ∀ t ∈ nsT l, (wordS t).length ≤ 32 := by
  have hm : ∀ r : List Bs, (∀ s ∈ r, s.length ≤ 32) → ∀ t ∈ mT r, (wordS t).length ≤ 32 := by
    intro r hr t ht
    unfold mT at ht
    obtain ⟨s, hs, h2⟩ := List.mem_flatMap.1 ht
    simp only [List.mem_cons, List.not_mem_nil, or_false] at h2
    rcases h2 with rfl | rfl
    · show 1 ≤ 32; decide
    · exact hr s hs
  cases l with
  | nil => intro t ht; cases ht
  | cons s r =>
    intro t ht
    rcases List.mem_cons.1 ht with rfl | ht
    · exact h s (by simp)
    · exact hm r (fun x hx => h x (by simp [hx])) t ht
theorem ns_len {l : List Bs} {ks : List Int} (h : okK l ks) : (jt (nsT (ks.map (getS l)))).length ≤ ks.length * 66 := by
  have h1 := jt_len (nsT_32 (l := ks.map (getS l)) fun s hs => by obtain ⟨k, hk, rfl⟩ := List.mem_map.1 hs; exact name_32 (h k hk).2.2)
  have h2 := nsT_len (ks.map (getS l))
  rw [List.length_map] at h2
  omega
theorem p97 (s : Bs) (l : List Bs) (ks : List Int) (hs : s.length ≤ 1000000) (hk : okK l ks) (hl : ks.length ≤ 1000) : Pur Tryz.prog 97 [.str s, eSs l, eIs ks] (.str (s ++ jt (nsT (ks.map (getS l))))) := by
  refine .mk ⟨trivial, ⟨trivial, strs_under 0 l⟩, ⟨trivial, eI_under 0 _⟩, trivial⟩ trivial (a97 (ev_awp TabOK.tnil (ev_evK ?_)))
  simp only [eE, eN, reduceCtorEq, Nat.reduceEqDiff, ↓reduceIte, Nat.reduceAdd, c97]
  refine k_loop (fun i : Nat => ⟨[(0, true, .str (s ++ jt (nsT ((ks.take i).map (getS l))))), (1, true, eSs l), (2, true, eIs ks), (7, true, .int .i64 i)], hnil, 0⟩) (fun i => i ≤ ks.length) (fun i => ks.length - i) 0 (by simp [nsT, jt_nil]) (Nat.zero_le _) ?_
  intro i hi
  by_cases hlt : i < ks.length
  case neg =>
    obtain rfl : i = ks.length := by omega
    simp only [eE, eC, eN, reduceCtorEq, Nat.reduceEqDiff, ↓reduceIte, List.length_map, lt_F hlt]
    rw [List.take_length]
  have hg := List.getElem?_eq_getElem hlt
  have e := w64_succ (k := i) (by omega)
  obtain ⟨h0, h1, h2⟩ := hk _ (List.getElem_mem hlt)
  have hgg := getS_get h0 h1
  have hn := name_32 h2
  have hlen := ns_len (l := l) (ks := ks.take i) fun k hk' => hk k (List.mem_of_mem_take hk')
  have htl : (ks.take i).length ≤ 1000 := by simp; omega
  have nx := nsT_take (l := ks.map (getS l)) (i := i) (by simpa using hlt)
  rw [List.getElem_map, ← List.map_take, ← List.map_take] at nx
  generalize hS : jt (nsT ((ks.take i).map (getS l))) = S at hlen
  generalize hk0 : ks[i] = k at hg h0 h1 h2 hgg hn nx
  have h0T : (0 ≤ k) = True := eq_true h0
  have hkl : (k.toNat < l.length) = True := eq_true (by omega)
  have hSl : S.length ≤ 66000 := by omega
  have key : s ++ jt (nsT (List.map (getS l) (List.take (i + 1) ks))) = s ++ S ++ jt (if i = 0 then [kI (getS l k)] else [kS [44], kI (getS l k)]) := by
    rw [nx, jt_app, hS, List.append_assoc]
  by_cases hi0 : i = 0
  · have i0 : ((0 : Int) < (i : Int)) = False := eq_false (by omega)
    rw [if_pos hi0] at key
    simp only [eE, eC, eN, reduceCtorEq, Nat.reduceEqDiff, ↓reduceIte, Int.reduceEq, Option.getD_some, Int.toNat_natCast, Int.natCast_nonneg, List.length_map, List.getElem?_map, lt_T hlt, hg, e, i0, h0T, hgg]
    refine ⟨small1 (by simp only [List.length_append]; omega), h1, small1 (by simp only [List.length_append, List.length_cons, List.length_nil]; omega), .mk (i + 1) (by rw [key, jt_cons, jt_nil, wS_I]; simp) hlt (by omega)⟩
  · have i0 : ((0 : Int) < (i : Int)) = True := eq_true (by omega)
    rw [if_neg hi0] at key
    simp only [eE, eC, eN, reduceCtorEq, Nat.reduceEqDiff, ↓reduceIte, Nat.reduceAdd, Int.reduceEq, Option.getD_some, Int.toNat_natCast, Int.natCast_nonneg, List.length_map, List.getElem?_map, lt_T hlt, hg, e, i0, h0T, hgg]
    refine ⟨small1 (by simp only [List.length_append]; omega), small1 (by simp only [List.length_append, List.length_cons, List.length_nil]; omega), h1, small1 (by simp only [List.length_append, List.length_cons, List.length_nil]; omega), .mk (i + 1) (by rw [key, jt_cons, jt_cons, jt_nil, wS_I, wS_S]; simp) hlt (by omega)⟩
end Go.AM
end
section
set_option maxRecDepth 20000
set_option linter.all false
namespace Go.AM
open Go.Proofs Go.Lib
def fList (s : Bs) (l : List Bs) (ks : List Int) : AVal := .str (s ++ jt (nsT (ks.map (getS l))))
def Tzd : Tab := tadd 96 (s1 dI (fun v => 0 ≤ v ∧ v ≤ 1099511627776) fun v => .str (decDigits v.toNat)) (tadd 97 (s3 dS dSs dIs (fun s l ks => s.length ≤ 1000000 ∧ okK l ks ∧ ks.length ≤ 1000) fList) (tadd 98 (s1 dSs (fun a => few a) fun a => eIs (rangeI a.length)) tnil))
theorem Tzd_ok : TabOK Tryz.prog Tzd := ((TabOK.tnil.add (q1 fun a h => p98 a h)).add (q3 fun s l ks h => p97 s l ks h.1 h.2.1 h.2.2)).add (q1 fun v h => by
  obtain ⟨u, rfl⟩ : ∃ u : Nat, v = u := ⟨v.toNat, by omega⟩
  exact p96 u (by omega))
theorem Tzd_d (a : List AVal) (H : AHeap) : Tzd 96 a H = s1 dI (fun v => 0 ≤ v ∧ v ≤ 1099511627776) (fun v => .str (decDigits v.toNat)) a H := rfl
theorem Tzd_l (a : List AVal) (H : AHeap) : Tzd 97 a H = s3 dS dSs dIs (fun s l ks => s.length ≤ 1000000 ∧ okK l ks ∧ ks.length ≤ 1000) fList a H := rfl
theorem Tzd_a (a : List AVal) (H : AHeap) : Tzd 98 a H = s1 dSs (fun a => few a) (fun a => eIs (rangeI a.length)) a H := rfl
theorem okK_all {l : List Bs} (h : l.all nameS = true) : okK l (rangeI l.length) := okr_of h (by
  rw [List.all_eq_true]
  intro k hk
  obtain ⟨i, hi, rfl⟩ := List.mem_map.1 hk
  have := List.mem_range.1 hi
  simp; omega)
def hdZ (x : Lma) : List Tkn := [kI x.nm, kI wLev, kN x.lv, kS [123], kI wCel] ++ nsT x.cs ++ [kS [59], kI wLet] ++ nsT x.ls ++ [kS [59]]
theorem hdZ_eq (x : Lma) : hdT x = kI wLem :: hdZ x := rfl
def pS (x : Lma) (i : Nat) : Bs := wLem ++ jt (hdZ x ++ isT' ((x.qs.map (iQ x)).take i))
def pR (x : Lma) (i : Nat) : Bs := wLem ++ jt (hdZ x ++ isT' (x.qs.map (iQ x)) ++ isT' ((x.ps.map (iP x)).take i))
theorem isT_sub {is : List Itm} {i : Nat} {t : Tkn} (h : t ∈ isT' (is.take i)) : t ∈ isT' is := by
  unfold isT' at h ⊢
  obtain ⟨j, hj, h2⟩ := List.mem_flatMap.1 h
  exact List.mem_flatMap.2 ⟨j, List.mem_of_mem_take hj, h2⟩
theorem dr_32 {x : Lma} (hx : OKL x) : ∀ t ∈ hdZ x ++ isT' (x.qs.map (iQ x)) ++ isT' (x.ps.map (iP x)), (wordS t).length ≤ 32 := by
  intro t ht
  have h := printT_valid (xs := [x]) (fun y hy => by rw [List.mem_singleton.1 hy]; exact hx)
  refine word_len (List.all_eq_true.1 h t ?_)
  have e : printT [x] = drT (unR x) := by simp [printT]
  rw [e, drT_parts, hdZ_eq]
  simp only [List.mem_append, List.cons_append, List.mem_cons] at ht ⊢
  rcases ht with (h | h) | h
  · exact .inr (.inl (.inl (.inl h)))
  · exact .inr (.inl (.inl (.inr h)))
  · exact .inr (.inl (.inr h))
theorem part_len {x : Lma} (hx : OKL x) (i j : Nat) : (hdZ x).length ≤ 40 ∧ (isT' ((x.qs.map (iQ x)).take i)).length ≤ 126 ∧ (isT' ((x.ps.map (iP x)).take j)).length ≤ 84 := by
  have hnc := nsT_len x.cs
  have hnl := nsT_len x.ls
  have hc4 := hx.cs.2.2.2
  have hl3 := hx.ls.2.2.2
  have hq6 := hx.nq
  have hp4 := dif_len hx.pc
  rw [List.length_map] at hp4
  have h1 := isTl (is := (x.qs.map (iQ x)).take i) (fun j hj => by
    obtain ⟨q, hq, rfl⟩ := List.mem_map.1 (List.mem_of_mem_take hj)
    have := q_len hx hq
    simp only [iQ, List.length_map]; omega)
  have h2 := isTl (is := (x.ps.map (iP x)).take j) (fun j hj => by
    obtain ⟨q, hq, rfl⟩ := List.mem_map.1 (List.mem_of_mem_take hj)
    have := p_len hx hq
    simp only [iP, List.length_map, List.length_cons, List.length_nil]; omega)
  have h3 : ((x.qs.map (iQ x)).take i).length ≤ x.qs.length := by simp; omega
  have h4 : ((x.ps.map (iP x)).take j).length ≤ x.ps.length := by simp; omega
  refine ⟨?_, by omega, by omega⟩
  unfold hdZ
  simp only [List.length_append, List.length_cons, List.length_nil]; omega
theorem pS_len {x : Lma} (hx : OKL x) (i : Nat) : (pS x i).length ≤ 10000 := by
  have h := jt_len (T := hdZ x ++ isT' ((x.qs.map (iQ x)).take i)) (fun t ht => dr_32 hx t (by
    rcases List.mem_append.1 ht with h | h
    · exact List.mem_append_left _ (List.mem_append_left _ h)
    · exact List.mem_append_left _ (List.mem_append_right _ (isT_sub h))))
  obtain ⟨h1, h2, -⟩ := part_len hx i 0
  unfold pS
  simp only [List.length_append, List.length_cons, List.length_nil] at h ⊢; omega
theorem pR_len {x : Lma} (hx : OKL x) (i : Nat) : (pR x i).length ≤ 10000 := by
  have h := jt_len (T := hdZ x ++ isT' (x.qs.map (iQ x)) ++ isT' ((x.ps.map (iP x)).take i)) (fun t ht => dr_32 hx t (by
    rcases List.mem_append.1 ht with h | h
    · exact List.mem_append_left _ h
    · exact List.mem_append_right _ (isT_sub h)))
  obtain ⟨h1, h2, h3⟩ := part_len hx (x.qs.map (iQ x)).length i
  rw [List.take_length] at h2
  unfold pR
  simp only [List.length_append, List.length_cons, List.length_nil] at h ⊢; omega
theorem pS_succ {x : Lma} {i : Nat} (h : i < x.qs.length) : pS x (i + 1) = pS x i ++ jt (itT (iQ x x.qs[i]) ++ [kS [59]]) := by
  unfold pS
  rw [isT_take (by simpa using h), ← List.append_assoc, jt_app (hdZ x ++ _)]
  simp
theorem pR_succ {x : Lma} {i : Nat} (h : i < x.ps.length) : pR x (i + 1) = pR x i ++ jt (itT (iP x x.ps[i]) ++ [kS [59]]) := by
  unfold pR
  rw [isT_take (by simpa using h), ← List.append_assoc, jt_app (hdZ x ++ _ ++ _)]
  simp
theorem pS_end (x : Lma) : pS x x.qs.length = pR x 0 := by
  unfold pS pR
  rw [List.take_of_length_le (by simp), List.take_zero]
  simp [isT']
theorem pR_end (x : Lma) : join ((drT (unR x)).map wordS) [32] = pR x x.ps.length ++ jt (enT x) := by
  rw [drT_parts, hdZ_eq]
  simp only [List.cons_append]
  rw [jt_join]
  unfold pR
  rw [List.take_of_length_le (by simp)]
  simp only [jt_app, List.append_assoc]
  rfl
structure V10 where
  i : Nat
  H : AHeap
  n : Nat
theorem p35 (x : Lma) (hx : OKL x) : Pur Tryz.prog 35 [encL x] (.str (join ((drT (unR x)).map wordS) [32])) := by
  have hfx := okl_few hx
  have hc4 := hx.cs.2.2.2
  have hl3 := hx.ls.2.2.2
  have hq6 := hx.nq
  have hp4 := dif_len hx.pc
  rw [List.length_map] at hp4
  have hnm := name_32 hx.nm
  have hlv := hx.lv
  have c0T : few x.cs = True := eq_true hfx.cs
  have l0T : few x.ls = True := eq_true hfx.ls
  have oc : okK x.cs (rangeI x.cs.length) = True := eq_true (okK_all hx.cs.1)
  have ol : okK x.ls (rangeI x.ls.length) = True := eq_true (okK_all hx.ls.1)
  have cr : ((rangeI x.cs.length).length ≤ 1000) = True := eq_true (by rw [rangeI_len]; omega)
  have lr : ((rangeI x.ls.length).length ≤ 1000) = True := eq_true (by rw [rangeI_len]; omega)
  have v1 : (0 ≤ x.lv) = True := eq_true (by omega)
  have v2 : (x.lv ≤ 1099511627776) = True := eq_true (by omega)
  refine .mk ⟨encL_under 0 x, trivial⟩ trivial (a35 (ev_awp Tzd_ok (ev_evK ?_)))
  simp only [eE, eN, Nat.reduceEqDiff, ↓reduceIte, Nat.reduceAdd, Nat.reduceLeDiff, c35, Tzd_d, Tzd_l, Tzd_a, s1, s3, dS, dI, dSs, dIs, okL, decL, isS, toS, okInt, toI, toSs_map, eI_map, c0T, l0T, oc, ol, cr, lr, v1, v2, fList, range_get]
  have hdd := dec_len40 (u := x.lv.toNat) (by omega)
  have jc : (jt (nsT x.cs)).length ≤ 264 := by
    have := ns_len (okK_all hx.cs.1)
    rw [range_get, rangeI_len] at this; omega
  have jl : (jt (nsT x.ls)).length ≤ 198 := by
    have := ns_len (okK_all hx.ls.1)
    rw [range_get, rangeI_len] at this; omega
  refine ⟨small1 (by (try simp only [List.length_append, List.length_cons, List.length_nil]); omega), small1 (by (try simp only [List.length_append, List.length_cons, List.length_nil]); omega), small1 (by (try simp only [List.length_append, List.length_cons, List.length_nil]); omega), small1 (by (try simp only [List.length_append, List.length_cons, List.length_nil]); omega), by simp only [List.length_append, List.length_cons, List.length_nil]; omega, small1 (by (try simp only [List.length_append, List.length_cons, List.length_nil]); omega), by simp only [List.length_append, List.length_cons, List.length_nil]; omega, small1 (by (try simp only [List.length_append, List.length_cons, List.length_nil]); omega), ?_⟩
  refine k_loop (fun v : V10 => ⟨[(1, true, .ptr 0 0), (3, true, .str (pS x v.i)), (4, true, .int .i64 v.i)], v.H, v.n⟩) (fun v => v.i ≤ x.qs.length ∧ 2 ≤ v.n ∧ Fresh v.H v.n ∧ hget v.H 0 = some (.box (cellsL x))) (fun v => x.qs.length - v.i) ⟨0, hset hnil 0 (.box (cellsL x)), 2⟩
    (congrArg (fun s : Bs => (⟨[(1, true, .ptr 0 0), (3, true, .str s), (4, true, .int .i64 0)], hset hnil 0 (.box (cellsL x)), 2⟩ : AS)) ?_) ⟨Nat.zero_le _, Nat.le_refl _, Fresh.nil.hset (Nat.zero_le 2) (show 0 < 2 by decide), hget_hset_eq ..⟩ ?_
  · unfold pS hdZ
    have hnv : wordS (kN x.lv) = decDigits x.lv.toNat := by
      rw [show x.lv = ((x.lv.toNat : Nat) : Int) by omega]; exact wS_N _
    simp [jt_app, jt_cons, jt_nil, wS_I, wS_S, hnv, isT']
  rintro ⟨i, H, n⟩ ⟨hi, hn, hfr, h0⟩
  simp only at hi hn hfr h0
  by_cases hli : i < x.qs.length
  case neg =>
    obtain rfl : i = x.qs.length := by omega
    simp only [eE, eC, eN, Nat.reduceEqDiff, ↓reduceIte, Nat.reduceAdd, Nat.reduceLeDiff, List.length_map, lt_F hli, h0]
    rw [pS_end]
    refine k_loop (fun v : V10 => ⟨[(1, true, .ptr 0 0), (3, true, .str (pR x v.i)), (6, true, .int .i64 v.i)], v.H, v.n⟩) (fun v => v.i ≤ x.ps.length ∧ 2 ≤ v.n ∧ Fresh v.H v.n ∧ hget v.H 0 = some (.box (cellsL x))) (fun v => x.ps.length - v.i) ⟨0, H, n⟩ rfl ⟨Nat.zero_le _, hn, hfr, h0⟩ ?_
    clear hn hfr h0 hi hli H n
    rintro ⟨i, H, n⟩ ⟨hi, hn, hfr, h0⟩
    simp only at hi hn hfr h0
    by_cases hli : i < x.ps.length
    case neg =>
      obtain rfl : i = x.ps.length := by omega
      have hsl := pR_len hx x.ps.length
      rw [pR_end]
      generalize pR x x.ps.length = S at hsl
      obtain ⟨c0, c1⟩ := hx.c
      obtain ⟨l0, l1⟩ := hx.l
      have hgc := getS_get c0 c1
      have hgl := getS_get l0 l1
      have hnc := name_32 (get_name hx.cs.1 c0 c1)
      have hnl := name_32 (get_name hx.ls.1 l0 l1)
      have c2 : (0 ≤ x.c) = True := eq_true c0
      have l2 : (0 ≤ x.l) = True := eq_true l0
      have c3 : (x.c < x.cs.length) = True := eq_true c1
      have l3 : (x.l < x.ls.length) = True := eq_true l1
      have c4 : (x.c.toNat < x.cs.length) = True := eq_true (by omega)
      have l4 : (x.l.toNat < x.ls.length) = True := eq_true (by omega)
      simp only [eE, eC, eN, Nat.reduceEqDiff, ↓reduceIte, Nat.reduceAdd, Nat.reduceLeDiff, c0, c1, Option.getD_some, List.length_map, List.getElem?_map, lt_F hli, h0, hgc, hgl, l2, l3]
      refine ⟨small1 (by (try simp only [List.length_append, List.length_cons, List.length_nil]); omega), small1 (by (try simp only [List.length_append, List.length_cons, List.length_nil]); omega), small1 (by (try simp only [List.length_append, List.length_cons, List.length_nil]); omega), small1 (by (try simp only [List.length_append, List.length_cons, List.length_nil]); omega), small1 (by (try simp only [List.length_append, List.length_cons, List.length_nil]); omega), ?_⟩
      simp [enT, jt_cons, jt_nil, wS_I, wS_S]
    have hg := List.getElem?_eq_getElem hli
    have e := w64_succ (k := i) (by omega)
    have hpm : x.ps[i] ∈ x.ps := List.getElem_mem hli
    have hpl := p_len hx hpm
    obtain ⟨hd, -⟩ := hx.ps _ hpm
    obtain ⟨c0, c1, cn⟩ := okr_of hx.cs.1 (dif_rng hx.pc) x.ps[i].c (List.mem_map_of_mem (f := Prm.c) hpm)
    have nx := pR_succ hli
    have hsl := pR_len hx i
    generalize x.ps[i] = p at hg hd hpl nx c0 c1 cn
    generalize hS : pR x i = S at nx hsl
    have n5 := hfr (n + 5) (by omega)
    have y1 : (0 = n + 5) = False := eq_false (by omega)
    have y2 : (n + 5 = 0) = False := eq_false (by omega)
    obtain ⟨c, ls⟩ := p
    simp only at hpl c0 c1 cn hd
    have okl : okK x.ls ls := okr_of hx.ls.1 (dif_rng hd)
    have ol' : okK x.ls ls = True := eq_true okl
    have lr' : (ls.length ≤ 1000) = True := eq_true (by omega)
    have jl' := ns_len okl
    have hgc := getS_get c0 c1
    have hnc := name_32 cn
    have c2 : (0 ≤ c) = True := eq_true c0
    have c3 : (c < x.cs.length) = True := eq_true c1
    have c4 : (c.toNat < x.cs.length) = True := eq_true (by omega)
    have done : ∀ (G : AHeap) (T : Bs), G = hset H (n + 5) (.box [.int .i64 c, eIs ls]) → T = pR x (i + 1) → lpN (fun v : V10 => ⟨[(1, true, .ptr 0 0), (3, true, .str (pR x v.i)), (6, true, .int .i64 v.i)], v.H, v.n⟩) (fun v => v.i ≤ x.ps.length ∧ 2 ≤ v.n ∧ Fresh v.H v.n ∧ hget v.H 0 = some (.box (cellsL x))) (fun v => x.ps.length - v.i) ⟨i, H, n⟩ ⟨[(1, true, .ptr 0 0), (3, true, .str T), (6, true, .int .i64 ((i + 1 : Nat) : Int))], G, n + 7⟩ := by
      rintro G T rfl rfl
      refine .mk ⟨i + 1, hset H (n + 5) (.box [.int .i64 c, eIs ls]), n + 7⟩ rfl ⟨hli, by simp only []; omega, hfr.hset (by simp only []; omega) (by simp only []; omega), ?_⟩ (by simp only []; omega)
      simp only []
      rw [hget_hset_ne _ _ _ _ (by omega)]; exact h0
    rw [nx] at done
    simp only [eE, eC, eN, Nat.reduceEqDiff, ↓reduceIte, Nat.reduceAdd, Nat.reduceLeDiff, Int.reduceEq, c0, c1, Option.getD_some, Int.toNat_natCast, Int.natCast_nonneg, List.length_map, List.getElem?_map, lt_T hli, hg, n5, y2, h0, Tzd_l, s3, dS, dSs, dIs, okL, decL, isS, toS, toI, toSs_map, eI_map, ol', lr', fList, e, hset_hset, hgc]
    refine ⟨small1 (by (try simp only [List.length_append, List.length_cons, List.length_nil]); omega), small1 (by (try simp only [List.length_append, List.length_cons, List.length_nil]); omega), small1 (by (try simp only [List.length_append, List.length_cons, List.length_nil]); omega), by (try simp only [List.length_append, List.length_cons, List.length_nil]); omega, small1 (by (try simp only [List.length_append, List.length_cons, List.length_nil]); omega), done _ _ rfl ?_⟩
    simp [itT, iP, jt_app, jt_cons, jt_nil, wS_I, wS_S, nsT, mT]
  have hg := List.getElem?_eq_getElem hli
  have e := w64_succ (k := i) (by omega)
  have hqm : x.qs[i] ∈ x.qs := List.getElem_mem hli
  have hok := cnd_ok (hx.qs _ hqm)
  have hql := q_len hx hqm
  have nx := pS_succ hli
  have hsl := pS_len hx i
  generalize x.qs[i] = q at hg hok hql nx
  generalize hS : pS x i = S at nx hsl
  have n5 := hfr (n + 5) (by omega)
  have y1 : (0 = n + 5) = False := eq_false (by omega)
  have y2 : (n + 5 = 0) = False := eq_false (by omega)
  obtain ⟨k, cs, ls, v⟩ := q
  simp only at hql
  have okc : okK x.cs cs := okr_of hx.cs.1 (dif_rng hok.cs)
  have okl : okK x.ls ls := okr_of hx.ls.1 (dif_rng hok.ls)
  have oc' : okK x.cs cs = True := eq_true okc
  have ol' : okK x.ls ls = True := eq_true okl
  have cr' : (cs.length ≤ 1000) = True := eq_true (by omega)
  have lr' : (ls.length ≤ 1000) = True := eq_true (by omega)
  have jc' := ns_len okc
  have jl' := ns_len okl
  have hkd := hok.kind
  simp only at hkd
  have done : ∀ (G : AHeap) (T : Bs), G = hset H (n + 5) (.box [.int .i64 k, eIs cs, eIs ls, .int .i64 v]) → T = pS x (i + 1) → lpN (fun v : V10 => ⟨[(1, true, .ptr 0 0), (3, true, .str (pS x v.i)), (4, true, .int .i64 v.i)], v.H, v.n⟩) (fun v => v.i ≤ x.qs.length ∧ 2 ≤ v.n ∧ Fresh v.H v.n ∧ hget v.H 0 = some (.box (cellsL x))) (fun v => x.qs.length - v.i) ⟨i, H, n⟩ ⟨[(1, true, .ptr 0 0), (3, true, .str T), (4, true, .int .i64 ((i + 1 : Nat) : Int))], G, n + 7⟩ := by
    rintro G T rfl rfl
    refine .mk ⟨i + 1, hset H (n + 5) (.box [.int .i64 k, eIs cs, eIs ls, .int .i64 v]), n + 7⟩ rfl ⟨hli, by simp only []; omega, hfr.hset (by simp only []; omega) (by simp only []; omega), ?_⟩ (by simp only []; omega)
    simp only []
    rw [hget_hset_ne _ _ _ _ (by omega)]; exact h0
  rw [nx] at done
  rcases hkd with ⟨rfl | rfl, k2, k3, k4⟩ | ⟨rfl, k2, k3⟩ | ⟨rfl, k2, k3, k4, k5⟩ | ⟨rfl, k2, k3, k4⟩ | ⟨rfl, k2, k3, k4⟩
  · have hls : ls = [] := List.length_eq_zero_iff.1 k3
    simp only [eE, eC, eN, Nat.reduceEqDiff, ↓reduceIte, Nat.reduceAdd, Nat.reduceLeDiff, Int.reduceEq, Option.getD_some, Int.toNat_natCast, Int.natCast_nonneg, List.length_map, List.getElem?_map, lt_T hli, hg, n5, y2, h0, Tzd_l, s3, dS, dSs, dIs, okL, decL, isS, toS, toI, toSs_map, eI_map, oc', cr', fList, e, hset_hset]
    refine ⟨small1 (by (try simp only [List.length_append, List.length_cons, List.length_nil]); omega), by (try simp only [List.length_append, List.length_cons, List.length_nil]); omega, small1 (by (try simp only [List.length_append, List.length_cons, List.length_nil]); omega), done _ _ rfl ?_⟩
    simp [itT, iQ, jt_app, jt_cons, jt_nil, wS_I, wS_S, hls, nsT]
  · have hls : ls = [] := List.length_eq_zero_iff.1 k3
    simp only [eE, eC, eN, Nat.reduceEqDiff, ↓reduceIte, Nat.reduceAdd, Nat.reduceLeDiff, Int.reduceEq, Option.getD_some, Int.toNat_natCast, Int.natCast_nonneg, List.length_map, List.getElem?_map, lt_T hli, hg, n5, y2, h0, Tzd_l, s3, dS, dSs, dIs, okL, decL, isS, toS, toI, toSs_map, eI_map, oc', cr', fList, e, hset_hset]
    refine ⟨small1 (by (try simp only [List.length_append, List.length_cons, List.length_nil]); omega), by (try simp only [List.length_append, List.length_cons, List.length_nil]); omega, small1 (by (try simp only [List.length_append, List.length_cons, List.length_nil]); omega), done _ _ rfl ?_⟩
    simp [itT, iQ, jt_app, jt_cons, jt_nil, wS_I, wS_S, hls, nsT]
  · simp only [eE, eC, eN, Nat.reduceEqDiff, ↓reduceIte, Nat.reduceAdd, Nat.reduceLeDiff, Int.reduceEq, Option.getD_some, Int.toNat_natCast, Int.natCast_nonneg, List.length_map, List.getElem?_map, lt_T hli, hg, n5, y2, h0, Tzd_l, s3, dS, dSs, dIs, okL, decL, isS, toS, toI, toSs_map, eI_map, oc', ol', cr', lr', fList, e, hset_hset]
    refine ⟨small1 (by (try simp only [List.length_append, List.length_cons, List.length_nil]); omega), by (try simp only [List.length_append, List.length_cons, List.length_nil]); omega, small1 (by (try simp only [List.length_append, List.length_cons, List.length_nil]); omega), by (try simp only [List.length_append, List.length_cons, List.length_nil]); omega, small1 (by (try simp only [List.length_append, List.length_cons, List.length_nil]); omega), done _ _ rfl ?_⟩
    simp [itT, iQ, jt_app, jt_cons, jt_nil, wS_I, wS_S, nsT]
  · have hls : ls = [] := List.length_eq_zero_iff.1 k3
    have u1 : (0 ≤ v) = True := eq_true (by omega)
    have u2 : (v ≤ 1099511627776) = True := eq_true (by omega)
    have hdv := dec_len40 (u := v.toNat) (by omega)
    have hnv : wordS (kN v) = decDigits v.toNat := by
      rw [show v = ((v.toNat : Nat) : Int) by omega]; exact wS_N _
    simp only [eE, eC, eN, Nat.reduceEqDiff, ↓reduceIte, Nat.reduceAdd, Nat.reduceLeDiff, Int.reduceEq, Option.getD_some, Int.toNat_natCast, Int.natCast_nonneg, List.length_map, List.getElem?_map, lt_T hli, hg, n5, y2, h0, Tzd_d, Tzd_l, s1, s3, dS, dI, dSs, dIs, okL, decL, isS, toS, okInt, toI, toSs_map, eI_map, oc', cr', fList, e, hset_hset, u1, u2]
    refine ⟨small1 (by (try simp only [List.length_append, List.length_cons, List.length_nil]); omega), small1 (by (try simp only [List.length_append, List.length_cons, List.length_nil]); omega), small1 (by (try simp only [List.length_append, List.length_cons, List.length_nil]); omega), by (try simp only [List.length_append, List.length_cons, List.length_nil]); omega, small1 (by (try simp only [List.length_append, List.length_cons, List.length_nil]); omega), done _ _ rfl ?_⟩
    simp [itT, iQ, jt_app, jt_cons, jt_nil, wS_I, wS_S, hls, hnv, nsT]
  · have hls : ls = [] := List.length_eq_zero_iff.1 k3
    simp only [eE, eC, eN, Nat.reduceEqDiff, ↓reduceIte, Nat.reduceAdd, Nat.reduceLeDiff, Int.reduceEq, Option.getD_some, Int.toNat_natCast, Int.natCast_nonneg, List.length_map, List.getElem?_map, lt_T hli, hg, n5, y2, h0, Tzd_l, s3, dS, dSs, dIs, okL, decL, isS, toS, toI, toSs_map, eI_map, oc', cr', fList, e, hset_hset]
    refine ⟨small1 (by (try simp only [List.length_append, List.length_cons, List.length_nil]); omega), by (try simp only [List.length_append, List.length_cons, List.length_nil]); omega, small1 (by (try simp only [List.length_append, List.length_cons, List.length_nil]); omega), done _ _ rfl ?_⟩
    simp [itT, iQ, jt_app, jt_cons, jt_nil, wS_I, wS_S, hls, nsT]
  · have u1 : (0 ≤ v) = True := eq_true (by omega)
    have u2 : (v ≤ 1099511627776) = True := eq_true (by omega)
    have hdv := dec_len40 (u := v.toNat) (by omega)
    have hnv : wordS (kN v) = decDigits v.toNat := by
      rw [show v = ((v.toNat : Nat) : Int) by omega]; exact wS_N _
    simp only [eE, eC, eN, Nat.reduceEqDiff, ↓reduceIte, Nat.reduceAdd, Nat.reduceLeDiff, Int.reduceEq, Option.getD_some, Int.toNat_natCast, Int.natCast_nonneg, List.length_map, List.getElem?_map, lt_T hli, hg, n5, y2, h0, Tzd_d, Tzd_l, s1, s3, dS, dI, dSs, dIs, okL, decL, isS, toS, okInt, toI, toSs_map, eI_map, oc', ol', cr', lr', fList, e, hset_hset, u1, u2]
    refine ⟨small1 (by (try simp only [List.length_append, List.length_cons, List.length_nil]); omega), small1 (by (try simp only [List.length_append, List.length_cons, List.length_nil]); omega), by (try simp only [List.length_append, List.length_cons, List.length_nil]); omega, small1 (by (try simp only [List.length_append, List.length_cons, List.length_nil]); omega), by (try simp only [List.length_append, List.length_cons, List.length_nil]); omega, small1 (by (try simp only [List.length_append, List.length_cons, List.length_nil]); omega), done _ _ rfl ?_⟩
    simp [itT, iQ, jt_app, jt_cons, jt_nil, wS_I, wS_S, hnv, nsT]
end Go.AM
end
section
set_option maxRecDepth 20000
set_option linter.all false
namespace Go.AM
open Go.Proofs Go.Lib
theorem join_app {T U : List Tkn} (hT : T ≠ []) (hU : U ≠ []) : join ((T ++ U).map wordS) [32] = join (T.map wordS) [32] ++ 32 :: join (U.map wordS) [32] := by
  obtain ⟨t, r, rfl⟩ := List.exists_cons_of_ne_nil hT
  obtain ⟨u, q, rfl⟩ := List.exists_cons_of_ne_nil hU
  rw [List.cons_append, jt_join, jt_join, jt_join, jt_app, jt_cons, List.append_assoc]
theorem drT_ne (x : Lma) : drT (unR x) ≠ [] := by rw [drT_parts, hdZ_eq]; simp
def jP (l : List Lma) : Bs := join ((printT l).map wordS) [32]
theorem jP_len {l : List Lma} (h : ∀ x ∈ l, OKL x) (hn : l.length ≤ 16) : (jP l).length ≤ 200000 := by
  have h1 := join_len (B := 32) ((printT l).map wordS) (fun w hw => by
    obtain ⟨t, ht, rfl⟩ := List.mem_map.1 hw
    exact word_len (List.all_eq_true.1 (printT_valid h) t ht))
  have h2 := printT_len h
  rw [List.length_map] at h1
  unfold jP; omega
theorem jP_succ {l : List Lma} {i : Nat} (h : i < l.length) : jP (l.take (i + 1)) = jP (l.take i) ++ (if i = 0 then [] else [32]) ++ join ((drT (unR l[i])).map wordS) [32] := by
  unfold jP
  rw [print_take h]
  by_cases hi : i = 0
  · subst hi; simp [printT, join_nil]
  · rw [if_neg hi, join_app ?_ (drT_ne _)]
    · simp
    · intro e
      have : l.take i ≠ [] := by
        intro e2
        have := congrArg List.length e2
        rw [List.length_take, List.length_nil] at this; omega
      obtain ⟨x, r, e3⟩ := List.exists_cons_of_ne_nil this
      rw [e3] at e
      have e4 : printT (x :: r) = drT (unR x) ++ printT r := by simp [printT]
      rw [e4] at e
      exact drT_ne x (List.append_eq_nil_iff.1 e).1
def Tzq : Tab := tadd 35 (s1 dX OKL fun x => .str (join ((drT (unR x)).map wordS) [32])) (tadd 33 (s1 dX FewL fun x => .bool (lemOK x)) tnil)
theorem Tzq_ok : TabOK Tryz.prog Tzq := (TabOK.tnil.add (q1 fun x h => p33 x h)).add (q1 p35)
theorem Tzq_p (a : List AVal) (H : AHeap) : Tzq 35 a H = s1 dX OKL (fun x => .str (join ((drT (unR x)).map wordS) [32])) a H := rfl
theorem Tzq_v (a : List AVal) (H : AHeap) : Tzq 33 a H = s1 dX FewL (fun x => .bool (lemOK x)) a H := rfl
theorem p17 (l : List Lma) (hl : FewLs l) : Pur Tryz.prog 17 [eLs l] (printMV l) := by
  refine .mk ⟨⟨trivial, Ls_under 0 l⟩, trivial⟩ (by unfold printMV; split <;> (try split) <;> simp [AVal.under, unders]) (a17 (ev_awp Tzq_ok (ev_evK ?_)))
  unfold printMV
  by_cases h16 : 16 < l.length
  · have l16 : ((16 : Int) < (l.length : Int)) = True := eq_true (by omega)
    rw [if_pos h16]
    simp only [eE, eC, eN, reduceCtorEq, Nat.reduceEqDiff, ↓reduceIte, List.length_map, c17, l16]
    exact Wk.refl _
  have l16 : ((16 : Int) < (l.length : Int)) = False := eq_false (by omega)
  rw [if_neg h16]
  simp only [eE, eC, eN, reduceCtorEq, Nat.reduceEqDiff, ↓reduceIte, List.length_map, c17, l16]
  refine k_loop (fun i : Nat => ⟨[(0, true, eLs l), (4, true, .str (jP (l.take i))), (5, true, .int .i64 i)], hnil, 0⟩) (fun i => i ≤ l.length ∧ ∀ j (hj : j < l.length), j < i → lemOK l[j] = true) (fun i => l.length - i) 0 (by simp [jP, printT, join_nil]) ⟨Nat.zero_le _, fun j hj h => absurd h (Nat.not_lt_zero _)⟩ ?_
  rintro i ⟨hi, hall⟩
  have hokt : ∀ x ∈ l.take i, OKL x := fun x hx => by
    obtain ⟨j, hj, rfl⟩ := List.mem_iff_getElem.1 hx
    rw [List.getElem_take]
    exact (lem_okl _).1 (hall j (by simp at hj; omega) (by simp at hj; omega))
  have htl : (l.take i).length ≤ 16 := by simp; omega
  have hlen := jP_len hokt htl
  by_cases hlt : i < l.length
  case neg =>
    obtain rfl : i = l.length := by omega
    rw [List.take_length] at hokt
    have hall' : l.all lemOK = true := List.all_eq_true.2 fun x hx => (lem_okl x).2 (hokt x hx)
    rw [if_neg (by rw [hall']; decide)]
    simp only [eE, eC, eN, reduceCtorEq, Nat.reduceEqDiff, ↓reduceIte, List.length_map, lt_F hlt]
    rw [List.take_length]
    exact Wk.refl _
  have hg := List.getElem?_eq_getElem hlt
  have e := w64_succ (k := i) (by omega)
  have hfx := hl.2 _ (List.getElem_mem hlt)
  have nx := jP_succ hlt
  have hla : lemOK l[i] = false → l.all lemOK = false := fun h => List.all_eq_false.2 ⟨_, List.getElem_mem hlt, by rw [h]; exact Bool.false_ne_true⟩
  have hll : lemOK l[i] = true → ∀ j (hj : j < l.length), j < i + 1 → lemOK l[j] = true := fun h j hj hji => by
    by_cases q : j = i
    · subst q; exact h
    · exact hall j hj (by omega)
  generalize l[i] = x at hg hfx nx hla hll
  cases hlo : lemOK x with
  | false =>
    rw [if_pos (hla hlo)]
    simp only [eE, eC, eN, reduceCtorEq, Nat.reduceEqDiff, ↓reduceIte, Nat.reduceAdd, Bool.not_false, Option.getD_some, Int.toNat_natCast, Int.natCast_nonneg, List.length_map, List.getElem?_map, lt_T hlt, hg, Tzq_v, s1, dX_ok, dX_dec, eq_true hfx, hlo]
    exact Wk.refl _
  | true =>
    have hok := (lem_okl x).1 hlo
    have okT' : OKL x = True := eq_true hok
    have hlx : (join ((drT (unR x)).map wordS) [32]).length ≤ 200000 := by
      have := jP_len (l := [x]) (fun y hy => by rw [List.mem_singleton.1 hy]; exact hok) (by simp)
      rwa [show jP [x] = join ((drT (unR x)).map wordS) [32] by simp [jP, printT]] at this
    generalize hJ : jP (l.take i) = J at nx hlen
    by_cases hi0 : i = 0
    · have i0 : ((0 : Int) < (i : Int)) = False := eq_false (by omega)
      rw [if_pos hi0, List.append_nil] at nx
      simp only [eE, eC, eN, reduceCtorEq, Nat.reduceEqDiff, ↓reduceIte, Nat.reduceAdd, Int.reduceEq, Bool.not_true, Option.getD_some, Int.toNat_natCast, Int.natCast_nonneg, List.length_map, List.getElem?_map, lt_T hlt, hg, Tzq_v, Tzq_p, s1, dX_ok, dX_dec, eq_true hfx, okT', hlo, i0, e]
      exact ⟨small1 (by (try simp only [List.length_append, List.length_cons, List.length_nil]); omega), .mk (i + 1) (by rw [nx]) ⟨hlt, hll hlo⟩ (by omega)⟩
    · have i0 : ((0 : Int) < (i : Int)) = True := eq_true (by omega)
      rw [if_neg hi0] at nx
      simp only [eE, eC, eN, reduceCtorEq, Nat.reduceEqDiff, ↓reduceIte, Nat.reduceAdd, Int.reduceEq, Bool.not_true, Option.getD_some, Int.toNat_natCast, Int.natCast_nonneg, List.length_map, List.getElem?_map, lt_T hlt, hg, Tzq_v, Tzq_p, s1, dX_ok, dX_dec, eq_true hfx, okT', hlo, i0, e]
      exact ⟨small1 (by (try simp only [List.length_append, List.length_cons, List.length_nil]); omega), small1 (by (try simp only [List.length_append, List.length_cons, List.length_nil]); omega), .mk (i + 1) (by rw [nx]) ⟨hlt, hll hlo⟩ (by omega)⟩
end Go.AM
end
