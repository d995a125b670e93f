/-
  Rules of deduction: what a step of the parser brings about · What is told of functions, argument by argument · Rules of deduction: the parser's small steps · Rules of deduction: names with commas between them · Rules of deduction: conditions and premises read · Rules of deduction: where a name or a number stands in a list; lists compared · Rules of deduction: lists compared, lists of indices · Rules of deduction: what is valid · Rules of deduction: conditions checked; the reference's names and numbers · Rules of deduction: Check · Rules of deduction: the reference's Valid and Check · Rules of deduction: a lemma read, its conditions and premises.
  Conditions: none beyond those of its parts.
-/
import Derived.Test.YtpjedmachelflaaGreatDoorB7
import Derived.Test.YtpjedmachelflaaGreatDoorB4
import Derived.Test.YtpjedmachelflaaGreatDoorB5

section
set_option maxRecDepth 20000
set_option linter.all false
namespace Go.AM
open Go.Proofs Go.Lib
abbrev eI (n : Int) : AVal := .int .i64 n
abbrev eSs (l : List Bs) : AVal := .sl (.none 1) (l.map .str)
abbrev eIs (l : List Int) : AVal := .sl (.none 1) (l.map eI)
theorem strs_under (n : Nat) (l : List Bs) : unders n (l.map AVal.str) := unders_map (f := AVal.str) (fun x => trivial) _
theorem eI_under (n : Nat) (l : List Int) : unders n (l.map eI) := unders_map (f := eI) (fun x => trivial) _
theorem toSs_map (l : List Bs) : (l.map AVal.str).map toS = l := by rw [List.map_map]; exact List.map_id _
theorem eI_map (l : List Int) : (l.map eI).map toI = l := by rw [List.map_map]; exact List.map_id _
theorem kont_pan {P : Program} {T : Tab} {Q : AExit → AS → Prop} {v : AVal} {s : AS} : ∀ (k : List Item), kont P T Q k (.pan v) s = Q (.pan v) s
  | [] => kont_nil
  | .c c :: k => by rw [kont_p]; exact kont_pan k
  | .blk i :: k => by rw [kont_bp]; exact kont_pan k
inductive Wks : List AVal → List AVal → Prop
  | nil : Wks [] []
  | cons {a b : AVal} {ws us : List AVal} : Wk a b → Wks ws us → Wks (a :: ws) (b :: us)
theorem Wks.rel {g : Ghost} : ∀ {ws us : List AVal}, Wks ws us → ∀ vs, VRels g ws vs → VRels g us vs
  | _, _, .nil, vs, h => h
  | _, _, .cons h t, vs, ⟨v, r, e, k1, k2⟩ => ⟨v, r, e, h _ _ k1, t.rel r k2⟩
theorem Wk.agg {ws us : List AVal} (h : Wks ws us) : Wk (.agg ws) (.agg us) := by
  rintro g v ⟨vs, rfl, h1, h2⟩
  exact ⟨vs, rfl, h.rel _ h1, h2⟩
theorem Wk.tup {ws us : List AVal} (h : Wks ws us) : Wk (.tup ws) (.tup us) := by
  rintro g v ⟨vs, rfl, h1⟩
  exact ⟨vs, rfl, h.rel _ h1⟩
theorem Wk.trans {a b c : AVal} (h : Wk a b) (k : Wk b c) : Wk a c := fun g v q => k g v (h g v q)
def KeepsB (pid : Nat) (H H' : AHeap) : Prop := ∀ id ob, id ≠ pid → hget H id = some ob → hget H' id = some ob
theorem KeepsB.refl {pid : Nat} (H : AHeap) : KeepsB pid H H := fun _ _ _ h => h
theorem KeepsB.trans {pid : Nat} {H H' H'' : AHeap} (h : KeepsB pid H H') (k : KeepsB pid H' H'') : KeepsB pid H H'' := fun id ob hne x => k id ob hne (h id ob hne x)
theorem KeepsB.set {pid : Nat} {H H' : AHeap} {ob : AObj} (h : KeepsB pid H H') : KeepsB pid H (hset H' pid ob) := fun id o hne x => by
  rw [hget_hset_ne _ _ _ _ (Ne.symm hne)]; exact h id o hne x
theorem KeepsB.new {pid : Nat} {H H' : AHeap} {n i : Nat} {ob : AObj} (hf : Fresh H n) (hi : n ≤ i) (h : KeepsB pid H H') : KeepsB pid H (hset H' i ob) := fun id o hne x => by
  have := hf.lt x
  rw [hget_hset_ne _ _ _ _ (by omega)]; exact h id o hne x
section
variable {n pid : Nat} {H : AHeap}
theorem sep1 (h : pid < n) (k : Nat) : (pid = n + k) = False := eq_false (by omega)
theorem sep2 (h : pid < n) (k : Nat) : (n + k = pid) = False := eq_false (by omega)
theorem sep3 (h : pid < n) : (pid = n) = False := eq_false (by omega)
theorem sep4 (h : pid < n) : (n = pid) = False := eq_false (by omega)
theorem fr1 (h : Fresh H n) (k : Nat) : hget H (n + k) = none := h _ (by omega)
theorem fr0 (h : Fresh H n) : hget H n = none := h _ (Nat.le_refl _)
end
theorem natE3 {a b c : Nat} : (a + b = a + c) = (b = c) := propext ⟨fun h => by omega, fun h => by omega⟩
abbrev wrongV (src : Bs) (r : List Tkn) : AVal := .ifc 59 (.int .i64 (placeS src r))
abbrev pB (src : Bs) (l : List Tkn) : AObj := .box [.str src, .sl (.none 4) (l.map encK)]
def SPost {α : Type} (enc : α → AVal) (src : Bs) (H : AHeap) (n pid : Nat) : Rs α → AOut → AHeap → Nat → Prop
  | .ok a r => fun o H' n' => o = .ret (enc a) ∧ H' = hset H pid (pB src r) ∧ n' = n
  | .bad r => fun o H' n' => o = .pan (wrongV src r) ∧ H' = hset H pid (pB src r) ∧ n' = n
def WPost {α : Type} (enc : α → AVal) (src : Bs) (H : AHeap) (pid : Nat) : Rs α → AOut → AHeap → Nat → Prop
  | .ok a r => fun o H' n' => (∃ v, o = .ret v ∧ Wk v (enc a)) ∧ hget H' pid = some (pB src r) ∧ KeepsB pid H H'
  | .bad r => fun o H' n' => o = .pan (wrongV src r) ∧ hget H' pid = some (pB src r) ∧ KeepsB pid H H'
def StepOK {α : Type} (fid : FuncId) (xs : List AVal) (enc : α → AVal) (g : List Tkn → Rs α) : Prop :=
  ∀ (src : Bs) (l : List Tkn) (pid : Nat) (H : AHeap) (n : Nat), src.length < 1000000000 → l.length < 1000000000 → hget H pid = some (pB src l) → ACalls Tryz.prog fid (.ptr pid 0 :: xs) H n (SPost enc src H n pid (g l))
theorem pB_under (n : Nat) (src : Bs) (l : List Tkn) : (pB src l).under n := ⟨trivial, ⟨trivial, encK_under n l⟩, trivial⟩
theorem step_forget {H H' : AHeap} {n pid : Nat} {src : Bs} {l r : List Tkn} (hf : Fresh H n) (hp : hget H pid = some (pB src l)) (h1 : hget H' pid = some (pB src r)) (h2 : KeepsB pid H H') : ForgetOK n H H' (hset H pid (pB src r)) := by
  refine ⟨fun id ob ho => ?_, fun id hid => ?_⟩
  · rw [hget_hset] at ho
    by_cases e : pid = id
    · subst e
      rw [if_pos rfl] at ho
      cases ho
      exact ⟨hf.lt hp, ⟨_, h1, OWk.refl _⟩, .inl (pB_under n src r)⟩
    · rw [if_neg e] at ho
      exact ⟨hf.lt ho, ⟨ob, h2 id ob (Ne.symm e) ho, OWk.refl _⟩, .inr ho⟩
  · rw [hget_hset]
    split
    · exact fun h => by cases h
    · exact hid
theorem StepOK.of {α : Type} {fid : FuncId} {xs : List AVal} {enc : α → AVal} {g : List Tkn → Rs α} (hc : Callable Tryz.prog fid) (he : ∀ n a, (enc a).under n)
    (h : ∀ (src : Bs) (l : List Tkn) (pid : Nat) (H : AHeap) (n : Nat), src.length < 1000000000 → l.length < 1000000000 → Fresh H n → pid < n → hget H pid = some (pB src l) → ACalls Tryz.prog fid (.ptr pid 0 :: xs) H n (WPost enc src H pid (g l))) : StepOK fid xs enc g := by
  intro src l pid H n hs hl hp
  refine ACalls.fresh hc fun hf => ?_
  refine ACalls.forget (h src l pid H n hs hl hf (hf.lt hp) hp) ?_
  intro o H' n' q
  cases hg : g l with
  | ok a r =>
    rw [hg] at q
    obtain ⟨⟨v, rfl, hw⟩, h1, h2⟩ := q
    exact ⟨.ret (enc a), _, ⟨rfl, rfl, rfl⟩, step_forget hf hp h1 h2, hw, he n a⟩
  | bad r =>
    rw [hg] at q
    obtain ⟨rfl, h1, h2⟩ := q
    exact ⟨.pan (wrongV src r), _, ⟨rfl, rfl, rfl⟩, step_forget hf hp h1 h2, Wk.refl _, trivial⟩
section
variable {α β : Type} {enc : α → AVal} {enc' : β → AVal} {T : Tab} {b : Nat} {d : Option Nat} {kp : List Nat} {ops : List AOp} {k : List Item} {st : AS} {rs : List RC}
theorem st_bd {fid : FuncId} {xs : List AVal} {g : List Tkn → Rs α} {K : α → List Tkn → Rs β} {src : Bs} {l : List Tkn} {pid : Nat} {H0 H1 : AHeap} {n1 : Nat} (h : StepOK fid xs enc g) (hs : src.length < 1000000000) (hl : l.length < 1000000000)
    (hp : hget H1 pid = some (pB src l)) (hk : KeepsB pid H0 H1)
    (go : ∀ a r, g l = .ok a r → retK Tryz.prog T b d ops kp k (postC rs (WPost enc' src H0 pid (K a r))) st (.ret (enc a)) (hset H1 pid (pB src r)) n1) :
    ACalls Tryz.prog fid (.ptr pid 0 :: xs) H1 n1 (retK Tryz.prog T b d ops kp k (postC rs (WPost enc' src H0 pid ((g l).bd K))) st) := by
  refine (h src l pid H1 n1 hs hl hp).mono fun o H' n' q => ?_
  cases hg : g l with
  | ok a r =>
    rw [hg] at q
    obtain ⟨rfl, rfl, rfl⟩ := q
    exact go a r hg
  | bad r =>
    rw [hg] at q
    obtain ⟨rfl, rfl, rfl⟩ := q
    show kont _ _ _ _ _ _
    rw [kont_pan]
    exact ⟨rfl, hget_hset_eq .., hk.set⟩
variable {Q : AExit → AS → Prop}
theorem st_ok {fid : FuncId} {xs : List AVal} {g : List Tkn → Rs α} {src : Bs} {l r : List Tkn} {a : α} {pid : Nat} {H1 : AHeap} {n1 : Nat} (h : StepOK fid xs enc g) (hs : src.length < 1000000000) (hl : l.length < 1000000000)
    (hp : hget H1 pid = some (pB src l)) (hg : g l = .ok a r) (go : retK Tryz.prog T b d ops kp k Q st (.ret (enc a)) (hset H1 pid (pB src r)) n1) : ACalls Tryz.prog fid (.ptr pid 0 :: xs) H1 n1 (retK Tryz.prog T b d ops kp k Q st) := by
  refine (h src l pid H1 n1 hs hl hp).mono fun o H' n' q => ?_
  rw [hg] at q
  obtain ⟨rfl, rfl, rfl⟩ := q
  exact go
theorem st_bad {fid : FuncId} {xs : List AVal} {g : List Tkn → Rs α} {src : Bs} {l r : List Tkn} {pid : Nat} {H1 : AHeap} {n1 : Nat} (h : StepOK fid xs enc g) (hs : src.length < 1000000000) (hl : l.length < 1000000000)
    (hp : hget H1 pid = some (pB src l)) (hg : g l = .bad r) (go : kont Tryz.prog T Q k (.pan (wrongV src r)) ⟨[], hset H1 pid (pB src r), n1⟩) : ACalls Tryz.prog fid (.ptr pid 0 :: xs) H1 n1 (retK Tryz.prog T b d ops kp k Q st) := by
  refine (h src l pid H1 n1 hs hl hp).mono fun o H' n' q => ?_
  rw [hg] at q
  obtain ⟨rfl, rfl, rfl⟩ := q
  exact go
end
end Go.AM
end
section
set_option maxRecDepth 20000
set_option linter.all false
namespace Go.AM
open Go.Proofs Go.Lib
structure Dc (α : Type) where
  enc : α → AVal
  dec : AVal → α
  ok : AVal → Prop
  wk : ∀ v, ok v → Wk v (enc (dec v))
def okInt : AVal → Prop
  | .int .i64 _ => True
  | _ => False
theorem okInt_wk (v : AVal) (h : okInt v) : Wk v (eI (toI v)) := by
  unfold okInt at h
  split at h
  · exact Wk.refl _
  · exact h.elim
def dI : Dc Int := ⟨eI, toI, okInt, okInt_wk⟩
theorem isS_wk (v : AVal) (h : isS v) : Wk v (.str (toS v)) := by
  cases v <;> first | exact Wk.refl _ | exact h.elim
def dS : Dc Bs := ⟨.str, toS, isS, isS_wk⟩
def okL {α : Type} (e : Nat) (enc : α → AVal) (dec : AVal → α) : AVal → Prop
  | .sl t L => (t.esz = e ∨ L = []) ∧ L = (L.map dec).map enc
  | _ => False
def decL {α : Type} (dec : AVal → α) : AVal → List α
  | .sl _ L => L.map dec
  | _ => []
theorem okL_wk {α : Type} {e : Nat} {enc : α → AVal} {dec : AVal → α} (v : AVal) (h : okL e enc dec v) : Wk v (.sl (.none e) ((decL dec v).map enc)) := by
  cases v <;> simp only [okL] at h <;> try exact h.elim
  simp only [decL]
  rw [← h.2]; exact Wk.sl h.1
def dSs : Dc (List Bs) := ⟨eSs, decL toS, okL 1 .str toS, okL_wk⟩
def dIs : Dc (List Int) := ⟨eIs, decL toI, okL 1 eI toI, okL_wk⟩
def dKs : Dc (List Tkn) := ⟨fun l => .sl (.none 4) (l.map encK), decL decK, okL 4 encK decK, okL_wk⟩
def s1 {α : Type} (A : Dc α) (c : α → Prop) (f : α → AVal) : List AVal → AHeap → Prop × AVal := fun a _ => match a with
  | [x] => (A.ok x ∧ c (A.dec x), f (A.dec x))
  | _ => (False, .tup [])
def s2 {α β : Type} (A : Dc α) (B : Dc β) (c : α → β → Prop) (f : α → β → AVal) : List AVal → AHeap → Prop × AVal := fun a _ => match a with
  | [x, y] => (A.ok x ∧ B.ok y ∧ c (A.dec x) (B.dec y), f (A.dec x) (B.dec y))
  | _ => (False, .tup [])
def s3 {α β γ : Type} (A : Dc α) (B : Dc β) (C : Dc γ) (c : α → β → γ → Prop) (f : α → β → γ → AVal) : List AVal → AHeap → Prop × AVal := fun a _ => match a with
  | [x, y, z] => (A.ok x ∧ B.ok y ∧ C.ok z ∧ c (A.dec x) (B.dec y) (C.dec z), f (A.dec x) (B.dec y) (C.dec z))
  | _ => (False, .tup [])
theorem q1 {α : Type} {A : Dc α} {c : α → Prop} {f : α → AVal} {fid : FuncId} (h : ∀ x, c x → Pur Tryz.prog fid [A.enc x] (f x)) : ∀ args H n, (s1 A c f args H).1 → Quiet Tryz.prog fid args H n (s1 A c f args H).2 := by
  intro args H n hh
  unfold s1 at hh ⊢
  split at hh
  · obtain ⟨h1, h2⟩ := hh
    refine ACalls.args ((h _ h2).quiet H n) ?_
    rintro g vs ⟨v, r, rfl, k1, k2⟩
    exact ⟨v, _, rfl, A.wk _ h1 _ _ k1, k2⟩
  · exact hh.elim
theorem q2 {α β : Type} {A : Dc α} {B : Dc β} {c : α → β → Prop} {f : α → β → AVal} {fid : FuncId} (h : ∀ x y, c x y → Pur Tryz.prog fid [A.enc x, B.enc y] (f x y)) : ∀ args H n, (s2 A B c f args H).1 → Quiet Tryz.prog fid args H n (s2 A B c f args H).2 := by
  intro args H n hh
  unfold s2 at hh ⊢
  split at hh
  · obtain ⟨h1, h2, h3⟩ := hh
    refine ACalls.args ((h _ _ h3).quiet H n) ?_
    rintro g vs ⟨v, r, rfl, k1, w, r', rfl, k2, k3⟩
    exact ⟨v, _, rfl, A.wk _ h1 _ _ k1, w, _, rfl, B.wk _ h2 _ _ k2, k3⟩
  · exact hh.elim
theorem q3 {α β γ : Type} {A : Dc α} {B : Dc β} {C : Dc γ} {c : α → β → γ → Prop} {f : α → β → γ → AVal} {fid : FuncId} (h : ∀ x y z, c x y z → Pur Tryz.prog fid [A.enc x, B.enc y, C.enc z] (f x y z)) : ∀ args H n, (s3 A B C c f args H).1 → Quiet Tryz.prog fid args H n (s3 A B C c f args H).2 := by
  intro args H n hh
  unfold s3 at hh ⊢
  split at hh
  · obtain ⟨h1, h2, h3, h4⟩ := hh
    refine ACalls.args ((h _ _ _ h4).quiet H n) ?_
    rintro g vs ⟨v, r, rfl, k1, w, r', rfl, k2, u, r'', rfl, k3, k4⟩
    exact ⟨v, _, rfl, A.wk _ h1 _ _ k1, w, _, rfl, B.wk _ h2 _ _ k2, u, _, rfl, C.wk _ h3 _ _ k3, k4⟩
  · exact hh.elim
theorem Pur.all {P : Program} {f : FuncId} {args : List AVal} {r r' : AVal} (h : Pur P f args r) (e : r = r') : Pur P f args r' := e ▸ h
abbrev any1 {α : Type} (_ : α) : Prop := True
theorem all_take {α : Type} {p : α → Bool} {l : List α} {i : Nat} (h : i < l.length) : (l.take (i + 1)).all p = ((l.take i).all p && p l[i]) := by
  rw [List.take_add_one, List.getElem?_eq_getElem h, List.all_append]; simp
theorem map_take {α β : Type} {f : α → β} {l : List α} {i : Nat} (h : i < l.length) : (l.take (i + 1)).map f = (l.take i).map f ++ [f l[i]] := by
  rw [List.take_add_one, List.getElem?_eq_getElem h, List.map_append]; rfl
theorem take_all {α : Type} {l : List α} {i : Nat} (h : ¬ i < l.length) : l.take i = l := List.take_of_length_le (by omega)
theorem lt_T {a b : Nat} (h : a < b) : ((a : Int) < (b : Int)) = True := eq_true (by omega)
theorem lt_F {a b : Nat} (h : ¬ a < b) : ((a : Int) < (b : Int)) = False := eq_false (by omega)
end Go.AM
end
section
set_option maxRecDepth 20000
set_option linter.all false
namespace Go.AM
open Go.Proofs Go.Lib
abbrev encU (_ : Unit) : AVal := .tup []
abbrev encB (b : Bool) : AVal := .bool b
theorem c0 : ((0 : Nat) : Int) = 0 := rfl
theorem c1 : ((1 : Nat) : Int) = 1 := rfl
theorem cS0 {n : Nat} : (((n + 1 : Nat) : Int) = 0) = False := eq_false (by omega)
theorem cS1 {n : Nat} : ((0 : Int) < ((n + 1 : Nat) : Int)) = True := eq_true (by omega)
theorem nS1 {n : Nat} : (0 < n + 1) = True := eq_true (by omega)
theorem i00 : ((0 : Int) < 0) = False := eq_false (by decide)
theorem cS2 {n : Nat} : ((1 : Int) ≤ ((n + 1 : Nat) : Int)) = True := eq_true (by omega)
theorem t_fail : StepOK 71 [] encU fun l => .bad l := StepOK.of l71 (fun _ _ => trivial) fun src l pid H n hs hl hf hlt hp => by
  refine a71 (ev_awp TabOK.tnil (ev_evK ?_))
  cases l with
  | nil =>
    simp only [eE, eC, eN, reduceCtorEq, ↓reduceIte, Nat.reduceAdd, Nat.reduceLeDiff, c0, i00, isF, c71, hp]
    exact ⟨rfl, hp, KeepsB.refl _⟩
  | cons t r =>
    simp only [eE, eC, eN, reduceCtorEq, ↓reduceIte, Nat.reduceAdd, cS1, isF, List.getElem?_cons_zero, Option.getD_some, Int.toNat_zero, Int.le_refl, c71, hp]
    exact ⟨rfl, hp, KeepsB.refl _⟩
def isR (w : Bs) (l : List Tkn) : Rs Bool := if hdW w l = true then .ok true l.tail else .ok false l
theorem t_is (w : Bs) : StepOK 70 [.str w] encB (isR w) := StepOK.of l70 (fun _ _ => trivial) fun src l pid H n hs hl hf hlt hp => by
  refine a70 (ev_awp TabOK.tnil (ev_evK ?_))
  cases l with
  | nil =>
    simp only [eE, eC, eN, reduceCtorEq, Nat.reduceEqDiff, ↓reduceIte, Nat.reduceAdd, Bool.not_true, c0, i00, Int.toNat_zero, Int.le_refl, List.drop_one, c70, hp]
    exact ⟨⟨_, rfl, Wk.refl _⟩, hp, KeepsB.refl _⟩
  | cons t r =>
    by_cases hk : t.K = 2
    · simp only [eE, eC, eN, reduceCtorEq, Nat.reduceEqDiff, ↓reduceIte, Nat.reduceAdd, Nat.reduceLeDiff, Bool.not_true, cS0, cS1, List.getElem?_cons_zero, Option.getD_some, Int.toNat_zero, Int.le_refl, c70, hp, hk]
      have : isR w (t :: r) = .ok false (t :: r) := by simp [isR, hdW, hk]
      rw [this]
      exact ⟨⟨_, rfl, Wk.refl _⟩, hp, KeepsB.refl _⟩
    by_cases hw : t.T = w
    · have hsc : scmp .neq t.T w = false := by simp [scmp, hw]
      simp only [eE, eC, eN, reduceCtorEq, Nat.reduceEqDiff, ↓reduceIte, Nat.reduceAdd, Nat.reduceLeDiff, Int.reduceLE, cS0, cS1, cS2, List.getElem?_cons_zero, Option.getD_some, Int.toNat_zero, Int.toNat_one, Int.le_refl, Int.toNat_natCast, List.take_length, c70, hp, hk, hsc]
      have : isR w (t :: r) = .ok true r := by simp [isR, hdW, hk, hw]
      rw [this]
      exact ⟨⟨_, rfl, Wk.refl _⟩, hget_hset_eq .., (KeepsB.refl _).set⟩
    · have hsc : scmp .neq t.T w = true := by simp [scmp, hw]
      simp only [eE, eC, eN, reduceCtorEq, Nat.reduceEqDiff, ↓reduceIte, Nat.reduceAdd, Nat.reduceLeDiff, cS0, cS1, List.getElem?_cons_zero, Option.getD_some, Int.toNat_zero, Int.le_refl, c70, hp, hk, hsc]
      have : isR w (t :: r) = .ok false (t :: r) := by simp [isR, hdW, hk, hw]
      rw [this]
      exact ⟨⟨_, rfl, Wk.refl _⟩, hp, KeepsB.refl _⟩
def needsR : List Bs → List Tkn → Rs Unit
  | [], l => .ok () l
  | w :: ws, l => (need w l).bd fun _ r => needsR ws r
theorem t_need (ws : List Bs) (hws : ws.length < 1000) : StepOK 66 [.sl (.exact 1) (ws.map .str)] encU (needsR ws) := StepOK.of l66 (fun _ _ => trivial) fun src l pid H n hs hl hf hlt hp => by
  refine a66 (ev_awp TabOK.tnil (ev_evK ?_))
  simp only [eE, eN, reduceCtorEq, Nat.reduceEqDiff, ↓reduceIte, Nat.reduceAdd, c66, List.length_map]
  refine k_loop (fun v : Nat × List Tkn × AHeap => ⟨[(0, true, .ptr pid 0), (6, true, .sl (.exact 1) (ws.map .str)), (7, true, .int .i64 ws.length), (8, true, .int .i64 v.1)], v.2.2, n⟩)
    (fun v => v.1 ≤ ws.length ∧ hget v.2.2 pid = some (pB src v.2.1) ∧ KeepsB pid H v.2.2 ∧ v.2.1.length < 1000000000 ∧ needsR ws l = needsR (ws.drop v.1) v.2.1) (fun v => ws.length - v.1) (0, l, H) rfl ⟨Nat.zero_le _, hp, KeepsB.refl _, hl, rfl⟩ ?_
  rintro ⟨i, m, H1⟩ ⟨hi, hp1, hk1, hm, he⟩
  simp only at hi hp1 hk1 hm he
  by_cases hi2 : i < ws.length
  case neg =>
    rw [List.drop_eq_nil_of_le (by omega)] at he
    rw [he]
    simp only [eE, eC, eN, reduceCtorEq, Nat.reduceEqDiff, ↓reduceIte, lt_F hi2]
    exact ⟨⟨_, rfl, Wk.refl _⟩, hp1, hk1⟩
  have hg := List.getElem?_eq_getElem hi2
  have e := w64_succ (k := i) (by omega)
  rw [List.drop_eq_getElem_cons hi2] at he
  generalize ws[i] = w at hg he
  rw [he]
  simp only [eE, eC, eN, reduceCtorEq, Nat.reduceEqDiff, ↓reduceIte, Option.getD_some, Int.toNat_natCast, lt_T hi2, List.length_map, List.getElem?_map, hg, Int.toNat_natCast, Int.natCast_nonneg]
  by_cases hw : hdW w m = true
  · have hn : need w m = .ok () m.tail := by unfold need; rw [if_pos hw]
    refine st_ok (t_is w) hs hm hp1 (a := true) (r := m.tail) (by unfold isR; rw [if_pos hw]) ?_
    simp only [eE, eC, eN, reduceCtorEq, Nat.reduceEqDiff, ↓reduceIte, Int.reduceEq, Bool.not_true, retK, e]
    refine .mk (i + 1, m.tail, _) rfl ⟨hi2, hget_hset_eq .., hk1.set, by simp only [List.length_tail]; omega, ?_⟩ (by simp only []; omega)
    show (need w m).bd _ = _
    rw [hn]; rfl
  · have hn : need w m = .bad m := by unfold need; rw [if_neg hw]
    refine st_ok (t_is w) hs hm hp1 (a := false) (r := m) (by unfold isR; rw [if_neg hw]) ?_
    simp only [eE, eC, eN, reduceCtorEq, Nat.reduceEqDiff, ↓reduceIte, Bool.not_false, retK]
    refine st_bad t_fail hs hm (hget_hset_eq ..) rfl ?_
    simp only [eE, eN, hset_hset]
    rw [show needsR (w :: List.drop (i + 1) ws) m = .bad m by show (need w m).bd _ = _; rw [hn]; rfl]
    exact ⟨rfl, hget_hset_eq .., hk1.set⟩
theorem t_token (k : Int) : StepOK 110 [.int .i64 k] encK (kindR k) := StepOK.of l110 (fun _ _ => by simp [AVal.under, unders]) fun src l pid H n hs hl hf hlt hp => by
  refine a110 (ev_awp TabOK.tnil (ev_evK ?_))
  cases l with
  | nil =>
    simp only [eE, eC, eN, reduceCtorEq, Nat.reduceEqDiff, ↓reduceIte, Nat.reduceAdd, Bool.not_true, c0, i00, Int.toNat_zero, Int.le_refl, sep4 hlt, fr0 hf, c110, hp]
    refine st_bad t_fail hs hl (by rw [hget_hset_ne _ _ _ _ (by omega)]; exact hp) rfl ?_
    rw [kont_pan]
    exact ⟨rfl, (by simp only [hget_hset, sep4 hlt, if_true, if_false]), (fun id ob hne hx => by have := hf.lt hx; simp only [hget_hset]; (repeat rw [if_neg (by omega)]); exact hx)⟩
  | cons t r =>
    by_cases hk : t.K = k
    · have hn' : kindR k (t :: r) = .ok t r := by simp [kindR, hk]
      rw [hn']
      simp only [eE, eC, eN, reduceCtorEq, Nat.reduceEqDiff, ↓reduceIte, Nat.reduceAdd, Nat.reduceLeDiff, Int.reduceLE, Bool.not_true, rcell, cS0, cS1, cS2, List.getElem?_cons_zero, Option.getD_some, Int.toNat_zero, Int.toNat_one, Int.le_refl, Int.toNat_natCast, List.take_length, sep1 hlt, sep2 hlt, sep3 hlt, sep4 hlt, fr1 hf, fr0 hf, c110, hp, hk]
      exact ⟨⟨_, rfl, hk ▸ Wk.refl _⟩, (by simp only [hget_hset, sep2 hlt, sep4 hlt, if_true, if_false]), (fun id ob hne hx => by have := hf.lt hx; simp only [hget_hset]; (repeat rw [if_neg (by omega)]); exact hx)⟩
    · have hn' : kindR k (t :: r) = .bad (t :: r) := by simp [kindR, hk]
      simp only [eE, eC, eN, reduceCtorEq, Nat.reduceEqDiff, ↓reduceIte, Nat.reduceAdd, Nat.reduceLeDiff, Bool.not_false, cS0, cS1, List.getElem?_cons_zero, Option.getD_some, Int.toNat_zero, Int.le_refl, sep4 hlt, fr0 hf, c110, hp, hk]
      refine st_bad t_fail hs hl (by rw [hget_hset_ne _ _ _ _ (by omega)]; exact hp) rfl ?_
      rw [kont_pan, hn']
      exact ⟨rfl, (by simp only [hget_hset, sep4 hlt, if_true, if_false]), (fun id ob hne hx => by have := hf.lt hx; simp only [hget_hset]; (repeat rw [if_neg (by omega)]); exact hx)⟩
theorem t_name : StepOK 67 [] .str nameR := StepOK.of l67 (fun _ _ => trivial) fun src l pid H n hs hl hf hlt hp => by
  refine a67 (ev_awp TabOK.tnil (ev_evK ?_))
  simp only [eE, eN, reduceCtorEq, ↓reduceIte, c67]
  refine st_bd (t_token 1) hs hl hp (KeepsB.refl _) fun t r hr => ?_
  simp only [eE, eN, ↓reduceIte, Nat.reduceAdd, Nat.reduceLeDiff, retK]
  exact ⟨⟨_, rfl, Wk.refl _⟩, (by simp only [hget_hset, if_true]), (fun id ob hne hx => by have := hf.lt hx; simp only [hget_hset]; (repeat rw [if_neg (by omega)]); exact hx)⟩
theorem t_number : StepOK 68 [] eI numbR := StepOK.of l68 (fun _ _ => trivial) fun src l pid H n hs hl hf hlt hp => by
  refine a68 (ev_awp TabOK.tnil (ev_evK ?_))
  simp only [eE, eN, reduceCtorEq, ↓reduceIte, c68]
  refine st_bd (t_token 2) hs hl hp (KeepsB.refl _) fun t r hr => ?_
  simp only [eE, eN, ↓reduceIte, Nat.reduceAdd, Nat.reduceLeDiff, retK]
  exact ⟨⟨_, rfl, Wk.refl _⟩, (by simp only [hget_hset, if_true]), (fun id ob hne hx => by have := hf.lt hx; simp only [hget_hset]; (repeat rw [if_neg (by omega)]); exact hx)⟩
end Go.AM
end
section
set_option maxRecDepth 20000
set_option linter.all false
namespace Go.AM
open Go.Proofs Go.Lib
theorem bd_assoc {α β γ : Type} (x : Rs α) (f : α → List Tkn → Rs β) (g : β → List Tkn → Rs γ) : (x.bd f).bd g = x.bd fun a r => (f a r).bd g := by cases x <;> rfl
theorem more_yes {l : List Tkn} (h : hdW [44] l = true) : moreR l = (nameR l.tail).bd fun s r => (moreR r).bd fun ss q => .ok (s :: ss) q := by
  match l, h with
  | [c], h => rw [moreR, if_pos h]; rfl
  | c :: t :: r, h =>
    rw [moreR, show hdW [44] [c] = hdW [44] (c :: t :: r) from rfl, if_pos h]
    by_cases hk : t.K = 1
    · rw [if_pos hk, List.tail_cons]
      simp only [nameR, kindR, hk, if_true, Rs.bd]
    · rw [if_neg hk, List.tail_cons]
      simp only [nameR, kindR, hk, if_false, Rs.bd]
theorem more_no' {l : List Tkn} (h : ¬ hdW [44] l = true) : moreR l = .ok [] l := by
  match l, h with
  | [], _ => rfl
  | [c], h => rw [moreR, if_neg h]
  | c :: t :: r, h => rw [moreR, show hdW [44] [c] = hdW [44] (c :: t :: r) from rfl, if_neg h]
theorem name_len {l r : List Tkn} {s : Bs} (h : nameR l = .ok s r) : r.length < l.length := by
  cases l with
  | nil => cases h
  | cons t l =>
    simp only [nameR, kindR] at h
    split at h
    · cases h; simp
    · cases h
def tkG (e lo : Nat) (H : AHeap) (tk : Tok) : Prop := tk = .nil ∨ tk = .exact e ∨ ∃ id, tk = .own id e ∧ lo ≤ id ∧ hget H id = some .tok
theorem tkG.app {e lo : Nat} {H : AHeap} {tk : Tok} (h : tkG e lo H tk) : appOK H e tk := by
  rcases h with rfl | rfl | ⟨id, rfl, h1, h2⟩
  · trivial
  · rfl
  · exact ⟨rfl, h2⟩
theorem tkG.set {e lo i : Nat} {H : AHeap} {tk : Tok} {ob : AObj} (h : tkG e lo H tk) (hi : i < lo ∨ (∃ cs, hget H i = some (.box cs)) ∨ hget H i = none) : tkG e lo (hset H i ob) tk := by
  rcases h with rfl | rfl | ⟨id, rfl, h1, h2⟩
  · exact .inl rfl
  · exact .inr (.inl rfl)
  · refine .inr (.inr ⟨id, rfl, h1, ?_⟩)
    rw [hget_hset_ne _ _ _ _ ?_]
    · exact h2
    · rintro rfl
      rcases hi with q | ⟨cs, q⟩ | q
      · omega
      · rw [h2] at q; cases q
      · rw [h2] at q; cases q
theorem kill_get {e lo i : Nat} {H : AHeap} {tk : Tok} (h : tkG e lo H tk) (hi : i < lo ∨ ∃ cs, hget H i = some (.box cs)) : hget (killTok H tk) i = hget H i := by
  rcases h with rfl | rfl | ⟨id, rfl, h1, h2⟩
  · rfl
  · rfl
  · simp only [killTok]
    rw [hget_hset_ne _ _ _ _ ?_]
    rintro rfl
    rcases hi with q | ⟨cs, q⟩
    · omega
    · rw [h2] at q; cases q
theorem kill_fresh {e lo n : Nat} {H : AHeap} {tk : Tok} (h : tkG e lo H tk) (hf : Fresh H n) : Fresh (killTok H tk) n := by
  rcases h with rfl | rfl | ⟨id, rfl, h1, h2⟩
  · exact hf
  · exact hf
  · exact hf.hset (Nat.le_refl _) (hf.lt h2)
theorem kill_none {tk : Tok} {H : AHeap} {e lo i : Nat} (h : tkG e lo H tk) (hi : hget H i = none) : hget (killTok H tk) i = none := by
  rcases h with rfl | rfl | ⟨id, rfl, h1, h2⟩
  · exact hi
  · exact hi
  · simp only [killTok]
    rw [hget_hset_ne _ _ _ _ ?_]
    · exact hi
    · rintro rfl; rw [h2] at hi; cases hi
structure V4 where
  m : List Tkn
  acc : List Bs
  tk : Tok
  H : AHeap
  n : Nat
structure I4 (src : Bs) (l : List Tkn) (s0 : Bs) (r0 : List Tkn) (H : AHeap) (n pid : Nat) (v : V4) : Prop where
  hn : n ≤ v.n
  fr : Fresh v.H v.n
  hp : hget v.H pid = some (pB src v.m)
  hk : KeepsB pid H v.H
  hl : v.m.length + v.acc.length ≤ l.length
  tok : tkG 1 n v.H v.tk
  es : v.tk.esz = 1
  eq : ((moreR r0).bd fun ss q => Rs.ok (s0 :: ss) q) = (moreR v.m).bd fun ss q => Rs.ok (v.acc ++ ss) q
theorem t_names : StepOK 69 [] eSs namesR := StepOK.of l69 (fun n a => ⟨trivial, strs_under n a⟩) fun src l pid H n hs hl hf hlt hp => by
  refine a69 (ev_awp TabOK.tnil (ev_evK ?_))
  simp only [eE, eN, reduceCtorEq, ↓reduceIte, c69]
  refine st_bd t_name hs hl hp (KeepsB.refl _) fun s0 r0 hr => ?_
  have hl0 := name_len hr
  simp only [eE, eN, reduceCtorEq, ↓reduceIte, Nat.reduceLeDiff, Nat.reduceMul, nS1, retK]
  refine k_loop (fun v : V4 => ⟨[(0, true, .ptr pid 0), (3, true, .sl v.tk (v.acc.map .str))], v.H, v.n⟩) (I4 src l s0 r0 H n pid) (fun v => v.m.length)
    ⟨r0, [s0], .exact 1, hset H pid (pB src r0), n⟩ rfl ⟨Nat.le_refl _, hf.hset (Nat.le_refl _) hlt, hget_hset_eq .., (KeepsB.refl _).set, by simp only [List.length_cons, List.length_nil]; omega, .inr (.inl rfl), rfl, rfl⟩ ?_
  rintro ⟨m, acc, tk, H1, n1⟩ ⟨hn, hfr, hp1, hk1, hl1, htk, hes, he⟩
  simp only at hn hfr hp1 hk1 hl1 htk hes he
  have hlt1 : pid < n1 := by omega
  have hm : m.length < 1000000000 := by omega
  by_cases hw : hdW [44] m = true
  · simp only [eE, ↓reduceIte]
    refine st_ok (t_is [44]) hs hm hp1 (a := true) (r := m.tail) (by unfold isR; rw [if_pos hw]) ?_
    rw [more_yes hw, bd_assoc] at he
    rw [he]
    simp only [eE, eC, eN, reduceCtorEq, Nat.reduceEqDiff, ↓reduceIte, retK]
    have hmt : m.tail.length < 1000000000 := by rw [List.length_tail]; omega
    cases hr1 : nameR m.tail with
    | bad r =>
      refine st_bad t_name hs hmt (hget_hset_eq ..) hr1 ?_
      simp only [eE, eN]
      exact ⟨rfl, hget_hset_eq .., hk1.set.set⟩
    | ok a r =>
      have hl2 := name_len hr1
      rw [List.length_tail] at hl2
      refine st_ok t_name hs hmt (hget_hset_eq ..) hr1 ?_
      have htk' : tkG 1 n (hset H1 pid (pB src r)) tk := htk.set (.inl hlt)
      have hk' : KeepsB pid H (hset H1 pid (pB src r)) := hk1.set
      have hfr' : Fresh (hset H1 pid (pB src r)) n1 := hfr.hset (Nat.le_refl _) hlt1
      have hp' : hget (hset H1 pid (pB src r)) pid = some (pB src r) := hget_hset_eq ..
      rw [hset_hset]
      generalize hset H1 pid (pB src r) = H2 at htk' hk' hfr' hp'
      have q1 : appOK H2 1 tk = True := eq_true htk'.app
      have q2 : (acc.length ≤ 35184372088831) = True := eq_true (by omega)
      have q3 : small (acc.length + 1) 16 = True := eq_true (by unfold small; omega)
      simp only [eE, eN, reduceCtorEq, Nat.reduceEqDiff, ↓reduceIte, Nat.reduceLeDiff, Nat.reduceMul, nS1, retK, q1, q2, q3, fr1 hfr', List.length_map]
      refine .mk ⟨r, acc ++ [a], .own (n1 + 4) 1, hset (killTok H2 tk) (n1 + 4) .tok, n1 + 6⟩ (by simp only [List.map_append, List.map_cons, List.map_nil]) ⟨by simp only []; omega, (kill_fresh htk' hfr').hset (by simp only []; omega) (by simp only []; omega), ?_, ?_, ?_, .inr (.inr ⟨n1 + 4, rfl, by omega, hget_hset_eq ..⟩), rfl, ?_⟩ (by simp only []; omega)
      · simp only []
        rw [hget_hset_ne _ _ _ _ (by omega), kill_get htk' (.inl hlt)]; exact hp'
      · intro id ob hne hx
        have := hf.lt hx
        simp only []
        rw [hget_hset_ne _ _ _ _ (by omega), kill_get htk' (.inl this)]; exact hk' id ob hne hx
      · simp only [List.length_append, List.length_cons, List.length_nil]; omega
      · simp only []
        rw [he, hr1]
        simp only [Rs.bd]
        cases moreR r <;> simp
  · simp only [eE, ↓reduceIte]
    refine st_ok (t_is [44]) hs hm hp1 (a := false) (r := m) (by unfold isR; rw [if_neg hw]) ?_
    rw [more_no' hw] at he
    rw [he]
    simp only [eE, eC, eN, reduceCtorEq, Nat.reduceEqDiff, ↓reduceIte, retK]
    simp only [Rs.bd, List.append_nil]
    exact ⟨⟨_, rfl, Wk.sl (.inl hes)⟩, hget_hset_eq .., hk1.set⟩
def encIt (i : Itm) : AVal := .agg [.int .i64 i.k, .int .i64 i.n, eSs i.ls, eSs i.cs]
theorem encIt_under (n : Nat) (i : Itm) : (encIt i).under n := ⟨trivial, trivial, ⟨trivial, strs_under n _⟩, ⟨trivial, strs_under n _⟩, trivial⟩
theorem wk_it {k n : Int} {a b : AVal} {ls cs : List Bs} (h1 : Wk a (eSs ls)) (h2 : Wk b (eSs cs)) : Wk (.agg [.int .i64 k, .int .i64 n, a, b]) (encIt ⟨k, n, ls, cs⟩) :=
  Wk.agg (.cons (Wk.refl _) (.cons (Wk.refl _) (.cons h1 (.cons h2 .nil))))
theorem wk_nilS : Wk (.sl .nil []) (eSs []) := Wk.sl (.inr rfl)
theorem wk_ex {l : List AVal} : Wk (.sl (.exact 1) l) (.sl (.none 1) l) := Wk.sl (.inl rfl)
theorem t_different : StepOK 59 [] encIt fun l => (namesR l).bd fun cs r => .ok ⟨1, 0, [], cs⟩ r := StepOK.of l59 encIt_under fun src l pid H n hs hl hf hlt hp => by
  refine a59 (ev_awp TabOK.tnil (ev_evK ?_))
  simp only [eE, eN, reduceCtorEq, ↓reduceIte, fr0 hf, c59]
  refine st_bd t_names hs hl (by rw [hget_hset_ne _ _ _ _ (by omega)]; exact hp) ((KeepsB.refl _).new hf (Nat.le_refl _)) fun cs r hr => ?_
  simp only [eE, eN, reduceCtorEq, Nat.reduceEqDiff, ↓reduceIte, Nat.reduceAdd, Nat.reduceLeDiff, rcell, sep3 hlt, retK]
  exact ⟨⟨_, rfl, wk_it wk_nilS (Wk.refl _)⟩, (by simp only [hget_hset, sep4 hlt, if_true, if_false]), (fun id ob hne hx => by have := hf.lt hx; simp only [hget_hset]; (repeat rw [if_neg (by omega)]); exact hx)⟩
end Go.AM
end
section
set_option maxRecDepth 20000
set_option linter.all false
namespace Go.AM
open Go.Proofs Go.Lib
theorem need_one (w : Bs) (l : List Tkn) : needsR [w] l = need w l := by
  show (need w l).bd _ = _
  cases need w l <;> rfl
theorem t_need1 (w : Bs) : StepOK 66 [.sl (.exact 1) [.str w]] encU (need w) := by
  have := t_need [w] (by decide : 1 < 1000)
  rwa [show needsR [w] = need w from funext (need_one w)] at this
def need2 (v w : Bs) (l : List Tkn) : Rs Unit := (need v l).bd fun _ r => need w r
theorem t_need2 (v w : Bs) : StepOK 66 [.sl (.exact 1) [.str v, .str w]] encU (need2 v w) := by
  have := t_need [v, w] (by decide : 2 < 1000)
  rwa [show needsR [v, w] = need2 v w from funext fun l => by show (need v l).bd _ = _; unfold need2; congr 1; funext _ r; exact need_one w r] at this
theorem t_rise : StepOK 60 [] encIt fun l => (namesR l).bd fun cs r => .ok ⟨4, 0, [], cs⟩ r := StepOK.of l60 encIt_under fun src l pid H n hs hl hf hlt hp => by
  refine a60 (ev_awp TabOK.tnil (ev_evK ?_))
  simp only [eE, eN, reduceCtorEq, ↓reduceIte, fr0 hf, c60]
  refine st_bd t_names hs hl (by simp only [hget_hset, sep4 hlt, if_false]; exact hp) (fun id ob hne hx => by have := hf.lt hx; simp only [hget_hset]; (repeat rw [if_neg (by omega)]); exact hx) fun cs r hr => ?_
  simp only [eE, eN, reduceCtorEq, Nat.reduceEqDiff, ↓reduceIte, Nat.reduceAdd, Nat.reduceLeDiff, rcell, sep3 hlt, retK]
  exact ⟨⟨_, rfl, wk_it wk_nilS (Wk.refl _)⟩, (by simp only [hget_hset, sep4 hlt, if_true, if_false]), (fun id ob hne hx => by have := hf.lt hx; simp only [hget_hset]; (repeat rw [if_neg (by omega)]); exact hx)⟩
theorem t_near : StepOK 61 [] encIt fun l => (namesR l).bd fun cs r => .ok ⟨5, 0, [], cs⟩ r := StepOK.of l61 encIt_under fun src l pid H n hs hl hf hlt hp => by
  refine a61 (ev_awp TabOK.tnil (ev_evK ?_))
  simp only [eE, eN, reduceCtorEq, ↓reduceIte, fr0 hf, c61]
  refine st_bd t_names hs hl (by simp only [hget_hset, sep4 hlt, if_false]; exact hp) (fun id ob hne hx => by have := hf.lt hx; simp only [hget_hset]; (repeat rw [if_neg (by omega)]); exact hx) fun cs r hr => ?_
  simp only [eE, eN, reduceCtorEq, Nat.reduceEqDiff, ↓reduceIte, Nat.reduceAdd, Nat.reduceLeDiff, rcell, sep3 hlt, retK]
  exact ⟨⟨_, rfl, wk_it wk_nilS (Wk.refl _)⟩, (by simp only [hget_hset, sep4 hlt, if_true, if_false]), (fun id ob hne hx => by have := hf.lt hx; simp only [hget_hset]; (repeat rw [if_neg (by omega)]); exact hx)⟩
theorem name_lt {l r : List Tkn} {s : Bs} (h : nameR l = .ok s r) (hl : l.length < 1000000000) : r.length < 1000000000 := by have := name_len h; omega
theorem numb_lt {l r : List Tkn} {v : Int} (h : numbR l = .ok v r) (hl : l.length < 1000000000) : r.length < 1000000000 := by
  cases l with
  | nil => cases h
  | cons t l =>
    simp only [numbR, kindR] at h
    split at h
    · cases h; simp at hl; omega
    · cases h
theorem needN_lt {l r : List Tkn} {w : Bs} {u : Unit} (h : need w l = .ok u r) (hl : l.length < 1000000000) : r.length < 1000000000 := by
  unfold need at h
  split at h
  · cases h; rw [List.length_tail]; omega
  · cases h
theorem bd_ok' {α β : Type} {x : Rs α} {f : α → List Tkn → Rs β} {b : β} {r : List Tkn} (h : x.bd f = .ok b r) : ∃ a q, x = .ok a q ∧ f a q = .ok b r := by
  cases x with
  | ok a q => exact ⟨a, q, rfl, h⟩
  | bad q => cases h
theorem more_lt : ∀ (n : Nat) {l r : List Tkn} {ss : List Bs}, l.length ≤ n → moreR l = .ok ss r → r.length ≤ l.length
  | n, l, r, ss, hn, h => by
    by_cases hw : hdW [44] l = true
    · rw [more_yes hw] at h
      obtain ⟨s, q, h1, h2⟩ := bd_ok' h
      obtain ⟨ts, q2, h3, h4⟩ := bd_ok' h2
      cases h4
      have := name_len h1
      rw [List.length_tail] at this
      match n with
      | 0 => omega
      | n + 1 =>
        have := more_lt n (by omega) h3
        omega
    · rw [more_no' hw] at h; cases h; exact Nat.le_refl _
theorem names_lt {l r : List Tkn} {ss : List Bs} (h : namesR l = .ok ss r) (hl : l.length < 1000000000) : r.length < 1000000000 := by
  unfold namesR at h
  obtain ⟨s, q, h1, h2⟩ := bd_ok' h
  obtain ⟨ts, q2, h3, h4⟩ := bd_ok' h2
  cases h4
  have := name_len h1
  have := more_lt _ (Nat.le_refl _) h3
  omega
theorem t_home : StepOK 62 [] encIt fun l => (nameR l).bd fun a r => (need [58] r).bd fun _ r => (namesR r).bd fun cs r => .ok ⟨2, 0, [a], cs⟩ r := StepOK.of l62 encIt_under fun src l pid H n hs hl hf hlt hp => by
  refine a62 (ev_awp TabOK.tnil (ev_evK ?_))
  simp only [eE, eN, reduceCtorEq, ↓reduceIte, Nat.reduceAdd, fr0 hf, c62]
  refine st_bd t_name hs hl (by simp only [hget_hset, sep4 hlt, if_false]; exact hp) (fun id ob hne hx => by have := hf.lt hx; simp only [hget_hset]; (repeat rw [if_neg (by omega)]); exact hx) fun a r1 hr1 => ?_
  have hl1 := name_lt hr1 hl
  simp only [eE, eN, reduceCtorEq, Nat.reduceEqDiff, ↓reduceIte, Nat.reduceAdd, Nat.reduceLeDiff, Nat.reduceMul, nS1, sep1 hlt, fr1 hf, retK]
  refine st_bd (t_need1 [58]) hs hl1 (by simp only [hget_hset, sep2 hlt, sep4 hlt, if_true, if_false]) (fun id ob hne hx => by have := hf.lt hx; simp only [hget_hset]; (repeat rw [if_neg (by omega)]); exact hx) fun u r2 hr2 => ?_
  have hl2 := needN_lt hr2 hl1
  simp only [eE, eN, reduceCtorEq, Nat.reduceEqDiff, ↓reduceIte, retK]
  refine st_bd t_names hs hl2 (by simp only [hget_hset, sep2 hlt, sep4 hlt, if_true, if_false]) (fun id ob hne hx => by have := hf.lt hx; simp only [hget_hset]; (repeat rw [if_neg (by omega)]); exact hx) fun cs r3 hr3 => ?_
  simp only [eE, eN, reduceCtorEq, Nat.reduceEqDiff, ↓reduceIte, Nat.reduceAdd, rcell, sep1 hlt, sep3 hlt, retK]
  exact ⟨⟨_, rfl, wk_it wk_ex (Wk.refl _)⟩, (by simp only [hget_hset, sep2 hlt, sep4 hlt, if_true, if_false]), (fun id ob hne hx => by have := hf.lt hx; simp only [hget_hset]; (repeat rw [if_neg (by omega)]); exact hx)⟩
theorem t_apart : StepOK 63 [] encIt fun l => (numbR l).bd fun n r => (need [58] r).bd fun _ r => (namesR r).bd fun cs r => .ok ⟨3, n, [], cs⟩ r := StepOK.of l63 encIt_under fun src l pid H n hs hl hf hlt hp => by
  refine a63 (ev_awp TabOK.tnil (ev_evK ?_))
  simp only [eE, eN, reduceCtorEq, ↓reduceIte, Nat.reduceAdd, fr0 hf, c63]
  refine st_bd t_number hs hl (by simp only [hget_hset, sep4 hlt, if_false]; exact hp) (fun id ob hne hx => by have := hf.lt hx; simp only [hget_hset]; (repeat rw [if_neg (by omega)]); exact hx) fun a r1 hr1 => ?_
  have hl1 := numb_lt hr1 hl
  simp only [eE, eN, reduceCtorEq, Nat.reduceEqDiff, ↓reduceIte, Nat.reduceAdd, Nat.reduceLeDiff, Nat.reduceMul, nS1, sep1 hlt, fr1 hf, retK]
  refine st_bd (t_need1 [58]) hs hl1 (by simp only [hget_hset, sep2 hlt, sep4 hlt, if_true, if_false]) (fun id ob hne hx => by have := hf.lt hx; simp only [hget_hset]; (repeat rw [if_neg (by omega)]); exact hx) fun u r2 hr2 => ?_
  have hl2 := needN_lt hr2 hl1
  simp only [eE, eN, reduceCtorEq, Nat.reduceEqDiff, ↓reduceIte, retK]
  refine st_bd t_names hs hl2 (by simp only [hget_hset, sep2 hlt, sep4 hlt, if_true, if_false]) (fun id ob hne hx => by have := hf.lt hx; simp only [hget_hset]; (repeat rw [if_neg (by omega)]); exact hx) fun cs r3 hr3 => ?_
  simp only [eE, eN, reduceCtorEq, Nat.reduceEqDiff, ↓reduceIte, Nat.reduceAdd, rcell, sep1 hlt, sep3 hlt, retK]
  exact ⟨⟨_, rfl, wk_it wk_nilS (Wk.refl _)⟩, (by simp only [hget_hset, sep2 hlt, sep4 hlt, if_true, if_false]), (fun id ob hne hx => by have := hf.lt hx; simp only [hget_hset]; (repeat rw [if_neg (by omega)]); exact hx)⟩
theorem t_quota : StepOK 64 [] encIt fun l => (numbR l).bd fun n r => (namesR r).bd fun ls r => (need [58] r).bd fun _ r => (namesR r).bd fun cs r => .ok ⟨6, n, ls, cs⟩ r := StepOK.of l64 encIt_under fun src l pid H n hs hl hf hlt hp => by
  refine a64 (ev_awp TabOK.tnil (ev_evK ?_))
  simp only [eE, eN, reduceCtorEq, ↓reduceIte, Nat.reduceAdd, fr0 hf, c64]
  refine st_bd t_number hs hl (by simp only [hget_hset, sep4 hlt, if_false]; exact hp) (fun id ob hne hx => by have := hf.lt hx; simp only [hget_hset]; (repeat rw [if_neg (by omega)]); exact hx) fun a r1 hr1 => ?_
  have hl1 := numb_lt hr1 hl
  simp only [eE, eN, reduceCtorEq, Nat.reduceEqDiff, ↓reduceIte, Nat.reduceAdd, Nat.reduceLeDiff, sep1 hlt, fr1 hf, retK]
  refine st_bd t_names hs hl1 (by simp only [hget_hset, sep2 hlt, sep4 hlt, if_true, if_false]) (fun id ob hne hx => by have := hf.lt hx; simp only [hget_hset]; (repeat rw [if_neg (by omega)]); exact hx) fun ls r2 hr2 => ?_
  have hl2 := names_lt hr2 hl1
  simp only [eE, eN, reduceCtorEq, Nat.reduceEqDiff, ↓reduceIte, Nat.reduceAdd, Nat.reduceLeDiff, Nat.reduceMul, nS1, sep1 hlt, retK]
  refine st_bd (t_need1 [58]) hs hl2 (by simp only [hget_hset, sep2 hlt, sep4 hlt, if_true, if_false]) (fun id ob hne hx => by have := hf.lt hx; simp only [hget_hset]; (repeat rw [if_neg (by omega)]); exact hx) fun u r3 hr3 => ?_
  have hl3 := needN_lt hr3 hl2
  simp only [eE, eN, reduceCtorEq, Nat.reduceEqDiff, ↓reduceIte, retK]
  refine st_bd t_names hs hl3 (by simp only [hget_hset, sep2 hlt, sep4 hlt, if_true, if_false]) (fun id ob hne hx => by have := hf.lt hx; simp only [hget_hset]; (repeat rw [if_neg (by omega)]); exact hx) fun cs r4 hr4 => ?_
  simp only [eE, eN, reduceCtorEq, Nat.reduceEqDiff, ↓reduceIte, Nat.reduceAdd, rcell, sep1 hlt, sep3 hlt, retK]
  exact ⟨⟨_, rfl, wk_it (Wk.refl _) (Wk.refl _)⟩, (by simp only [hget_hset, sep2 hlt, sep4 hlt, if_true, if_false]), (fun id ob hne hx => by have := hf.lt hx; simp only [hget_hset]; (repeat rw [if_neg (by omega)]); exact hx)⟩
theorem t_only : StepOK 65 [] encIt fun l => (nameR l).bd fun a r => (need [58] r).bd fun _ r => (namesR r).bd fun ls r => .ok ⟨0, 0, ls, [a]⟩ r := StepOK.of l65 encIt_under fun src l pid H n hs hl hf hlt hp => by
  refine a65 (ev_awp TabOK.tnil (ev_evK ?_))
  simp only [eE, eN, reduceCtorEq, ↓reduceIte, Nat.reduceAdd, fr0 hf, c65]
  refine st_bd t_name hs hl (by simp only [hget_hset, sep4 hlt, if_false]; exact hp) (fun id ob hne hx => by have := hf.lt hx; simp only [hget_hset]; (repeat rw [if_neg (by omega)]); exact hx) fun a r1 hr1 => ?_
  have hl1 := name_lt hr1 hl
  simp only [eE, eN, reduceCtorEq, Nat.reduceEqDiff, ↓reduceIte, Nat.reduceAdd, Nat.reduceLeDiff, Nat.reduceMul, nS1, sep1 hlt, fr1 hf, retK]
  refine st_bd (t_need1 [58]) hs hl1 (by simp only [hget_hset, sep2 hlt, sep4 hlt, if_true, if_false]) (fun id ob hne hx => by have := hf.lt hx; simp only [hget_hset]; (repeat rw [if_neg (by omega)]); exact hx) fun u r2 hr2 => ?_
  have hl2 := needN_lt hr2 hl1
  simp only [eE, eN, reduceCtorEq, Nat.reduceEqDiff, ↓reduceIte, retK]
  refine st_bd t_names hs hl2 (by simp only [hget_hset, sep2 hlt, sep4 hlt, if_true, if_false]) (fun id ob hne hx => by have := hf.lt hx; simp only [hget_hset]; (repeat rw [if_neg (by omega)]); exact hx) fun cs r3 hr3 => ?_
  simp only [eE, eN, reduceCtorEq, Nat.reduceEqDiff, ↓reduceIte, Nat.reduceAdd, Nat.reduceLeDiff, rcell, sep1 hlt, sep3 hlt, retK]
  exact ⟨⟨_, rfl, wk_it (Wk.refl _) wk_ex⟩, (by simp only [hget_hset, sep2 hlt, sep4 hlt, if_true, if_false]), (fun id ob hne hx => by have := hf.lt hx; simp only [hget_hset]; (repeat rw [if_neg (by omega)]); exact hx)⟩
end Go.AM
end
section
set_option maxRecDepth 20000
set_option linter.all false
namespace Go.AM
open Go.Proofs Go.Lib
theorem find_some {α : Type} {p : α → Bool} {l : List α} {i : Nat} (h : i < l.length) (hp : p l[i] = true) (hn : ∀ j (hj : j < l.length), j < i → p l[j] = false) : l.findIdx? p = some i :=
  List.findIdx?_eq_some_iff_getElem.2 ⟨h, hp, fun j hj => by rw [hn j (by omega) hj]; decide⟩
theorem find_none {α : Type} {p : α → Bool} {l : List α} (hn : ∀ j (hj : j < l.length), p l[j] = false) : l.findIdx? p = none :=
  List.findIdx?_eq_none_iff.2 fun x hx => by obtain ⟨j, hj, rfl⟩ := List.mem_iff_getElem.1 hx; exact hn j hj
def idxG {α : Type} [DecidableEq α] (l : List α) (s : α) : Int := match l.findIdx? (fun x => decide (x = s)) with
  | some k => k
  | none => -1
theorem idxG_S (l : List Bs) (s : Bs) : idxG l s = idxS l s := rfl
theorem idxG_some {α : Type} [DecidableEq α] {l : List α} {s : α} {i : Nat} (h : i < l.length) (hp : l[i] = s) (hn : ∀ j (hj : j < l.length), j < i → l[j] ≠ s) : idxG l s = i := by
  unfold idxG
  rw [find_some h (by simp [hp]) fun j hj hji => by simp [hn j hj hji]]
theorem idxG_none {α : Type} [DecidableEq α] {l : List α} {s : α} (hn : ∀ j (hj : j < l.length), l[j] ≠ s) : idxG l s = -1 := by
  unfold idxG
  rw [find_none fun j hj => by simp [hn j hj]]
theorem distinct_iff {α : Type} [DecidableEq α] : ∀ {l : List α}, distinct l = true ↔ ∀ j (hj : j < l.length), idxG l l[j] = (j : Int)
  | [] => by simp [distinct]
  | x :: r => by
    have ih := distinct_iff (l := r)
    simp only [distinct, Bool.and_eq_true, Bool.not_eq_true']
    constructor
    · rintro ⟨h1, h2⟩ j hj
      cases j with
      | zero => exact idxG_some (i := 0) (by simp) rfl fun k _ hk => by omega
      | succ j =>
        have hj' : j < r.length := by simpa using hj
        refine idxG_some hj rfl fun k hk hkj => ?_
        cases k with
        | zero =>
          intro e
          have : (r.any fun y => decide (y = x)) = true := List.any_eq_true.2 ⟨r[j], List.getElem_mem hj', by simpa using e.symm⟩
          rw [h1] at this; cases this
        | succ k =>
          intro e
          have hk' : k < r.length := by simpa using hk
          have e' : r[k] = r[j] := by simpa using e
          have q1 := ih.1 h2 k hk'
          have q2 := ih.1 h2 j hj'
          rw [e'] at q1; rw [q1] at q2; omega
    · intro h
      refine ⟨?_, ih.2 fun j hj => ?_⟩
      · rw [List.any_eq_false]
        intro y hy e
        obtain ⟨j, hj, rfl⟩ := List.mem_iff_getElem.1 hy
        have e : r[j] = x := by simpa using e
        have h0 := h 0 (by simp)
        have := h (j + 1) (by simpa using hj)
        simp only [List.getElem_cons_succ, e] at this
        simp only [List.getElem_cons_zero] at h0
        rw [h0] at this
        omega
      · have := h (j + 1) (by simpa using hj)
        simp only [List.getElem_cons_succ] at this
        unfold idxG at this ⊢
        rw [List.findIdx?_cons] at this
        by_cases e : x = r[j]
        · simp [e] at this; omega
        · rw [show decide (x = r[j]) = false by simp [e]] at this
          simp only [Bool.false_eq_true, if_false] at this
          cases hq : r.findIdx? (fun x => decide (x = r[j])) with
          | none => rw [hq] at this; simp at this; omega
          | some k => rw [hq] at this; simp at this ⊢; omega
theorem scmp_eq {a b : Bs} : scmp .eql a b = decide (a = b) := rfl
theorem scmp_ne {a b : Bs} : scmp .neq a b = !decide (a = b) := rfl
abbrev few {α : Type} (l : List α) : Prop := l.length < 1000000000
theorem p99 (l : List Bs) (s : Bs) (hl : few l) : Pur Tryz.prog 99 [eSs l, .str s] (eI (idxS l s)) := by
  refine .mk ⟨⟨trivial, strs_under 0 l⟩, trivial, trivial⟩ trivial (a99 (ev_awp TabOK.tnil (ev_evK ?_)))
  simp only [eE, eN, reduceCtorEq, Nat.reduceEqDiff, ↓reduceIte, Nat.reduceAdd, List.length_map, c99]
  refine k_loop (fun i : Nat => ⟨[(0, true, eSs l), (1, true, .str s), (7, true, .int .i64 l.length), (8, true, .int .i64 i)], hnil, 0⟩)
    (fun i => i ≤ l.length ∧ ∀ j (hj : j < l.length), j < i → l[j] ≠ s) (fun i => l.length - i) 0 rfl ⟨Nat.zero_le _, fun j hj h => by omega⟩ ?_
  rintro i ⟨hi, hall⟩
  by_cases hlt : i < l.length
  case neg =>
    simp only [eE, eC, eN, reduceCtorEq, Nat.reduceEqDiff, ↓reduceIte, lt_F hlt]
    rw [← idxG_S, idxG_none fun j hj => hall j hj (by omega)]
  have hg := List.getElem?_eq_getElem hlt
  have e := w64_succ (k := i) (by omega)
  by_cases hs : l[i] = s
  · simp only [eE, eC, eN, reduceCtorEq, Nat.reduceEqDiff, ↓reduceIte, Option.getD_some, Int.toNat_natCast, Int.natCast_nonneg, List.length_map, List.getElem?_map, lt_T hlt, hg, scmp_eq, hs]
    rw [← idxG_S, idxG_some hlt hs hall]
  · simp only [eE, eC, eN, reduceCtorEq, Nat.reduceEqDiff, ↓reduceIte, Int.reduceEq, Option.getD_some, Int.toNat_natCast, Int.natCast_nonneg, List.length_map, List.getElem?_map, lt_T hlt, hg, scmp_eq, show (s = l[i]) = False from eq_false (Ne.symm hs), e]
    refine .mk (i + 1) rfl ⟨hlt, fun j hj h => ?_⟩ (by omega)
    by_cases q : j = i
    · subst q; exact hs
    · exact hall j hj (by omega)
theorem pw100 (l : List Int) (s : Int) (hl : few l) : Pur Tryz.prog 100 [eIs l, eI s] (eI (idxG l s)) := by
  refine .mk ⟨⟨trivial, eI_under 0 l⟩, trivial, trivial⟩ trivial (a100 (ev_awp TabOK.tnil (ev_evK ?_)))
  simp only [eE, eN, reduceCtorEq, Nat.reduceEqDiff, ↓reduceIte, Nat.reduceAdd, List.length_map, c100]
  refine k_loop (fun i : Nat => ⟨[(0, true, eIs l), (1, true, eI s), (7, true, .int .i64 l.length), (8, true, .int .i64 i)], hnil, 0⟩)
    (fun i => i ≤ l.length ∧ ∀ j (hj : j < l.length), j < i → l[j] ≠ s) (fun i => l.length - i) 0 rfl ⟨Nat.zero_le _, fun j hj h => by omega⟩ ?_
  rintro i ⟨hi, hall⟩
  by_cases hlt : i < l.length
  case neg =>
    simp only [eE, eC, eN, reduceCtorEq, Nat.reduceEqDiff, ↓reduceIte, lt_F hlt]
    rw [idxG_none fun j hj => hall j hj (by omega)]
  have hg := List.getElem?_eq_getElem hlt
  have e := w64_succ (k := i) (by omega)
  by_cases hs : l[i] = s
  · simp only [eE, eC, eN, reduceCtorEq, Nat.reduceEqDiff, ↓reduceIte, Option.getD_some, Int.toNat_natCast, Int.natCast_nonneg, List.length_map, List.getElem?_map, lt_T hlt, hg, hs]
    rw [idxG_some hlt hs hall]
  · simp only [eE, eC, eN, reduceCtorEq, Nat.reduceEqDiff, ↓reduceIte, Int.reduceEq, Option.getD_some, Int.toNat_natCast, Int.natCast_nonneg, List.length_map, List.getElem?_map, lt_T hlt, hg, show (s = l[i]) = False from eq_false (Ne.symm hs), e]
    refine .mk (i + 1) rfl ⟨hlt, fun j hj h => ?_⟩ (by omega)
    by_cases q : j = i
    · subst q; exact hs
    · exact hall j hj (by omega)
end Go.AM
end
section
set_option maxRecDepth 20000
set_option linter.all false
namespace Go.AM
open Go.Proofs Go.Lib
theorem ext_take {α : Type} {a b : List α} (hl : a.length = b.length) (h : ∀ j, j < a.length → a[j]? = b[j]?) : a = b := List.ext_getElem? fun j => by
  rcases Nat.lt_or_ge j a.length with q | q
  · exact h j q
  · rw [List.getElem?_eq_none q, List.getElem?_eq_none (by omega)]
theorem len_ne {a b : Nat} (h : a ≠ b) : ((a : Int) = (b : Int)) = False := eq_false (by omega)
theorem len_eq {a b : Nat} (h : a = b) : ((a : Int) = (b : Int)) = True := eq_true (by omega)
theorem p42 (a b : List Int) (ha : few a) : Pur Tryz.prog 42 [eIs a, eIs b] (.bool (decide (a = b))) := by
  refine .mk ⟨⟨trivial, eI_under 0 a⟩, ⟨trivial, eI_under 0 b⟩, trivial⟩ trivial (a42 (ev_awp TabOK.tnil (ev_evK ?_)))
  by_cases hl : a.length = b.length
  case neg =>
    simp only [eE, eC, eN, reduceCtorEq, Nat.reduceEqDiff, ↓reduceIte, Nat.reduceAdd, Bool.not_false, List.length_map, c42, len_ne hl, Bool.not_false]
    exact (decide_eq_false fun e => hl (by rw [e])).symm
  simp only [eE, eC, eN, reduceCtorEq, Nat.reduceEqDiff, ↓reduceIte, Nat.reduceAdd, Bool.not_true, List.length_map, c42, len_eq hl]
  refine k_loop (fun i : Nat => ⟨[(0, true, eIs a), (1, true, eIs b), (12, true, .int .i64 a.length), (13, true, .int .i64 i)], hnil, 0⟩) (fun i => i ≤ a.length ∧ ∀ j, j < i → a[j]? = b[j]?) (fun i => a.length - i) 0 rfl ⟨Nat.zero_le _, fun j hj => by omega⟩ ?_
  rintro i ⟨hi, hall⟩
  by_cases hlt : i < a.length
  case neg =>
    simp only [eE, eC, eN, reduceCtorEq, Nat.reduceEqDiff, ↓reduceIte, lt_F hlt]
    exact (decide_eq_true (ext_take hl fun j hj => hall j (by omega))).symm
  have hltb : i < b.length := by omega
  have hga := List.getElem?_eq_getElem hlt
  have hgb := List.getElem?_eq_getElem hltb
  have e := w64_succ (k := i) (by omega)
  by_cases hs : a[i] = b[i]
  · simp only [eE, eC, eN, reduceCtorEq, Nat.reduceEqDiff, ↓reduceIte, Int.reduceEq, Bool.not_true, Option.getD_some, Int.toNat_natCast, Int.natCast_nonneg, List.length_map, List.getElem?_map, lt_T hlt, lt_T hltb, hga, hgb, hs, e]
    refine .mk (i + 1) rfl ⟨hlt, fun j h => ?_⟩ (by omega)
    by_cases q : j = i
    · subst q; rw [hga, hgb, hs]
    · exact hall j (by omega)
  · simp only [eE, eC, eN, reduceCtorEq, Nat.reduceEqDiff, ↓reduceIte, Bool.not_false, Option.getD_some, Int.toNat_natCast, Int.natCast_nonneg, List.length_map, List.getElem?_map, lt_T hlt, lt_T hltb, hga, hgb, hs]
    exact (decide_eq_false fun q => hs (by simp [q])).symm
theorem p45 (a b : List Bs) (ha : few a) : Pur Tryz.prog 45 [eSs a, eSs b] (.bool (decide (a = b))) := by
  refine .mk ⟨⟨trivial, strs_under 0 a⟩, ⟨trivial, strs_under 0 b⟩, trivial⟩ trivial (a45 (ev_awp TabOK.tnil (ev_evK ?_)))
  by_cases hl : a.length = b.length
  case neg =>
    simp only [eE, eC, eN, reduceCtorEq, Nat.reduceEqDiff, ↓reduceIte, Nat.reduceAdd, Bool.not_false, List.length_map, c45, len_ne hl, Bool.not_false]
    exact (decide_eq_false fun e => hl (by rw [e])).symm
  simp only [eE, eC, eN, reduceCtorEq, Nat.reduceEqDiff, ↓reduceIte, Nat.reduceAdd, Bool.not_true, List.length_map, c45, len_eq hl]
  refine k_loop (fun i : Nat => ⟨[(0, true, eSs a), (1, true, eSs b), (12, true, .int .i64 a.length), (13, true, .int .i64 i)], hnil, 0⟩) (fun i => i ≤ a.length ∧ ∀ j, j < i → a[j]? = b[j]?) (fun i => a.length - i) 0 rfl ⟨Nat.zero_le _, fun j hj => by omega⟩ ?_
  rintro i ⟨hi, hall⟩
  by_cases hlt : i < a.length
  case neg =>
    simp only [eE, eC, eN, reduceCtorEq, Nat.reduceEqDiff, ↓reduceIte, lt_F hlt]
    exact (decide_eq_true (ext_take hl fun j hj => hall j (by omega))).symm
  have hltb : i < b.length := by omega
  have hga := List.getElem?_eq_getElem hlt
  have hgb := List.getElem?_eq_getElem hltb
  have e := w64_succ (k := i) (by omega)
  by_cases hs : a[i] = b[i]
  · simp only [eE, eC, eN, reduceCtorEq, Nat.reduceEqDiff, ↓reduceIte, Int.reduceEq, Bool.not_true, Option.getD_some, Int.toNat_natCast, Int.natCast_nonneg, List.length_map, List.getElem?_map, lt_T hlt, lt_T hltb, hga, hgb, hs, e, scmp_ne]
    refine .mk (i + 1) rfl ⟨hlt, fun j h => ?_⟩ (by omega)
    by_cases q : j = i
    · subst q; rw [hga, hgb, hs]
    · exact hall j (by omega)
  · simp only [eE, eC, eN, reduceCtorEq, Nat.reduceEqDiff, ↓reduceIte, Bool.not_false, Option.getD_some, Int.toNat_natCast, Int.natCast_nonneg, List.length_map, List.getElem?_map, lt_T hlt, lt_T hltb, hga, hgb, hs, scmp_ne]
    exact (decide_eq_false fun q => hs (by simp [q])).symm
structure Vg where
  i : Nat
  tk : Tok
  H : AHeap
  n : Nat
structure Ig (e len : Nat) (v : Vg) : Prop where
  hi : v.i ≤ len
  fr : Fresh v.H v.n
  tok : tkG e 0 v.H v.tk
  es : v.tk.esz = e ∨ v.i = 0
theorem Ig.next {e len : Nat} {v : Vg} {id n' : Nat} (h : Ig e len v) (hi : v.i < len) (hid : v.n ≤ id) (hn : id < n') : Ig e len ⟨v.i + 1, .own id e, hset (killTok v.H v.tk) id .tok, n'⟩ :=
  ⟨hi, (kill_fresh h.tok h.fr).hset (by simp only []; omega) hn, .inr (.inr ⟨id, rfl, Nat.zero_le _, hget_hset_eq ..⟩), .inl rfl⟩
theorem small_of {n b : Nat} (h : n ≤ 1000000000) (hb : b ≤ 1000) : small n b := by
  have : n * b ≤ 1000000000 * 1000 := Nat.mul_le_mul h hb
  unfold small; omega
def rangeI (n : Nat) : List Int := (List.range n).map fun (i : Nat) => (i : Int)
theorem rangeI_succ (n : Nat) : (rangeI (n + 1)).map eI = (rangeI n).map eI ++ [eI n] := by simp [rangeI, List.range_succ]
theorem rangeI_len (n : Nat) : (rangeI n).length = n := by simp [rangeI]
theorem p95 (l : List Bs) (hl : few l) : Pur Tryz.prog 95 [eSs l] (eIs (rangeI l.length)) := by
  refine .mk ⟨⟨trivial, strs_under 0 l⟩, trivial⟩ ⟨trivial, eI_under 0 _⟩ (a95 (ev_awp TabOK.tnil (ev_evK ?_)))
  simp only [eE, eN, reduceCtorEq, Nat.reduceEqDiff, ↓reduceIte, List.length_map, c95]
  refine k_loop (fun v : Vg => ⟨[(3, true, .sl v.tk ((rangeI v.i).map eI)), (6, true, .int .i64 l.length), (7, true, .int .i64 v.i)], v.H, v.n⟩) (Ig 1 l.length) (fun v => l.length - v.i) ⟨0, .nil, hnil, 0⟩ rfl ⟨Nat.zero_le _, Fresh.nil, .inl rfl, .inr rfl⟩ ?_
  rintro ⟨i, tk, H, n⟩ hI
  have hi : i ≤ l.length := hI.hi
  by_cases hlt : i < l.length
  case neg =>
    obtain rfl : i = l.length := by omega
    simp only [eE, eC, eN, Nat.reduceEqDiff, ↓reduceIte, lt_F hlt]
    refine Wk.sl (hI.es.imp id fun e => ?_)
    simp only at e
    rw [e]; rfl
  have e := w64_succ (k := i) (by omega)
  have q1 : appOK H 1 tk = True := eq_true hI.tok.app
  have q2 : (i ≤ 35184372088831) = True := eq_true (by omega)
  have q3 : small (i + 1) 8 = True := eq_true (small_of (by omega) (by decide))
  simp only [eE, eC, eN, reduceCtorEq, Nat.reduceEqDiff, ↓reduceIte, Nat.reduceLeDiff, Nat.reduceMul, Nat.reduceLT, Int.reduceEq, List.length_map, lt_T hlt, e, q1, q2, q3, rangeI_len, fr1 hI.fr]
  exact .mk _ (by rw [rangeI_succ]) (hI.next (id := n + 3) (n' := n + 5) hlt (by simp only []; omega) (by omega)) (by simp only []; omega)
theorem allIn_cons (l : List Bs) (ss : List Bs) {i : Nat} (h : i < ss.length) : allIn l (ss.take (i + 1)) = (allIn l (ss.take i) && decide (0 ≤ idxS l ss[i])) := all_take h
theorem idxs_cons (l : List Bs) (ss : List Bs) {i : Nat} (h : i < ss.length) : (idxs l (ss.take (i + 1))).map eI = (idxs l (ss.take i)).map eI ++ [eI (idxS l ss[i])] := by
  unfold idxs; rw [map_take h, List.map_append]; rfl
theorem idxs_len (l ss : List Bs) {i : Nat} (h : i ≤ ss.length) : (idxs l (ss.take i)).length = i := by simp [idxs]; omega
def eFind (l ss : List Bs) : AVal := .tup [eIs (idxs l ss), .bool (allIn l ss)]
def Tfind : Tab := tadd 99 (s2 dSs dS (fun a _ => few a) fun a s => eI (idxS a s)) tnil
theorem Tfind_ok : TabOK Tryz.prog Tfind := TabOK.tnil.add (q2 p99)
theorem Tfind_ix (a : List AVal) (H : AHeap) : Tfind 99 a H = s2 dSs dS (fun a _ => few a) (fun a s => eI (idxS a s)) a H := rfl
theorem p72 (l ss : List Bs) (hl : few l) (hss : few ss) : Pur Tryz.prog 72 [eSs l, eSs ss] (eFind l ss) := by
  refine .mk ⟨⟨trivial, strs_under 0 l⟩, ⟨trivial, strs_under 0 ss⟩, trivial⟩ ⟨⟨trivial, eI_under 0 _⟩, trivial, trivial⟩ (a72 (ev_awp Tfind_ok (ev_evK ?_)))
  simp only [eE, eN, reduceCtorEq, Nat.reduceEqDiff, ↓reduceIte, Nat.reduceAdd, List.length_map, c72]
  refine k_loop (fun v : Vg => ⟨[(0, true, eSs l), (4, true, .sl v.tk ((idxs l (ss.take v.i)).map eI)), (5, true, .bool (allIn l (ss.take v.i))), (9, true, eSs ss), (10, true, .int .i64 ss.length), (11, true, .int .i64 v.i)], v.H, v.n⟩) (Ig 1 ss.length) (fun v => ss.length - v.i) ⟨0, .nil, hnil, 0⟩ rfl ⟨Nat.zero_le _, Fresh.nil, .inl rfl, .inr rfl⟩ ?_
  rintro ⟨i, tk, H, n⟩ hI
  have hi : i ≤ ss.length := hI.hi
  by_cases hlt : i < ss.length
  case neg =>
    simp only [eE, eC, eN, reduceCtorEq, Nat.reduceEqDiff, ↓reduceIte, lt_F hlt, take_all hlt]
    refine Wk.tup2 (Wk.sl (hI.es.imp id fun e => ?_)) (Wk.refl _)
    simp only at e
    have : ss = [] := List.length_eq_zero_iff.1 (by omega)
    rw [this]; rfl
  have hg := List.getElem?_eq_getElem hlt
  have e := w64_succ (k := i) (by omega)
  have q1 : appOK H 1 tk = True := eq_true hI.tok.app
  have q2 : (i ≤ 35184372088831) = True := eq_true (by omega)
  have q3 : small (i + 1) 8 = True := eq_true (small_of (by omega) (by decide))
  simp only [eE, eC, eN, reduceCtorEq, Nat.reduceEqDiff, ↓reduceIte, Nat.reduceLeDiff, Nat.reduceMul, Nat.reduceLT, Int.reduceEq, Option.getD_some, Int.toNat_natCast, Int.natCast_nonneg, List.length_map, List.getElem?_map, lt_T hlt, hg, Tfind_ix, s2, dSs, dS, okL, decL, toSs_map, hl, isS, toS, e, q1, q2, q3, idxs_len l ss hi, fr1 hI.fr]
  refine .mk _ (by rw [idxs_cons l ss hlt, allIn_cons l ss hlt]) (hI.next (id := n + 3) (n' := n + 5) hlt (by simp only []; omega) (by omega)) (by simp only []; omega)
end Go.AM
end
section
set_option maxRecDepth 20000
set_option linter.all false
namespace Go.AM
open Go.Proofs Go.Lib
theorem dif_iff {l : List Int} {n : Nat} : difI l n = true ↔ ∀ j (hj : j < l.length), 0 ≤ l[j] ∧ l[j] < n ∧ idxG l l[j] = (j : Int) := by
  unfold difI
  rw [Bool.and_eq_true, List.all_eq_true, distinct_iff]
  constructor
  · rintro ⟨h1, h2⟩ j hj
    have := h1 _ (List.getElem_mem hj)
    simp only [Bool.and_eq_true, decide_eq_true_eq] at this
    exact ⟨this.1, this.2, h2 j hj⟩
  · intro h
    refine ⟨fun x hx => ?_, fun j hj => (h j hj).2.2⟩
    obtain ⟨j, hj, rfl⟩ := List.mem_iff_getElem.1 hx
    simp [(h j hj).1, (h j hj).2.1]
theorem dif_no {l : List Int} {n : Nat} {j : Nat} (hj : j < l.length) (h : ¬ (0 ≤ l[j] ∧ l[j] < n ∧ idxG l l[j] = (j : Int))) : difI l n = false := by
  cases q : difI l n with
  | false => rfl
  | true => exact absurd (dif_iff.1 q j hj) h
def TixI : Tab := tadd 100 (s2 dIs dI (fun a _ => few a) fun a s => eI (idxG a s)) tnil
theorem TixI_ok : TabOK Tryz.prog TixI := TabOK.tnil.add (q2 pw100)
theorem TixI_ix (a : List AVal) (H : AHeap) : TixI 100 a H = s2 dIs dI (fun a _ => few a) (fun a s => eI (idxG a s)) a H := rfl
def indN (l : List Int) (n : Nat) (least : Int) : Bool := difI l n && decide (least ≤ l.length)
theorem p38 (l : List Int) (n : Nat) (least : Int) (hl : few l) : Pur Tryz.prog 38 [eIs l, .int .i64 n, .int .i64 least] (.bool (indN l n least)) := by
  refine .mk ⟨⟨trivial, eI_under 0 l⟩, trivial, trivial, trivial⟩ trivial (a38 (ev_awp TixI_ok (ev_evK ?_)))
  simp only [eE, eN, reduceCtorEq, Nat.reduceEqDiff, ↓reduceIte, Nat.reduceAdd, List.length_map, c38]
  refine k_loop (fun i : Nat => ⟨[(0, true, eIs l), (1, true, .int .i64 n), (2, true, .int .i64 least), (9, true, eIs l), (10, true, .int .i64 l.length), (11, true, .int .i64 i)], hnil, 0⟩)
    (fun i => i ≤ l.length ∧ ∀ j (hj : j < l.length), j < i → 0 ≤ l[j] ∧ l[j] < n ∧ idxG l l[j] = (j : Int)) (fun i => l.length - i) 0 rfl ⟨Nat.zero_le _, fun j hj h => by omega⟩ ?_
  rintro i ⟨hi, hall⟩
  by_cases hlt : i < l.length
  case neg =>
    simp only [eE, eC, eN, reduceCtorEq, Nat.reduceEqDiff, ↓reduceIte, List.length_map, lt_F hlt]
    unfold indN
    rw [dif_iff.2 fun j hj => hall j hj (by omega)]; rfl
  have hg := List.getElem?_eq_getElem hlt
  have e := w64_succ (k := i) (by omega)
  by_cases h1 : l[i] < 0
  · simp only [eE, eC, eN, reduceCtorEq, Nat.reduceEqDiff, ↓reduceIte, Bool.not_true, Option.getD_some, Int.toNat_natCast, Int.natCast_nonneg, List.length_map, List.getElem?_map, lt_T hlt, hg, h1]
    unfold indN
    rw [dif_no hlt fun q => by omega]; rfl
  by_cases h2 : (n : Int) ≤ l[i]
  · simp only [eE, eC, eN, reduceCtorEq, Nat.reduceEqDiff, ↓reduceIte, Bool.not_true, Option.getD_some, Int.toNat_natCast, Int.natCast_nonneg, List.length_map, List.getElem?_map, lt_T hlt, hg, h1, h2]
    unfold indN
    rw [dif_no hlt fun q => by omega]; rfl
  by_cases h3 : idxG l l[i] = (i : Int)
  · simp only [eE, eC, eN, reduceCtorEq, Nat.reduceEqDiff, ↓reduceIte, Int.reduceEq, Bool.not_true, Option.getD_some, Int.toNat_natCast, Int.natCast_nonneg, List.length_map, List.getElem?_map, lt_T hlt, hg, h1, h2, TixI_ix, s2, dIs, dI, okL, decL, okInt, eI_map, hl, toI, h3, e]
    refine .mk (i + 1) rfl ⟨hlt, fun j hj h => ?_⟩ (by omega)
    by_cases q : j = i
    · subst q; exact ⟨by omega, by omega, h3⟩
    · exact hall j hj (by omega)
  · simp only [eE, eC, eN, reduceCtorEq, Nat.reduceEqDiff, ↓reduceIte, Bool.not_false, Option.getD_some, Int.toNat_natCast, Int.natCast_nonneg, List.length_map, List.getElem?_map, lt_T hlt, hg, h1, h2, TixI_ix, s2, dIs, dI, okL, decL, okInt, eI_map, hl, toI, h3]
    unfold indN
    rw [dif_no hlt fun q => h3 q.2.2]; rfl
def Tnm : Tab := tadd 36 (s1 dS any1 fun s => .bool (nameS s)) (tadd 99 (s2 dSs dS (fun a _ => few a) fun a s => eI (idxS a s)) tnil)
theorem Tnm_ok : TabOK Tryz.prog Tnm := (TabOK.tnil.add (q2 p99)).add (q1 fun s _ => p36 s)
theorem Tnm_ix (a : List AVal) (H : AHeap) : Tnm 99 a H = s2 dSs dS (fun a _ => few a) (fun a s => eI (idxS a s)) a H := rfl
theorem Tnm_nm (a : List AVal) (H : AHeap) : Tnm 36 a H = s1 dS any1 (fun s => .bool (nameS s)) a H := rfl
theorem nms_iff {l : List Bs} : (l.all nameS && distinct l) = true ↔ ∀ j (hj : j < l.length), nameS l[j] = true ∧ idxS l l[j] = (j : Int) := by
  rw [Bool.and_eq_true, List.all_eq_true, distinct_iff]
  constructor
  · rintro ⟨h1, h2⟩ j hj
    exact ⟨h1 _ (List.getElem_mem hj), h2 j hj⟩
  · intro h
    refine ⟨fun x hx => ?_, fun j hj => (h j hj).2⟩
    obtain ⟨j, hj, rfl⟩ := List.mem_iff_getElem.1 hx
    exact (h j hj).1
theorem nms_no {l : List Bs} {j : Nat} (hj : j < l.length) (h : ¬ (nameS l[j] = true ∧ idxS l l[j] = (j : Int))) : (l.all nameS && distinct l) = false := by
  cases q : (l.all nameS && distinct l) with
  | false => rfl
  | true => exact absurd (nms_iff.1 q j hj) h
theorem p37 (l : List Bs) (most : Nat) (hl : few l) : Pur Tryz.prog 37 [eSs l, .int .i64 most] (.bool (namesOK l most)) := by
  refine .mk ⟨⟨trivial, strs_under 0 l⟩, trivial, trivial⟩ trivial (a37 (ev_awp Tnm_ok (ev_evK ?_)))
  simp only [eE, eN, reduceCtorEq, Nat.reduceEqDiff, ↓reduceIte, Nat.reduceAdd, List.length_map, c37]
  refine k_loop (fun i : Nat => ⟨[(0, true, eSs l), (1, true, .int .i64 most), (7, true, eSs l), (8, true, .int .i64 l.length), (9, true, .int .i64 i)], hnil, 0⟩)
    (fun i => i ≤ l.length ∧ ∀ j (hj : j < l.length), j < i → nameS l[j] = true ∧ idxS l l[j] = (j : Int)) (fun i => l.length - i) 0 rfl ⟨Nat.zero_le _, fun j hj h => by omega⟩ ?_
  rintro i ⟨hi, hall⟩
  by_cases hlt : i < l.length
  case neg =>
    simp only [eE, eC, eN, reduceCtorEq, Nat.reduceEqDiff, ↓reduceIte, List.length_map, lt_F hlt]
    unfold namesOK
    rw [nms_iff.2 fun j hj => hall j hj (by omega)]
    by_cases h1 : 1 ≤ l.length <;> by_cases h2 : l.length ≤ most <;> simp [h1, h2] <;> omega
  have hg := List.getElem?_eq_getElem hlt
  have e := w64_succ (k := i) (by omega)
  by_cases h1 : nameS l[i] = true
  · by_cases h3 : idxS l l[i] = (i : Int)
    · simp only [eE, eC, eN, reduceCtorEq, Nat.reduceEqDiff, ↓reduceIte, Int.reduceEq, Bool.not_true, Option.getD_some, Int.toNat_natCast, Int.natCast_nonneg, List.length_map, List.getElem?_map, lt_T hlt, hg, Tnm_nm, Tnm_ix, s1, s2, dSs, dS, okL, decL, isS, toS, toSs_map, hl, h1, h3, e]
      refine .mk (i + 1) rfl ⟨hlt, fun j hj h => ?_⟩ (by omega)
      by_cases q : j = i
      · subst q; exact ⟨h1, h3⟩
      · exact hall j hj (by omega)
    · simp only [eE, eC, eN, reduceCtorEq, Nat.reduceEqDiff, ↓reduceIte, Bool.not_true, Bool.not_false, Option.getD_some, Int.toNat_natCast, Int.natCast_nonneg, List.length_map, List.getElem?_map, lt_T hlt, hg, Tnm_nm, Tnm_ix, s1, s2, dSs, dS, okL, decL, isS, toS, toSs_map, hl, h1, h3]
      unfold namesOK
      rw [nms_no hlt fun q => h3 q.2]; rfl
  · have h1' : nameS l[i] = false := by simpa using h1
    simp only [eE, eC, eN, reduceCtorEq, Nat.reduceEqDiff, ↓reduceIte, Bool.not_true, Bool.not_false, Option.getD_some, Int.toNat_natCast, Int.natCast_nonneg, List.length_map, List.getElem?_map, lt_T hlt, hg, Tnm_nm, Tnm_ix, s1, s2, dSs, dS, okL, decL, isS, toS, toSs_map, hl, h1']
    unfold namesOK
    rw [nms_no hlt fun q => h1 q.1]; rfl
end Go.AM
end
section
set_option maxRecDepth 20000
set_option linter.all false
namespace Go.AM
open Go.Proofs Go.Lib
abbrev encQ (q : Cnd) : AVal := .agg [.int .i64 q.k, eIs q.cs, eIs q.ls, .int .i64 q.n]
abbrev encM (p : Prm) : AVal := .agg [.int .i64 p.c, eIs p.ls]
abbrev encL (x : Lma) : AVal := .agg [.str x.nm, .int .i64 x.lv, eSs x.cs, eSs x.ls, .sl (.none 4) (x.qs.map encQ), .sl (.none 2) (x.ps.map encM), .int .i64 x.c, .int .i64 x.l]
theorem encQ_under (n : Nat) (q : Cnd) : (encQ q).under n := ⟨trivial, ⟨trivial, eI_under n _⟩, ⟨trivial, eI_under n _⟩, trivial, trivial⟩
theorem encM_under (n : Nat) (p : Prm) : (encM p).under n := ⟨trivial, ⟨trivial, eI_under n _⟩, trivial⟩
theorem encL_under (n : Nat) (x : Lma) : (encL x).under n := ⟨trivial, trivial, ⟨trivial, strs_under n _⟩, ⟨trivial, strs_under n _⟩, ⟨trivial, unders_map (encQ_under n) _⟩, ⟨trivial, unders_map (encM_under n) _⟩, trivial, trivial, trivial⟩
def decIs : AVal → List Int
  | .sl _ L => L.map toI
  | _ => []
def decSs : AVal → List Bs
  | .sl _ L => L.map toS
  | _ => []
def decQ : AVal → Cnd
  | .agg [.int _ k, c, l, .int _ n] => ⟨k, decIs c, decIs l, n⟩
  | _ => ⟨0, [], [], 0⟩
def decM : AVal → Prm
  | .agg [.int _ c, l] => ⟨c, decIs l⟩
  | _ => ⟨0, []⟩
def decLs {α : Type} (f : AVal → α) : AVal → List α
  | .sl _ L => L.map f
  | _ => []
def decX : AVal → Lma
  | .agg [.str nm, .int _ lv, cs, ls, qs, ps, .int _ c, .int _ l] => ⟨nm, lv, decSs cs, decSs ls, decLs decQ qs, decLs decM ps, c, l⟩
  | _ => ⟨[], 0, [], [], [], [], 0, 0⟩
theorem decQ_enc (q : Cnd) : decQ (encQ q) = q := by
  simp only [decQ, decIs, eI_map]
theorem decM_enc (p : Prm) : decM (encM p) = p := by
  simp only [decM, decIs, eI_map]
theorem map_dec {α : Type} {enc : α → AVal} {dec : AVal → α} (h : ∀ x, dec (enc x) = x) (l : List α) : (l.map enc).map dec = l := by
  rw [List.map_map]; exact (List.map_congr_left fun x _ => h x).trans (List.map_id _)
theorem decX_enc (x : Lma) : decX (encL x) = x := by
  simp only [decX, decSs, decLs, toSs_map, map_dec decQ_enc, map_dec decM_enc]
def dEx {α : Type} (enc : α → AVal) (dec : AVal → α) : Dc α := ⟨enc, dec, fun v => v = enc (dec v), fun v h => h ▸ Wk.refl _⟩
def dQ : Dc Cnd := dEx encQ decQ
def dX : Dc Lma := dEx encL decX
def dXs : Dc (List Lma) := ⟨fun l => .sl (.none 8) (l.map encL), decL decX, okL 8 encL decX, okL_wk⟩
theorem dQ_ok (q : Cnd) : dQ.ok (encQ q) = True := eq_true (by show encQ q = encQ (decQ (encQ q)); rw [decQ_enc])
theorem dQ_dec (q : Cnd) : dQ.dec (encQ q) = q := decQ_enc q
theorem dX_ok (x : Lma) : dX.ok (encL x) = True := eq_true (by show encL x = encL (decX (encL x)); rw [decX_enc])
theorem dX_dec (x : Lma) : dX.dec (encL x) = x := decX_enc x
def Tcd : Tab := tadd 38 (s3 dIs dI dI (fun a n _ => few a ∧ 0 ≤ n) fun a n k => .bool (indN a n.toNat k)) tnil
theorem Tcd_ok : TabOK Tryz.prog Tcd := TabOK.tnil.add (q3 fun a n k h => by
  obtain ⟨j, rfl⟩ : ∃ j : Nat, n = j := ⟨n.toNat, by omega⟩
  exact p38 a j k h.1)
theorem Tcd_ix (a : List AVal) (H : AHeap) : Tcd 38 a H = s3 dIs dI dI (fun a n _ => few a ∧ 0 ≤ n) (fun a n k => .bool (indN a n.toNat k)) a H := rfl
theorem cnd_no {q : Cnd} {nc nl : Nat} (h : (indN q.cs nc 1 && indN q.ls nl 0) = false) : condOK q nc nl = false := by
  unfold condOK indN at *
  cases h1 : difI q.cs nc <;> cases h2 : difI q.ls nl <;> simp [h1, h2] at h ⊢
  intro q1; omega
theorem cnd_yes {q : Cnd} {nc nl : Nat} (h1 : indN q.cs nc 1 = true) (h2 : indN q.ls nl 0 = true) : condOK q nc nl = (if q.k = 1 ∨ q.k = 4 then decide (2 ≤ q.cs.length) && decide (q.ls.length = 0) && decide (q.n = 0)
   else if q.k = 2 then decide (q.ls.length = 1) && decide (q.n = 0)
   else if q.k = 3 then decide (q.cs.length = 2) && decide (q.ls.length = 0) && decide (1 ≤ q.n) && decide (q.n ≤ 99)
   else if q.k = 5 then decide (q.cs.length = 2) && decide (q.ls.length = 0) && decide (q.n = 0)
   else if q.k = 6 then decide (1 ≤ q.ls.length) && decide (0 ≤ q.n) && decide (q.n ≤ q.cs.length)
   else false) := by
  unfold indN at h1 h2
  simp only [Bool.and_eq_true, decide_eq_true_eq] at h1 h2
  unfold condOK
  rw [h1.1, h2.1, decide_eq_true (by omega : 1 ≤ q.cs.length)]
  rfl
theorem p39 (q : Cnd) (nc nl : Nat) (h1 : few q.cs) (h2 : few q.ls) : Pur Tryz.prog 39 [encQ q, .int .i64 nc, .int .i64 nl] (.bool (condOK q nc nl)) := by
  refine .mk ⟨encQ_under 0 q, trivial, trivial, trivial⟩ trivial (a39 (ev_awp Tcd_ok (ev_evK ?_)))
  cases hb1 : indN q.cs nc 1 with
  | false =>
    simp only [eE, eC, eN, reduceCtorEq, Nat.reduceEqDiff, ↓reduceIte, Nat.reduceAdd, Nat.reduceLeDiff, Bool.not_true, Bool.not_false, Int.toNat_natCast, Int.natCast_nonneg, c39, Tcd_ix, s3, dIs, dI, okL, decL, okInt, eI_map, toI, h1, h2, hb1]
    rw [cnd_no (by rw [hb1]; rfl)]
  | true =>
    cases hb2 : indN q.ls nl 0 with
    | false =>
      simp only [eE, eC, eN, reduceCtorEq, Nat.reduceEqDiff, ↓reduceIte, Nat.reduceAdd, Nat.reduceLeDiff, Bool.not_true, Bool.not_false, Int.toNat_natCast, Int.natCast_nonneg, c39, Tcd_ix, s3, dIs, dI, okL, decL, okInt, eI_map, toI, h1, h2, hb1, hb2]
      rw [cnd_no (by rw [hb1, hb2]; rfl)]
    | true =>
      rw [cnd_yes hb1 hb2]
      obtain ⟨k, cs, ls, n⟩ := q
      by_cases k1 : k = 1
      · subst k1
        simp only [eE, eC, eN, reduceCtorEq, Nat.reduceEqDiff, ↓reduceIte, Nat.reduceAdd, Nat.reduceLeDiff, Int.reduceEq, Bool.not_true, Int.toNat_natCast, Int.natCast_nonneg, List.length_map, c39, Tcd_ix, s3, dIs, dI, okL, decL, okInt, eI_map, toI, h1, h2, hb1, hb2]
        exact (by rw [Bool.eq_iff_iff]; simp only [Bool.and_eq_true, decide_eq_true_eq]; omega)
      by_cases k4 : k = 4
      · subst k4
        simp only [eE, eC, eN, reduceCtorEq, Nat.reduceEqDiff, ↓reduceIte, Nat.reduceAdd, Nat.reduceLeDiff, Int.reduceEq, Bool.not_true, Int.toNat_natCast, Int.natCast_nonneg, List.length_map, c39, Tcd_ix, s3, dIs, dI, okL, decL, okInt, eI_map, toI, h1, h2, hb1, hb2]
        exact (by rw [Bool.eq_iff_iff]; simp only [Bool.and_eq_true, decide_eq_true_eq]; omega)
      by_cases k2 : k = 2
      · subst k2
        simp only [eE, eC, eN, reduceCtorEq, Nat.reduceEqDiff, ↓reduceIte, Nat.reduceAdd, Nat.reduceLeDiff, Int.reduceEq, Bool.not_true, Int.toNat_natCast, Int.natCast_nonneg, List.length_map, c39, Tcd_ix, s3, dIs, dI, okL, decL, okInt, eI_map, toI, h1, h2, hb1, hb2]
        exact (by rw [Bool.eq_iff_iff]; simp only [Bool.and_eq_true, decide_eq_true_eq]; omega)
      by_cases k3 : k = 3
      · subst k3
        simp only [eE, eC, eN, reduceCtorEq, Nat.reduceEqDiff, ↓reduceIte, Nat.reduceAdd, Nat.reduceLeDiff, Int.reduceEq, Bool.not_true, Int.toNat_natCast, Int.natCast_nonneg, List.length_map, c39, Tcd_ix, s3, dIs, dI, okL, decL, okInt, eI_map, toI, h1, h2, hb1, hb2]
        exact (by rw [Bool.eq_iff_iff]; simp only [Bool.and_eq_true, decide_eq_true_eq]; omega)
      by_cases k5 : k = 5
      · subst k5
        simp only [eE, eC, eN, reduceCtorEq, Nat.reduceEqDiff, ↓reduceIte, Nat.reduceAdd, Nat.reduceLeDiff, Int.reduceEq, Bool.not_true, Int.toNat_natCast, Int.natCast_nonneg, List.length_map, c39, Tcd_ix, s3, dIs, dI, okL, decL, okInt, eI_map, toI, h1, h2, hb1, hb2]
        exact (by rw [Bool.eq_iff_iff]; simp only [Bool.and_eq_true, decide_eq_true_eq]; omega)
      by_cases k6 : k = 6
      · subst k6
        simp only [eE, eC, eN, reduceCtorEq, Nat.reduceEqDiff, ↓reduceIte, Nat.reduceAdd, Nat.reduceLeDiff, Int.reduceEq, Bool.not_true, Int.toNat_natCast, Int.natCast_nonneg, List.length_map, c39, Tcd_ix, s3, dIs, dI, okL, decL, okInt, eI_map, toI, h1, h2, hb1, hb2]
        exact (by rw [Bool.eq_iff_iff]; simp only [Bool.and_eq_true, decide_eq_true_eq]; omega)
      simp only [eE, eC, eN, reduceCtorEq, Nat.reduceEqDiff, ↓reduceIte, Nat.reduceAdd, Nat.reduceLeDiff, Bool.not_true, Int.toNat_natCast, Int.natCast_nonneg, List.length_map, c39, Tcd_ix, s3, dIs, dI, okL, decL, okInt, eI_map, toI, h1, h2, hb1, hb2, k1, k2, k3, k4, k5, k6]
theorem p88 (l : List Bs) (s : Bs) (hl : few l) : Pur Tryz.prog 88 [eSs l, .str s] (eI (idxS l s)) := by
  refine .mk ⟨⟨trivial, strs_under 0 l⟩, trivial, trivial⟩ trivial (a88 (ev_awp TabOK.tnil (ev_evK ?_)))
  simp only [eE, eN, reduceCtorEq, Nat.reduceEqDiff, ↓reduceIte, Nat.reduceAdd, c88]
  refine k_loop (fun i : Nat => ⟨[(0, true, eSs l), (1, true, .str s), (5, true, .int .i64 i)], hnil, 0⟩)
    (fun i => i ≤ l.length ∧ ∀ j (hj : j < l.length), j < i → l[j] ≠ s) (fun i => l.length - i) 0 rfl ⟨Nat.zero_le _, fun j hj h => by omega⟩ ?_
  rintro i ⟨hi, hall⟩
  by_cases hlt : i < l.length
  case neg =>
    simp only [eE, eC, eN, reduceCtorEq, Nat.reduceEqDiff, ↓reduceIte, List.length_map, lt_F hlt]
    rw [← idxG_S, idxG_none fun j hj => hall j hj (by omega)]
  have hg := List.getElem?_eq_getElem hlt
  have e := w64_succ (k := i) (by omega)
  by_cases hs : l[i] = s
  · simp only [eE, eC, eN, reduceCtorEq, Nat.reduceEqDiff, ↓reduceIte, Option.getD_some, Int.toNat_natCast, Int.natCast_nonneg, List.length_map, List.getElem?_map, lt_T hlt, hg, scmp_eq, hs]
    rw [← idxG_S, idxG_some hlt hs hall]
  · simp only [eE, eC, eN, reduceCtorEq, Nat.reduceEqDiff, ↓reduceIte, Int.reduceEq, Option.getD_some, Int.toNat_natCast, Int.natCast_nonneg, List.length_map, List.getElem?_map, lt_T hlt, hg, scmp_eq, hs, e]
    refine .mk (i + 1) rfl ⟨hlt, fun j hj h => ?_⟩ (by omega)
    by_cases q : j = i
    · subst q; exact hs
    · exact hall j hj (by omega)
def Tzn : Tab := tadd 77 (s1 dS any1 fun s => .bool (nameS s)) (tadd 88 (s2 dSs dS (fun a _ => few a) fun a s => eI (idxS a s)) tnil)
theorem Tzn_ok : TabOK Tryz.prog Tzn := (TabOK.tnil.add (q2 p88)).add (q1 fun s _ => p77 s)
theorem Tzn_ix (a : List AVal) (H : AHeap) : Tzn 88 a H = s2 dSs dS (fun a _ => few a) (fun a s => eI (idxS a s)) a H := rfl
theorem Tzn_nm (a : List AVal) (H : AHeap) : Tzn 77 a H = s1 dS any1 (fun s => .bool (nameS s)) a H := rfl
theorem p89 (l : List Bs) (most : Nat) (hl : few l) : Pur Tryz.prog 89 [eSs l, .int .i64 most] (.bool (namesOK l most)) := by
  refine .mk ⟨⟨trivial, strs_under 0 l⟩, trivial, trivial⟩ trivial (a89 (ev_awp Tzn_ok (ev_evK ?_)))
  simp only [eE, eN, reduceCtorEq, Nat.reduceEqDiff, ↓reduceIte, Nat.reduceAdd, c89]
  refine k_loop (fun i : Nat => ⟨[(0, true, eSs l), (1, true, .int .i64 most), (5, true, .int .i64 i)], hnil, 0⟩)
    (fun i => i ≤ l.length ∧ ∀ j (hj : j < l.length), j < i → nameS l[j] = true ∧ idxS l l[j] = (j : Int)) (fun i => l.length - i) 0 rfl ⟨Nat.zero_le _, fun j hj h => by omega⟩ ?_
  rintro i ⟨hi, hall⟩
  by_cases hlt : i < l.length
  case neg =>
    simp only [eE, eC, eN, reduceCtorEq, Nat.reduceEqDiff, ↓reduceIte, List.length_map, lt_F hlt]
    unfold namesOK
    rw [nms_iff.2 fun j hj => hall j hj (by omega)]
    by_cases h1 : 1 ≤ l.length <;> by_cases h2 : l.length ≤ most <;> simp [h1, h2] <;> omega
  have hg := List.getElem?_eq_getElem hlt
  have e := w64_succ (k := i) (by omega)
  by_cases h1 : nameS l[i] = true
  · by_cases h3 : idxS l l[i] = (i : Int)
    · simp only [eE, eC, eN, reduceCtorEq, Nat.reduceEqDiff, ↓reduceIte, Int.reduceEq, Bool.not_true, Option.getD_some, Int.toNat_natCast, Int.natCast_nonneg, List.length_map, List.getElem?_map, lt_T hlt, hg, Tzn_nm, Tzn_ix, s1, s2, dSs, dS, okL, decL, isS, toS, toSs_map, hl, h1, h3, e]
      refine .mk (i + 1) rfl ⟨hlt, fun j hj h => ?_⟩ (by omega)
      by_cases q : j = i
      · subst q; exact ⟨h1, h3⟩
      · exact hall j hj (by omega)
    · simp only [eE, eC, eN, reduceCtorEq, Nat.reduceEqDiff, ↓reduceIte, Bool.not_true, Bool.not_false, Option.getD_some, Int.toNat_natCast, Int.natCast_nonneg, List.length_map, List.getElem?_map, lt_T hlt, hg, Tzn_nm, Tzn_ix, s1, s2, dSs, dS, okL, decL, isS, toS, toSs_map, hl, h1, h3]
      unfold namesOK
      rw [nms_no hlt fun q => h3 q.2]; rfl
  · have h1' : nameS l[i] = false := by simpa using h1
    simp only [eE, eC, eN, reduceCtorEq, Nat.reduceEqDiff, ↓reduceIte, Bool.not_true, Bool.not_false, Option.getD_some, Int.toNat_natCast, Int.natCast_nonneg, List.length_map, List.getElem?_map, lt_T hlt, hg, Tzn_nm, Tzn_ix, s1, s2, dSs, dS, okL, decL, isS, toS, toSs_map, hl, h1']
    unfold namesOK
    rw [nms_no hlt fun q => h1 q.1]; rfl
theorem dis_iff {l : List Int} : distinct l = true ↔ ∀ i j (hi : i < l.length) (hj : j < l.length), j < i → l[j] ≠ l[i] := by
  rw [distinct_iff]
  constructor
  · intro h i j hi hj hji e
    have q1 := h i hi
    have q2 := h j hj
    rw [e] at q2
    rw [q1] at q2; omega
  · intro h j hj
    exact idxG_some hj rfl fun k hk hkj => h j k hj hk hkj
theorem p91 (l : List Int) (n : Nat) (hl : few l) : Pur Tryz.prog 91 [eIs l, .int .i64 n] (.bool (difI l n)) := by
  refine .mk ⟨⟨trivial, eI_under 0 l⟩, trivial, trivial⟩ trivial (a91 (ev_awp TabOK.tnil (ev_evK ?_)))
  have no : ∀ i (hi : i < l.length), ¬ (0 ≤ l[i] ∧ l[i] < n) → difI l n = false := fun i hi q => dif_no hi fun k => q ⟨k.1, k.2.1⟩
  simp only [eE, eN, reduceCtorEq, Nat.reduceEqDiff, ↓reduceIte, Nat.reduceAdd, c91]
  refine k_loop (fun i : Nat => ⟨[(0, true, eIs l), (1, true, .int .i64 n), (5, true, .int .i64 i)], hnil, 0⟩)
    (fun i => i ≤ l.length ∧ ∀ k (hk : k < l.length), k < i → 0 ≤ l[k] ∧ l[k] < n ∧ ∀ j (hj : j < l.length), j < k → l[j] ≠ l[k]) (fun i => l.length - i) 0 rfl ⟨Nat.zero_le _, fun j hj h => by omega⟩ ?_
  rintro i ⟨hi, hall⟩
  by_cases hlt : i < l.length
  case neg =>
    simp only [eE, eC, eN, reduceCtorEq, Nat.reduceEqDiff, ↓reduceIte, List.length_map, lt_F hlt]
    symm
    unfold difI
    rw [Bool.and_eq_true, List.all_eq_true, dis_iff]
    refine ⟨fun x hx => ?_, fun i j hi hj hji => (hall i hi (by omega)).2.2 j hj hji⟩
    obtain ⟨k, hk, rfl⟩ := List.mem_iff_getElem.1 hx
    have := hall k hk (by omega)
    simp [this.1, this.2.1]
  have hg := List.getElem?_eq_getElem hlt
  have e := w64_succ (k := i) (by omega)
  by_cases h1 : l[i] < 0
  · simp only [eE, eC, eN, reduceCtorEq, Nat.reduceEqDiff, ↓reduceIte, Bool.not_true, Option.getD_some, Int.toNat_natCast, Int.natCast_nonneg, List.length_map, List.getElem?_map, lt_T hlt, hg, h1]
    rw [no i hlt fun q => by omega]
  by_cases h2 : (n : Int) ≤ l[i]
  · simp only [eE, eC, eN, reduceCtorEq, Nat.reduceEqDiff, ↓reduceIte, Option.getD_some, Int.toNat_natCast, Int.natCast_nonneg, List.length_map, List.getElem?_map, lt_T hlt, hg, h1, h2]
    rw [no i hlt fun q => by omega]
  simp only [eE, eC, eN, reduceCtorEq, Nat.reduceEqDiff, ↓reduceIte, Option.getD_some, Int.toNat_natCast, Int.natCast_nonneg, List.length_map, List.getElem?_map, lt_T hlt, hg, h1, h2]
  refine k_loop (fun j : Nat => ⟨[(0, true, eIs l), (1, true, .int .i64 n), (5, true, .int .i64 i), (6, true, .int .i64 j)], hnil, 0⟩)
    (fun j => j ≤ i ∧ ∀ k (hk : k < l.length), k < j → l[k] ≠ l[i]) (fun j => i - j) 0 rfl ⟨Nat.zero_le _, fun j hj h => by omega⟩ ?_
  rintro j ⟨hj, hk⟩
  by_cases hji : j < i
  case neg =>
    simp only [eE, eC, eN, reduceCtorEq, Nat.reduceEqDiff, ↓reduceIte, Int.reduceEq, lt_F hji, e]
    refine .mk (i + 1) rfl ⟨hlt, fun k hkl hki => ?_⟩ (by omega)
    by_cases q : k = i
    · subst q; exact ⟨by omega, by omega, fun m hm hmk => hk m hm (by omega)⟩
    · exact hall k hkl (by omega)
  have hltj : j < l.length := by omega
  have hgj := List.getElem?_eq_getElem hltj
  have e' := w64_succ (k := j) (by omega)
  by_cases hs : l[j] = l[i]
  · simp only [eE, eC, eN, reduceCtorEq, Nat.reduceEqDiff, ↓reduceIte, Option.getD_some, Int.toNat_natCast, Int.natCast_nonneg, List.length_map, List.getElem?_map, lt_T hji, lt_T hlt, lt_T hltj, hg, hgj, hs]
    cases q : difI l n with
    | false => rfl
    | true =>
      unfold difI at q
      rw [Bool.and_eq_true] at q
      exact absurd hs (dis_iff.1 q.2 i j hlt hltj hji)
  · simp only [eE, eC, eN, reduceCtorEq, Nat.reduceEqDiff, ↓reduceIte, Int.reduceEq, Option.getD_some, Int.toNat_natCast, Int.natCast_nonneg, List.length_map, List.getElem?_map, lt_T hji, lt_T hlt, lt_T hltj, hg, hgj, hs, e']
    refine .mk (j + 1) rfl ⟨hji, fun k hkl hkj => ?_⟩ (by omega)
    by_cases q : k = j
    · subst q; exact hs
    · exact hk k hkl (by omega)
def Tzc : Tab := tadd 91 (s2 dIs dI (fun a n => few a ∧ 0 ≤ n) fun a n => .bool (difI a n.toNat)) tnil
theorem Tzc_ok : TabOK Tryz.prog Tzc := TabOK.tnil.add (q2 fun a n h => by
  obtain ⟨j, rfl⟩ : ∃ j : Nat, n = j := ⟨n.toNat, by omega⟩
  exact p91 a j h.1)
theorem Tzc_ix (a : List AVal) (H : AHeap) : Tzc 91 a H = s2 dIs dI (fun a n => few a ∧ 0 ≤ n) (fun a n => .bool (difI a n.toNat)) a H := rfl
theorem p90 (q : Cnd) (nc nl : Nat) (h1 : few q.cs) (h2 : few q.ls) : Pur Tryz.prog 90 [encQ q, .int .i64 nc, .int .i64 nl] (.bool (condOK q nc nl)) := by
  refine .mk ⟨encQ_under 0 q, trivial, trivial, trivial⟩ trivial (a90 (ev_awp Tzc_ok (ev_evK ?_)))
  obtain ⟨k, cs, ls, n⟩ := q
  cases hb1 : difI cs nc with
  | false =>
    simp only [eE, eC, eN, reduceCtorEq, Nat.reduceEqDiff, ↓reduceIte, Nat.reduceAdd, Nat.reduceLeDiff, Bool.not_true, Bool.not_false, Int.toNat_natCast, Int.natCast_nonneg, c90, Tzc_ix, s2, dIs, dI, okL, decL, okInt, eI_map, toI, h1, h2, hb1]
    unfold condOK; rw [hb1]; rfl
  | true =>
    cases hb2 : difI ls nl with
    | false =>
      simp only [eE, eC, eN, reduceCtorEq, Nat.reduceEqDiff, ↓reduceIte, Nat.reduceAdd, Nat.reduceLeDiff, Bool.not_true, Bool.not_false, Int.toNat_natCast, Int.natCast_nonneg, c90, Tzc_ix, s2, dIs, dI, okL, decL, okInt, eI_map, toI, h1, h2, hb1, hb2]
      unfold condOK; simp only [hb2, Bool.and_false, Bool.false_and]
    | true =>
      unfold condOK
      simp only [hb1, hb2, Bool.true_and, Bool.and_true]
      by_cases k1 : k = 1
      · subst k1
        simp only [eE, eC, eN, reduceCtorEq, Nat.reduceEqDiff, ↓reduceIte, Nat.reduceAdd, Nat.reduceLeDiff, Int.reduceEq, Bool.not_true, Int.toNat_natCast, Int.natCast_nonneg, List.length_map, c90, Tzc_ix, s2, dIs, dI, okL, decL, okInt, eI_map, toI, h1, h2, hb1, hb2]
        exact (by rw [Bool.eq_iff_iff]; simp only [Bool.and_eq_true, decide_eq_true_eq]; omega)
      by_cases k4 : k = 4
      · subst k4
        simp only [eE, eC, eN, reduceCtorEq, Nat.reduceEqDiff, ↓reduceIte, Nat.reduceAdd, Nat.reduceLeDiff, Int.reduceEq, Bool.not_true, Int.toNat_natCast, Int.natCast_nonneg, List.length_map, c90, Tzc_ix, s2, dIs, dI, okL, decL, okInt, eI_map, toI, h1, h2, hb1, hb2]
        exact (by rw [Bool.eq_iff_iff]; simp only [Bool.and_eq_true, decide_eq_true_eq]; omega)
      by_cases k2 : k = 2
      · subst k2
        simp only [eE, eC, eN, reduceCtorEq, Nat.reduceEqDiff, ↓reduceIte, Nat.reduceAdd, Nat.reduceLeDiff, Int.reduceEq, Bool.not_true, Int.toNat_natCast, Int.natCast_nonneg, List.length_map, c90, Tzc_ix, s2, dIs, dI, okL, decL, okInt, eI_map, toI, h1, h2, hb1, hb2]
        exact (by rw [Bool.eq_iff_iff]; simp only [Bool.and_eq_true, decide_eq_true_eq]; omega)
      by_cases k3 : k = 3
      · subst k3
        simp only [eE, eC, eN, reduceCtorEq, Nat.reduceEqDiff, ↓reduceIte, Nat.reduceAdd, Nat.reduceLeDiff, Int.reduceEq, Bool.not_true, Int.toNat_natCast, Int.natCast_nonneg, List.length_map, c90, Tzc_ix, s2, dIs, dI, okL, decL, okInt, eI_map, toI, h1, h2, hb1, hb2]
        exact (by rw [Bool.eq_iff_iff]; simp only [Bool.and_eq_true, decide_eq_true_eq]; omega)
      by_cases k5 : k = 5
      · subst k5
        simp only [eE, eC, eN, reduceCtorEq, Nat.reduceEqDiff, ↓reduceIte, Nat.reduceAdd, Nat.reduceLeDiff, Int.reduceEq, Bool.not_true, Int.toNat_natCast, Int.natCast_nonneg, List.length_map, c90, Tzc_ix, s2, dIs, dI, okL, decL, okInt, eI_map, toI, h1, h2, hb1, hb2]
        exact (by rw [Bool.eq_iff_iff]; simp only [Bool.and_eq_true, decide_eq_true_eq]; omega)
      by_cases k6 : k = 6
      · subst k6
        simp only [eE, eC, eN, reduceCtorEq, Nat.reduceEqDiff, ↓reduceIte, Nat.reduceAdd, Nat.reduceLeDiff, Int.reduceEq, Bool.not_true, Int.toNat_natCast, Int.natCast_nonneg, List.length_map, c90, Tzc_ix, s2, dIs, dI, okL, decL, okInt, eI_map, toI, h1, h2, hb1, hb2]
        exact (by rw [Bool.eq_iff_iff]; simp only [Bool.and_eq_true, decide_eq_true_eq]; omega)
      simp only [eE, eC, eN, reduceCtorEq, Nat.reduceEqDiff, ↓reduceIte, Nat.reduceAdd, Nat.reduceLeDiff, Bool.not_true, Int.toNat_natCast, Int.natCast_nonneg, List.length_map, c90, Tzc_ix, s2, dIs, dI, okL, decL, okInt, eI_map, toI, h1, h2, hb1, hb2, k1, k2, k3, k4, k5, k6]
end Go.AM
end
section
set_option maxRecDepth 20000
set_option linter.all false
namespace Go.AM
open Go.Proofs Go.Lib
structure FewL (x : Lma) : Prop where
  cs : few x.cs
  ls : few x.ls
  qs : few x.qs
  ps : few x.ps
  q : ∀ q ∈ x.qs, few q.cs ∧ few q.ls
  p : ∀ p ∈ x.ps, few p.ls
def Tck : Tab := tadd 36 (s1 dS any1 fun s => .bool (nameS s)) (tadd 37 (s2 dSs dI (fun a n => few a ∧ 0 ≤ n) fun a n => .bool (namesOK a n.toNat)) (tadd 38 (s3 dIs dI dI (fun a n _ => few a ∧ 0 ≤ n) fun a n k => .bool (indN a n.toNat k))
  (tadd 39 (s3 dQ dI dI (fun q n m => (few q.cs ∧ few q.ls) ∧ 0 ≤ n ∧ 0 ≤ m) fun q n m => .bool (condOK q n.toNat m.toNat)) tnil)))
theorem Tck_ok : TabOK Tryz.prog Tck := (((TabOK.tnil.add (q3 fun q n m h => by
  obtain ⟨j, rfl⟩ : ∃ j : Nat, n = j := ⟨n.toNat, by omega⟩
  obtain ⟨k, rfl⟩ : ∃ j : Nat, m = j := ⟨m.toNat, by omega⟩
  exact p39 q j k h.1.1 h.1.2)).add (q3 fun a n k h => by
  obtain ⟨j, rfl⟩ : ∃ j : Nat, n = j := ⟨n.toNat, by omega⟩
  exact p38 a j k h.1)).add (q2 fun a n h => by
  obtain ⟨j, rfl⟩ : ∃ j : Nat, n = j := ⟨n.toNat, by omega⟩
  exact p37 a j h.1)).add (q1 fun s _ => p36 s)
theorem Tck_nm (a : List AVal) (H : AHeap) : Tck 36 a H = s1 dS any1 (fun s => .bool (nameS s)) a H := rfl
theorem Tck_ns (a : List AVal) (H : AHeap) : Tck 37 a H = s2 dSs dI (fun a n => few a ∧ 0 ≤ n) (fun a n => .bool (namesOK a n.toNat)) a H := rfl
theorem Tck_ix (a : List AVal) (H : AHeap) : Tck 38 a H = s3 dIs dI dI (fun a n _ => few a ∧ 0 ≤ n) (fun a n k => .bool (indN a n.toNat k)) a H := rfl
theorem Tck_cd (a : List AVal) (H : AHeap) : Tck 39 a H = s3 dQ dI dI (fun q n m => (few q.cs ∧ few q.ls) ∧ 0 ≤ n ∧ 0 ≤ m) (fun q n m => .bool (condOK q n.toNat m.toNat)) a H := rfl
theorem few1 (c : Int) : few [c] = True := eq_true (by show 1 < _; decide)
def chk (x : Lma) : Int := if lemOK x = true then 0 else 300
def hd0 (x : Lma) : Bool := nameS x.nm && decide (1 ≤ x.lv) && decide (x.lv ≤ 8) && namesOK x.cs 4 && namesOK x.ls 3 && decide ((x.qs.length : Int) ≤ 6)
def hd1 (x : Lma) : Bool := hd0 x && indN [x.c] x.cs.length 1 && indN [x.l] x.ls.length 1
def cdA (x : Lma) (i : Nat) : Bool := hd1 x && (x.qs.take i).all fun q => condOK q x.cs.length x.ls.length
def prA (x : Lma) (i : Nat) : Bool := cdA x x.qs.length && (x.ps.take i).all fun p => indN p.ls x.ls.length 1
theorem cdA_next {x : Lma} {i : Nat} (h : i < x.qs.length) : cdA x (i + 1) = (cdA x i && condOK x.qs[i] x.cs.length x.ls.length) := by
  unfold cdA; rw [all_take h, Bool.and_assoc]
theorem prA_next {x : Lma} {i : Nat} (h : i < x.ps.length) : prA x (i + 1) = (prA x i && indN x.ps[i].ls x.ls.length 1) := by
  unfold prA; rw [all_take h, Bool.and_assoc]
theorem ind1 (c : Int) (n : Nat) : indN [c] n 1 = difI [c] n := by unfold indN; simp
theorem lem_fin (x : Lma) : (prA x x.ps.length && indN (x.ps.map (·.c)) x.cs.length 0) = lemOK x := by
  unfold prA cdA hd1 hd0 lemOK
  rw [ind1, ind1, List.take_length, List.take_length]
  have e1 : indN (x.ps.map (·.c)) x.cs.length 0 = difI (x.ps.map (·.c)) x.cs.length := by unfold indN; simp
  have e2 : (x.ps.all fun p => indN p.ls x.ls.length 1) = x.ps.all fun p => difI p.ls x.ls.length && decide (1 ≤ p.ls.length) := by
    congr 1; funext p; unfold indN; congr 1; simp; omega
  have e3 : decide ((x.qs.length : Int) ≤ 6) = decide (x.qs.length ≤ 6) := by rw [decide_eq_decide]; omega
  rw [e1, e2, e3]
abbrev cellsL (x : Lma) : List AVal := [.str x.nm, .int .i64 x.lv, eSs x.cs, eSs x.ls, .sl (.none 4) (x.qs.map encQ), .sl (.none 2) (x.ps.map encM), .int .i64 x.c, .int .i64 x.l]
structure Vh where
  i : Nat
  H : AHeap
  n : Nat
structure Ih (len : Nat) (cs : List AVal) (v : Vh) : Prop where
  hi : v.i ≤ len
  fr : Fresh v.H v.n
  b : hget v.H 0 = some (.box cs)
  hn : 1 ≤ v.n
structure Ip (len : Nat) (cs : List AVal) (v : Vg) : Prop where
  hi : v.i ≤ len
  fr : Fresh v.H v.n
  b : hget v.H 0 = some (.box cs)
  hn : 1 ≤ v.n
  tok : tkG 1 1 v.H v.tk
  es : v.tk.esz = 1 ∨ v.i = 0
abbrev hp10 (H : AHeap) (n : Nat) (p : Prm) : AHeap := hset (hset H (n + 2) (.box [.int .i64 0, .sl .nil []])) (n + 2) (.box [.int .i64 p.c, eIs p.ls])
theorem p18 (x : Lma) (hx : FewL x) : Pur Tryz.prog 18 [encL x] (eI (chk x)) := by
  refine .mk ⟨encL_under 0 x, trivial⟩ trivial (a18 (ev_awp Tck_ok (ev_evK ?_)))
  simp only [eE, eC, eN, reduceCtorEq, Nat.reduceEqDiff, ↓reduceIte, Nat.reduceAdd, Nat.reduceLeDiff, Nat.reduceMul, Nat.reduceLT, Int.reduceLE, Int.reduceToNat, Int.toNat_natCast, Int.natCast_nonneg, List.length_map, c18, Tck_nm, Tck_ns, Tck_ix, s1, s2, s3, dS, dSs, dIs, dI, okL, decL, isS, toS, okInt, toI, toSs_map, hx.cs, hx.ls, few1]
  refine k_loop (fun v : Vh => ⟨[(1, true, .ptr 0 0), (3, true, .sl .nil []), (4, true, .bool (cdA x v.i)), (58, true, .sl (.none 4) (x.qs.map encQ)), (59, true, .int .i64 x.qs.length), (60, true, .int .i64 v.i)], v.H, v.n⟩) (Ih x.qs.length (cellsL x)) (fun v => x.qs.length - v.i)
    ⟨0, hset hnil 0 (.box (cellsL x)), 2⟩ (by simp only [cdA, hd1, hd0, List.take_zero, List.all_nil, Bool.and_true]; rfl) ⟨Nat.zero_le _, Fresh.nil.hset (Nat.zero_le 2) (Nat.zero_lt_succ 1), rfl, Nat.succ_le_succ (Nat.zero_le 1)⟩ ?_
  rintro ⟨i, H, n⟩ ⟨hi, hfr, hb, hn⟩
  simp only at hi hfr hb hn
  have z1 : (0 = n + 2) = False := eq_false (by omega)
  have hqn := hx.qs
  have hpn := hx.ps
  by_cases hlt : i < x.qs.length
  · have hg := List.getElem?_eq_getElem hlt
    have e := w64_succ (k := i) (by omega)
    have hq := hx.q _ (List.getElem_mem hlt)
    generalize hqq : x.qs[i] = q at hg hq
    simp only [eE, eC, eN, reduceCtorEq, Nat.reduceEqDiff, ↓reduceIte, Nat.reduceAdd, Nat.reduceLeDiff, Int.reduceEq, Option.getD_some, Int.toNat_natCast, Int.natCast_nonneg, List.length_map, List.getElem?_map, lt_T hlt, hg, fr1 hfr, hb, Tck_cd, s3, dQ_ok, dQ_dec, dI, okInt, toI, hq.1, hq.2, e]
    refine .mk ⟨i + 1, hset (hset H (n + 2) (.box [.int .i64 0, .sl .nil [], .sl .nil [], .int .i64 0])) (n + 2) (.box [.int .i64 q.k, eIs q.cs, eIs q.ls, .int .i64 q.n]), n + 4⟩ ?_ ⟨hlt, ?_, ?_, by simp only []; omega⟩ (by simp only []; omega)
    · rw [cdA_next hlt, hqq]
    · exact (hfr.hset (m := n + 4) (by omega) (by omega)).hset (Nat.le_refl (n + 4)) (show n + 2 < n + 4 by omega)
    · simp only []
      rw [hget_hset_ne _ _ _ _ (by omega), hget_hset_ne _ _ _ _ (by omega)]; exact hb
  obtain rfl : i = x.qs.length := by omega
  simp only [eE, eC, eN, Nat.reduceEqDiff, ↓reduceIte, Nat.reduceAdd, Nat.reduceLeDiff, List.length_map, lt_F hlt, hb]
  refine k_loop (fun v : Vg => ⟨[(1, true, .ptr 0 0), (3, true, .sl v.tk ((x.ps.take v.i).map fun p => eI p.c)), (4, true, .bool (prA x v.i)), (77, true, .sl (.none 2) (x.ps.map encM)), (78, true, .int .i64 x.ps.length), (79, true, .int .i64 v.i)], v.H, v.n⟩) (Ip x.ps.length (cellsL x)) (fun v => x.ps.length - v.i)
    ⟨0, .nil, H, n⟩ (by simp only [prA, List.take_zero, List.all_nil, Bool.and_true, List.map_nil]; rfl) ⟨Nat.zero_le _, hfr, hb, hn, .inl rfl, .inr rfl⟩ ?_
  clear hlt hb hfr hn hi z1
  rintro ⟨i, tk, H, n⟩ ⟨hi, hfr, hb, hn, htk, hes⟩
  simp only at hi hfr hb hn htk hes
  by_cases hlt : i < x.ps.length
  · have hg := List.getElem?_eq_getElem hlt
    have e := w64_succ (k := i) (by omega)
    have hp := hx.p _ (List.getElem_mem hlt)
    generalize hqq : x.ps[i] = p at hg hp
    have z2 : (0 = n + 2) = False := eq_false (by omega)
    have z3 : (0 = n + 4 + 4) = False := eq_false (by omega)
    have hf2 : Fresh (hp10 H n p) (n + 4) := (hfr.hset (m := n + 4) (by omega) (by omega)).hset (Nat.le_refl (n + 4)) (by omega)
    have ht2 : tkG 1 1 (hp10 H n p) tk := (htk.set (.inr (.inr (hfr _ (by omega))))).set (.inr (.inl ⟨_, hget_hset_eq ..⟩))
    have hb2 : hget (hp10 H n p) 0 = some (.box (cellsL x)) := by
      rw [hget_hset_ne _ _ _ _ (by omega), hget_hset_ne _ _ _ _ (by omega)]; exact hb
    have hb3 : hget (hp10 H n p) (n + 2) = some (.box [.int .i64 p.c, eIs p.ls]) := hget_hset_eq ..
    have k0 : hget (killTok (hp10 H n p) tk) 0 = some (.box (cellsL x)) := by rw [kill_get ht2 (.inl (by omega))]; exact hb2
    have k2 : hget (killTok (hp10 H n p) tk) (n + 2) = some (.box [.int .i64 p.c, eIs p.ls]) := by rw [kill_get ht2 (.inr ⟨_, hb3⟩)]; exact hb3
    have q1 : appOK (hp10 H n p) 1 tk = True := eq_true ht2.app
    have q2 : (i ≤ 35184372088831) = True := eq_true (by omega)
    have q3 : small (i + 1) 8 = True := eq_true (small_of (by omega) (by decide))
    have ln : ((x.ps.take i).map fun p => eI p.c).length = i := by simp; omega
    have z4 : (n + 4 + 4 = 0) = False := eq_false (by omega)
    have z5 : (n + 8 = n + 2) = False := eq_false (by omega)
    have z6 : (n + 8 = 0) = False := eq_false (by omega)
    have z7 : (n + 2 = 0) = False := eq_false (by omega)
    have h8 := hfr (n + 8) (by omega)
    simp only [eE, eC, eN, reduceCtorEq, Nat.reduceEqDiff, ↓reduceIte, Nat.reduceAdd, Nat.reduceLeDiff, Nat.reduceMul, Nat.reduceLT, Int.reduceEq, Option.getD_some, Int.toNat_natCast, Int.natCast_nonneg, List.length_map, List.getElem?_map, lt_T hlt, hg, fr1 hfr, z4, z5, q1, q2, q3, ln, k0, k2, Tck_ix, s3, dIs, dI, okL, decL, okInt, eI_map, toI, hp, e, natE3]
    refine .mk ⟨i + 1, .own (n + 8) 1, hset (killTok (hp10 H n p) tk) (n + 8) .tok, n + 10⟩ (by rw [prA_next hlt, map_take hlt, hqq]) ⟨hlt, (kill_fresh ht2 hf2).hset (m := n + 10) (by omega) (by omega), ?_, by simp only []; omega, .inr (.inr ⟨n + 8, rfl, by omega, hget_hset_eq ..⟩), .inl rfl⟩ (by simp only []; omega)
    simp only []
    rw [hget_hset_ne _ _ _ _ (by omega)]; exact k0
  obtain rfl : i = x.ps.length := by omega
  have hc : x.ps.map (fun p => eI p.c) = (x.ps.map (·.c)).map eI := by rw [List.map_map]; rfl
  have hes' : (tk.esz = 1 ∨ (x.ps.map (·.c)).map eI = []) = True := eq_true (hes.imp id fun e => by rw [List.length_eq_zero_iff.1 e]; rfl)
  have hpl : few (x.ps.map (·.c)) = True := eq_true (by show (x.ps.map _).length < _; rw [List.length_map]; exact hpn)
  have hfin := lem_fin x
  cases h1 : prA x x.ps.length with
  | false =>
    have hl : lemOK x = false := by rw [← hfin, h1]; rfl
    simp only [eE, eC, eN, reduceCtorEq, Nat.reduceEqDiff, ↓reduceIte, Nat.reduceAdd, Bool.not_true, Bool.not_false, lt_F hlt]
    unfold chk; rw [if_neg (by rw [hl]; decide)]
  | true =>
    rw [h1, Bool.true_and] at hfin
    cases hl : lemOK x with
    | true =>
      simp only [eE, eC, eN, Nat.reduceEqDiff, ↓reduceIte, Nat.reduceAdd, Nat.reduceLeDiff, Bool.not_true, Int.toNat_natCast, Int.natCast_nonneg, List.length_map, lt_F hlt, hb, List.take_length, hc, Tck_ix, s3, dIs, dI, okL, decL, okInt, eI_map, toI, hes', hpl, hfin.trans hl]
      unfold chk; rw [if_pos hl]
    | false =>
      simp only [eE, eC, eN, Nat.reduceEqDiff, ↓reduceIte, Nat.reduceAdd, Nat.reduceLeDiff, Bool.not_true, Bool.not_false, Int.toNat_natCast, Int.natCast_nonneg, List.length_map, lt_F hlt, hb, List.take_length, hc, Tck_ix, s3, dIs, dI, okL, decL, okInt, eI_map, toI, hes', hpl, hfin.trans hl]
      unfold chk; rw [if_neg (by rw [hl]; decide)]
end Go.AM
end
section
set_option maxRecDepth 20000
set_option linter.all false
namespace Go.AM
open Go.Proofs Go.Lib
def Tzv : Tab := tadd 77 (s1 dS any1 fun s => .bool (nameS s)) (tadd 89 (s2 dSs dI (fun a n => few a ∧ 0 ≤ n) fun a n => .bool (namesOK a n.toNat)) (tadd 91 (s2 dIs dI (fun a n => few a ∧ 0 ≤ n) fun a n => .bool (difI a n.toNat))
  (tadd 90 (s3 dQ dI dI (fun q n m => (few q.cs ∧ few q.ls) ∧ 0 ≤ n ∧ 0 ≤ m) fun q n m => .bool (condOK q n.toNat m.toNat)) tnil)))
theorem Tzv_ok : TabOK Tryz.prog Tzv := (((TabOK.tnil.add (q3 fun q n m h => by
  obtain ⟨j, rfl⟩ : ∃ j : Nat, n = j := ⟨n.toNat, by omega⟩
  obtain ⟨k, rfl⟩ : ∃ j : Nat, m = j := ⟨m.toNat, by omega⟩
  exact p90 q j k h.1.1 h.1.2)).add (q2 fun a n h => by
  obtain ⟨j, rfl⟩ : ∃ j : Nat, n = j := ⟨n.toNat, by omega⟩
  exact p91 a j h.1)).add (q2 fun a n h => by
  obtain ⟨j, rfl⟩ : ∃ j : Nat, n = j := ⟨n.toNat, by omega⟩
  exact p89 a j h.1)).add (q1 fun s _ => p77 s)
theorem Tzv_nm (a : List AVal) (H : AHeap) : Tzv 77 a H = s1 dS any1 (fun s => .bool (nameS s)) a H := rfl
theorem Tzv_ns (a : List AVal) (H : AHeap) : Tzv 89 a H = s2 dSs dI (fun a n => few a ∧ 0 ≤ n) (fun a n => .bool (namesOK a n.toNat)) a H := rfl
theorem Tzv_ix (a : List AVal) (H : AHeap) : Tzv 91 a H = s2 dIs dI (fun a n => few a ∧ 0 ≤ n) (fun a n => .bool (difI a n.toNat)) a H := rfl
theorem Tzv_cd (a : List AVal) (H : AHeap) : Tzv 90 a H = s3 dQ dI dI (fun q n m => (few q.cs ∧ few q.ls) ∧ 0 ≤ n ∧ 0 ≤ m) (fun q n m => .bool (condOK q n.toNat m.toNat)) a H := rfl
theorem dif1 {c : Int} {n : Nat} : difI [c] n = (decide (0 ≤ c) && decide (c < n)) := by simp [difI, distinct]
def hdV (x : Lma) : Bool := nameS x.nm && decide (1 ≤ x.lv) && decide (x.lv ≤ 8) && namesOK x.cs 4 && namesOK x.ls 3 && decide (x.qs.length ≤ 6)
def clV (x : Lma) : Bool := decide (0 ≤ x.c) && decide (x.c < x.cs.length) && (decide (0 ≤ x.l) && decide (x.l < x.ls.length))
def pOK (x : Lma) (p : Prm) : Bool := difI p.ls x.ls.length && decide (1 ≤ p.ls.length)
theorem lem_V (x : Lma) : lemOK x = (hdV x && clV x && (x.qs.all fun q => condOK q x.cs.length x.ls.length) && x.ps.all (pOK x) && difI (x.ps.map (·.c)) x.cs.length) := by
  unfold lemOK hdV clV
  rw [dif1, dif1]
  simp only [Bool.and_assoc]
  rfl
theorem p33 (x : Lma) (hx : FewL x) : Pur Tryz.prog 33 [encL x] (.bool (lemOK x)) := by
  refine .mk ⟨encL_under 0 x, trivial⟩ trivial (a33 (ev_awp Tzv_ok (ev_evK ?_)))
  have hqn := hx.qs
  have hpn := hx.ps
  simp only [eE, eC, eN, Nat.reduceEqDiff, ↓reduceIte, Nat.reduceAdd, Nat.reduceLeDiff, Int.reduceLE, Int.reduceToNat, List.length_map, c33, Tzv_nm, Tzv_ns, s1, s2, dS, dSs, dI, okL, decL, isS, toS, okInt, toI, toSs_map, hx.cs, hx.ls]
  rw [cK_i]
  refine ⟨fun hB => ?_, fun hB => ?_⟩
  · simp only [eE, eN, ↓reduceIte]
    have : hdV x = false := by
      cases q : hdV x with
      | false => rfl
      | true =>
        unfold hdV at q
        simp only [Bool.and_eq_true, decide_eq_true_eq] at q
        simp only [Bool.or_eq_true, Bool.not_eq_true', decide_eq_true_eq, q.1.1.1.1.1, q.1.1.2, q.1.2, Bool.true_eq_false, or_false, false_or] at hB
        omega
    rw [lem_V, this]; simp only [Bool.false_and]
  have hV : hdV x = true := by
    simp only [Bool.or_eq_false_iff, Bool.not_eq_false', decide_eq_false_iff_not] at hB
    unfold hdV
    simp only [Bool.and_eq_true, decide_eq_true_eq]
    exact ⟨⟨⟨⟨⟨hB.1.1.1.1.1, by omega⟩, by omega⟩, hB.1.1.2⟩, hB.1.2⟩, by omega⟩
  clear hB
  rw [show lemOK x = _ from lem_V x, hV, Bool.true_and]
  simp only [eE, eC, eN, Nat.reduceEqDiff, ↓reduceIte, Nat.reduceAdd, Nat.reduceLeDiff, List.length_map]
  rw [cK_i]
  refine ⟨fun hB => ?_, fun hB => ?_⟩
  · simp only [eE, eN, ↓reduceIte]
    have : clV x = false := by
      cases q : clV x with
      | false => rfl
      | true =>
        unfold clV at q
        simp only [Bool.and_eq_true, Bool.or_eq_true, decide_eq_true_eq] at q hB
        omega
    rw [this]; simp only [Bool.false_and]
  have hC : clV x = true := by
    simp only [Bool.or_eq_false_iff, decide_eq_false_iff_not] at hB
    unfold clV
    simp only [Bool.and_eq_true, decide_eq_true_eq]
    omega
  clear hB
  rw [hC, Bool.true_and]
  simp only [eE, eN, Nat.reduceEqDiff, ↓reduceIte]
  refine k_loop (fun i : Nat => ⟨[(1, true, .ptr 0 0), (3, true, .int .i64 i)], hset hnil 0 (.box (cellsL x)), 2⟩) (fun i => i ≤ x.qs.length ∧ ∀ j (hj : j < x.qs.length), j < i → condOK x.qs[j] x.cs.length x.ls.length = true) (fun i => x.qs.length - i) 0 rfl ⟨Nat.zero_le _, fun j hj h => by omega⟩ ?_
  rintro i ⟨hi, hall⟩
  by_cases hlt : i < x.qs.length
  · have hg := List.getElem?_eq_getElem hlt
    have e := w64_succ (k := i) (by omega)
    have hq := hx.q _ (List.getElem_mem hlt)
    cases hc : condOK x.qs[i] x.cs.length x.ls.length with
    | true =>
      simp only [eE, eC, eN, Nat.reduceEqDiff, ↓reduceIte, Nat.reduceAdd, Nat.reduceLeDiff, Int.reduceEq, Bool.not_true, Option.getD_some, Int.toNat_natCast, Int.natCast_nonneg, List.length_map, List.getElem?_map, lt_T hlt, hg, Tzv_cd, s3, dQ_ok, dQ_dec, dI, okInt, toI, hq.1, hq.2, e, hc]
      refine .mk (i + 1) rfl ⟨hlt, fun j hj h => ?_⟩ (by omega)
      by_cases q : j = i
      · subst q; exact hc
      · exact hall j hj (by omega)
    | false =>
      simp only [eE, eC, eN, Nat.reduceEqDiff, ↓reduceIte, Nat.reduceAdd, Nat.reduceLeDiff, Bool.not_false, Option.getD_some, Int.toNat_natCast, Int.natCast_nonneg, List.length_map, List.getElem?_map, lt_T hlt, hg, Tzv_cd, s3, dQ_ok, dQ_dec, dI, okInt, toI, hq.1, hq.2, hc]
      have : (x.qs.all fun q => condOK q x.cs.length x.ls.length) = false := List.all_eq_false.2 ⟨_, List.getElem_mem hlt, by rw [hc]; decide⟩
      rw [this]; simp only [Bool.false_and]
  have hqa : (x.qs.all fun q => condOK q x.cs.length x.ls.length) = true := List.all_eq_true.2 fun q hq => by
    obtain ⟨j, hj, rfl⟩ := List.mem_iff_getElem.1 hq
    exact hall j hj (by omega)
  rw [hqa, Bool.true_and]
  simp only [eE, eC, eN, Nat.reduceEqDiff, ↓reduceIte, Nat.reduceAdd, Nat.reduceLeDiff, Nat.reduceMul, List.length_map, lt_F hlt]
  clear hlt hall hi
  refine k_loop (fun v : Vg => ⟨[(1, true, .ptr 0 0), (4, true, .sl v.tk ((x.ps.take v.i).map fun p => eI p.c)), (5, true, .int .i64 v.i)], v.H, v.n⟩) (fun v => Ip x.ps.length (cellsL x) v ∧ v.tk.esz = 1 ∧ ∀ j (hj : j < x.ps.length), j < v.i → pOK x x.ps[j] = true) (fun v => x.ps.length - v.i)
    ⟨0, .exact 1, hset hnil 0 (.box (cellsL x)), 2⟩ rfl ⟨⟨Nat.zero_le _, Fresh.nil.hset (Nat.zero_le 2) (Nat.zero_lt_succ 1), rfl, Nat.succ_le_succ (Nat.zero_le 1), .inr (.inl rfl), .inl rfl⟩, rfl, fun j hj h => absurd h (Nat.not_lt_zero _)⟩ ?_
  rintro ⟨i, tk, H, n⟩ ⟨⟨hi, hfr, hb, hn, htk, hes⟩, hes1, hall⟩
  simp only at hi hfr hb hn htk hes hes1 hall
  by_cases hlt : i < x.ps.length
  · have hg := List.getElem?_eq_getElem hlt
    have e := w64_succ (k := i) (by omega)
    have hp := hx.p _ (List.getElem_mem hlt)
    generalize hqq : x.ps[i] = p at hg hp
    have k0 : hget (killTok H tk) 0 = some (.box (cellsL x)) := by rw [kill_get htk (.inl (by omega))]; exact hb
    have q1 : appOK H 1 tk = True := eq_true htk.app
    have q2 : (i ≤ 35184372088831) = True := eq_true (by omega)
    have q3 : small (i + 1) 8 = True := eq_true (small_of (by omega) (by decide))
    have ln : ((x.ps.take i).map fun p => eI p.c).length = i := by simp; omega
    have z6 : (n + 8 = 0) = False := eq_false (by omega)
    have h8 := hfr (n + 8) (by omega)
    by_cases hpo : pOK x p = true
    · have hpo' := hpo
      unfold pOK at hpo'
      rw [Bool.and_eq_true, decide_eq_true_eq] at hpo'
      have l0 : ((p.ls.length : Int) = 0) = False := eq_false (by omega)
      simp only [eE, eC, eN, reduceCtorEq, Nat.reduceEqDiff, ↓reduceIte, Nat.reduceAdd, Nat.reduceLeDiff, Nat.reduceMul, Nat.reduceLT, Int.reduceEq, Bool.not_true, Option.getD_some, Int.toNat_natCast, Int.natCast_nonneg, List.length_map, List.getElem?_map, lt_T hlt, hg, fr1 hfr, hb, z6, q1, q2, q3, ln, k0, Tzv_ix, s2, dIs, dI, okL, decL, okInt, eI_map, toI, hp, e, l0, hpo'.1]
      refine .mk ⟨i + 1, .own (n + 8) 1, hset (killTok H tk) (n + 8) .tok, n + 10⟩ (by rw [map_take hlt, hqq]) ⟨⟨hlt, (kill_fresh htk hfr).hset (m := n + 10) (by omega) (by omega), ?_, by simp only []; omega, .inr (.inr ⟨n + 8, rfl, by omega, hget_hset_eq ..⟩), .inl rfl⟩, rfl, ?_⟩ (by simp only []; omega)
      · simp only []
        rw [hget_hset_ne _ _ _ _ (by omega)]; exact k0
      · intro j hj h
        simp only [] at h
        by_cases q : j = i
        · subst q; rw [hqq]; exact hpo
        · exact hall j hj (by omega)
    · have hpf : x.ps.all (pOK x) = false := List.all_eq_false.2 ⟨_, List.getElem_mem hlt, by rw [hqq]; exact hpo⟩
      rw [hpf, Bool.false_and]
      by_cases l1 : p.ls.length = 0
      · have l0 : ((p.ls.length : Int) = 0) = True := eq_true (by omega)
        simp only [eE, eC, eN, reduceCtorEq, Nat.reduceEqDiff, ↓reduceIte, Nat.reduceAdd, Nat.reduceLeDiff, Nat.reduceMul, Nat.reduceLT, Bool.not_true, Option.getD_some, Int.toNat_natCast, Int.natCast_nonneg, List.length_map, List.getElem?_map, lt_T hlt, hg, fr1 hfr, hb, z6, q1, q2, q3, ln, k0, Tzv_ix, s2, dIs, dI, okL, decL, okInt, eI_map, toI, hp, l0]
      · have l0 : ((p.ls.length : Int) = 0) = False := eq_false (by omega)
        have hd : difI p.ls x.ls.length = false := by
          cases q : difI p.ls x.ls.length with
          | false => rfl
          | true => exact absurd (by unfold pOK; rw [q, decide_eq_true (by omega : 1 ≤ p.ls.length)]; rfl) hpo
        simp only [eE, eC, eN, reduceCtorEq, Nat.reduceEqDiff, ↓reduceIte, Nat.reduceAdd, Nat.reduceLeDiff, Nat.reduceMul, Nat.reduceLT, Bool.not_false, Option.getD_some, Int.toNat_natCast, Int.natCast_nonneg, List.length_map, List.getElem?_map, lt_T hlt, hg, fr1 hfr, hb, z6, q1, q2, q3, ln, k0, Tzv_ix, s2, dIs, dI, okL, decL, okInt, eI_map, toI, hp, l0, hd]
  obtain rfl : i = x.ps.length := by omega
  have hpa : x.ps.all (pOK x) = true := List.all_eq_true.2 fun q hq => by
    obtain ⟨j, hj, rfl⟩ := List.mem_iff_getElem.1 hq
    exact hall j hj hj
  rw [hpa, Bool.true_and]
  have hc : x.ps.map (fun p => eI p.c) = (x.ps.map (·.c)).map eI := by rw [List.map_map]; rfl
  have hpl : few (x.ps.map (·.c)) = True := eq_true (by show (x.ps.map _).length < _; rw [List.length_map]; exact hpn)
  simp only [eE, eC, eN, Nat.reduceEqDiff, ↓reduceIte, Nat.reduceAdd, Nat.reduceLeDiff, Int.toNat_natCast, Int.natCast_nonneg, List.length_map, lt_F hlt, hb, List.take_length, hc, Tzv_ix, s2, dIs, dI, okL, decL, okInt, eI_map, toI, hes1, hpl]
def Tzk : Tab := tadd 33 (s1 dX FewL fun x => .bool (lemOK x)) tnil
theorem Tzk_ok : TabOK Tryz.prog Tzk := TabOK.tnil.add (q1 fun x h => p33 x h)
theorem Tzk_v (a : List AVal) (H : AHeap) : Tzk 33 a H = s1 dX FewL (fun x => .bool (lemOK x)) a H := rfl
theorem p19 (x : Lma) (hx : FewL x) : Pur Tryz.prog 19 [encL x] (eI (chk x)) := by
  refine .mk ⟨encL_under 0 x, trivial⟩ trivial (a19 (ev_awp Tzk_ok (ev_evK ?_)))
  cases hl : lemOK x with
  | true =>
    simp only [eE, eC, eN, Nat.reduceEqDiff, ↓reduceIte, Nat.reduceAdd, c19, Tzk_v, s1, dX_ok, dX_dec, eq_true hx, hl]
    unfold chk; rw [if_pos hl]
  | false =>
    simp only [eE, eC, eN, Nat.reduceEqDiff, ↓reduceIte, Nat.reduceAdd, c19, Tzk_v, s1, dX_ok, dX_dec, eq_true hx, hl]
    unfold chk; rw [if_neg (by rw [hl]; decide)]
end Go.AM
end
section
set_option maxRecDepth 20000
set_option linter.all false
namespace Go.AM
open Go.Proofs Go.Lib
def mapEs : List (AVal × AVal × Nat) := [(.str wDif, .fn (.func 59) [] [], 0), (.str wRis, .fn (.func 60) [] [], 1), (.str wNea, .fn (.func 61) [] [], 2), (.str wHom, .fn (.func 62) [] [], 3), (.str wApa, .fn (.func 63) [] [], 4), (.str wQuo, .fn (.func 64) [] [], 5), (.str wOnl, .fn (.func 65) [] [], 6)]
theorem map_fit : mkfit .str mapEs = True := eq_true ⟨trivial, trivial, trivial, trivial, trivial, trivial, trivial, trivial⟩
theorem xe_mkm {b rel : Nat} {H : AHeap} : xE b (.mkm rel) H [] = (hget H (b + rel) = none, hset H (b + rel) (.map [] 0), .mp (b + rel)) := rfl
theorem xe_look {b id : Nat} {kt : KT} {z k : AVal} {q : Bool} {H : AHeap} : xE b (.look kt z q) H [.mp id, k] = (match hget H id with
    | some (.map es _) => (kt.is k ∧ mkfit kt es, H, lookV z q (mfind k es))
    | _ => (False, H, .tup [])) := rfl
theorem xe_mput {b id : Nat} {kt : KT} {k v : AVal} {H : AHeap} : xE b (.mput kt) H [.mp id, k, v] = (match hget H id with
    | some (.map es c) => (kt.is k ∧ mkfit kt es ∧ nT v, hset H id (.map (mset k v c es) (if (mfind k es).isSome = true then c else c + 1)), .tup [])
    | _ => (False, H, .tup [])) := rfl
theorem xe_fn {b : Nat} {q : Bool} {H : AHeap} {f : Fn} {x y : List AVal} : xE b (.nileq 2 q) H [.fn f x y] = (True, H, .bool q) := rfl
theorem xe_nf {b : Nat} {q : Bool} {H : AHeap} : xE b (.nileq 2 q) H [.nilfn] = (True, H, .bool (!q)) := rfl
theorem ceq_s {a b : Bs} : ceq (.str a) (.str b) = decide (a = b) := rfl
theorem item_fn {t : Tkn} (hk : t.K = 1) (r : List Tkn) : (∃ fid g, mfind (.str t.T) mapEs = some (.fn (.func fid) [] []) ∧ StepOK fid [] encIt g ∧ itemR (t :: r) = g r) ∨ (mfind (.str t.T) mapEs = none ∧ itemR (t :: r) = .bad (t :: r)) := by
  have hd : ∀ w, hdW w (t :: r) = decide (t.T = w) := fun w => by simp [hdW, hk]
  unfold itemR mapEs
  simp only [mfind, ceq_s, hd, List.tail_cons, decide_eq_true_eq]
  by_cases e1 : t.T = wDif
  · exact .inl ⟨_, _, if_pos e1, t_different, if_pos e1⟩
  by_cases e2 : t.T = wRis
  · exact .inl ⟨_, _, by rw [if_neg e1, if_pos e2], t_rise, by rw [if_neg e1, if_pos e2]⟩
  by_cases e3 : t.T = wNea
  · exact .inl ⟨_, _, by rw [if_neg e1, if_neg e2, if_pos e3], t_near, by rw [if_neg e1, if_neg e2, if_pos e3]⟩
  by_cases e4 : t.T = wHom
  · exact .inl ⟨_, _, by rw [if_neg e1, if_neg e2, if_neg e3, if_pos e4], t_home, by rw [if_neg e1, if_neg e2, if_neg e3, if_pos e4]⟩
  by_cases e5 : t.T = wApa
  · exact .inl ⟨_, _, by rw [if_neg e1, if_neg e2, if_neg e3, if_neg e4, if_pos e5], t_apart, by rw [if_neg e1, if_neg e2, if_neg e3, if_neg e4, if_pos e5]⟩
  by_cases e6 : t.T = wQuo
  · exact .inl ⟨_, _, by rw [if_neg e1, if_neg e2, if_neg e3, if_neg e4, if_neg e5, if_pos e6], t_quota, by rw [if_neg e1, if_neg e2, if_neg e3, if_neg e4, if_neg e5, if_pos e6]⟩
  by_cases e7 : t.T = wOnl
  · exact .inl ⟨_, _, by rw [if_neg e1, if_neg e2, if_neg e3, if_neg e4, if_neg e5, if_neg e6, if_pos e7], t_only, by rw [if_neg e1, if_neg e2, if_neg e3, if_neg e4, if_neg e5, if_neg e6, if_pos e7]⟩
  · exact .inr ⟨by rw [if_neg e1, if_neg e2, if_neg e3, if_neg e4, if_neg e5, if_neg e6, if_neg e7], by rw [if_neg e1, if_neg e2, if_neg e3, if_neg e4, if_neg e5, if_neg e6, if_neg e7]⟩
def okTk (t : Tkn) : Prop := t.K = 1 ∨ t.K = 2 ∨ t.T.length ≤ 2
theorem item_no {t : Tkn} (h : okTk t) (hk : t.K ≠ 1) (r : List Tkn) : itemR (t :: r) = .bad (t :: r) := by
  have hd : ∀ w : Bs, 2 < w.length → hdW w (t :: r) = false := fun w hw => by
    rcases h with h | h | h
    · exact absurd h hk
    · simp [hdW, h]
    · have : t.T ≠ w := fun e => by rw [e] at h; omega
      simp [hdW, this]
  unfold itemR
  rw [hd wDif (by decide), hd wRis (by decide), hd wNea (by decide), hd wHom (by decide), hd wApa (by decide), hd wQuo (by decide), hd wOnl (by decide)]
  rfl
theorem more_cnt : ∀ (n : Nat) {l r : List Tkn} {ss : List Bs}, l.length ≤ n → moreR l = .ok ss r → ss.length + r.length ≤ l.length
  | n, l, r, ss, hn, h => by
    by_cases hw : hdW [44] l = true
    · rw [more_yes hw] at h
      obtain ⟨s, q, h1, h2⟩ := bd_ok' h
      obtain ⟨ts, q2, h3, h4⟩ := bd_ok' h2
      cases h4
      have := name_len h1
      rw [List.length_tail] at this
      match n with
      | 0 => omega
      | n + 1 =>
        have := more_cnt n (by omega) h3
        simp only [List.length_cons]; omega
    · rw [more_no' hw] at h; cases h; simp
theorem names_cnt {l r : List Tkn} {ss : List Bs} (h : namesR l = .ok ss r) : ss.length + r.length ≤ l.length := by
  unfold namesR at h
  obtain ⟨s, q, h1, h2⟩ := bd_ok' h
  obtain ⟨ts, q2, h3, h4⟩ := bd_ok' h2
  cases h4
  have := name_len h1
  have := more_cnt _ (Nat.le_refl _) h3
  simp only [List.length_cons]; omega
def qsOf (cs ls : List Bs) (is : List Itm) : List Cnd := (is.filter fun i => decide (i.k ≠ 0)).map fun i => ⟨i.k, idxs cs i.cs, idxs ls i.ls, i.n⟩
def psOf (cs ls : List Bs) (is : List Itm) : List Prm := (is.filter fun i => decide (i.k = 0)).map fun i => ⟨(idxs cs i.cs)[0]?.getD 0, idxs ls i.ls⟩
def okOf (cs ls : List Bs) (is : List Itm) : Bool := is.all fun i => allIn cs i.cs && allIn ls i.ls
end Go.AM
end
