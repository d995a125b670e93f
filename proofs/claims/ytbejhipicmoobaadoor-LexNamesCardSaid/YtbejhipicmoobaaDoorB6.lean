/-
  Tokens: the library's functions as rows of the table, by the shelf's contracts · Tokens: bytes, their classes, names · Tokens: valid ones, few ones, equal ones · Tokens: Same, Equal, Few; lists of classes · Tokens: the scanner's run · Tokens: the scanner's steps · Tokens: Lex · Tokens: decimal numbers of the reference · Tokens: Text.
  Conditions: none beyond those of its parts.
-/
import Derived.Test.YtbejhipicmoobaaDoorB4
import Derived.Test.YtbejhipicmoobaaDoorShelf
import Derived.Test.YtbejhipicmoobaaDoorB5

/- Tokens: the library's functions as rows of the table, by the shelf's contracts. Conditions: none. -/
section
set_option maxRecDepth 10000
set_option linter.unusedSimpArgs false
set_option linter.unusedVariables false
set_option linter.unusedVariables false
set_option linter.unusedSimpArgs false
namespace Go.AM
open Go.Proofs Go.Lib Go.RowKit Go.Sort

theorem below_grow {w : World} {k : Nat} {os : Array Obj} : Below w.heap.size w (grow (w.drewN k) os) where
  os := rfl
  tape := rfl
  output := rfl
  size := by simp [grow]
  block := fun i hi => by simp [grow, Array.getElem?_append, hi]
theorem str_eq {l : List UInt8} {s : ByteArray} (h : s = ⟨l.toArray⟩) : s.data.toList = l := by subst h; rfl

/-- strings.IndexByte -/
def s47 : List AVal → AHeap → Prop × AVal := fun a H => match a with
  | [.str l, .int .u8 c] => (0 ≤ c ∧ c < 256, .int .i64 (indexByte l (UInt8.ofNat c.toNat)))
  | _ => (False, .tup [])
theorem q47 : ∀ args H n, (s47 args H).1 → Quiet Tryd.prog 47 args H n (s47 args H).2 := by
  intro args H n h
  unfold s47 at h ⊢
  split at h
  · rename_i l c
    refine Pur.quiet ?_ H n
    refine pur_of_calls l47 ⟨trivial, trivial, trivial⟩ trivial ?_
    rintro g w vs hR ⟨v, r, rfl, k1, v2, r2, rfl, k2, k3⟩
    have k1' : v = .string ⟨l.toArray⟩ := k1
    have k2' : v2 = .int .u8 c := k2
    have k3' : r2 = [] := k3
    subst k1'; subst k2'; subst k3'
    refine (Tryd.strings_IndexByte ⟨l.toArray⟩ c w).mono ?_
    rintro e w' ⟨rfl, rfl⟩
    exact ⟨⟨_, rfl, rfl⟩, Below.refl _ _⟩
  · exact h.elim
/-- strings.HasPrefix -/
def s46 : List AVal → AHeap → Prop × AVal := fun a H => match a with
  | [.str l, .str p] => (True, .bool (hasPrefix l p))
  | _ => (False, .tup [])
theorem q46 : ∀ args H n, (s46 args H).1 → Quiet Tryd.prog 46 args H n (s46 args H).2 := by
  intro args H n h
  unfold s46 at h ⊢
  split at h
  · rename_i l p
    refine Pur.quiet ?_ H n
    refine pur_of_calls l46 ⟨trivial, trivial, trivial⟩ trivial ?_
    rintro g w vs hR ⟨v, r, rfl, k1, v2, r2, rfl, k2, k3⟩
    have k1' : v = .string ⟨l.toArray⟩ := k1
    have k2' : v2 = .string ⟨p.toArray⟩ := k2
    have k3' : r2 = [] := k3
    subst k1'; subst k2'; subst k3'
    refine (Tryd.strings_HasPrefix ⟨l.toArray⟩ ⟨p.toArray⟩ w).mono ?_
    rintro e w' ⟨rfl, rfl⟩
    exact ⟨⟨_, rfl, rfl⟩, Below.refl _ _⟩
  · exact h.elim
/-- strconv.Itoa -/
def s37 : List AVal → AHeap → Prop × AVal := fun a H => match a with
  | [.int .i64 z] => (-9223372036854775808 ≤ z ∧ z ≤ 9223372036854775807, .str (itoa z))
  | _ => (False, .tup [])
theorem tab_is {g : Ghost} {w : World} (hR : Rel g hnil 0 w) : TabIs Tryd.prog w "internal/strconv.uint64pow10" .u64 pow10Tab := by
  have hn : Tryd.prog.globalNamed "internal/strconv.uint64pow10" = some 3 := by kernel_rfl
  obtain ⟨c, e, fz, h1, h2⟩ := hR.gz 3 _ rfl
  have h3 := hR.gl 3 _ rfl
  have hc : c = (pow10Tab.map fun z => Value.int .u64 z).toArray := by
    have hs : ∀ (i : Nat) z, pow10Tab[i]? = some z → c[i]? = some (.int .u64 z) := by
      intro i z hz
      have key : ∀ (l : List Int) (o : Nat), PStab g (g.σ 3) o (l.map fun z => AVal.int .u64 z) → ∀ (i : Nat) z, l[i]? = some z → g.σ 3 (o + i) = some (.int .u64 z) := by
        intro l
        induction l with
        | nil => intro o _ i z h; simp at h
        | cons x l ih =>
          intro o h i z hz
          obtain ⟨⟨v, q1, q2, q3⟩, h'⟩ := h
          cases i with
          | zero => simp at hz; subst hz; have q2' : v = .int .u64 x := q2; subst q2'; exact q1
          | succ i => rw [show o + (i + 1) = o + 1 + i by omega]; exact ih (o + 1) h' i z (by simpa using hz)
      have h4 := hR.σw _ _ _ (key pow10Tab 0 (by exact h3) i z hz)
      rw [Nat.zero_add] at h4
      simpa [World.cell?, h1] using h4
    have hl : c.size = pow10Tab.length := by rw [h2]; rfl
    refine Array.ext_getElem? fun i => ?_
    by_cases hi : i < pow10Tab.length
    · rw [hs i _ (List.getElem?_eq_getElem hi)]; simp [hi]
    · rw [Array.getElem?_eq_none (by omega), Array.getElem?_eq_none (by simp; omega)]
  unfold TabIs World.var?
  rw [hn]
  simp only [Option.bind_some, h1, hc]
theorem q37 : ∀ args H n, (s37 args H).1 → Quiet Tryd.prog 37 args H n (s37 args H).2 := by
  intro args H n h
  unfold s37 at h ⊢
  split at h
  · rename_i z
    refine Pur.quiet ?_ H n
    refine pur_of_calls l37 ⟨trivial, trivial⟩ trivial ?_
    rintro g w vs hR ⟨v, r, rfl, k1, k3⟩
    have k1' : v = .int .i64 z := k1
    have k3' : r = [] := k3
    subst k1'; subst k3'
    refine (Tryd.strconv_Itoa z h.1 h.2 w (tab_is hR)).mono ?_
    rintro e w' ⟨rfl, k, os, rfl⟩
    exact ⟨⟨_, rfl, rfl⟩, below_grow⟩
  · exact h.elim
/-- strconv.Atoi -/
def s45 : List AVal → AHeap → Prop × AVal := fun a H => match a with
  | [.str l] => (l.length ≤ 281474976710656, match atoiAll l with | .ok v => .tup [.int .i64 v, .nilifc] | .range => .tup [.int .i64 (atoiSat l), .ifc 79 .up] | _ => .tup [.int .i64 0, .ifc 79 .up])
  | _ => (False, .tup [])
theorem q45 : ∀ args H n, (s45 args H).1 → Quiet Tryd.prog 45 args H n (s45 args H).2 := by
  intro args H n h
  unfold s45 at h ⊢
  split at h
  · rename_i l
    simp only at h
    have hsz : (⟨l.toArray⟩ : ByteArray).size = l.length := by simp [ByteArray.size]
    cases ha : atoiAll l with
    | ok v =>
      refine Pur.quiet ?_ H n
      refine pur_of_calls l45 ⟨trivial, trivial⟩ ⟨trivial, trivial, trivial⟩ ?_
      rintro g w vs hR ⟨v, r, rfl, k1, k3⟩
      have k1' : v = .string ⟨l.toArray⟩ := k1
      have k3' : r = [] := k3
      subst k1'; subst k3'
      refine (Tryd.strconv_Atoi_ok ⟨l.toArray⟩ (by omega) _ ha w).mono ?_
      rintro e w' ⟨rfl, hw⟩
      refine ⟨⟨_, rfl, ⟨_, rfl, _, _, rfl, rfl, _, _, rfl, rfl, rfl⟩⟩, ?_⟩
      rcases hw with rfl | ⟨t, rfl⟩
      · exact Below.refl _ _
      · exact Lib.bytesWorld_below _ _ _
    | range =>
      refine Pur.quiet ?_ H n
      refine pur_of_calls l45 ⟨trivial, trivial⟩ ⟨trivial, trivial, trivial⟩ ?_
      rintro g w vs hR ⟨v, r, rfl, k1, k3⟩
      have k1' : v = .string ⟨l.toArray⟩ := k1
      have k3' : r = [] := k3
      subst k1'; subst k3'
      obtain ⟨⟨ev, e1, ⟨z, e2, _⟩, _⟩, _⟩ := hR.gl 1 _ rfl
      refine (Tryd.strconv_Atoi_range ⟨l.toArray⟩ (by omega) ha ev w (hR.σw _ _ _ e1) (.inr ⟨_, _, e2⟩)).mono ?_
      rintro e w' ⟨N, rfl, _, _, hb⟩
      exact ⟨⟨_, rfl, ⟨_, rfl, _, _, rfl, rfl, _, _, rfl, ⟨_, rfl, _, rfl⟩, rfl⟩⟩, hb⟩
    | _ =>
      refine Pur.quiet ?_ H n
      refine pur_of_calls l45 ⟨trivial, trivial⟩ ⟨trivial, trivial, trivial⟩ ?_
      rintro g w vs hR ⟨v, r, rfl, k1, k3⟩
      have k1' : v = .string ⟨l.toArray⟩ := k1
      have k3' : r = [] := k3
      subst k1'; subst k3'
      obtain ⟨⟨ev, e1, ⟨z, e2, _⟩, _⟩, _⟩ := hR.gl 0 _ rfl
      refine (Tryd.strconv_Atoi_syntax ⟨l.toArray⟩ (by omega) ha ev w (hR.σw _ _ _ e1) (.inr ⟨_, _, e2⟩)).mono ?_
      rintro e w' ⟨N, rfl, _, _, hb⟩
      exact ⟨⟨_, rfl, ⟨_, rfl, _, _, rfl, rfl, _, _, rfl, ⟨_, rfl, _, rfl⟩, rfl⟩⟩, hb⟩
  · exact h.elim
/-- strings.Join of words -/
def s38 : List AVal → AHeap → Prop × AVal := fun a H => match a with
  | [.sl tok L, .str sep] => (∃ ws : List (List UInt8), L = ws.map .str ∧ tok.under 0 ∧ tok.esz = 1 ∧ ws.length ≤ 140737488355328 ∧ (join ws sep).length ≤ 140737488355328, .str (join (L.map fun x => match x with | .str s => s | _ => []) sep))
  | [.ref id 1 0 len cap, .str sep] => match hget H id with
    | some (.arr 1 L) => (∃ ws : List (List UInt8), L = ws.map .str ∧ len = ws.length ∧ len ≤ cap ∧ ws.length ≤ 140737488355328 ∧ (join ws sep).length ≤ 140737488355328, .str (join (L.map fun x => match x with | .str s => s | _ => []) sep))
    | _ => (False, .tup [])
  | _ => (False, .tup [])
theorem stab_strs {g : Ghost} {f : Nat → Option Value} : ∀ (ws : List (List UInt8)) (o : Nat), Stab g 1 f o (ws.map .str) → ∀ (j : Nat) x, ws[j]? = some x → f (o + j) = some (.string ⟨x.toArray⟩)
  | [], _, _, j, x, h => by simp at h
  | y :: ws, o, ⟨⟨v, q1, q2, q3⟩, h'⟩, j, x, h => by
    cases j with
    | zero =>
      simp at h; subst h
      have q1' : v = .string ⟨y.toArray⟩ := q1
      subst q1'
      exact q3 0 _ rfl
    | succ j => rw [show o + (j + 1) = o + 1 + j by omega]; exact stab_strs ws (o + 1) h' j x (by simpa using h)
theorem q38 : ∀ args H n, (s38 args H).1 → Quiet Tryd.prog 38 args H n (s38 args H).2 := by
  intro args H n h
  unfold s38 at h ⊢
  split at h
  · rename_i tok L sep
    obtain ⟨ws, rfl, ht, he, h1, h2⟩ := h
    have hm : ((ws.map AVal.str).map fun x => match x with | .str s => s | _ => []) = ws := by rw [List.map_map]; exact List.map_id _
    refine Pur.quiet ?_ H n
    refine pur_of_calls l38 ⟨⟨ht, unders_map (f := AVal.str) (fun _ => trivial) ws⟩, trivial, trivial⟩ trivial ?_
    rintro g w vs hR ⟨v, r, rfl, k1, v2, r2, rfl, k2, k3⟩
    have k2' : v2 = .string ⟨sep.toArray⟩ := k2
    have k3' : r2 = [] := k3
    subst k2'; subst k3'
    simp only [hm]
    rcases k1 with ⟨k1, rfl, -⟩ | ⟨-, b, o, cap, rfl, hc, hs, -⟩
    · have : ws = [] := by simpa using k1
      subst this
      refine (Tryd.strings_Join_none none 0 ⟨sep.toArray⟩ w).mono ?_
      rintro e w' ⟨rfl, rfl⟩
      exact ⟨⟨_, rfl, rfl⟩, Below.refl _ _⟩
    · rw [he] at hs
      cases ws with
      | nil =>
        refine (Tryd.strings_Join_none _ _ ⟨sep.toArray⟩ w).mono ?_
        rintro e w' ⟨rfl, rfl⟩
        exact ⟨⟨_, rfl, rfl⟩, Below.refl _ _⟩
      | cons w0 wr =>
        have hcell := stab_strs _ _ hs
        have hmm : (((w0 :: wr).map fun s => (⟨s.toArray⟩ : ByteArray)).map (·.data.toList)) = w0 :: wr := by simp [Function.comp_def]
        have hb : b < w.heap.size := Lib.lt_of_cell (a := ⟨b, _, none⟩) (hR.σw _ _ _ (hcell 0 w0 rfl))
        have hj := Tryd.strings_Join b o cap ((w0 :: wr).map fun s => (⟨s.toArray⟩ : ByteArray)) ⟨sep.toArray⟩ w (fun j x hx => by
          rw [List.getElem?_map, Option.map_eq_some_iff] at hx
          obtain ⟨y, hy, rfl⟩ := hx
          exact hR.σw _ _ _ (hcell j y hy)) hb (by simpa using h1) (by simpa using hc) (by rw [hmm]; exact h2)
        rw [hmm] at hj
        simp only [List.length_map] at hj ⊢
        refine hj.mono ?_
        rintro e w' ⟨rfl, hw⟩
        exact ⟨⟨_, rfl, rfl⟩, hw⟩
  · rename_i id len cap sep
    split at h
    · rename_i L ho
      obtain ⟨ws, rfl, rfl, hc, h1, h2⟩ := h
      have hm : ((ws.map AVal.str).map fun x => match x with | .str s => s | _ => []) = ws := by rw [List.map_map]; exact List.map_id _
      refine quiet_of_calls l38 ?_
      rintro g w vs hR ⟨v, r, rfl, k1, v2, r2, rfl, k2, k3⟩
      have k2' : v2 = .string ⟨sep.toArray⟩ := k2
      have k3' : r2 = [] := k3
      subst k2'; subst k3'
      obtain ⟨Lc, b1, b2, rfl⟩ := k1
      obtain ⟨Lc', c, e, o1, o2, o3, o4, o5, o6⟩ := hR.obj id _ ho
      rw [b1] at o1; cases o1
      simp only [hm]
      cases ws with
      | nil =>
        refine (Tryd.strings_Join_none _ _ ⟨sep.toArray⟩ w).mono ?_
        rintro e w' ⟨rfl, rfl⟩
        exact ⟨⟨_, rfl, rfl⟩, Below.refl _ _⟩
      | cons w0 wr =>
        have hcell := stab_strs _ _ o6
        have hmm : (((w0 :: wr).map fun s => (⟨s.toArray⟩ : ByteArray)).map (·.data.toList)) = w0 :: wr := by simp [Function.comp_def]
        have hb : Lc.blk < w.heap.size := (Array.getElem?_eq_some_iff.1 o4).1
        have hj := Tryd.strings_Join Lc.blk (0 * 1) cap ((w0 :: wr).map fun s => (⟨s.toArray⟩ : ByteArray)) ⟨sep.toArray⟩ w (fun j x hx => by
          rw [List.getElem?_map, Option.map_eq_some_iff] at hx
          obtain ⟨y, hy, rfl⟩ := hx
          have := hcell j y hy
          rw [Nat.zero_add] at this
          simp only [Nat.zero_mul, Nat.zero_add]
          simpa [World.cell?, o4] using this) hb (by simpa using h1) (by simpa using hc) (by rw [hmm]; exact h2)
        rw [hmm] at hj
        simp only [List.length_map] at hj ⊢
        refine hj.mono ?_
        rintro e w' ⟨rfl, hw⟩
        exact ⟨⟨_, rfl, rfl⟩, hw⟩
    · exact h.elim
  · exact h.elim
def T1 : Tab := tadd 37 s37 (tadd 38 s38 (tadd 45 s45 (tadd 46 s46 (tadd 47 s47 tnil))))
theorem T1_ok : TabOK Tryd.prog T1 := ((((TabOK.tnil.add q47).add q46).add q45).add q38).add q37
theorem T1_37 (a : List AVal) (H : AHeap) : T1 37 a H = s37 a H := rfl
theorem T1_38 (a : List AVal) (H : AHeap) : T1 38 a H = s38 a H := rfl
theorem T1_45 (a : List AVal) (H : AHeap) : T1 45 a H = s45 a H := rfl
theorem T1_46 (a : List AVal) (H : AHeap) : T1 46 a H = s46 a H := rfl
theorem T1_47 (a : List AVal) (H : AHeap) : T1 47 a H = s47 a H := rfl
end Go.AM
end

/- Tokens: bytes, their classes, names. Conditions: none. -/
section
set_option maxRecDepth 10000
set_option linter.unusedSimpArgs false
set_option linter.unusedVariables false
set_option linter.unusedVariables false
set_option linter.unusedSimpArgs false
namespace Go.AM
open Go.Proofs Go.Lib

theorem w64_in {x : Int} (h1 : -9223372036854775808 ≤ x) (h2 : x ≤ 9223372036854775807) : IntKind.wrap .i64 x = x := by rw [IntKind.wrap_i64]; omega
theorem w64_succ {k : Nat} (h : k < 1000000000000) : IntKind.wrap .i64 ((k : Int) + 1) = ((k + 1 : Nat) : Int) := by rw [w64_in (by omega) (by omega)]; rfl
def isLet (x : Int) : Bool := (decide (97 ≤ x) && decide (x ≤ 122)) || (decide (65 ≤ x) && decide (x ≤ 90))
def isDig (x : Int) : Bool := decide (48 ≤ x) && decide (x ≤ 57)
def isSp (x : Int) : Bool := decide (x = 32) || decide (x = 9) || decide (x = 10) || decide (x = 13)
abbrev sgnL : List UInt8 := [123, 125, 40, 41, 59, 44, 61, 58, 46, 60, 62, 33, 43, 45, 42, 47]
def isSgn (x : Int) : Bool := decide (0 ≤ indexByte sgnL (UInt8.ofNat x.toNat))
def clsI (x : Int) : Int := if isLet x then 2 else if isDig x then 3 else if x = 95 then 5 else if isSp x then 1 else if isSgn x then 4 else 0
def isPart (x : Int) : Bool := isLet x || isDig x || decide (x = 95)

theorem p31 (x : Int) : Pur Tryd.prog 31 [.int .u8 x] (.bool (isLet x)) := by
  refine .mk (by simp [unders, AVal.under]) trivial (a31 (ev_awp TabOK.tnil (ev_evK ?_)))
  simp only [kont_nil, kont_n, k_ret, k_seq, k_reg, r_nil, r_v, r_vg, r_pick, r_pickg, penv, postC, rcs, rc1, rvS, gok, gvb, eget, lk, lkv, oks, AS.put, AS.keep, evk, Opk.opds, isI, toI, isB, toB, sel, icmp, List.filterMap, Option.map_some, reduceCtorEq, and_true, true_and, forall_const, Nat.reduceEqDiff, ↓reduceIte, Bool.true_and, implies_true, Bool.cond_true_left, Bool.cond_false_right, imp_self, beq_true, beq_false, Bool.not_eq_true', Bool.and_eq_true, decide_eq_true_eq, decide_eq_false_iff_not, impA1, impA2, and_self, ret_eq, Nat.add_zero, wk_bool, c31]
  rfl
theorem p33 (x : Int) : Pur Tryd.prog 33 [.int .u8 x] (.bool (isDig x)) := by
  refine .mk (by simp [unders, AVal.under]) trivial (a33 (ev_awp TabOK.tnil (ev_evK ?_)))
  simp only [kont_nil, kont_n, k_ret, k_seq, k_reg, r_nil, r_v, r_vg, r_pick, penv, postC, rcs, rc1, rvS, gok, gvb, eget, lk, lkv, oks, AS.put, AS.keep, evk, Opk.opds, isI, toI, isB, toB, sel, icmp, List.filterMap, Option.map_some, reduceCtorEq, and_true, true_and, forall_const, Nat.reduceEqDiff, ↓reduceIte, Bool.true_and, implies_true, Bool.cond_false_right, imp_self, beq_true, decide_eq_true_eq, decide_eq_false_iff_not, and_self, ret_eq, Nat.add_zero, wk_bool, c33]
  rfl
theorem p22 (x : Int) : Pur Tryd.prog 22 [.int .u8 x] (.bool (isSp x)) := by
  refine .mk (by simp [unders, AVal.under]) trivial (a22 (ev_awp TabOK.tnil (ev_evK ?_)))
  simp only [kont_nil, kont_n, k_ret, k_seq, k_reg, r_nil, r_v, r_vg, r_pick, penv, postC, rcs, rc1, rvS, gok, gvb, eget, lk, lkv, oks, AS.put, AS.keep, evk, Opk.opds, isI, toI, isB, toB, sel, icmp, List.filterMap, Option.map_some, reduceCtorEq, and_true, true_and, forall_const, Nat.reduceEqDiff, ↓reduceIte, Bool.true_and, implies_true, Bool.cond_true_left, imp_self, beq_false, Bool.not_eq_true', Bool.or_eq_true, Bool.or_eq_false_iff, decide_eq_true_eq, decide_eq_false_iff_not, and_self, ret_eq, Nat.add_zero, wk_bool, c22]
  rfl
theorem p30 (x : Int) (h0 : 0 ≤ x) (h1 : x < 256) : Pur Tryd.prog 30 [.int .u8 x] (.int .i64 (clsI x)) := by
  refine .mk (by simp [unders, AVal.under]) trivial (a30 (ev_awp T1_ok (ev_evK ?_)))
  simp only [kont_nil, kont_n, kont_r, kont_bn, kont_br, k_skip, k_ret, k_seq, k_block, k_cond, k_reg, r_nil, r_v, r_vg, r_pick, r_pickg, r_call, callT, penv, postC, rcs, rc1, rvS, gok, gvb, eget, lk, lkv, oks, AS.put, AS.keep, evk, Opk.opds, isI, toI, isB, toB, sel, icmp, List.filterMap, List.map_cons, List.map_nil, List.append_nil, List.nil_append, Option.map_some, reduceCtorEq, and_true, true_and, forall_const, Nat.reduceEqDiff, ↓reduceIte, Bool.true_and, implies_true, Bool.cond_true_left, Bool.cond_false_right, imp_self, beq_true, beq_false, Bool.not_eq_true', Bool.or_eq_true, Bool.or_eq_false_iff, Bool.and_eq_true, decide_eq_true_eq, decide_eq_false_iff_not, impA1, impA2, and_self, ret_eq, Nat.add_zero, wk_int, c30, T1_47, s47]
  refine ⟨fun h => ?_, fun g1 => ⟨fun h => ?_, fun g2 => ⟨fun h => ?_, fun g3 => ⟨fun h => ?_, fun g4 => ⟨⟨h0, h1⟩, fun h => ?_, fun h => ?_⟩⟩⟩⟩⟩
  · have : isLet x = true := by simp [isLet]; omega
    simp [clsI, this]
  · have k1 : isLet x = false := by simp [isLet]; simp at g1; omega
    have : isDig x = true := by simp [isDig]; omega
    simp [clsI, this, k1]
  · have k1 : isLet x = false := by simp [isLet]; simp at g1; omega
    have k2 : isDig x = false := by simp [isDig]; simp at g2; omega
    simp only [clsI, h, if_true]
    subst h; rfl
  · have k1 : isLet x = false := by simp [isLet]; simp at g1; omega
    have k2 : isDig x = false := by simp [isDig]; simp at g2; omega
    have : isSp x = true := by simp [isSp]; omega
    simp [clsI, g3, this, k1, k2]
  · have k1 : isLet x = false := by simp [isLet]; simp at g1; omega
    have k2 : isDig x = false := by simp [isDig]; simp at g2; omega
    have k4 : isSp x = false := by simp [isSp]; omega
    have k5 : isSgn x = true := by simpa [isSgn] using h
    simp [clsI, g3, k4, k5, k1, k2]
  · have k1 : isLet x = false := by simp [isLet]; simp at g1; omega
    have k2 : isDig x = false := by simp [isDig]; simp at g2; omega
    have k4 : isSp x = false := by simp [isSp]; omega
    have k5 : isSgn x = false := by simpa [isSgn] using h
    simp [clsI, g3, k4, k5, k1, k2]
def sB (f : Int → AVal) : List AVal → AHeap → Prop × AVal := fun a H => match a with
  | [.int .u8 x] => (0 ≤ x ∧ x < 256, f x)
  | _ => (False, .tup [])
theorem qB {fid : FuncId} {f : Int → AVal} (h : ∀ x, 0 ≤ x → x < 256 → Pur Tryd.prog fid [.int .u8 x] (f x)) : ∀ args H n, (sB f args H).1 → Quiet Tryd.prog fid args H n (sB f args H).2 := by
  intro args H n hh
  unfold sB at hh ⊢
  split at hh
  · exact (h _ hh.1 hh.2).quiet H n
  · exact hh.elim
abbrev s30 := sB fun x => .int .i64 (clsI x)
abbrev s31 := sB fun x => .bool (isLet x)
abbrev s33 := sB fun x => .bool (isDig x)
abbrev s22 := sB fun x => .bool (isSp x)
def T2 : Tab := tadd 30 s30 (tadd 31 s31 (tadd 33 s33 (tadd 22 s22 T1)))
theorem T2_ok : TabOK Tryd.prog T2 := (((T1_ok.add (qB fun x _ _ => p22 x)).add (qB fun x _ _ => p33 x)).add (qB fun x _ _ => p31 x)).add (qB p30)
theorem T2_30 (a : List AVal) (H : AHeap) : T2 30 a H = s30 a H := rfl
theorem T2_31 (a : List AVal) (H : AHeap) : T2 31 a H = s31 a H := rfl
theorem T2_33 (a : List AVal) (H : AHeap) : T2 33 a H = s33 a H := rfl
theorem T2_22 (a : List AVal) (H : AHeap) : T2 22 a H = s22 a H := rfl
theorem p32 (x : Int) (h0 : 0 ≤ x) (h1 : x < 256) : Pur Tryd.prog 32 [.int .u8 x] (.bool (isPart x)) := by
  refine .mk (by simp [unders, AVal.under]) trivial (a32 (ev_awp T2_ok (ev_evK ?_)))
  simp only [kont_nil, kont_n, k_ret, k_seq, k_reg, r_nil, r_v, r_vg, r_pick, r_call, r_callg, callT, penv, postC, rcs, rc1, rvS, gok, gvb, eget, lk, lkv, oks, AS.put, AS.keep, evk, Opk.opds, isI, toI, isB, toB, sel, icmp, List.filterMap, List.map_cons, List.map_nil, List.append_nil, List.nil_append, Option.map_some, reduceCtorEq, and_true, true_and, forall_const, Nat.reduceEqDiff, ↓reduceIte, Bool.true_and, implies_true, Bool.cond_true_left, imp_self, beq_false, Bool.not_eq_true', Bool.or_eq_true, Bool.or_eq_false_iff, and_self, ret_eq, Nat.add_zero, wk_bool, c32, T2_31, T2_33, sB, h0, h1]
  rfl
theorem sgn_at : ∀ x : Fin 256, isSgn (x.val : Int) = true ↔ ∃ j : Fin 16, ((sgnL[j.val]?.getD 0).toNat : Int) = x.val := by decide +kernel
theorem p35 (x : Int) (h0 : 0 ≤ x) (h1 : x < 256) : Pur Tryd.prog 35 [.int .u8 x] (.bool (isSgn x)) := by
  obtain ⟨k, rfl⟩ : ∃ k : Nat, x = k := ⟨x.toNat, by omega⟩
  have hk : k < 256 := by omega
  refine .mk (by simp [unders, AVal.under]) trivial (a35 (ev_awp TabOK.tnil (ev_evK ?_)))
  simp only [kont_n, k_seq, k_block, k_reg, r_nil, r_v, penv, eget, lk, lkv, oks, AS.put, AS.keep, evk, Opk.opds, List.filterMap, Option.map_some, reduceCtorEq, true_and, Nat.reduceEqDiff, ↓reduceIte, and_self, Nat.add_zero, c35]
  refine k_loop (fun i : Nat => ⟨[(0, true, .int .u8 k), (3, true, .str sgnL), (4, true, .int .i64 i)], hnil, 0⟩)
    (fun i => i ≤ 16 ∧ ∀ j < i, ((sgnL[j]?.getD 0).toNat : Int) ≠ k) (fun i => 16 - i) 0 rfl ⟨by omega, fun j hj => by omega⟩ ?_
  rintro i ⟨hi, hall⟩
  have e := w64_succ (k := i) (by omega)
  by_cases hlt : i < 16
  · simp only [kont_nil, kont_n, kont_e, kont_r, kont_bn, kont_be, kont_br, k_skip, k_exit, k_ret, k_seq, k_block, k_cond, k_reg, r_nil, r_v, lpQ_n, lpQ_e, lpQ_r, postC, rcs, rc1, rvS, eget, lk, lkv, oks, AS.put, AS.keep, evk, Opk.opds, isI, isInt, toI, isB, toB, isS, toS, icmp, iarith, List.length_cons, List.length_nil, List.filterMap, Option.map_some, reduceCtorEq, and_true, true_and, forall_const, Nat.reduceEqDiff, ↓reduceIte, Bool.false_eq_true, Nat.reduceAdd, Int.reduceEq, isDiv, false_implies, implies_true, Nat.zero_add, decide_eq_true_eq, decide_eq_false_iff_not, ne_eq, not_false_eq_true, and_self, ret_eq, Nat.add_zero, wk_bool, decide_true, Int.ofNat_lt, hlt, Int.natCast_nonneg, Int.toNat_natCast, e]
    refine ⟨fun h => ((sgn_at ⟨k, hk⟩).2 ⟨⟨i, hlt⟩, h⟩).symm, fun h => .mk (i + 1) rfl ⟨by omega, fun j hj => ?_⟩ (by omega)⟩
    by_cases q : j = i
    · subst q; exact h
    · exact hall j (by omega)
  · simp only [kont_nil, kont_n, kont_e, kont_r, kont_bn, kont_be, kont_br, k_skip, k_exit, k_ret, k_seq, k_block, k_cond, k_reg, r_nil, r_v, lpQ_n, lpQ_e, lpQ_r, postC, rcs, rc1, rvS, eget, lk, lkv, oks, AS.put, AS.keep, evk, Opk.opds, isI, isInt, toI, isB, toB, isS, toS, icmp, iarith, List.length_cons, List.length_nil, List.filterMap, Option.map_some, reduceCtorEq, true_and, forall_const, Nat.reduceEqDiff, ↓reduceIte, Bool.false_eq_true, Nat.reduceAdd, Int.reduceEq, isDiv, false_implies, implies_true, Nat.zero_add, decide_eq_true_eq, decide_eq_false_iff_not, ne_eq, not_false_eq_true, and_self, ret_eq, Nat.add_zero, wk_bool, decide_false, Int.ofNat_lt, hlt]
    refine (Bool.eq_false_iff.2 fun h => ?_).symm
    obtain ⟨j, hj⟩ := (sgn_at ⟨k, hk⟩).1 h
    exact hall j.val (by omega) hj
abbrev s32 := sB fun x => .bool (isPart x)
abbrev s35 := sB fun x => .bool (isSgn x)
def letB (b : UInt8) : Bool := isLet b.toNat
def digB (b : UInt8) : Bool := isDig b.toNat
def partB (b : UInt8) : Bool := isPart b.toNat
def spB (b : UInt8) : Bool := isSp b.toNat
def sgnB (b : UInt8) : Bool := isSgn b.toNat
theorem cls_let (x : Int) : clsI x = 2 ↔ isLet x = true := by
  unfold clsI
  cases isLet x <;> cases isDig x <;> cases isSp x <;> cases isSgn x <;> simp <;> split <;> simp
theorem cls_part (x : Int) : (clsI x = 2 ∨ clsI x = 3 ∨ clsI x = 5) ↔ isPart x = true := by
  unfold clsI isPart
  cases isLet x <;> cases isDig x <;> cases isSp x <;> cases isSgn x <;> by_cases h : x = 95 <;> simp [h]
theorem u8_lt (b : UInt8) : (0 : Int) ≤ b.toNat ∧ (b.toNat : Int) < 256 := ⟨by omega, by have := b.toNat_lt; omega⟩
def nameS (s : List UInt8) : Bool := decide (1 ≤ s.length) && decide (s.length ≤ 32) && letB (s[0]?.getD 0) && s.all partB
def T3 : Tab := tadd 32 s32 (tadd 35 s35 T2)
theorem T3_ok : TabOK Tryd.prog T3 := (T2_ok.add (qB p35)).add (qB p32)
theorem T3_30 (a : List AVal) (H : AHeap) : T3 30 a H = s30 a H := rfl
theorem T3_31 (a : List AVal) (H : AHeap) : T3 31 a H = s31 a H := rfl
theorem T3_32 (a : List AVal) (H : AHeap) : T3 32 a H = s32 a H := rfl
theorem part_all {s : List UInt8} {i : Nat} (hi : i < s.length) (h : isPart ((s[i]).toNat : Int) = false) : s.all partB = false := by
  refine Bool.eq_false_iff.2 fun hh => ?_
  have := List.all_eq_true.1 hh s[i] (List.getElem_mem hi)
  unfold partB at this
  rw [h] at this; cases this
theorem all_part {s : List UInt8} (h : ∀ j (hj : j < s.length), isPart ((s[j]).toNat : Int) = true) : s.all partB = true := by
  refine List.all_eq_true.2 fun x hx => ?_
  obtain ⟨j, hj, rfl⟩ := List.mem_iff_getElem.1 hx
  exact h j hj
theorem p21 (s : List UInt8) : Pur Tryd.prog 21 [.str s] (.bool (nameS s)) := by
  refine .mk (by simp [unders, AVal.under]) trivial (a21 (ev_awp T3_ok (ev_evK ?_)))
  simp only [kont_nil, kont_n, kont_r, k_skip, k_ret, k_seq, k_block, k_cond, k_reg, r_nil, r_v, r_vg, r_pick, r_callg, callT, penv, postC, rcs, rc1, rvS, gok, gvb, eget, lk, lkv, oks, AS.put, AS.keep, evk, Opk.opds, isI, isInt, toI, isB, toB, isS, toS, sel, icmp, List.filterMap, List.map_cons, List.map_nil, List.append_nil, List.nil_append, Option.map_some, reduceCtorEq, and_true, true_and, forall_const, Nat.reduceEqDiff, ↓reduceIte, Int.reduceLE, Int.reduceToNat, Bool.true_and, implies_true, Bool.cond_true_left, imp_self, beq_false, Bool.not_eq_true', Bool.not_eq_false', Bool.or_eq_true, Bool.or_eq_false_iff, decide_eq_true_eq, decide_eq_false_iff_not, impA1, and_self, ret_eq, Nat.add_zero, wk_bool, c21, T3_31, sB, Int.natCast_nonneg, u8_lt]
  refine ⟨by omega, fun h => ?_, fun h => ?_⟩
  · refine (Bool.eq_false_iff.2 fun hh => ?_).symm
    simp only [nameS, Bool.and_eq_true, decide_eq_true_eq] at hh
    obtain ⟨⟨⟨h1, h2⟩, h3⟩, -⟩ := hh
    rcases h with (h | h) | h
    · omega
    · omega
    · rw [letB, h] at h3; cases h3
  refine k_loop (fun i : Nat => ⟨[(0, true, .str s), (3, true, .int .i64 i)], hnil, 0⟩)
    (fun i => i ≤ s.length ∧ ∀ j (hj : j < s.length), j < i → isPart ((s[j]).toNat : Int) = true) (fun i => s.length - i) 0 rfl ⟨by omega, fun j _ hj => by omega⟩ ?_
  rintro i ⟨hi, hall⟩
  by_cases hlt : i < s.length
  · have e := w64_succ (k := i) (by omega)
    simp only [kont_nil, kont_n, kont_e, kont_r, kont_bn, kont_be, kont_br, k_skip, k_exit, k_ret, k_seq, k_block, k_cond, k_reg, r_nil, r_v, r_call, callT, lpQ_n, lpQ_e, lpQ_r, postC, rcs, rc1, rvS, eget, lk, lkv, oks, AS.put, AS.keep, evk, Opk.opds, isI, isInt, toI, isB, toB, isS, toS, icmp, iarith, List.filterMap, List.map_cons, List.map_nil, List.append_nil, List.nil_append, Option.map_some, reduceCtorEq, and_true, true_and, forall_const, Nat.reduceEqDiff, ↓reduceIte, Bool.false_eq_true, Int.reduceEq, isDiv, false_implies, implies_true, Bool.not_eq_true', Bool.not_eq_false', ne_eq, not_false_eq_true, and_self, ret_eq, Nat.add_zero, wk_bool, decide_true, T3_32, sB, u8_lt, Int.ofNat_lt, hlt, Int.natCast_nonneg, Int.toNat_natCast, e, List.getElem?_eq_getElem hlt, Option.getD_some]
    refine ⟨fun hp => ?_, fun hp => .mk (i + 1) rfl ⟨by omega, fun j hj hji => ?_⟩ (by omega)⟩
    · simp only [nameS, part_all hlt hp, Bool.and_false]
    · by_cases q : j = i
      · subst q; exact hp
      · exact hall j hj (by omega)
  · simp only [kont_nil, kont_n, kont_e, kont_r, kont_bn, kont_be, kont_br, k_skip, k_exit, k_ret, k_seq, k_block, k_cond, k_reg, r_nil, r_v, r_call, callT, lpQ_n, lpQ_e, lpQ_r, postC, rcs, rc1, rvS, eget, lk, lkv, oks, AS.put, AS.keep, evk, Opk.opds, isI, isInt, toI, isB, toB, isS, toS, icmp, iarith, List.filterMap, List.map_cons, List.map_nil, List.append_nil, List.nil_append, Option.map_some, reduceCtorEq, true_and, forall_const, Nat.reduceEqDiff, ↓reduceIte, Bool.false_eq_true, Int.reduceEq, isDiv, false_implies, implies_true, Bool.not_eq_true', Bool.not_eq_false', ne_eq, not_false_eq_true, and_self, ret_eq, Nat.add_zero, wk_bool, decide_false, Int.ofNat_lt, hlt]
    rw [nameS, all_part fun j hj => hall j hj (by omega)]
    simp [letB, h.2]; omega
theorem scmp_nil (s : List UInt8) : scmp .eql s [] = decide (s.length = 0) := by cases s <;> rfl
theorem p20 (s : List UInt8) : Pur Tryd.prog 20 [.str s] (.bool (nameS s)) := by
  refine .mk (by simp [unders, AVal.under]) trivial (a20 (ev_awp T3_ok (ev_evK ?_)))
  simp only [kont_nil, kont_n, kont_r, k_skip, k_ret, k_seq, k_block, k_cond, k_reg, r_nil, r_v, r_vg, r_pick, r_callg, callT, penv, postC, rcs, rc1, rvS, gok, gvb, eget, lk, lkv, oks, AS.put, AS.keep, evk, Opk.opds, isI, isInt, toI, isB, toB, isS, toS, sel, icmp, List.filterMap, List.map_cons, List.map_nil, List.append_nil, List.nil_append, Option.map_some, reduceCtorEq, and_true, true_and, forall_const, Nat.reduceEqDiff, ↓reduceIte, Int.reduceLE, Int.reduceToNat, Bool.true_and, implies_true, Bool.cond_true_left, imp_self, beq_false, Bool.not_eq_true', Bool.not_eq_false', Bool.or_eq_true, Bool.or_eq_false_iff, decide_eq_true_eq, decide_eq_false_iff_not, impA1, and_self, ret_eq, Nat.add_zero, wk_bool, c20, T3_30, sB, u8_lt, scmp_nil]
  refine ⟨by omega, fun h => ?_, fun h => ?_⟩
  · refine (Bool.eq_false_iff.2 fun hh => ?_).symm
    simp only [nameS, Bool.and_eq_true, decide_eq_true_eq] at hh
    obtain ⟨⟨⟨h1, h2⟩, h3⟩, -⟩ := hh
    rcases h with (h | h) | h
    · omega
    · omega
    · rw [cls_let] at h; exact h h3
  refine k_loop (fun i : Nat => ⟨[(0, true, .str s), (19, true, .int .i64 s.length), (20, true, .int .i64 i)], hnil, 0⟩)
    (fun i => i ≤ s.length ∧ ∀ j (hj : j < s.length), j < i → isPart ((s[j]).toNat : Int) = true) (fun i => s.length - i) 0 rfl ⟨by omega, fun j _ hj => by omega⟩ ?_
  rintro i ⟨hi, hall⟩
  by_cases hlt : i < s.length
  · have e := w64_succ (k := i) (by omega)
    simp only [kont_nil, kont_n, kont_e, kont_r, kont_bn, kont_be, kont_br, k_skip, k_exit, k_ret, k_seq, k_block, k_cond, k_reg, r_nil, r_v, r_vg, r_pick, r_call, callT, lpQ_n, lpQ_e, lpQ_r, postC, rcs, rc1, rvS, gok, gvb, eget, lk, lkv, oks, AS.put, AS.keep, evk, Opk.opds, isI, isInt, toI, isB, toB, isS, toS, sel, icmp, iarith, List.filterMap, List.map_cons, List.map_nil, List.append_nil, List.nil_append, Option.map_some, reduceCtorEq, and_true, true_and, forall_const, Nat.reduceEqDiff, ↓reduceIte, Bool.false_eq_true, Int.reduceEq, Bool.true_and, isDiv, false_implies, implies_true, Bool.cond_false_right, imp_self, beq_true, Bool.not_eq_true', Bool.not_eq_false', Bool.and_eq_true, decide_eq_true_eq, decide_eq_false_iff_not, ne_eq, not_false_eq_true, and_self, ret_eq, Nat.add_zero, wk_bool, decide_true, T3_30, sB, u8_lt, Int.ofNat_lt, hlt, Int.natCast_nonneg, Int.toNat_natCast, e, List.getElem?_eq_getElem hlt, Option.getD_some]
    refine ⟨fun hp => ?_, fun hp => .mk (i + 1) rfl ⟨by omega, fun j hj hji => ?_⟩ (by omega)⟩
    · have : isPart ((s[i]).toNat : Int) = false := Bool.eq_false_iff.2 fun hh => by rw [← cls_part] at hh; simp [hp] at hh
      simp only [nameS, part_all hlt this, Bool.and_false]
    · by_cases q : j = i
      · subst q; rw [← cls_part]; simp at hp; omega
      · exact hall j hj (by omega)
  · simp only [kont_nil, kont_n, kont_e, kont_r, kont_bn, kont_be, kont_br, k_skip, k_exit, k_ret, k_seq, k_block, k_cond, k_reg, r_nil, r_v, r_vg, r_pick, r_call, callT, lpQ_n, lpQ_e, lpQ_r, postC, rcs, rc1, rvS, gok, gvb, eget, lk, lkv, oks, AS.put, AS.keep, evk, Opk.opds, isI, isInt, toI, isB, toB, isS, toS, sel, icmp, iarith, List.filterMap, List.map_cons, List.map_nil, List.append_nil, List.nil_append, Option.map_some, reduceCtorEq, and_true, true_and, forall_const, Nat.reduceEqDiff, ↓reduceIte, Bool.false_eq_true, Int.reduceEq, Bool.true_and, isDiv, false_implies, implies_true, Bool.cond_false_right, imp_self, beq_true, Bool.not_eq_true', Bool.not_eq_false', Bool.and_eq_true, decide_eq_true_eq, decide_eq_false_iff_not, ne_eq, not_false_eq_true, impA1, and_self, ret_eq, Nat.add_zero, wk_bool, decide_false, Int.ofNat_lt, hlt]
    rw [nameS, all_part fun j hj => hall j hj (by omega)]
    have h3 := h.2
    rw [cls_let] at h3
    simp [letB, h3]; omega
end Go.AM
end

/- Tokens: valid ones, few ones, equal ones. Conditions: none. -/
section
set_option maxRecDepth 10000
set_option linter.unusedSimpArgs false
set_option linter.unusedVariables false
set_option linter.unusedVariables false
set_option linter.unusedSimpArgs false
namespace Go.AM
open Go.Proofs Go.Lib

/-- A token: kind, text, number, place. -/
structure Tkn where
  K : Int
  T : List UInt8
  N : Int
  A : Int
abbrev encK (t : Tkn) : AVal := .agg [.int .i64 t.K, .str t.T, .int .i64 t.N, .int .i64 t.A]
def decK : AVal → Tkn
  | .agg [.int _ a, .str s, .int _ b, .int _ c] => ⟨a, s, b, c⟩
  | _ => ⟨0, [], 0, 0⟩
theorem decK_encK (t : Tkn) : decK (encK t) = t := rfl
theorem decK_map (l : List Tkn) : (l.map encK).map decK = l := by rw [List.map_map]; exact List.map_id _
def encdK (L : List AVal) : Prop := L = (L.map decK).map encK
theorem encdK_map (l : List Tkn) : encdK (l.map encK) := by unfold encdK; rw [decK_map]
theorem encK_under (n : Nat) (l : List Tkn) : unders n (l.map encK) := unders_map (fun x => by simp [AVal.under, unders]) l
theorem u8_idx {s : List UInt8} (h : s.length = 1) : (0 : Int) < s.length := by omega

def validS (t : Tkn) : Bool :=
  if t.K = 1 then nameS t.T && decide (t.N = 0)
  else if t.K = 2 then decide (t.T.length = 0) && decide (0 ≤ t.N) && decide (t.N ≤ 1099511627776)
  else if t.K = 3 then decide (t.T.length = 1) && sgnB (t.T[0]?.getD 0) && decide (t.N = 0)
  else false
def sS (f : List UInt8 → AVal) : List AVal → AHeap → Prop × AVal := fun a H => match a with
  | [.str x] => (True, f x)
  | _ => (False, .tup [])
theorem qS {fid : FuncId} {f : List UInt8 → AVal} (h : ∀ x, Pur Tryd.prog fid [.str x] (f x)) : ∀ args H n, (sS f args H).1 → Quiet Tryd.prog fid args H n (sS f args H).2 := by
  intro args H n hh
  unfold sS at hh ⊢
  split at hh
  · exact (h _).quiet H n
  · exact hh.elim
abbrev s20 := sS fun x => .bool (nameS x)
def T4 : Tab := tadd 20 s20 (tadd 21 s20 T3)
theorem T4_ok : TabOK Tryd.prog T4 := (T3_ok.add (qS p21)).add (qS p20)
theorem T4_20 (a : List AVal) (H : AHeap) : T4 20 a H = s20 a H := rfl
theorem T4_21 (a : List AVal) (H : AHeap) : T4 21 a H = s20 a H := rfl
theorem T4_30 (a : List AVal) (H : AHeap) : T4 30 a H = s30 a H := rfl
theorem T4_35 (a : List AVal) (H : AHeap) : T4 35 a H = s35 a H := rfl
theorem cls_sgn (b : UInt8) : clsI b.toNat = 4 ↔ sgnB b = true := by
  have key : ∀ x : Fin 256, clsI (x.val : Int) = 4 ↔ isSgn (x.val : Int) = true := by decide +kernel
  exact key ⟨b.toNat, b.toNat_lt⟩
theorem p36 (t : Tkn) : Pur Tryd.prog 36 [encK t] (.bool (validS t)) := by
  refine .mk (by simp [unders, AVal.under]) trivial (a36 (ev_awp T4_ok (ev_evK ?_)))
  simp only [kont_nil, kont_n, kont_r, kont_bn, kont_br, k_skip, k_ret, k_seq, k_block, k_cond, k_reg, r_nil, r_v, r_vg, r_pick, r_box, r_call, r_callg, callT, penv, postC, rcs, rc1, rvS, gok, gvb, eget, lk, lkv, oks, AS.put, AS.keep, evk, Opk.opds, aload, isI, isInt, toI, isB, toB, isS, toS, sel, mk, icmp, nT, hget_hset, hget_nil, AVal.cells, List.length_cons, List.length_nil, List.filterMap, List.map_cons, List.map_nil, List.append_nil, List.nil_append, Option.map_some, and_true, true_and, forall_const, Nat.reduceEqDiff, ↓reduceIte, Bool.false_eq_true, Nat.reduceAdd, List.drop, List.take, List.take_succ_cons, Nat.reduceLeDiff, Int.reduceLE, Int.reduceToNat, List.headD_cons, Bool.true_and, implies_true, Nat.zero_add, Bool.cond_false_right, imp_self, beq_true, Bool.and_eq_true, decide_eq_true_eq, decide_eq_false_iff_not, impA1, and_self, ret_eq, Nat.add_zero, wk_bool, c36, T4_20, sS, T4_30, sB, u8_lt, scmp_nil]
  refine ⟨fun h => ?_, fun h1 => ⟨fun h => ?_, fun h2 => ⟨fun h => ⟨fun q => ?_, ?_⟩, fun h3 => ?_⟩⟩⟩
  · simp [validS, h]
  · rw [Bool.eq_iff_iff]; simp [validS, h]
  · omega
  · rw [Bool.eq_iff_iff]
    simp only [validS, h, Bool.and_eq_true, decide_eq_true_eq, cls_sgn]
    simp
    omega
  · simp [validS, h1, h2, h3]
theorem p39 (t : Tkn) : Pur Tryd.prog 39 [encK t] (.bool (validS t)) := by
  refine .mk (by simp [unders, AVal.under]) trivial (a39 (ev_awp T4_ok (ev_evK ?_)))
  simp only [kont_nil, kont_n, kont_r, kont_bn, kont_br, k_skip, k_ret, k_seq, k_block, k_cond, k_reg, r_nil, r_v, r_vg, r_pick, r_box, r_call, r_callg, callT, penv, postC, rcs, rc1, rvS, gok, gvb, eget, lk, lkv, oks, AS.put, AS.keep, evk, Opk.opds, aload, isI, isInt, toI, isB, toB, isS, toS, sel, mk, icmp, nT, hget_hset, hget_nil, AVal.cells, List.length_cons, List.length_nil, List.filterMap, List.map_cons, List.map_nil, List.append_nil, List.nil_append, Option.map_some, and_true, true_and, forall_const, Nat.reduceEqDiff, ↓reduceIte, Bool.false_eq_true, Nat.reduceAdd, List.drop, List.take, List.take_succ_cons, Nat.reduceLeDiff, Int.reduceLE, Int.reduceToNat, List.headD_cons, Bool.true_and, implies_true, Nat.zero_add, Bool.cond_false_right, imp_self, beq_true, Bool.and_eq_true, decide_eq_true_eq, decide_eq_false_iff_not, impA1, and_self, ret_eq, Nat.add_zero, wk_bool, c39, T4_21, sS, T4_35, sB, u8_lt, scmp_nil]
  refine ⟨fun h => ?_, fun h1 => ⟨fun h => ?_, fun h2 => ⟨fun h => ⟨fun q => ?_, ?_⟩, fun h3 => ?_⟩⟩⟩
  · simp [validS, h]
  · rw [Bool.eq_iff_iff]; simp [validS, h]
  · omega
  · rw [Bool.eq_iff_iff]
    simp [validS, h, sgnB]
    omega
  · simp [validS, h1, h2, h3]
def sK (f : Tkn → AVal) : List AVal → AHeap → Prop × AVal := fun a H => match a with
  | [.agg [.int .i64 a, .str s, .int .i64 b, .int .i64 c]] => (True, f ⟨a, s, b, c⟩)
  | _ => (False, .tup [])
theorem qK {fid : FuncId} {f : Tkn → AVal} (h : ∀ x, Pur Tryd.prog fid [encK x] (f x)) : ∀ args H n, (sK f args H).1 → Quiet Tryd.prog fid args H n (sK f args H).2 := by
  intro args H n hh
  unfold sK at hh ⊢
  split at hh
  · exact (h ⟨_, _, _, _⟩).quiet H n
  · exact hh.elim
abbrev s36 := sK fun x => .bool (validS x)
/-- Equal apart from the places. -/
def eqK (x y : Tkn) : Bool := decide (x.K = y.K) && decide (x.T = y.T) && decide (x.N = y.N)
theorem scmp_eql (s t : List UInt8) : scmp .eql s t = decide (s = t) := rfl
theorem scmp_neq (s t : List UInt8) : scmp .neq s t = !decide (s = t) := rfl
theorem p42 (x y : Tkn) : Pur Tryd.prog 42 [encK x, encK y] (.bool (eqK x y)) := by
  refine .mk (by simp [unders, AVal.under]) trivial (a42 (ev_awp T4_ok (ev_evK ?_)))
  simp only [kont_nil, kont_n, k_ret, k_seq, k_reg, r_nil, r_v, r_vg, r_pick, r_box, penv, postC, rcs, rc1, rvS, gok, gvb, eget, lk, lkv, oks, AS.put, AS.keep, evk, Opk.opds, aload, isI, toI, isB, toB, isS, toS, sel, mk, icmp, nT, hget_hset, hget_nil, AVal.cells, List.length_cons, List.length_nil, List.filterMap, Option.map_some, reduceCtorEq, and_true, true_and, forall_const, Nat.reduceEqDiff, ↓reduceIte, Bool.false_eq_true, Nat.reduceAdd, List.drop, List.take, List.take_succ_cons, Nat.reduceLeDiff, List.headD_cons, Bool.true_and, implies_true, Nat.zero_add, Bool.cond_false_right, imp_self, beq_true, Bool.and_eq_true, decide_eq_true_eq, decide_eq_false_iff_not, and_self, ret_eq, Nat.add_zero, wk_bool, c42, scmp_eql]
  rfl
def s42 : List AVal → AHeap → Prop × AVal := fun a H => match a with
  | [.agg [.int .i64 a, .str s, .int .i64 b, .int .i64 c], .agg [.int .i64 a', .str s', .int .i64 b', .int .i64 c']] => (True, .bool (eqK ⟨a, s, b, c⟩ ⟨a', s', b', c'⟩))
  | _ => (False, .tup [])
theorem q42 : ∀ args H n, (s42 args H).1 → Quiet Tryd.prog 42 args H n (s42 args H).2 := by
  intro args H n h
  unfold s42 at h ⊢
  split at h
  · exact (p42 ⟨_, _, _, _⟩ ⟨_, _, _, _⟩).quiet H n
  · exact h.elim
/-- slices.EqualFunc with Same's own function. -/
def sameT (a b : List Tkn) : Bool := decide (a.length = b.length) && (a.zip b).all fun p => eqK p.1 p.2
theorem sameT_bad {a b : List Tkn} {i : Nat} (h1 : i < a.length) (h2 : i < b.length) (h : eqK a[i] b[i] = false) : sameT a b = false := by
  refine Bool.eq_false_iff.2 fun hh => ?_
  simp only [sameT, Bool.and_eq_true] at hh
  have := List.all_eq_true.1 hh.2 (a[i], b[i]) (List.mem_iff_getElem.2 ⟨i, by simp; omega, by simp⟩)
  rw [h] at this; cases this
theorem sameT_good {a b : List Tkn} (hl : a.length = b.length) (h : ∀ j (h1 : j < a.length) (h2 : j < b.length), eqK a[j] b[j] = true) : sameT a b = true := by
  simp only [sameT, Bool.and_eq_true, decide_eq_true_eq]
  refine ⟨hl, List.all_eq_true.2 fun p hp => ?_⟩
  obtain ⟨j, hj, rfl⟩ := List.mem_iff_getElem.1 hp
  simp only [List.length_zip] at hj
  simpa using h j (by omega) (by omega)
def T5 : Tab := tadd 36 s36 (tadd 39 s36 (tadd 42 s42 T4))
theorem T5_ok : TabOK Tryd.prog T5 := ((T4_ok.add q42).add (qK p39)).add (qK p36)
theorem T5_36 (a : List AVal) (H : AHeap) : T5 36 a H = s36 a H := rfl
theorem T5_39 (a : List AVal) (H : AHeap) : T5 39 a H = s36 a H := rfl
theorem T5_42 (a : List AVal) (H : AHeap) : T5 42 a H = s42 a H := rfl
theorem p19 (a b : List Tkn) (ha : a.length < 1000000000) : Pur Tryd.prog 19 [.sl (.none 4) (a.map encK), .sl (.none 4) (b.map encK)] (.bool (sameT a b)) := by
  refine .mk ⟨⟨trivial, encK_under 0 a⟩, ⟨trivial, encK_under 0 b⟩, trivial⟩ trivial (a19 (ev_awp TabOK.tnil (ev_evK ?_)))
  simp only [kont_nil, kont_n, kont_r, k_skip, k_ret, k_seq, k_block, k_cond, k_reg, r_nil, r_v, penv, postC, rcs, rc1, rvS, eget, lk, lkv, oks, AS.put, AS.keep, evk, Opk.opds, isI, toI, isB, toB, icmp, List.filterMap, Option.map_some, reduceCtorEq, true_and, Nat.reduceEqDiff, ↓reduceIte, Nat.zero_add, Bool.not_eq_true', Bool.not_eq_false', decide_eq_true_eq, decide_eq_false_iff_not, and_self, ret_eq, Nat.add_zero, wk_bool, c19, List.length_map]
  refine ⟨fun h => ?_, fun h => ?_⟩
  · refine (Bool.eq_false_iff.2 fun hh => ?_).symm
    simp [sameT] at hh; omega
  have hl : a.length = b.length := by omega
  refine k_loop (fun i : Nat => ⟨[(0, true, .sl (.none 4) (a.map encK)), (1, true, .sl (.none 4) (b.map encK)), (5, true, .int .i64 i)], hnil, 0⟩)
    (fun i => i ≤ a.length ∧ ∀ j (h1 : j < a.length) (h2 : j < b.length), j < i → eqK a[j] b[j] = true) (fun i => a.length - i) 0 rfl ⟨by omega, fun j _ _ hj => by omega⟩ ?_
  rintro i ⟨hi, hall⟩
  by_cases hlt : i < a.length
  · have e := w64_succ (k := i) (by omega)
    have hlt2 : i < b.length := by omega
    simp only [kont_nil, kont_n, kont_e, kont_r, kont_bn, kont_be, kont_br, k_skip, k_exit, k_ret, k_seq, k_block, k_cond, k_reg, r_nil, r_v, r_vg, r_pick, lpQ_n, lpQ_e, lpQ_r, postC, rcs, rc1, rvS, gok, gvb, eget, lk, lkv, oks, AS.put, AS.keep, evk, Opk.opds, aload, isI, isInt, toI, isB, toB, isS, toS, sel, mk, icmp, iarith, AVal.cells, Tok.esz, List.length_cons, List.length_nil, List.filterMap, Option.map_some, reduceCtorEq, and_true, true_and, forall_const, Nat.reduceEqDiff, ↓reduceIte, Bool.false_eq_true, Nat.reduceAdd, List.drop, List.take, Nat.reduceLeDiff, Int.reduceEq, List.headD_cons, Bool.true_and, isDiv, false_implies, implies_true, Nat.zero_add, Bool.cond_true_left, imp_self, beq_false, Bool.not_eq_true', Bool.not_eq_false', Bool.or_eq_true, Bool.or_eq_false_iff, decide_eq_true_eq, decide_eq_false_iff_not, ne_eq, not_false_eq_true, and_self, ret_eq, Nat.add_zero, wk_bool, decide_true, List.length_map, Int.ofNat_lt, hlt, hlt2, List.getElem?_map, List.getElem?_eq_getElem hlt, List.getElem?_eq_getElem hlt2, Int.toNat_natCast, Option.getD_some, Int.natCast_nonneg, e, scmp_neq]
    refine ⟨fun h => (sameT_bad hlt hlt2 ?_).symm, fun h => .mk (i + 1) rfl ⟨by omega, fun j h1 h2 hj => ?_⟩ (by omega)⟩
    · simp [eqK]; grind
    · by_cases q : j = i
      · subst q; simp [eqK]; grind
      · exact hall j h1 h2 (by omega)
  · simp only [kont_nil, kont_n, kont_e, kont_r, kont_bn, kont_be, kont_br, k_skip, k_exit, k_ret, k_seq, k_block, k_cond, k_reg, r_nil, r_v, r_vg, r_pick, lpQ_n, lpQ_e, lpQ_r, postC, rcs, rc1, rvS, gok, gvb, eget, lk, lkv, oks, AS.put, AS.keep, evk, Opk.opds, aload, isI, isInt, toI, isB, toB, isS, toS, sel, mk, icmp, iarith, AVal.cells, Tok.esz, List.filterMap, Option.map_some, reduceCtorEq, and_true, true_and, forall_const, Nat.reduceEqDiff, ↓reduceIte, Bool.false_eq_true, List.drop, Int.reduceEq, Bool.true_and, isDiv, false_implies, implies_true, Bool.cond_true_left, imp_self, beq_false, Bool.not_eq_true', Bool.not_eq_false', Bool.or_eq_true, Bool.or_eq_false_iff, decide_eq_true_eq, decide_eq_false_iff_not, ne_eq, not_false_eq_true, impA1, and_self, ret_eq, Nat.add_zero, wk_bool, decide_false, List.length_map, Int.ofNat_lt, hlt]
    exact (sameT_good hl fun j h1 h2 => hall j h1 h2 (by omega)).symm
theorem p41 (a b : List Tkn) (ha : a.length < 1000000000) : Pur Tryd.prog 41 [.sl (.none 4) (a.map encK), .sl (.none 4) (b.map encK), .fn (.func 42) [] []] (.bool (sameT a b)) := by
  refine .mk ⟨⟨trivial, encK_under 0 a⟩, ⟨trivial, encK_under 0 b⟩, ⟨trivial, trivial⟩, trivial⟩ trivial (a41 (ev_awp T5_ok (ev_evK ?_)))
  simp only [kont_nil, kont_n, kont_r, k_skip, k_ret, k_seq, k_block, k_cond, k_reg, r_nil, r_v, penv, postC, rcs, rc1, rvS, eget, lk, lkv, oks, AS.put, AS.keep, evk, Opk.opds, isI, toI, isB, toB, icmp, List.filterMap, Option.map_some, reduceCtorEq, true_and, Nat.reduceEqDiff, ↓reduceIte, Nat.reduceAdd, Nat.zero_add, Bool.not_eq_true', Bool.not_eq_false', decide_eq_true_eq, decide_eq_false_iff_not, and_self, ret_eq, Nat.add_zero, wk_bool, c41, List.length_map]
  refine ⟨fun h => ?_, fun h => ?_⟩
  · refine (Bool.eq_false_iff.2 fun hh => ?_).symm
    simp [sameT] at hh; omega
  have hl : a.length = b.length := by omega
  refine k_loop (fun i : Nat => ⟨[(1, true, .sl (.none 4) (b.map encK)), (2, true, .fn (.func 42) [] []), (15, true, .sl (.none 4) (a.map encK)), (16, true, .int .i64 a.length), (17, true, .int .i64 i)], hnil, 0⟩)
    (fun i => i ≤ a.length ∧ ∀ j (h1 : j < a.length) (h2 : j < b.length), j < i → eqK a[j] b[j] = true) (fun i => a.length - i) 0 rfl ⟨by omega, fun j _ _ hj => by omega⟩ ?_
  rintro i ⟨hi, hall⟩
  by_cases hlt : i < a.length
  · have e := w64_succ (k := i) (by omega)
    have hlt2 : i < b.length := by omega
    simp only [kont_nil, kont_n, kont_e, kont_r, kont_bn, kont_be, kont_br, k_skip, k_exit, k_ret, k_seq, k_block, k_cond, k_reg, r_nil, r_v, r_alloc, r_st, r_call, stE, callT, lpQ_n, lpQ_e, lpQ_r, postC, rcs, rc1, rvS, eget, lk, lkv, oks, AS.put, AS.keep, evk, splice, Opk.opds, aload, isI, isInt, toI, isB, toB, mk, icmp, iarith, nT, hget_hset, hget_nil, AVal.cells, Tok.esz, List.length_cons, List.length_nil, List.filterMap, List.map_cons, List.map_nil, List.append_nil, List.nil_append, Option.map_some, reduceCtorEq, and_true, true_and, forall_const, Nat.reduceEqDiff, ↓reduceIte, Bool.false_eq_true, Nat.reduceAdd, List.drop, List.take, List.drop_succ_cons, List.take_succ_cons, Int.reduceEq, Nat.le_refl, isDiv, false_implies, implies_true, Nat.zero_add, Bool.not_eq_true', Bool.not_eq_false', ne_eq, not_false_eq_true, and_self, ret_eq, Nat.add_zero, wk_bool, decide_true, T5_42, s42, List.length_map, Int.ofNat_lt, hlt, hlt2, List.getElem?_map, List.getElem?_eq_getElem hlt, List.getElem?_eq_getElem hlt2, Int.toNat_natCast, Option.getD_some, Int.natCast_nonneg, e]
    refine ⟨fun h => (sameT_bad hlt hlt2 h).symm, fun h => lpN.drop (i + 1) rfl rfl rfl rfl Fresh.nil ?_ ?_ ⟨by omega, fun j h1 h2 hj => ?_⟩ (by omega)⟩
    · exact fun id ob ho => by simp [hget, hnil] at ho
    · exact ⟨⟨trivial, encK_under _ b⟩, ⟨trivial, trivial⟩, ⟨trivial, encK_under _ a⟩, trivial, trivial, trivial⟩
    · by_cases q : j = i
      · subst q; exact h
      · exact hall j h1 h2 (by omega)
  · simp only [kont_nil, kont_n, kont_e, kont_r, kont_bn, kont_be, kont_br, k_skip, k_exit, k_ret, k_seq, k_block, k_cond, k_reg, r_nil, r_v, r_alloc, r_st, r_call, stE, callT, lpQ_n, lpQ_e, lpQ_r, postC, rcs, rc1, rvS, eget, lk, lkv, oks, AS.put, AS.keep, evk, splice, Opk.opds, aload, isI, isInt, toI, isB, toB, mk, icmp, iarith, nT, hget_hset, hget_nil, AVal.cells, Tok.esz, List.length_cons, List.length_nil, List.filterMap, List.map_cons, List.map_nil, List.append_nil, List.nil_append, Option.map_some, true_and, forall_const, Nat.reduceEqDiff, ↓reduceIte, Bool.false_eq_true, Nat.reduceAdd, List.drop, List.take, Int.reduceEq, Nat.le_refl, isDiv, false_implies, implies_true, Nat.zero_add, Bool.not_eq_true', Bool.not_eq_false', ne_eq, not_false_eq_true, and_self, ret_eq, Nat.add_zero, wk_bool, decide_false, List.length_map, Int.ofNat_lt, hlt]
    exact (sameT_good hl fun j h1 h2 => hall j h1 h2 (by omega)).symm
end Go.AM
end

/- Tokens: Same, Equal, Few; lists of classes. Conditions: none. -/
section
set_option maxRecDepth 10000
set_option linter.unusedSimpArgs false
set_option linter.unusedVariables false
set_option linter.unusedVariables false
set_option linter.unusedSimpArgs false
namespace Go.AM
open Go.Proofs Go.Lib

def s2K (f : List Tkn → List Tkn → AVal) : List AVal → AHeap → Prop × AVal := fun a H => match a with
  | [.sl t L, .sl t' L'] => (encdK L ∧ encdK L' ∧ (t.esz = 4 ∨ L = []) ∧ (t'.esz = 4 ∨ L' = []) ∧ L.length < 1000000000 ∧ L'.length < 1000000000, f (L.map decK) (L'.map decK))
  | _ => (False, .tup [])
theorem q2K {fid : FuncId} {f : List Tkn → List Tkn → AVal} (h : ∀ a b : List Tkn, a.length < 1000000000 → b.length < 1000000000 → Pur Tryd.prog fid [.sl (.none 4) (a.map encK), .sl (.none 4) (b.map encK)] (f a b)) :
    ∀ args H n, (s2K f args H).1 → Quiet Tryd.prog fid args H n (s2K f args H).2 := by
  intro args H n hh
  unfold s2K at hh ⊢
  split at hh
  · rename_i t L t' L'
    simp only at hh
    refine ACalls.args ((h (L.map decK) (L'.map decK) (by simpa using hh.2.2.2.2.1) (by simpa using hh.2.2.2.2.2)).quiet H n) ?_
    rintro g vs ⟨v, r, rfl, k1, w, r', rfl, k2, k3⟩
    refine ⟨v, _, rfl, ?_, w, r', rfl, ?_, k3⟩
    · rw [← hh.1]; exact Wk.sl hh.2.2.1 _ _ k1
    · rw [← hh.2.1]; exact Wk.sl hh.2.2.2.1 _ _ k2
  · exact hh.elim
def s41 : List AVal → AHeap → Prop × AVal := fun a H => match a with
  | [.sl t L, .sl t' L', .fn (.func 42) [] []] => (encdK L ∧ encdK L' ∧ (t.esz = 4 ∨ L = []) ∧ (t'.esz = 4 ∨ L' = []) ∧ L.length < 1000000000, .bool (sameT (L.map decK) (L'.map decK)))
  | _ => (False, .tup [])
theorem q41 : ∀ args H n, (s41 args H).1 → Quiet Tryd.prog 41 args H n (s41 args H).2 := by
  intro args H n hh
  unfold s41 at hh ⊢
  split at hh
  · rename_i t L t' L'
    simp only at hh
    refine ACalls.args ((p41 (L.map decK) (L'.map decK) (by simpa using hh.2.2.2.2)).quiet H n) ?_
    rintro g vs ⟨v, r, rfl, k1, w, r', rfl, k2, k3⟩
    refine ⟨v, _, rfl, ?_, w, r', rfl, ?_, k3⟩
    · rw [← hh.1]; exact Wk.sl hh.2.2.1 _ _ k1
    · rw [← hh.2.1]; exact Wk.sl hh.2.2.2.1 _ _ k2
  · exact hh.elim
def T6 : Tab := tadd 41 s41 (tadd 19 (s2K fun a b => .bool (sameT a b)) T5)
theorem T6_ok : TabOK Tryd.prog T6 := (T5_ok.add (q2K fun a b h _ => p19 a b h)).add q41
theorem T6_41 (a : List AVal) (H : AHeap) : T6 41 a H = s41 a H := rfl
theorem T6_19 (a : List AVal) (H : AHeap) : T6 19 a H = s2K (fun a b => .bool (sameT a b)) a H := rfl
theorem p18 (a b : List Tkn) (ha : a.length < 1000000000) : Pur Tryd.prog 18 [.sl (.none 4) (a.map encK), .sl (.none 4) (b.map encK)] (.bool (sameT a b)) := by
  refine .mk ⟨⟨trivial, encK_under 0 a⟩, ⟨trivial, encK_under 0 b⟩, trivial⟩ trivial (a18 (ev_awp T6_ok (ev_evK ?_)))
  simp only [kont_nil, kont_n, k_ret, k_seq, k_reg, r_nil, r_v, r_call, callT, penv, postC, rcs, rc1, rvS, eget, lk, lkv, oks, AS.put, AS.keep, evk, Opk.opds, Tok.esz, List.filterMap, List.map_cons, List.map_nil, List.append_nil, List.nil_append, Option.map_some, reduceCtorEq, Nat.reduceEqDiff, ↓reduceIte, Nat.zero_add, and_self, true_or, ret_eq, Nat.add_zero, wk_bool, c18, T6_41, s41, decK_map, encdK_map, List.length_map, ha]
/-- Equal, with the places. -/
def equalT (a b : List Tkn) : Bool := sameT a b && (a.zip b).all fun p => decide (p.1.A = p.2.A)
theorem p14 (a b : List Tkn) (ha : a.length < 1000000000) (hb : b.length < 1000000000) : Pur Tryd.prog 14 [.sl (.none 4) (a.map encK), .sl (.none 4) (b.map encK)] (.bool (equalT a b)) := by
  refine .mk ⟨⟨trivial, encK_under 0 a⟩, ⟨trivial, encK_under 0 b⟩, trivial⟩ trivial (a14 (ev_awp T6_ok (ev_evK ?_)))
  simp only [kont_nil, kont_n, kont_r, k_skip, k_ret, k_seq, k_block, k_cond, k_reg, r_nil, r_v, r_call, callT, penv, postC, rcs, rc1, rvS, eget, lk, lkv, oks, AS.put, AS.keep, evk, Opk.opds, isB, toB, Tok.esz, List.filterMap, List.map_cons, List.map_nil, List.append_nil, List.nil_append, Option.map_some, reduceCtorEq, true_and, Nat.reduceEqDiff, ↓reduceIte, Nat.zero_add, Bool.not_eq_true', Bool.not_eq_false', and_self, true_or, ret_eq, Nat.add_zero, wk_bool, c14, T6_19, s2K, decK_map, encdK_map, List.length_map, ha, hb]
  refine ⟨fun h => ?_, fun h => ?_⟩
  · simp only [equalT, h, Bool.false_and]
  have hl : a.length = b.length := by simp [sameT] at h; exact h.1
  refine k_loop (fun i : Nat => ⟨[(0, true, .sl (.none 4) (a.map encK)), (1, true, .sl (.none 4) (b.map encK)), (5, true, .int .i64 i)], hnil, 0⟩)
    (fun i => i ≤ a.length ∧ ∀ j (h1 : j < a.length) (h2 : j < b.length), j < i → a[j].A = b[j].A) (fun i => a.length - i) 0 rfl ⟨by omega, fun j _ _ hj => by omega⟩ ?_
  rintro i ⟨hi, hall⟩
  by_cases hlt : i < a.length
  · have e := w64_succ (k := i) (by omega)
    have hlt2 : i < b.length := by omega
    simp only [kont_nil, kont_n, kont_e, kont_r, kont_bn, kont_be, kont_br, k_skip, k_exit, k_ret, k_seq, k_block, k_cond, k_reg, r_nil, r_v, lpQ_n, lpQ_e, lpQ_r, postC, rcs, rc1, rvS, eget, lk, lkv, oks, AS.put, AS.keep, evk, Opk.opds, aload, isI, isInt, toI, isB, toB, mk, icmp, iarith, AVal.cells, Tok.esz, List.length_cons, List.length_nil, List.filterMap, Option.map_some, reduceCtorEq, and_true, true_and, forall_const, Nat.reduceEqDiff, ↓reduceIte, Bool.false_eq_true, List.drop, List.take, Int.reduceEq, Nat.le_refl, List.headD_cons, isDiv, false_implies, implies_true, Nat.zero_add, Bool.not_eq_true', Bool.not_eq_false', decide_eq_true_eq, decide_eq_false_iff_not, ne_eq, not_false_eq_true, and_self, ret_eq, Nat.add_zero, wk_bool, decide_true, List.length_map, Int.ofNat_lt, hlt, hlt2, List.getElem?_map, List.getElem?_eq_getElem hlt, List.getElem?_eq_getElem hlt2, Int.toNat_natCast, Option.getD_some, Int.natCast_nonneg, e]
    refine ⟨fun q => ?_, fun q => .mk (i + 1) rfl ⟨by omega, fun j h1 h2 hj => ?_⟩ (by omega)⟩
    · refine (Bool.eq_false_iff.2 fun hh => ?_).symm
      simp only [equalT, Bool.and_eq_true] at hh
      have := List.all_eq_true.1 hh.2 (a[i], b[i]) (List.mem_iff_getElem.2 ⟨i, by simp; omega, by simp⟩)
      exact q (by simpa using this)
    · by_cases q' : j = i
      · subst q'; exact q
      · exact hall j h1 h2 (by omega)
  · simp only [kont_nil, kont_n, kont_e, kont_r, kont_bn, kont_be, kont_br, k_skip, k_exit, k_ret, k_seq, k_block, k_cond, k_reg, r_nil, r_v, lpQ_n, lpQ_e, lpQ_r, postC, rcs, rc1, rvS, eget, lk, lkv, oks, AS.put, AS.keep, evk, Opk.opds, aload, isI, isInt, toI, isB, toB, mk, icmp, iarith, AVal.cells, Tok.esz, List.filterMap, Option.map_some, reduceCtorEq, true_and, forall_const, Nat.reduceEqDiff, ↓reduceIte, Bool.false_eq_true, Int.reduceEq, isDiv, false_implies, implies_true, Bool.not_eq_true', Bool.not_eq_false', decide_eq_true_eq, decide_eq_false_iff_not, ne_eq, not_false_eq_true, and_self, ret_eq, Nat.add_zero, wk_bool, decide_false, List.length_map, Int.ofNat_lt, hlt]
    rw [equalT, h, Bool.true_and]
    refine (List.all_eq_true.2 fun p hp => ?_).symm
    obtain ⟨j, hj, rfl⟩ := List.mem_iff_getElem.1 hp
    simp only [List.length_zip] at hj
    simpa using hall j (by omega) (by omega) (by omega)
/-- The sum of the texts' lengths, as the code adds it. -/
def sumW (l : List Tkn) : Int := l.foldl (fun n t => IntKind.wrap .i64 (n + t.T.length)) 0
def fewS (l : List Tkn) : Bool := decide (l.length ≤ 200) && decide (sumW l ≤ 2000)
theorem few_len {l : List Tkn} (h : fewS l = true) : l.length ≤ 200 := by
  simp only [fewS, Bool.and_eq_true, decide_eq_true_eq] at h; exact h.1
theorem p15 (l : List Tkn) (hl : l.length ≤ 9223372036854775807) : Pur Tryd.prog 15 [.sl (.none 4) (l.map encK)] (.bool (fewS l)) := by
  refine .mk ⟨⟨trivial, encK_under 0 l⟩, trivial⟩ trivial (a15 (ev_awp TabOK.tnil (ev_evK ?_)))
  simp only [kont_n, k_seq, k_block, k_reg, r_nil, r_v, penv, eget, lk, lkv, oks, AS.put, AS.keep, evk, Opk.opds, List.filterMap, Option.map_some, reduceCtorEq, true_and, Nat.reduceEqDiff, ↓reduceIte, and_self, Nat.add_zero, c15]
  refine k_loop (fun i : Nat => ⟨[(0, true, .sl (.none 4) (l.map encK)), (3, true, .int .i64 (sumW (l.take i))), (4, true, .int .i64 i)], hnil, 0⟩)
    (fun i => i ≤ l.length) (fun i => l.length - i) 0 rfl (by omega) ?_
  rintro i hi
  by_cases hlt : i < l.length
  · have e : IntKind.wrap .i64 ((i : Int) + 1) = ((i + 1 : Nat) : Int) := by rw [w64_in (by omega) (by omega)]; rfl
    have e2 : IntKind.wrap .i64 (sumW (l.take i) + (l[i].T.length : Int)) = sumW (l.take (i + 1)) := by
      rw [List.take_succ_eq_append_getElem hlt, sumW, sumW, List.foldl_append]; rfl
    simp only [kont_nil, kont_n, kont_e, kont_bn, kont_be, k_skip, k_exit, k_ret, k_seq, k_block, k_cond, k_reg, r_nil, r_v, r_vg, r_pick, lpQ_n, lpQ_e, postC, rcs, rc1, rvS, gok, gvb, eget, lk, lkv, oks, AS.put, AS.keep, evk, Opk.opds, aload, isI, isInt, toI, isB, toB, isS, toS, sel, mk, icmp, iarith, AVal.cells, Tok.esz, List.length_cons, List.length_nil, List.filterMap, Option.map_some, reduceCtorEq, and_true, true_and, forall_const, Nat.reduceEqDiff, ↓reduceIte, Bool.false_eq_true, Nat.reduceAdd, List.drop, List.take, Nat.reduceLeDiff, Int.reduceEq, List.headD_cons, Bool.true_and, isDiv, false_implies, implies_true, Nat.zero_add, Bool.cond_false_right, imp_self, beq_true, decide_eq_true_eq, decide_eq_false_iff_not, ne_eq, not_false_eq_true, and_self, ret_eq, Nat.add_zero, wk_bool, decide_true, List.length_map, Int.ofNat_lt, hlt, List.getElem?_map, List.getElem?_eq_getElem hlt, Int.toNat_natCast, Option.getD_some, Int.natCast_nonneg, e, e2]
    exact .mk (i + 1) rfl (by omega) (by omega)
  · have : i = l.length := by omega
    subst this
    simp only [kont_nil, kont_n, kont_e, kont_bn, kont_be, k_skip, k_exit, k_ret, k_seq, k_block, k_cond, k_reg, r_nil, r_v, r_vg, r_pick, lpQ_n, lpQ_e, postC, rcs, rc1, rvS, gok, gvb, eget, lk, lkv, oks, AS.put, AS.keep, evk, Opk.opds, aload, isI, isInt, toI, isB, toB, isS, toS, sel, mk, icmp, iarith, AVal.cells, Tok.esz, List.filterMap, Option.map_some, reduceCtorEq, and_true, true_and, forall_const, Nat.reduceEqDiff, ↓reduceIte, Bool.false_eq_true, Int.reduceEq, Bool.true_and, isDiv, false_implies, implies_true, Bool.cond_false_right, imp_self, beq_true, decide_eq_true_eq, decide_eq_false_iff_not, ne_eq, not_false_eq_true, and_self, ret_eq, Nat.add_zero, wk_bool, decide_false, List.length_map, Int.ofNat_lt, hlt, List.take_length]
    rw [Bool.eq_iff_iff]
    simp only [fewS, Bool.and_eq_true, decide_eq_true_eq]
    omega
end Go.AM
end

/- Tokens: the scanner's run. Conditions: none. -/
section
set_option maxRecDepth 10000
set_option linter.unusedSimpArgs false
set_option linter.unusedVariables false
set_option linter.unusedVariables false
set_option linter.unusedSimpArgs false
namespace Go.AM
open Go.Proofs Go.Lib

def idxZ : List Int → Int → Option Nat
  | [], _ => none
  | z :: r, x => if z = x then some 0 else (idxZ r x).map (· + 1)
theorem idxZ_some {x : Int} : ∀ (i : Nat) (zs : List Int), zs[i]? = some x → (∀ j < i, zs[j]? ≠ some x) → idxZ zs x = some i
  | _, [], h, _ => by simp at h
  | 0, z :: r, h, _ => by simp at h; simp [idxZ, h]
  | i + 1, z :: r, h, hn => by
    have h0 : z ≠ x := fun e => hn 0 (by omega) (by simp [e])
    rw [idxZ, if_neg h0, idxZ_some i r (by simpa using h) fun j hj => by have := hn (j + 1) (by omega); simpa using this]
    rfl
theorem idxZ_none {x : Int} : ∀ (zs : List Int), (∀ j : Nat, zs[j]? ≠ some x) → idxZ zs x = none
  | [], _ => rfl
  | z :: r, h => by
    have h0 : z ≠ x := fun e => h 0 (by simp [e])
    rw [idxZ, if_neg h0, idxZ_none r fun j => by have := h (j + 1); simpa using this]
    rfl
def idxV : Option Nat → Int
  | some i => i
  | none => -1
theorem idx_has {x : Int} : ∀ (zs : List Int), decide (0 ≤ idxV (idxZ zs x)) = zs.contains x
  | [] => rfl
  | z :: r => by
    have ih := idx_has (x := x) r
    rw [idxZ]
    by_cases h : z = x
    · rw [if_pos h]; simp [idxV, h]
    · rw [if_neg h]
      have h' : ¬ x = z := fun e => h e.symm
      rw [List.contains_cons, show (x == z) = false by simp [h'], Bool.false_or, ← ih]
      cases idxZ r x with
      | none => rfl
      | some i =>
        show decide ((0 : Int) ≤ ((i + 1 : Nat) : Int)) = decide ((0 : Int) ≤ (i : Int))
        rw [decide_eq_true (by omega), decide_eq_true (by omega)]
abbrev encZ (l : List Int) : List AVal := l.map (AVal.int .i64)
def decZ : AVal → Int
  | .int _ z => z
  | _ => 0
theorem encZ_under (n : Nat) (l : List Int) : unders n (encZ l) := unders_map (f := AVal.int .i64) (fun x => trivial) l
theorem p60 (zs : List Int) (x : Int) (hl : zs.length < 1000) : Pur Tryd.prog 60 [.sl (.none 1) (encZ zs), .int .i64 x] (.int .i64 (idxV (idxZ zs x))) := by
  refine .mk ⟨⟨trivial, encZ_under 0 zs⟩, trivial, trivial⟩ trivial (a60 (ev_awp TabOK.tnil (ev_evK ?_)))
  simp only [kont_n, k_seq, k_block, k_reg, r_nil, r_v, penv, eget, lk, lkv, oks, AS.put, AS.keep, evk, Opk.opds, List.filterMap, Option.map_some, reduceCtorEq, true_and, Nat.reduceEqDiff, ↓reduceIte, Nat.zero_add, and_self, Nat.add_zero, c60, List.length_map]
  refine k_loop (fun i : Nat => ⟨[(0, true, .sl (.none 1) (encZ zs)), (1, true, .int .i64 x), (7, true, .int .i64 zs.length), (8, true, .int .i64 i)], hnil, 0⟩)
    (fun i => i ≤ zs.length ∧ ∀ j < i, zs[j]? ≠ some x) (fun i => zs.length - i) 0 rfl ⟨by omega, fun j hj => by omega⟩ ?_
  rintro i ⟨hi, hall⟩
  by_cases hlt : i < zs.length
  · have e := w64_succ (k := i) (by omega)
    simp only [kont_nil, kont_n, kont_e, kont_r, kont_bn, kont_be, kont_br, k_skip, k_exit, k_ret, k_seq, k_block, k_cond, k_reg, r_nil, r_v, lpQ_n, lpQ_e, lpQ_r, postC, rcs, rc1, rvS, eget, lk, lkv, oks, AS.put, AS.keep, evk, Opk.opds, aload, isI, isInt, toI, isB, toB, mk, icmp, iarith, AVal.cells, Tok.esz, List.length_cons, List.length_nil, List.filterMap, Option.map_some, reduceCtorEq, and_true, true_and, forall_const, Nat.reduceEqDiff, ↓reduceIte, Bool.false_eq_true, List.take, Int.reduceEq, Nat.le_refl, List.headD_cons, isDiv, false_implies, implies_true, Nat.zero_add, decide_eq_true_eq, decide_eq_false_iff_not, ne_eq, not_false_eq_true, and_self, ret_eq, Nat.add_zero, wk_int, decide_true, List.length_map, Int.ofNat_lt, hlt, List.getElem?_map, List.getElem?_eq_getElem hlt, Int.toNat_natCast, Option.getD_some, Int.natCast_nonneg, e]
    refine ⟨fun h => ?_, fun h => .mk (i + 1) rfl ⟨by omega, fun j hj => ?_⟩ (by omega)⟩
    · rw [idxZ_some i zs (by rw [List.getElem?_eq_getElem hlt, h]) hall]; rfl
    · by_cases q : j = i
      · subst q; rw [List.getElem?_eq_getElem hlt]; simp; exact fun e => h e.symm
      · exact hall j (by omega)
  · simp only [kont_nil, kont_n, kont_e, kont_r, kont_bn, kont_be, kont_br, k_skip, k_exit, k_ret, k_seq, k_block, k_cond, k_reg, r_nil, r_v, lpQ_n, lpQ_e, lpQ_r, postC, rcs, rc1, rvS, eget, lk, lkv, oks, AS.put, AS.keep, evk, Opk.opds, aload, isI, isInt, toI, isB, toB, mk, icmp, iarith, AVal.cells, Tok.esz, List.filterMap, Option.map_some, reduceCtorEq, true_and, forall_const, Nat.reduceEqDiff, ↓reduceIte, Bool.false_eq_true, Int.reduceEq, isDiv, false_implies, implies_true, decide_eq_true_eq, decide_eq_false_iff_not, ne_eq, not_false_eq_true, and_self, ret_eq, Nat.add_zero, wk_int, decide_false, List.length_map, Int.ofNat_lt, hlt]
    rw [idxZ_none zs fun j => ?_]
    · rfl
    · by_cases q : j < zs.length
      · exact hall j (by omega)
      · rw [List.getElem?_eq_none (by omega)]; simp
def sZ (f : List Int → Int → AVal) : List AVal → AHeap → Prop × AVal := fun a H => match a with
  | [.sl t L, .int .i64 x] => (L = encZ (L.map decZ) ∧ (t.esz = 1 ∨ L = []) ∧ L.length < 1000, f (L.map decZ) x)
  | _ => (False, .tup [])
theorem qZ {fid : FuncId} {f : List Int → Int → AVal} (h : ∀ a x, a.length < 1000 → Pur Tryd.prog fid [.sl (.none 1) (encZ a), .int .i64 x] (f a x)) : ∀ args H n, (sZ f args H).1 → Quiet Tryd.prog fid args H n (sZ f args H).2 := by
  intro args H n hh
  unfold sZ at hh ⊢
  split at hh
  · rename_i t L x
    simp only at hh
    refine ACalls.args ((h (L.map decZ) x (by simpa using hh.2.2)).quiet H n) ?_
    rintro g vs ⟨v, r, rfl, k1, w, r', rfl, k2, k3⟩
    refine ⟨v, _, rfl, ?_, w, r', rfl, k2, k3⟩
    rw [← hh.1]; exact Wk.sl hh.2.1 _ _ k1
  · exact hh.elim
abbrev s60 := sZ fun a x => .int .i64 (idxV (idxZ a x))
def T7 : Tab := tadd 60 s60 T6
theorem T7_ok : TabOK Tryd.prog T7 := T6_ok.add (qZ p60)
theorem T7_60 (a : List AVal) (H : AHeap) : T7 60 a H = s60 a H := rfl
theorem decZ_map (l : List Int) : (encZ l).map decZ = l := by rw [List.map_map]; exact List.map_id _
theorem p52 (zs : List Int) (x : Int) (hl : zs.length < 1000) : Pur Tryd.prog 52 [.sl (.none 1) (encZ zs), .int .i64 x] (.bool (zs.contains x)) := by
  refine .mk ⟨⟨trivial, encZ_under 0 zs⟩, trivial, trivial⟩ trivial (a52 (ev_awp T7_ok (ev_evK ?_)))
  simp only [kont_nil, kont_n, k_ret, k_seq, k_reg, r_nil, r_v, r_call, callT, penv, postC, rcs, rc1, rvS, eget, lk, lkv, oks, AS.put, AS.keep, evk, Opk.opds, isI, toI, icmp, Tok.esz, List.filterMap, List.map_cons, List.map_nil, List.append_nil, List.nil_append, Option.map_some, reduceCtorEq, Nat.reduceEqDiff, ↓reduceIte, Nat.zero_add, and_self, true_or, ret_eq, Nat.add_zero, wk_bool, c52, T7_60, sZ, decZ_map, List.length_map, hl, idx_has]
abbrev s52 := sZ fun a x => .bool (a.contains x)
def T8 : Tab := tadd 52 s52 T7
theorem T8_ok : TabOK Tryd.prog T8 := T7_ok.add (qZ p52)
theorem T8_52 (a : List AVal) (H : AHeap) : T8 52 a H = s52 a H := rfl
theorem T8_30 (a : List AVal) (H : AHeap) : T8 30 a H = s30 a H := rfl
def runS (zs : List Int) (l : List UInt8) : List UInt8 := l.takeWhile fun b => zs.contains (clsI b.toNat)
theorem take_while {p : UInt8 → Bool} : ∀ (k : Nat) (l : List UInt8), (∀ j (hj : j < l.length), j < k → p l[j] = true) → (∀ (hk : k < l.length), p l[k] = false) → l.take k = l.takeWhile p
  | 0, [], _, _ => rfl
  | 0, b :: l, _, h => by
    have h0 : p b = false := h (by simp)
    simp [List.takeWhile, h0]
  | k + 1, [], _, _ => rfl
  | k + 1, b :: l, h1, h2 => by
    have h0 : p b = true := h1 0 (by simp) (by omega)
    rw [List.take_succ_cons, List.takeWhile_cons, if_pos h0, take_while k l (fun j hj hk => by have := h1 (j + 1) (by simp; omega) (by omega); simpa using this) fun hk => by have := h2 (by simp; omega); simpa using this]
theorem p43 {id : Nat} {H : AHeap} {n : Nat} {src : List UInt8} {at' : Nat} {x : AVal} {zs : List Int} (ho : hget H id = some (.box [.str src, .int .i64 at', x])) (h1 : at' ≤ src.length) (h2 : src.length < 1000000000) (hz : zs.length < 1000) :
    Quiet Tryd.prog 43 [.ptr id 0, .sl (.none 1) (encZ zs)] H n (.str (runS zs (src.drop at'))) := by
  refine Quiet.of l43 trivial fun hf => a43 (ev_awp T8_ok (ev_evK ?_))
  simp only [kont_n, k_seq, k_block, k_reg, r_nil, r_v, penv, eget, lk, lkv, oks, AS.put, AS.keep, evk, Opk.opds, aload, mk, List.length_cons, List.length_nil, List.filterMap, Option.map_some, reduceCtorEq, true_and, Nat.reduceEqDiff, ↓reduceIte, Bool.false_eq_true, Nat.reduceAdd, List.drop, List.take, List.take_succ_cons, Nat.reduceLeDiff, List.headD_cons, Nat.zero_add, and_self, Nat.add_zero, c43, ho]
  refine k_loop (fun i : Nat => ⟨[(0, true, .ptr id 0), (1, true, .sl (.none 1) (encZ zs)), (5, true, .int .i64 i)], H, n⟩)
    (fun i => at' ≤ i ∧ i ≤ src.length ∧ ∀ j (hj : j < src.length), at' ≤ j → j < i → zs.contains (clsI (src[j]).toNat) = true) (fun i => src.length - i) at' rfl ⟨by omega, by omega, fun j _ _ hj => by omega⟩ ?_
  rintro i ⟨hi, hil, hall⟩
  have fin : (∀ (hk : i < src.length), zs.contains (clsI (src[i]).toNat) = false) → (src.take i).drop at' = runS zs (src.drop at') := by
    intro hk
    rw [List.drop_take, runS]
    refine take_while _ _ (fun j hj hji => ?_) fun hk' => ?_
    · simp only [List.length_drop] at hj
      rw [List.getElem_drop]; exact hall _ (by omega) (by omega) (by omega)
    · simp only [List.length_drop] at hk'
      rw [List.getElem_drop]
      have := hk (by omega)
      have e : at' + (i - at') = i := by omega
      simp only [e]; exact this
  by_cases hlt : i < src.length
  · have e := w64_succ (k := i) (by omega)
    simp only [kont_nil, kont_n, kont_e, kont_bn, kont_be, k_skip, k_exit, k_ret, k_seq, k_block, k_cond, k_reg, r_nil, r_v, r_vg, r_pick, r_callg, callT, lpQ_n, lpQ_e, postC, rcs, rc1, rvS, gok, gvb, eget, lk, lkv, oks, AS.put, AS.keep, evk, Opk.opds, aload, isI, isInt, toI, isB, toB, isS, toS, sel, mk, icmp, iarith, bnd, bndI, Tok.esz, Option.toList, List.length_cons, List.length_nil, List.filterMap, List.map_cons, List.map_nil, List.append_nil, List.nil_append, List.cons_append, Option.map_some, reduceCtorEq, and_true, true_and, forall_const, Nat.reduceEqDiff, ↓reduceIte, Bool.false_eq_true, Nat.reduceAdd, List.drop, List.take, List.take_succ_cons, Nat.reduceLeDiff, Int.reduceEq, List.headD_cons, Bool.and_true, beq_self_eq_true, isDiv, implies_true, Nat.zero_add, ne_eq, not_false_eq_true, and_self, true_or, qret_eq, Nat.add_zero, wk_str, decide_true, cond_true, ho, T8_30, sB, T8_52, sZ, decZ_map, List.length_map, hz, u8_lt, Int.ofNat_lt, hlt, List.getElem?_eq_getElem hlt, Int.toNat_natCast, Option.getD_some, Int.natCast_nonneg, e, Keeps.refl]
    refine ⟨fun hc => .mk (i + 1) rfl ⟨by omega, by omega, fun j hj h3 h4 => ?_⟩ (by omega), fun hc => ⟨by omega, fin fun _ => hc⟩⟩
    by_cases q : j = i
    · subst q; exact hc
    · exact hall j hj h3 (by omega)
  · simp only [kont_nil, kont_n, kont_e, kont_bn, kont_be, k_skip, k_exit, k_ret, k_seq, k_block, k_cond, k_reg, r_nil, r_v, r_vg, r_pick, r_callg, callT, lpQ_n, lpQ_e, postC, rcs, rc1, rvS, gok, gvb, eget, lk, lkv, oks, AS.put, AS.keep, evk, Opk.opds, aload, isI, isInt, toI, isB, toB, isS, toS, sel, mk, icmp, iarith, bnd, bndI, Tok.esz, Option.toList, List.length_cons, List.length_nil, List.filterMap, List.map_cons, List.map_nil, List.append_nil, List.nil_append, List.cons_append, Option.map_some, reduceCtorEq, and_true, true_and, forall_const, Nat.reduceEqDiff, ↓reduceIte, Bool.false_eq_true, Nat.reduceAdd, List.drop, List.take, List.take_succ_cons, Nat.reduceLeDiff, Int.reduceEq, List.headD_cons, isDiv, false_implies, implies_true, Nat.zero_add, imp_self, beq_true, ne_eq, not_false_eq_true, and_self, true_or, qret_eq, Nat.add_zero, wk_str, decide_false, Bool.and_false, cond_false, ho, T8_30, sB, T8_52, sZ, decZ_map, List.length_map, hz, u8_lt, Int.ofNat_lt, hlt, Keeps.refl, Int.toNat_natCast, Int.natCast_nonneg]
    exact ⟨by omega, fin fun q => absurd q hlt⟩
end Go.AM
end

/- Tokens: the scanner's steps. Conditions: none. -/
section
set_option maxRecDepth 10000
set_option linter.unusedSimpArgs false
set_option linter.unusedVariables false
set_option linter.unusedVariables false
set_option linter.unusedSimpArgs false
namespace Go.AM
open Go.Proofs Go.Lib

def tokK (H : AHeap) (tok : Tok) (out : List Tkn) : Prop := (tok = .nil ∧ out = []) ∨ ∃ id, tok = .own id 4 ∧ hget H id = some .tok
def FrameK (sid : Nat) (H H' : AHeap) : Prop := ∀ id ob, hget H id = some ob → id ≠ sid → ob ≠ .tok → hget H' id = some ob
theorem FrameK.refl (sid : Nat) (H : AHeap) : FrameK sid H H := fun _ _ h _ _ => h
theorem FrameK.trans {sid : Nat} {H H' H'' : AHeap} (h : FrameK sid H H') (k : FrameK sid H' H'') : FrameK sid H H'' := fun id ob x y z => k id ob (h id ob x y z) y z
inductive ScR where
  | ok (a : Nat) (ts : List Tkn)
  | err (a : Nat)
abbrev scBox (src : List UInt8) (a : Nat) (tk : Tok) (ts : List Tkn) : AObj := .box [.str src, .int .i64 a, .sl tk (ts.map encK)]
/-- What a step of the scanner brings about. -/
def ScPost (H : AHeap) (n sid : Nat) (src : List UInt8) : ScR → AOut → AHeap → Nat → Prop
  | .ok a ts => fun o H' n' => o = .ret (.tup []) ∧ n ≤ n' ∧ (∃ tk, hget H' sid = some (scBox src a tk ts) ∧ tokK H' tk ts) ∧ Fresh H' n' ∧ FrameK sid H H'
  | .err a => fun o H' n' => o = .pan (.ifc 42 (.int .i64 a)) ∧ n ≤ n' ∧ Fresh H' n' ∧ FrameK sid H H'
/-- The scanner before a step. -/
structure Sc (H : AHeap) (n sid : Nat) (src : List UInt8) (a : Nat) (tk : Tok) (ts : List Tkn) : Prop where
  box : hget H sid = some (scBox src a tk ts)
  tok : tokK H tk ts
  fr : Fresh H n
  le : a ≤ src.length
  sz : src.length ≤ 65536
  few : ts.length ≤ a

theorem T8_36 (a : List AVal) (H : AHeap) : T8 36 a H = s36 a H := rfl
def addS (a : Nat) (ts : List Tkn) (text : List UInt8) (t : Tkn) : ScR := if validS t then .ok (a + text.length) (ts ++ [⟨t.K, t.T, t.N, a⟩]) else .err a
theorem p44 {H : AHeap} {n sid : Nat} {src : List UInt8} {a : Nat} {tk : Tok} {ts : List Tkn} (sc : Sc H n sid src a tk ts) (text : List UInt8) (t : Tkn) (ht : text.length ≤ 65536) :
    ACalls Tryd.prog 44 [.ptr sid 0, .str text, encK t] H n (ScPost H n sid src (addS a ts text t)) := by
  obtain ⟨hb, htk, hfr, hle, hsz, hfew⟩ := sc
  have hlt := hfr.lt hb
  have e0 : (n = sid) = False := eq_false (by omega)
  have e1 : (n + 8 = sid) = False := eq_false (by omega)
  have e : IntKind.wrap .i64 ((a : Int) + text.length) = ((a + text.length : Nat) : Int) := by rw [w64_in (by omega) (by omega)]; rfl
  have hn := hfr n (Nat.le_refl _)
  have hn8 := hfr (n + 8) (by omega)
  have e3 : (n = n + 8) = False := eq_false (by omega)
  have l1 : (ts.length ≤ 35184372088831) = True := eq_true (by omega)
  have l2 : small (ts.length + 1) 40 = True := eq_true (by unfold small; omega)
  have bad : validS t = false → ScPost H n sid src (addS a ts text t) (.pan (.ifc 42 (.int .i64 a))) (hset H n (.box [.int .i64 t.K, .str t.T, .int .i64 t.N, .int .i64 t.A])) (n + 1) := by
    intro hv
    simp only [addS, hv, Bool.false_eq_true, if_false]
    exact ⟨rfl, by omega, hfr.hset (by omega) (by omega), fun j ob ho _ _ => by rw [hget_hset_ne _ _ _ _ (by have := hfr.lt ho; omega)]; exact ho⟩
  refine a44 (ev_awp T8_ok (ev_evK ?_))
  rcases htk with ⟨rfl, rfl⟩ | ⟨id, rfl, hid⟩
  · simp only [kont_nil, kont_n, kont_p, k_skip, k_seq, k_cond, k_reg, r_nil, r_v, r_box, r_st, r_call, r_app, r_pan, stE, appE, callT, penv, postC, rcs, rvS, eget, lk, lkv, oks, AS.put, AS.keep, evk, evS_eq, allS, fillS, splice, Opk.opds, aload, isI, toI, isB, toB, isS, toS, mk, iarith, nT, hget_hset, AVal.cells, Tok.esz, List.length_cons, List.length_nil, List.filterMap, List.map_cons, List.map_nil, List.append_nil, List.nil_append, List.cons_append, Option.map_some, reduceCtorEq, and_true, true_and, Nat.reduceEqDiff, ↓reduceIte, Bool.false_eq_true, Nat.reduceAdd, List.drop, List.take, List.drop_succ_cons, List.take_succ_cons, Nat.reduceLeDiff, Nat.reduceMul, Nat.reduceLT, List.set_cons_zero, List.replicate_succ, List.replicate_zero, Nat.le_refl, List.headD_cons, isDiv, false_implies, Nat.zero_add, Bool.not_eq_true', Bool.not_eq_false', ne_eq, and_self, or_false, Nat.add_zero, Nat.add_assoc, killTok, appOK, srcOf, c44, T8_36, sK, hb, e0, e1, e, hn, hn8, e3, isF]
    refine ⟨bad, fun hv => ?_⟩
    simp only [addS, hv, if_true]
    refine ⟨by simp [small], rfl, by omega, ⟨.own (n + 8) 4, hget_hset_eq .., .inr ⟨_, rfl, ?_⟩⟩, ?_, ?_⟩
    · simp only [hget_hset]
      rw [if_neg (by omega), if_neg (by omega), if_pos trivial]
    · intro j hj
      simp only [hget_hset]; repeat rw [if_neg (by omega)]
      exact hfr j (by omega)
    · intro j ob ho hj hne
      have := hfr.lt ho
      simp only [hget_hset]; repeat rw [if_neg (by omega)]
      exact ho
  · have f1 : (id = sid) = False := eq_false (by rintro rfl; rw [hb] at hid; cases hid)
    have f2 : (n = id) = False := eq_false (by have := hfr.lt hid; omega)
    have f3 : (n + 8 = id) = False := eq_false (by have := hfr.lt hid; omega)
    have f4 : (id = n + 8) = False := eq_false (by have := hfr.lt hid; omega)
    simp only [kont_nil, kont_n, kont_p, k_skip, k_seq, k_cond, k_reg, r_nil, r_v, r_box, r_st, r_call, r_app, r_pan, stE, appE, callT, penv, postC, rcs, rvS, eget, lk, lkv, oks, AS.put, AS.keep, evk, evS_eq, allS, fillS, splice, Opk.opds, aload, isI, toI, isB, toB, isS, toS, mk, iarith, nT, hget_hset, AVal.cells, Tok.esz, List.length_cons, List.length_nil, List.filterMap, List.map_cons, List.map_nil, List.append_nil, List.nil_append, List.cons_append, Option.map_some, reduceCtorEq, true_and, Nat.reduceEqDiff, ↓reduceIte, Bool.false_eq_true, Nat.reduceAdd, List.drop, List.take, List.drop_succ_cons, List.take_succ_cons, Nat.reduceLeDiff, Nat.reduceMul, Nat.reduceLT, List.set_cons_zero, List.replicate_succ, List.replicate_zero, Nat.le_refl, List.headD_cons, isDiv, false_implies, Nat.zero_add, Bool.not_eq_true', Bool.not_eq_false', ne_eq, and_self, or_false, Nat.add_zero, Nat.add_assoc, killTok, appOK, srcOf, c44, T8_36, sK, hb, e0, e1, e, hn, hn8, e3, isF, f1, f2, hid, List.length_map, l1, l2]
    refine ⟨bad, fun hv => ?_⟩
    simp only [addS, hv, if_true]
    have hidn := hfr.lt hid
    have hids : id ≠ sid := by rintro rfl; rw [hb] at hid; cases hid
    refine ⟨rfl, by omega, ⟨.own (n + 8) 4, ?_, .inr ⟨_, rfl, ?_⟩⟩, ?_, ?_⟩
    · rw [hget_hset_eq]; simp only [scBox, List.map_append, List.map_cons, List.map_nil]
    · simp only [hget_hset]
      rw [if_neg (by omega), if_neg (by omega), if_pos trivial]
    · intro j hj
      simp only [hget_hset]; repeat rw [if_neg (by omega)]
      exact hfr j (by omega)
    · intro j ob ho hj hne
      have := hfr.lt ho
      have hji : j ≠ id := by rintro rfl; rw [hid] at ho; cases ho; exact hne rfl
      simp only [hget_hset]; repeat rw [if_neg (by omega)]
      exact ho
theorem ScPost.le {H : AHeap} {n n' sid : Nat} {src : List UInt8} {r : ScR} {o : AOut} {H' : AHeap} {m : Nat} (hn : n ≤ n') (h : ScPost H n' sid src r o H' m) : ScPost H n sid src r o H' m := by
  cases r with
  | ok a ts => obtain ⟨h1, h2, h3⟩ := h; exact ⟨h1, by omega, h3⟩
  | err a => obtain ⟨h1, h2, h3⟩ := h; exact ⟨h1, by omega, h3⟩
def s43 : List AVal → AHeap → Prop × AVal := fun a H => match a with
  | [.ptr id 0, .sl t L] => match hget H id with
    | some (.box [.str src, .int .i64 p, x]) => (L = encZ (L.map decZ) ∧ (t.esz = 1 ∨ L = []) ∧ L.length < 1000 ∧ 0 ≤ p ∧ p ≤ src.length ∧ src.length < 1000000000, .str (runS (L.map decZ) (src.drop p.toNat)))
    | _ => (False, .tup [])
  | _ => (False, .tup [])
theorem q43 : ∀ args H n, (s43 args H).1 → Quiet Tryd.prog 43 args H n (s43 args H).2 := by
  intro args H n hh
  unfold s43 at hh ⊢
  split at hh
  · rename_i id t L
    split at hh
    · rename_i src p x ho
      obtain ⟨h1, h2, h3, h4, h5, h6⟩ := hh
      obtain ⟨k, rfl⟩ : ∃ k : Nat, p = k := ⟨p.toNat, by omega⟩
      simp only []
      refine ACalls.args (p43 (n := n) (zs := L.map decZ) ho (by omega) h6 (by simpa using h3)) ?_
      rintro g vs ⟨v, r, rfl, k1, w, r', rfl, k2, k3⟩
      refine ⟨v, _, rfl, k1, w, r', rfl, ?_, k3⟩
      rw [← h1]; exact Wk.sl h2 _ _ k2
    · exact hh.elim
  · exact hh.elim
def T9 : Tab := tadd 43 s43 T8
theorem T9_ok : TabOK Tryd.prog T9 := T8_ok.add q43
theorem T9_43 (a : List AVal) (H : AHeap) : T9 43 a H = s43 a H := rfl
theorem T9_37 (a : List AVal) (H : AHeap) : T9 37 a H = s37 a H := rfl
theorem T9_45 (a : List AVal) (H : AHeap) : T9 45 a H = s45 a H := rfl
theorem T9_46 (a : List AVal) (H : AHeap) : T9 46 a H = s46 a H := rfl
theorem T9_47 (a : List AVal) (H : AHeap) : T9 47 a H = s47 a H := rfl
theorem p25 {H : AHeap} {n sid : Nat} {src : List UInt8} {a : Nat} {tk : Tok} {ts : List Tkn} (sc : Sc H n sid src a tk ts) : ACalls Tryd.prog 25 [.ptr sid 0] H n (ScPost H n sid src (.err a)) := by
  obtain ⟨hb, htk, hfr, hle, hsz, hfew⟩ := sc
  refine a25 (ev_awp T9_ok (ev_evK ?_))
  simp only [kont_nil, k_reg, r_v, r_pan, penv, postC, eget, lk, lkv, oks, AS.put, evk, Opk.opds, aload, mk, List.length_cons, List.length_nil, true_and, ↓reduceIte, Bool.false_eq_true, Nat.reduceAdd, List.drop, List.take, List.take_succ_cons, Nat.reduceLeDiff, List.headD_cons, Nat.zero_add, and_self, Nat.add_zero, c25, hb, isF]
  exact ⟨rfl, Nat.le_refl _, hfr, .refl _ _⟩
theorem runS_len (zs : List Int) (l : List UInt8) : (runS zs l).length ≤ l.length := (List.takeWhile_sublist _).length_le
theorem p26 {H : AHeap} {n sid : Nat} {src : List UInt8} {a : Nat} {tk : Tok} {ts : List Tkn} (sc : Sc H n sid src a tk ts) :
    ACalls Tryd.prog 26 [.ptr sid 0] H n (ScPost H n sid src (.ok (a + (runS [1] (src.drop a)).length) ts)) := by
  obtain ⟨hb, htk, hfr, hle, hsz, hfew⟩ := sc
  have hlt := hfr.lt hb
  have hr := runS_len [1] (src.drop a)
  rw [List.length_drop] at hr
  refine a26 (ev_awp T9_ok (ev_evK ?_))
  simp only [kont_nil, k_reg, r_nil, r_v, r_st, r_call, stE, callT, penv, postC, rcs, rvS, eget, lk, lkv, oks, AS.put, AS.keep, evk, evS_eq, allS, fillS, splice, Opk.opds, aload, isI, toI, isS, toS, mk, iarith, nT, AVal.cells, Tok.esz, List.length_cons, List.length_nil, List.filterMap, List.map_cons, List.map_nil, List.append_nil, List.nil_append, List.cons_append, reduceCtorEq, true_and, Nat.reduceEqDiff, ↓reduceIte, Bool.false_eq_true, Nat.reduceAdd, List.drop, List.take, List.drop_succ_cons, List.take_succ_cons, Nat.reduceLeDiff, Nat.reduceMul, Nat.reduceLT, List.set_cons_zero, List.replicate_succ, List.replicate_zero, List.headD_cons, isDiv, false_implies, Nat.zero_add, ne_eq, and_self, or_false, Nat.add_zero, c26, hb, T9_43, s43, decZ, Int.natCast_nonneg, Int.toNat_natCast]
  have e : IntKind.wrap .i64 ((a : Int) + (runS [1] (src.drop a)).length) = ((a + (runS [1] (src.drop a)).length : Nat) : Int) := by rw [w64_in (by omega) (by omega)]; rfl
  refine ⟨⟨by omega, by omega⟩, rfl, Nat.le_refl _, ⟨tk, ?_, ?_⟩, ?_, ?_⟩
  · rw [hget_hset_eq, e]
  · rcases htk with h | ⟨id, rfl, hid⟩
    · exact .inl h
    · refine .inr ⟨id, rfl, ?_⟩
      rw [hget_hset_ne _ _ _ _ (by rintro rfl; rw [hb] at hid; cases hid)]; exact hid
  · intro j hj
    rw [hget_hset_ne _ _ _ _ (by omega)]; exact hfr j hj
  · intro j ob ho hj hne
    rw [hget_hset_ne _ _ _ _ (by omega)]; exact ho
theorem sc_tail {H : AHeap} {n sid : Nat} {src : List UInt8} {r : ScR} {b : Nat} {d : Option Nat} {kp : List Nat} {s : AS} {o : AOut} {H' : AHeap} {m : Nat} (hp : ScPost H n sid src r o H' m) :
    retK Tryd.prog T9 b d [] kp [] (postC [] (ScPost H n sid src r)) s o H' m := by
  have hp' := hp
  cases r with
  | ok a ts => obtain ⟨rfl, -⟩ := hp'; simp only [kont_nil, r_nil, postC, rcs, rvS, AS.put, AS.keep, true_and, retK]; cases d <;> exact hp
  | err a => obtain ⟨rfl, -⟩ := hp'; simp only [kont_nil, postC, retK]; exact hp
theorem xe_n0 {b : Nat} {q : Bool} {H : AHeap} : xE b (.nileq 0 q) H [.nilifc] = (True, H, .bool (!q)) := rfl
theorem xe_n1 {b : Nat} {q : Bool} {H : AHeap} {t : Nat} {v : AVal} : xE b (.nileq 0 q) H [.ifc t v] = (True, H, .bool q) := rfl
theorem p27 {H : AHeap} {n sid : Nat} {src : List UInt8} {a : Nat} {tk : Tok} {ts : List Tkn} (sc : Sc H n sid src a tk ts) :
    ACalls Tryd.prog 27 [.ptr sid 0] H n (ScPost H n sid src (addS a ts (runS [2, 3, 5] (src.drop a)) ⟨1, runS [2, 3, 5] (src.drop a), 0, 0⟩)) := by
  have sc0 := sc
  obtain ⟨hb, htk, hfr, hle, hsz, hfew⟩ := sc
  have hlt := hfr.lt hb
  have hr := runS_len [2, 3, 5] (src.drop a)
  rw [List.length_drop] at hr
  refine a27 (ev_awp T9_ok (ev_evK ?_))
  simp only [kont_n, k_seq, k_reg, r_nil, r_v, r_call, r_calli, callT, callI, penv, eget, lk, lkv, oks, AS.put, AS.keep, evk, evB_eq, allB, fillB, evS_eq, allS, fillS, splice, Opk.opds, nT, AVal.cells, Tok.esz, List.length_cons, List.length_nil, List.filterMap, List.map_cons, List.map_nil, List.append_nil, List.nil_append, List.cons_append, Option.map_some, reduceCtorEq, true_and, Nat.reduceEqDiff, ↓reduceIte, Nat.reduceAdd, List.drop, List.take, List.drop_succ_cons, List.take_succ_cons, Nat.reduceLeDiff, Nat.reduceMul, Nat.reduceLT, List.set_cons_zero, List.set_cons_succ, List.replicate_succ, List.replicate_zero, Nat.zero_add, and_self, or_false, Nat.add_zero, c27, hb, T9_43, s43, decZ, Int.natCast_nonneg, Int.toNat_natCast, callI]
  exact ⟨⟨by omega, by omega⟩, (p44 sc0 (runS [2, 3, 5] (src.drop a)) ⟨1, runS [2, 3, 5] (src.drop a), 0, 0⟩ (by omega)).mono fun o H' m hp => sc_tail hp⟩
/-- The number that digits tell, as the layer reads it. -/
def numR (t : List UInt8) : Option Int := match atoiAll t with
  | .ok v => if itoa v = t then some v else none
  | _ => none
theorem p28 {H : AHeap} {n sid : Nat} {src : List UInt8} {a : Nat} {tk : Tok} {ts : List Tkn} (sc : Sc H n sid src a tk ts) :
    ACalls Tryd.prog 28 [.ptr sid 0] H n (ScPost H n sid src (match numR (runS [3] (src.drop a)) with | some v => addS a ts (runS [3] (src.drop a)) ⟨2, [], v, 0⟩ | none => .err a)) := by
  have sc0 := sc
  obtain ⟨hb, htk, hfr, hle, hsz, hfew⟩ := sc
  have hlt := hfr.lt hb
  have hr := runS_len [3] (src.drop a)
  rw [List.length_drop] at hr
  have bad : ScPost H n sid src (.err a) (.pan (.ifc 42 (.int .i64 a))) H n := ⟨rfl, Nat.le_refl _, hfr, .refl _ _⟩
  have r1 : ((a : Int) ≤ src.length) = True := eq_true (by omega)
  have r2 : (src.length < 1000000000) = True := eq_true (by omega)
  have r3 : ((runS [3] (src.drop a)).length ≤ 281474976710656) = True := eq_true (by omega)
  refine a28 (ev_awp T9_ok (ev_evK ?_))
  generalize ht : runS [3] (src.drop a) = t at *
  cases ha : atoiAll t with
  | ok v =>
    have hv := atoiAll_bounds ha
    simp only [kont_nil, kont_n, kont_p, k_skip, k_seq, k_cond, k_reg, r_ext, r_nil, r_v, r_vg, r_pick, r_call, r_callg, r_calli, r_pan, callT, callI, penv, postC, gok, gvb, eget, lk, lkv, oks, AS.put, AS.keep, evk, evB_eq, allB, fillB, evS_eq, allS, fillS, splice, Opk.opds, aload, isB, toB, isS, toS, sel, mk, nT, AVal.cells, Tok.esz, List.length_cons, List.length_nil, List.filterMap, List.map_cons, List.map_nil, List.append_nil, List.nil_append, List.cons_append, Option.map_some, reduceCtorEq, true_and, forall_const, Nat.reduceEqDiff, ↓reduceIte, Bool.false_eq_true, Nat.reduceAdd, List.drop, List.take, List.drop_succ_cons, List.take_succ_cons, Nat.reduceLeDiff, Nat.reduceMul, Nat.reduceLT, List.set_cons_zero, List.replicate_succ, List.replicate_zero, List.headD_cons, Bool.and_true, beq_self_eq_true, implies_true, Nat.zero_add, Bool.not_eq_true', Bool.not_eq_false', decide_eq_true_eq, decide_eq_false_iff_not, and_self, or_false, Nat.add_zero, cond_false, c28, hb, T9_43, s43, decZ, Int.natCast_nonneg, Int.toNat_natCast, callI, T9_45, s45, T9_37, s37, ha, r1, r2, r3, ht, xe_n0, List.getElem?_cons_zero, List.getElem?_cons_succ, Option.getD_some, Bool.not_true, hv.1, hv.2, scmp_neq, isF]
    refine ⟨fun q => ?_, fun q => ?_⟩
    · rw [show numR t = none by simp [numR, ha, q]]; exact bad
    · rw [show numR t = some v by simp [numR, ha, q]]
      exact (p44 sc0 t ⟨2, [], v, 0⟩ (by omega)).mono fun o H' m hp => sc_tail hp
  | range =>
    simp only [kont_nil, kont_n, kont_p, k_skip, k_seq, k_cond, k_reg, r_ext, r_nil, r_v, r_vg, r_pick, r_call, r_callg, r_calli, r_pan, callT, callI, penv, postC, gok, gvb, eget, lk, lkv, oks, AS.put, AS.keep, evk, evB_eq, allB, fillB, evS_eq, allS, fillS, splice, Opk.opds, aload, isB, toB, isS, toS, sel, mk, nT, AVal.cells, Tok.esz, List.length_cons, List.length_nil, List.filterMap, List.map_cons, List.map_nil, List.append_nil, List.nil_append, List.cons_append, Option.map_some, reduceCtorEq, and_true, true_and, forall_const, Nat.reduceEqDiff, ↓reduceIte, Bool.false_eq_true, Nat.reduceAdd, List.drop, List.take, List.drop_succ_cons, List.take_succ_cons, Nat.reduceLeDiff, Nat.reduceMul, Nat.reduceLT, List.set_cons_zero, List.replicate_succ, List.replicate_zero, List.headD_cons, false_implies, implies_true, Nat.zero_add, imp_self, beq_false, impA1, and_self, or_false, Nat.add_zero, Bool.and_false, cond_true, c28, hb, T9_43, s43, decZ, Int.natCast_nonneg, Int.toNat_natCast, callI, T9_45, s45, T9_37, s37, ha, r1, r2, r3, ht, xe_n1, List.getElem?_cons_zero, List.getElem?_cons_succ, Option.getD_some, Bool.not_true, isF]
    rw [show numR t = none by simp [numR, ha]]; exact bad
  | _ =>
    simp only [kont_nil, kont_n, kont_p, k_skip, k_seq, k_cond, k_reg, r_ext, r_nil, r_v, r_vg, r_pick, r_call, r_callg, r_calli, r_pan, callT, callI, penv, postC, gok, gvb, eget, lk, lkv, oks, AS.put, AS.keep, evk, evB_eq, allB, fillB, evS_eq, allS, fillS, splice, Opk.opds, aload, isB, toB, isS, toS, sel, mk, nT, AVal.cells, Tok.esz, List.length_cons, List.length_nil, List.filterMap, List.map_cons, List.map_nil, List.append_nil, List.nil_append, List.cons_append, Option.map_some, reduceCtorEq, and_true, true_and, forall_const, Nat.reduceEqDiff, ↓reduceIte, Bool.false_eq_true, Nat.reduceAdd, List.drop, List.take, List.drop_succ_cons, List.take_succ_cons, Nat.reduceLeDiff, Nat.reduceMul, Nat.reduceLT, Int.reduceLE, List.set_cons_zero, List.replicate_succ, List.replicate_zero, List.headD_cons, false_implies, implies_true, Nat.zero_add, imp_self, beq_false, and_self, or_false, Nat.add_zero, Bool.and_false, cond_true, c28, hb, T9_43, s43, decZ, Int.natCast_nonneg, Int.toNat_natCast, callI, T9_45, s45, T9_37, s37, ha, r1, r2, r3, ht, xe_n1, List.getElem?_cons_zero, List.getElem?_cons_succ, Option.getD_some, Bool.not_true, isF]
    rw [show numR t = none by simp [numR, ha]]; exact bad
def signR (a : Nat) (ts : List Tkn) (l : List UInt8) (len : Nat) : ScR :=
  if hasPrefix l [47, 47] then .ok (if 0 ≤ indexByte l 10 then a + (indexByte l 10).toNat else len) ts
  else addS a ts (l.take 1) ⟨3, l.take 1, 0, 0⟩
theorem indexByte_lt (c : UInt8) : ∀ (l : List UInt8), indexByte l c < l.length ∨ (indexByte l c = -1)
  | [] => .inr rfl
  | b :: l => by
    have := indexByte_lt c l
    have h0 := indexByte_ge l c
    rw [indexByte]
    split
    · left; simp
    · split
      · right; rfl
      · left; rename_i h; simp at h; simp only [List.length_cons]; omega
theorem p29 {H : AHeap} {n sid : Nat} {src : List UInt8} {a : Nat} {tk : Tok} {ts : List Tkn} (sc : Sc H n sid src a tk ts) (ha : a < src.length) :
    ACalls Tryd.prog 29 [.ptr sid 0] H n (ScPost H n sid src (signR a ts (src.drop a) src.length)) := by
  have sc0 := sc
  obtain ⟨hb, htk, hfr, hle, hsz, hfew⟩ := sc
  have hlt := hfr.lt hb
  have hi := indexByte_lt 10 (src.drop a)
  rw [List.length_drop] at hi
  have r1 : ((a : Int) ≤ src.length) = True := eq_true (by omega)
  have mv : ∀ k : Nat, ScPost H n sid src (.ok k ts) (.ret (.tup [])) (hset H sid (scBox src k tk ts)) n := by
    intro k
    refine ⟨rfl, Nat.le_refl _, ⟨tk, hget_hset_eq .., ?_⟩, ?_, ?_⟩
    · rcases htk with h | ⟨id, rfl, hid⟩
      · exact .inl h
      · refine .inr ⟨id, rfl, ?_⟩
        rw [hget_hset_ne _ _ _ _ (by rintro rfl; rw [hb] at hid; cases hid)]; exact hid
    · intro j hj
      rw [hget_hset_ne _ _ _ _ (by omega)]; exact hfr j hj
    · intro j ob ho hj hne
      rw [hget_hset_ne _ _ _ _ (by omega)]; exact ho
  have e : IntKind.wrap .i64 ((a : Int) + 1) = ((a + 1 : Nat) : Int) := w64_succ (by omega)
  refine a29 (ev_awp T9_ok (ev_evK ?_))
  have t1 : (src.take (a + 1)).drop a = (src.drop a).take 1 := by rw [List.drop_take]; congr 1; omega
  have l1 : ((src.drop a).take 1).length ≤ 65536 := by rw [List.length_take]; omega
  simp only [kont_nil, kont_n, kont_r, k_skip, k_ret, k_seq, k_cond, k_reg, r_nil, r_v, r_st, r_call, r_calli, stE, callT, callI, penv, postC, rcs, rvS, eget, lk, lkv, oks, AS.put, AS.keep, evk, evB_eq, allB, fillB, splice, Opk.opds, aload, isI, isInt, toI, isB, toB, isS, toS, mk, icmp, iarith, bnd, bndI, nT, AVal.cells, Option.toList, List.length_cons, List.length_nil, List.filterMap, List.map_cons, List.map_nil, List.append_nil, List.nil_append, List.cons_append, Option.map_some, reduceCtorEq, true_and, Nat.reduceEqDiff, ↓reduceIte, Bool.false_eq_true, Nat.reduceAdd, List.drop, List.take, List.drop_succ_cons, List.take_succ_cons, Nat.reduceLeDiff, Int.reduceEq, Int.reduceLE, Int.reduceLT, Int.reduceToNat, List.headD_cons, isDiv, false_implies, implies_true, Nat.zero_add, decide_eq_true_eq, decide_eq_false_iff_not, ne_eq, not_false_eq_true, and_self, Nat.add_zero, c29, hb, T9_46, s46, T9_47, s47, Int.natCast_nonneg, Int.toNat_natCast, callI, r1, e, List.take_length, t1]
  have u10 : UInt8.ofNat 10 = 10 := rfl
  refine ⟨Int.le_refl _, fun hp => ⟨Int.le_refl _, fun q => ?_, fun q => ?_⟩, fun hp => ⟨⟨by omega, by omega⟩, ?_⟩⟩
  · rw [u10] at q ⊢
    have e2 : IntKind.wrap .i64 ((a : Int) + indexByte (src.drop a) 10) = ((a + (indexByte (src.drop a) 10).toNat : Nat) : Int) := by rw [w64_in (by omega) (by omega)]; omega
    rw [e2, signR, if_pos hp, if_pos q]
    exact mv _
  · rw [u10] at q
    rw [signR, if_pos hp, if_neg q]
    exact mv _
  · rw [signR, if_neg (by simp [hp])]
    exact (p44 sc0 ((src.drop a).take 1) ⟨3, (src.drop a).take 1, 0, 0⟩ l1).mono fun o H' m hp => sc_tail hp
end Go.AM
end

/- Tokens: Lex. Conditions: none. -/
section
set_option maxRecDepth 10000
set_option linter.unusedSimpArgs false
set_option linter.unusedVariables false
set_option linter.unusedVariables false
set_option linter.unusedSimpArgs false
namespace Go.AM
open Go.Proofs Go.Lib

/-- One step of the scanner. -/
def stepR (src : List UInt8) (a : Nat) (ts : List Tkn) : ScR :=
  let l := src.drop a
  let c := clsI ((src[a]?.getD 0).toNat : Int)
  if c = 1 then .ok (a + (runS [1] l).length) ts
  else if c = 2 then addS a ts (runS [2, 3, 5] l) ⟨1, runS [2, 3, 5] l, 0, 0⟩
  else if c = 3 then (match numR (runS [3] l) with | some v => addS a ts (runS [3] l) ⟨2, [], v, 0⟩ | none => .err a)
  else if c = 4 then signR a ts l src.length
  else .err a
def lexL : Nat → List UInt8 → Nat → List Tkn → ScR
  | 0, src, a, ts => .ok a ts
  | f + 1, src, a, ts => if a < src.length then (match stepR src a ts with | .ok a' ts' => lexL f src a' ts' | .err e => .err e) else .ok a ts
def lexR (src : List UInt8) : ScR := lexL (src.length + 1) src 0 []
def lexV (src : List UInt8) : AVal :=
  if 65536 < src.length then .tup [.sl (.none 4) [], .int .i64 0, .int .i64 2] else
    match lexR src with
    | .ok _ ts => .tup [.sl (.none 4) (ts.map encK), .int .i64 0, .int .i64 0]
    | .err a => .tup [.sl (.none 4) [], .int .i64 a, .int .i64 100]

theorem T9_30 (a : List AVal) (H : AHeap) : T9 30 a H = s30 a H := rfl
theorem d24n {H : AHeap} {n i0 i1 i2 : Nat} : ADefer Tryd.prog 24 [.ptr i0 0, .ptr i1 0, .ptr i2 0] .nilifc H n (fun H' n' => H' = H ∧ n' = n) := by
  refine a24 (ev_awp T9_ok (ev_evK ?_))
  simp only [kont_nil, kont_n, k_skip, k_seq, k_cond, k_reg, r_ext, r_nil, r_v, r_st, stE, penv, postC, rcs, rvS, eget, lk, lkv, oks, AS.put, AS.keep, evk, splice, Opk.opds, isB, toB, nT, AVal.cells, List.length_cons, List.length_nil, List.filterMap, List.map_cons, List.map_nil, List.nil_append, List.cons_append, Option.map_some, reduceCtorEq, and_true, true_and, forall_const, Nat.reduceEqDiff, ↓reduceIte, Bool.false_eq_true, Nat.reduceAdd, List.take, false_implies, Nat.zero_add, and_self, Nat.add_zero, c24, xe_n0, Bool.not_true]
theorem xe_tas {b : Nat} {H : AHeap} {t t' : Nat} {z v : AVal} : xE b (.tas t false z) H [.ifc t' v] = (t' = t, H, v) := rfl
theorem d24p {H : AHeap} {n i0 i1 i2 : Nat} {x y z : AVal} {p : Int} (h0 : hget H i0 = some (.box [x])) (h1 : hget H i1 = some (.box [y])) (h2 : hget H i2 = some (.box [z])) (n01 : i0 ≠ i1) (n02 : i0 ≠ i2) (n12 : i1 ≠ i2) :
    ADefer Tryd.prog 24 [.ptr i0 0, .ptr i1 0, .ptr i2 0] (.ifc 42 (.int .i64 p)) H n (fun H' n' => H' = hset (hset (hset H i0 (.box [.sl .nil []])) i1 (.box [.int .i64 p])) i2 (.box [.int .i64 100]) ∧ n' = n) := by
  refine a24 (ev_awp T9_ok (ev_evK ?_))
  simp only [kont_nil, kont_n, k_skip, k_seq, k_cond, k_reg, r_ext, r_nil, r_v, r_st, stE, penv, postC, rcs, rvS, eget, lk, lkv, oks, AS.put, AS.keep, evk, splice, Opk.opds, isB, toB, nT, hget_hset, AVal.cells, List.length_cons, List.length_nil, List.filterMap, List.map_cons, List.map_nil, List.append_nil, List.nil_append, Option.map_some, reduceCtorEq, and_true, true_and, forall_const, Nat.reduceEqDiff, ↓reduceIte, Nat.reduceAdd, List.drop, List.take, List.drop_succ_cons, Nat.le_refl, false_implies, Nat.zero_add, and_self, Nat.add_zero, c24, xe_n1, xe_tas, h0, h1, h2, n01, n02, n12]
theorem ADefer.mono {P : Program} {fid : FuncId} {args : List AVal} {rv : AVal} {H : AHeap} {n : Nat} {Rc Rc' : AHeap → Nat → Prop} (h : ADefer P fid args rv H n Rc) (hr : ∀ H' n', Rc H' n' → Rc' H' n') : ADefer P fid args rv H n Rc' :=
  fun g w vs u hR hV hu => CallsDIn.mono (h g w vs u hR hV hu) fun e u' w' ⟨h1, h2, g', H', n', h3, h4⟩ => ⟨h1, h2, g', H', n', hr _ _ h3, h4⟩
theorem wk_tup3 {a b c a' b' c' : AVal} (h1 : Wk a a') (h2 : Wk b b') (h3 : Wk c c') : Wk (.tup [a, b, c]) (.tup [a', b', c']) := by
  rintro g v ⟨vs, rfl, x, r, e1, k1, y, r1, rfl, k2, z, r2, rfl, k3, k4⟩
  exact ⟨vs, rfl, x, _, e1, h1 _ _ k1, y, _, rfl, h2 _ _ k2, z, _, rfl, h3 _ _ k3, k4⟩
abbrev rs3 : List RC := [.c 2 1 false, .c 3 1 false, .c 4 1 false]
abbrev envL (src : List UInt8) : List (Nat × Bool × AVal) := [(0, true, .str src), (2, true, .ptr 0 0), (3, true, .ptr 1 0), (4, true, .ptr 2 0)]
theorem rc_ok {src : List UInt8} {H : AHeap} {n : Nat} {x y z r : AVal} (h0 : hget H 0 = some (.box [x])) (h1 : hget H 1 = some (.box [y])) (h2 : hget H 2 = some (.box [z])) (hw : Wk (.tup [x, y, z]) r) : RcOf rs3 (envL src) (Ret r) H n := by
  unfold RcOf
  simp only [rcs, rc1, rvS, eget, lk, lkv, mk, List.length_cons, List.length_nil, reduceCtorEq, true_and, Nat.reduceEqDiff, ↓reduceIte, Bool.false_eq_true, List.headD_cons, Nat.zero_add, and_self, ret_eq, rcell, h0, h1, h2]
  exact hw
structure LxS where
  H : AHeap
  n : Nat
  a : Nat
  tk : Tok
  ts : List Tkn
abbrev fnsL : List AVal := [.fn (.func 25) [] [], .fn (.func 26) [] [], .fn (.func 27) [] [], .fn (.func 28) [] [], .fn (.func 29) [] [], .fn (.func 25) [] []]
/-- Lex between two steps. -/
structure LxI (src : List UInt8) (x : LxS) : Prop where
  sc : Sc x.H x.n 6 src x.a x.tk x.ts
  b0 : hget x.H 0 = some (.box [.sl .nil []])
  b1 : hget x.H 1 = some (.box [.int .i64 0])
  b2 : hget x.H 2 = some (.box [.int .i64 0])
  b3 : hget x.H 3 = some (.box fnsL)
  res : lexR src = lexL (src.length - x.a + 1) src x.a x.ts
theorem cls_cases (b : UInt8) : clsI b.toNat = 0 ∨ clsI b.toNat = 1 ∨ clsI b.toNat = 2 ∨ clsI b.toNat = 3 ∨ clsI b.toNat = 4 ∨ clsI b.toNat = 5 := by
  unfold clsI
  repeat' split
  all_goals simp
theorem indexByte_pos {c b : UInt8} {l : List UInt8} (h : (b == c) = false) : indexByte (b :: l) c = -1 ∨ 1 ≤ indexByte (b :: l) c := by
  have h0 := indexByte_ge l c
  rw [indexByte, h]
  simp only [Bool.false_eq_true, if_false]
  split
  · left; rfl
  · right; rename_i q; simp at q; omega
theorem run_pos {zs : List Int} {b : UInt8} {l : List UInt8} (h : zs.contains (clsI b.toNat) = true) : 1 ≤ (runS zs (b :: l)).length := by
  rw [runS, List.takeWhile_cons, if_pos h]; simp
theorem addS_ok {a a' : Nat} {ts ts' : List Tkn} {text : List UInt8} {t : Tkn} (h : addS a ts text t = .ok a' ts') : a' = a + text.length ∧ ts'.length = ts.length + 1 := by
  unfold addS at h
  split at h
  · cases h; simp
  · cases h
theorem step_progress {src : List UInt8} {a a' : Nat} {ts ts' : List Tkn} (hlt : a < src.length) (hf : ts.length ≤ a) (h : stepR src a ts = .ok a' ts') : a < a' ∧ a' ≤ src.length ∧ ts'.length ≤ a' := by
  have hd : src.drop a = src[a] :: src.drop (a + 1) := List.drop_eq_getElem_cons hlt
  have hg : src[a]?.getD 0 = src[a] := by rw [List.getElem?_eq_getElem hlt]; rfl
  have rl : ∀ zs, (runS zs (src.drop a)).length ≤ src.length - a := fun zs => by have := runS_len zs (src.drop a); rwa [List.length_drop] at this
  have rp : ∀ zs : List Int, zs.contains (clsI (src[a]).toNat) = true → 1 ≤ (runS zs (src.drop a)).length := fun zs hz => by rw [hd]; exact run_pos hz
  unfold stepR at h
  simp only [hg] at h
  split at h
  · rename_i hc
    have h1 := rl [1]; have h2 := rp [1] (by rw [hc]; rfl)
    cases h; omega
  · split at h
    · rename_i hc
      have h1 := rl [2, 3, 5]; have h2 := rp [2, 3, 5] (by rw [hc]; rfl)
      obtain ⟨e1, e2⟩ := addS_ok h; omega
    · split at h
      · rename_i hc
        have h1 := rl [3]; have h2 := rp [3] (by rw [hc]; rfl)
        split at h
        · obtain ⟨e1, e2⟩ := addS_ok h; omega
        · cases h
      · split at h
        · rename_i hc
          have hi := indexByte_lt 10 (src.drop a)
          rw [List.length_drop] at hi
          unfold signR at h
          split at h
          · cases h
            have h10 : (src[a] == 10) = false := by
              rw [beq_eq_false_iff_ne]; intro e; rw [e] at hc; exact absurd hc (by decide)
            have h3 := indexByte_pos (l := src.drop (a + 1)) h10
            rw [← hd] at h3
            split <;> omega
          · obtain ⟨e1, e2⟩ := addS_ok h
            have : ((src.drop a).take 1).length = 1 := by rw [hd]; rfl
            omega
        · cases h
theorem lexL_fuel {src : List UInt8} : ∀ (f : Nat) (a : Nat) (ts : List Tkn), ts.length ≤ a → a ≤ src.length → src.length - a < f → lexL f src a ts = lexL (src.length - a + 1) src a ts
  | 0, a, ts, _, _, h => by omega
  | f + 1, a, ts, hf, hle, h => by
    rw [lexL, lexL]
    by_cases hlt : a < src.length
    · rw [if_pos hlt, if_pos hlt]
      cases hs : stepR src a ts with
      | err e => rfl
      | ok a' ts' =>
        obtain ⟨p1, p2, p3⟩ := step_progress hlt hf hs
        simp only
        rw [lexL_fuel f a' ts' p3 p2 (by omega), lexL_fuel (src.length - a) a' ts' p3 p2 (by omega)]
    · rw [if_neg hlt, if_neg hlt]
theorem LxI.next {src : List UInt8} {x : LxS} (hx : LxI src x) (hlt : x.a < src.length) {a' m : Nat} {ts' : List Tkn} {H' : AHeap} {tk' : Tok} (hr : stepR src x.a x.ts = .ok a' ts') (hm : x.n ≤ m) (hbx : hget H' 6 = some (scBox src a' tk' ts'))
    (htk : tokK H' tk' ts') (hfr : Fresh H' m) (hfk : FrameK 6 x.H H') : LxI src ⟨H', m, a', tk', ts'⟩ ∧ src.length - a' < src.length - x.a := by
  obtain ⟨p1, p2, p3⟩ := step_progress hlt hx.sc.few hr
  refine ⟨⟨⟨hbx, htk, hfr, p2, hx.sc.sz, p3⟩, hfk _ _ hx.b0 (by decide) (by simp), hfk _ _ hx.b1 (by decide) (by simp), hfk _ _ hx.b2 (by decide) (by simp), hfk _ _ hx.b3 (by decide) (by simp), ?_⟩, by omega⟩
  rw [hx.res, lexL, if_pos hlt, hr]
  exact lexL_fuel _ _ _ p3 p2 (by omega)
theorem lx_pan {src : List UInt8} {x : LxS} (hx : LxI src x) (hlt : x.a < src.length) (h' : ¬ 65536 < src.length) {e m : Nat} {H' : AHeap} (hr : stepR src x.a x.ts = .err e) (hfk : FrameK 6 x.H H') :
    postX Tryd.prog 24 [.ptr 0 0, .ptr 1 0, .ptr 2 0] rs3 (envL src) (Ret (lexV src)) (.pan (.ifc 42 (.int .i64 e))) ⟨[], H', m⟩ := by
  have hv : lexV src = .tup [.sl (.none 4) [], .int .i64 e, .int .i64 100] := by
    rw [lexV, if_neg h', hx.res, lexL, if_pos hlt, hr]
  rw [hv]
  refine ADefer.mono (d24p (hfk _ _ hx.b0 (by decide) (by simp)) (hfk _ _ hx.b1 (by decide) (by simp)) (hfk _ _ hx.b2 (by decide) (by simp)) (by decide) (by decide) (by decide)) ?_
  rintro H2 n2 ⟨rfl, -⟩
  exact rc_ok (x := .sl .nil []) (y := .int .i64 e) (z := .int .i64 100) rfl rfl rfl (wk_tup3 (Wk.sl (.inr rfl)) (Wk.refl _) (Wk.refl _))
theorem lx_end {src : List UInt8} {x : LxS} (hx : LxI src x) (hlt : ¬ x.a < src.length) (h' : ¬ 65536 < src.length) {env : List (Nat × Bool × AVal)} :
    postX Tryd.prog 24 [.ptr 0 0, .ptr 1 0, .ptr 2 0] rs3 (envL src) (Ret (lexV src)) .ret ⟨env, hset (hset (hset x.H 0 (.box [.sl x.tk (x.ts.map encK)])) 1 (.box [.int .i64 0])) 2 (.box [.int .i64 0]), x.n⟩ := by
  have hv : lexV src = .tup [.sl (.none 4) (x.ts.map encK), .int .i64 0, .int .i64 0] := by
    rw [lexV, if_neg h', hx.res, lexL, if_neg hlt]
  rw [hv]
  refine ADefer.mono d24n ?_
  rintro H2 n2 ⟨rfl, -⟩
  refine rc_ok (x := .sl x.tk (x.ts.map encK)) (y := .int .i64 0) (z := .int .i64 0) rfl rfl rfl (wk_tup3 (Wk.sl ?_) (Wk.refl _) (Wk.refl _))
  rcases hx.sc.tok with ⟨_, h2⟩ | ⟨id, h1, _⟩
  · right; rw [h2]; rfl
  · left; rw [h1]; rfl
theorem p12 (src : List UInt8) (hs : src.length < 1000000000) : Pur Tryd.prog 12 [.str src] (lexV src) := by
  refine .mk ⟨trivial, trivial⟩ (by unfold lexV; split <;> (try split) <;> simp [AVal.under, unders, Tok.under, encK_under]) (a12 (ev_awp T9_ok (ev_evK ?_)))
  simp only [kont_nil, kont_n, kont_r, k_skip, k_ret, k_seq, k_cond, k_reg, r_nil, r_v, r_alloc, r_st, stE, penv, rcs, rc1, rvS, gok, gvb, eget, lk, lkv, oks, AS.put, AS.keep, evk, splice, Opk.opds, isI, toI, isB, toB, isS, toS, mk, icmp, nT, hget_hset, hget_nil, AVal.cells, List.length_cons, List.length_nil, List.filterMap, List.map_cons, List.map_nil, List.append_nil, List.nil_append, Option.map_some, reduceCtorEq, true_and, forall_const, Nat.reduceEqDiff, ↓reduceIte, Bool.false_eq_true, List.drop, List.take, List.drop_succ_cons, Nat.le_refl, List.headD_cons, Nat.zero_add, decide_eq_true_eq, decide_eq_false_iff_not, and_self, ret_eq, Nat.add_zero, c12_0, c12_1, aspine, postD, stepOp, rcell]
  refine ⟨fun h => ?_, fun h => ?_⟩
  · have h' : 65536 < src.length := by omega
    rw [lexV, if_pos h']
    exact wk_tup3 (Wk.sl (.inr rfl)) (Wk.refl _) (Wk.refl _)
  · have h' : ¬ 65536 < src.length := by omega
    refine ⟨_, _, rfl, ev_awp T9_ok (ev_evK ?_)⟩
    generalize hE : List.filter (fun (e : Nat × Bool × AVal) => Nat.blt e.1 5) _ = E
    have hE' : E = envL src := by rw [← hE]; rfl
    subst hE'
    clear hE
    simp only [kont_n, k_seq, k_block, k_reg, r_nil, r_v, r_alloc, r_box, r_st, stE, eget, lk, lkv, oks, AS.put, AS.keep, evk, evB_eq, allB, fillB, splice, Opk.opds, nT, hget_hset, hget_nil, AVal.cells, List.length_cons, List.length_nil, List.filterMap, List.map_cons, List.map_nil, List.append_nil, List.nil_append, List.cons_append, Option.map_some, reduceCtorEq, true_and, Nat.reduceEqDiff, ↓reduceIte, Nat.reduceAdd, List.drop, List.take, List.drop_succ_cons, List.take_succ_cons, Nat.reduceLeDiff, Nat.le_refl, Nat.zero_add, and_self, Nat.add_zero, c12]
    refine k_loop (fun x : LxS => ⟨[(0, true, .str src), (2, true, .ptr 0 0), (3, true, .ptr 1 0), (4, true, .ptr 2 0), (5, true, .ptr 3 0), (6, true, .ptr 6 0)], x.H, x.n⟩)
      (LxI src) (fun x => src.length - x.a)
      ⟨hset (hset (hset (hset (hset (hset hnil 0 (.box [.sl .nil []])) 1 (.box [.int .i64 0])) 2 (.box [.int .i64 0])) 3 (.box [.nilfn, .nilfn, .nilfn, .nilfn, .nilfn, .nilfn])) 3 (.box fnsL)) 6 (.box [.str src, .int .i64 0, .sl .nil []]), 8, 0, .nil, []⟩ rfl
      ⟨⟨hget_hset_eq .., .inl ⟨rfl, rfl⟩, ?_, Nat.zero_le _, by omega, Nat.le_refl _⟩, rfl, rfl, rfl, rfl, rfl⟩ ?_
    · intro j hj
      have hj : 8 ≤ j := hj
      show hget (hset _ 6 _) j = none
      simp only [hget_hset]; repeat rw [if_neg (by omega)]
      rfl
    rintro x hx
    have hb := hx.sc.box
    have hle := hx.sc.le
    have hb3 := hx.b3
    have hn8 := hx.sc.fr.lt hb
    by_cases hlt : x.a < src.length
    · have hg : src[x.a]?.getD 0 = src[x.a] := by rw [List.getElem?_eq_getElem hlt]; rfl
      have lt6 : (0 : Int) < ((6 : Nat) : Int) := by decide
      rcases cls_cases src[x.a] with hc | hc | hc | hc | hc | hc
      · have hst : stepR src x.a x.ts = .err x.a := by simp [stepR, hg, hc]
        simp only [kont_nil, kont_n, kont_e, kont_be, k_skip, k_exit, k_ret, k_seq, k_block, k_cond, k_reg, r_nil, r_v, r_st, r_call, r_calli, stE, callT, callI, lpQ_e, eget, lk, lkv, oks, AS.put, AS.keep, evk, splice, Opk.opds, aload, isI, isInt, toI, isB, toB, isS, toS, mk, icmp, nT, AVal.cells, List.length_cons, List.length_nil, List.filterMap, List.map_cons, List.map_nil, List.append_nil, List.nil_append, List.cons_append, Option.map_some, reduceCtorEq, and_true, true_and, forall_const, Nat.reduceEqDiff, ↓reduceIte, Bool.false_eq_true, Nat.reduceAdd, List.drop, List.take, List.take_succ_cons, Nat.reduceLeDiff, Nat.reduceMul, Int.reduceLE, Int.reduceToNat, Nat.le_refl, List.headD_cons, false_implies, Nat.zero_add, and_self, Nat.add_zero, decide_true, hb, hb3, Int.ofNat_lt, hlt, Int.natCast_nonneg, Int.toNat_natCast, List.getElem?_eq_getElem hlt, Option.getD_some, T9_30, sB, u8_lt, hc, callI]
        refine ⟨by decide, (p25 hx.sc).mono ?_⟩
        intro o H' m hp
        have hp : ScPost x.H x.n 6 src (stepR src x.a x.ts) o H' m := by rw [hst]; exact hp
        generalize hr : stepR src x.a x.ts = r at hp
        cases r with
        | ok a' ts' =>
          obtain ⟨rfl, hm, ⟨tk', hbx, htk⟩, hfr, hfk⟩ := hp
          simp only [kont_nil, kont_bn, r_nil, lpQ_n, eget, AS.put, AS.keep, List.filterMap, Option.map_some, reduceCtorEq, Nat.reduceEqDiff, ↓reduceIte, retK]
          have hn := hx.next hlt hr hm hbx htk hfr hfk
          exact .mk ⟨H', m, a', tk', ts'⟩ rfl hn.1 hn.2
        | err e =>
          obtain ⟨rfl, hm, hfr, hfk⟩ := hp
          simp only [kont_nil, kont_p, kont_bp, lpQ_p, retK]
          exact lx_pan hx hlt h' hr hfk
      · have hst : stepR src x.a x.ts = .ok (x.a + (runS [1] (src.drop x.a)).length) x.ts := by simp [stepR, hg, hc]
        simp only [kont_nil, kont_n, kont_e, kont_be, k_skip, k_exit, k_ret, k_seq, k_block, k_cond, k_reg, r_nil, r_v, r_st, r_call, r_calli, stE, callT, callI, lpQ_e, eget, lk, lkv, oks, AS.put, AS.keep, evk, splice, Opk.opds, aload, isI, isInt, toI, isB, toB, isS, toS, mk, icmp, nT, AVal.cells, List.length_cons, List.length_nil, List.filterMap, List.map_cons, List.map_nil, List.append_nil, List.nil_append, List.cons_append, Option.map_some, reduceCtorEq, and_true, true_and, forall_const, Nat.reduceEqDiff, ↓reduceIte, Bool.false_eq_true, Nat.reduceAdd, List.drop, List.take, List.take_succ_cons, Nat.reduceLeDiff, Nat.reduceMul, Int.reduceLE, Int.reduceToNat, Nat.le_refl, List.headD_cons, false_implies, Nat.zero_add, and_self, Nat.add_zero, decide_true, hb, hb3, Int.ofNat_lt, hlt, Int.natCast_nonneg, Int.toNat_natCast, List.getElem?_eq_getElem hlt, Option.getD_some, T9_30, sB, u8_lt, hc, callI]
        refine ⟨by decide, (p26 hx.sc).mono ?_⟩
        intro o H' m hp
        have hp : ScPost x.H x.n 6 src (stepR src x.a x.ts) o H' m := by rw [hst]; exact hp
        generalize hr : stepR src x.a x.ts = r at hp
        cases r with
        | ok a' ts' =>
          obtain ⟨rfl, hm, ⟨tk', hbx, htk⟩, hfr, hfk⟩ := hp
          simp only [kont_nil, kont_bn, r_nil, lpQ_n, eget, AS.put, AS.keep, List.filterMap, Option.map_some, reduceCtorEq, Nat.reduceEqDiff, ↓reduceIte, retK]
          have hn := hx.next hlt hr hm hbx htk hfr hfk
          exact .mk ⟨H', m, a', tk', ts'⟩ rfl hn.1 hn.2
        | err e =>
          obtain ⟨rfl, hm, hfr, hfk⟩ := hp
          simp only [kont_nil, kont_p, kont_bp, lpQ_p, retK]
          exact lx_pan hx hlt h' hr hfk
      · have hst : stepR src x.a x.ts = addS x.a x.ts (runS [2, 3, 5] (src.drop x.a)) ⟨1, runS [2, 3, 5] (src.drop x.a), 0, 0⟩ := by simp [stepR, hg, hc]
        simp only [kont_nil, kont_n, kont_e, kont_be, k_skip, k_exit, k_ret, k_seq, k_block, k_cond, k_reg, r_nil, r_v, r_st, r_call, r_calli, stE, callT, callI, lpQ_e, eget, lk, lkv, oks, AS.put, AS.keep, evk, splice, Opk.opds, aload, isI, isInt, toI, isB, toB, isS, toS, mk, icmp, nT, AVal.cells, List.length_cons, List.length_nil, List.filterMap, List.map_cons, List.map_nil, List.append_nil, List.nil_append, List.cons_append, Option.map_some, reduceCtorEq, and_true, true_and, forall_const, Nat.reduceEqDiff, ↓reduceIte, Bool.false_eq_true, Nat.reduceAdd, List.drop, List.take, List.take_succ_cons, Nat.reduceLeDiff, Nat.reduceMul, Int.reduceLE, Int.reduceToNat, Nat.le_refl, List.headD_cons, false_implies, Nat.zero_add, and_self, Nat.add_zero, decide_true, hb, hb3, Int.ofNat_lt, hlt, Int.natCast_nonneg, Int.toNat_natCast, List.getElem?_eq_getElem hlt, Option.getD_some, T9_30, sB, u8_lt, hc, callI]
        refine ⟨by decide, (p27 hx.sc).mono ?_⟩
        intro o H' m hp
        have hp : ScPost x.H x.n 6 src (stepR src x.a x.ts) o H' m := by rw [hst]; exact hp
        generalize hr : stepR src x.a x.ts = r at hp
        cases r with
        | ok a' ts' =>
          obtain ⟨rfl, hm, ⟨tk', hbx, htk⟩, hfr, hfk⟩ := hp
          simp only [kont_nil, kont_bn, r_nil, lpQ_n, eget, AS.put, AS.keep, List.filterMap, Option.map_some, reduceCtorEq, Nat.reduceEqDiff, ↓reduceIte, retK]
          have hn := hx.next hlt hr hm hbx htk hfr hfk
          exact .mk ⟨H', m, a', tk', ts'⟩ rfl hn.1 hn.2
        | err e =>
          obtain ⟨rfl, hm, hfr, hfk⟩ := hp
          simp only [kont_nil, kont_p, kont_bp, lpQ_p, retK]
          exact lx_pan hx hlt h' hr hfk
      · have hst : stepR src x.a x.ts = (match numR (runS [3] (src.drop x.a)) with | some v => addS x.a x.ts (runS [3] (src.drop x.a)) ⟨2, [], v, 0⟩ | none => .err x.a) := by simp [stepR, hg, hc]
        simp only [kont_nil, kont_n, kont_e, kont_be, k_skip, k_exit, k_ret, k_seq, k_block, k_cond, k_reg, r_nil, r_v, r_st, r_call, r_calli, stE, callT, callI, lpQ_e, eget, lk, lkv, oks, AS.put, AS.keep, evk, splice, Opk.opds, aload, isI, isInt, toI, isB, toB, isS, toS, mk, icmp, nT, AVal.cells, List.length_cons, List.length_nil, List.filterMap, List.map_cons, List.map_nil, List.append_nil, List.nil_append, List.cons_append, Option.map_some, reduceCtorEq, and_true, true_and, forall_const, Nat.reduceEqDiff, ↓reduceIte, Bool.false_eq_true, Nat.reduceAdd, List.drop, List.take, List.take_succ_cons, Nat.reduceLeDiff, Nat.reduceMul, Int.reduceLE, Int.reduceToNat, Nat.le_refl, List.headD_cons, false_implies, Nat.zero_add, and_self, Nat.add_zero, decide_true, hb, hb3, Int.ofNat_lt, hlt, Int.natCast_nonneg, Int.toNat_natCast, List.getElem?_eq_getElem hlt, Option.getD_some, T9_30, sB, u8_lt, hc, callI]
        refine ⟨by decide, (p28 hx.sc).mono ?_⟩
        intro o H' m hp
        have hp : ScPost x.H x.n 6 src (stepR src x.a x.ts) o H' m := by rw [hst]; exact hp
        generalize hr : stepR src x.a x.ts = r at hp
        cases r with
        | ok a' ts' =>
          obtain ⟨rfl, hm, ⟨tk', hbx, htk⟩, hfr, hfk⟩ := hp
          simp only [kont_nil, kont_bn, r_nil, lpQ_n, eget, AS.put, AS.keep, List.filterMap, Option.map_some, reduceCtorEq, Nat.reduceEqDiff, ↓reduceIte, retK]
          have hn := hx.next hlt hr hm hbx htk hfr hfk
          exact .mk ⟨H', m, a', tk', ts'⟩ rfl hn.1 hn.2
        | err e =>
          obtain ⟨rfl, hm, hfr, hfk⟩ := hp
          simp only [kont_nil, kont_p, kont_bp, lpQ_p, retK]
          exact lx_pan hx hlt h' hr hfk
      · have hst : stepR src x.a x.ts = signR x.a x.ts (src.drop x.a) src.length := by simp [stepR, hg, hc]
        simp only [kont_nil, kont_n, kont_e, kont_be, k_skip, k_exit, k_ret, k_seq, k_block, k_cond, k_reg, r_nil, r_v, r_st, r_call, r_calli, stE, callT, callI, lpQ_e, eget, lk, lkv, oks, AS.put, AS.keep, evk, splice, Opk.opds, aload, isI, isInt, toI, isB, toB, isS, toS, mk, icmp, nT, AVal.cells, List.length_cons, List.length_nil, List.filterMap, List.map_cons, List.map_nil, List.append_nil, List.nil_append, List.cons_append, Option.map_some, reduceCtorEq, and_true, true_and, forall_const, Nat.reduceEqDiff, ↓reduceIte, Bool.false_eq_true, Nat.reduceAdd, List.drop, List.take, List.take_succ_cons, Nat.reduceLeDiff, Nat.reduceMul, Int.reduceLE, Int.reduceToNat, Nat.le_refl, List.headD_cons, false_implies, Nat.zero_add, and_self, Nat.add_zero, decide_true, hb, hb3, Int.ofNat_lt, hlt, Int.natCast_nonneg, Int.toNat_natCast, List.getElem?_eq_getElem hlt, Option.getD_some, T9_30, sB, u8_lt, hc, callI]
        refine ⟨by decide, (p29 hx.sc hlt).mono ?_⟩
        intro o H' m hp
        have hp : ScPost x.H x.n 6 src (stepR src x.a x.ts) o H' m := by rw [hst]; exact hp
        generalize hr : stepR src x.a x.ts = r at hp
        cases r with
        | ok a' ts' =>
          obtain ⟨rfl, hm, ⟨tk', hbx, htk⟩, hfr, hfk⟩ := hp
          simp only [kont_nil, kont_bn, r_nil, lpQ_n, eget, AS.put, AS.keep, List.filterMap, Option.map_some, reduceCtorEq, Nat.reduceEqDiff, ↓reduceIte, retK]
          have hn := hx.next hlt hr hm hbx htk hfr hfk
          exact .mk ⟨H', m, a', tk', ts'⟩ rfl hn.1 hn.2
        | err e =>
          obtain ⟨rfl, hm, hfr, hfk⟩ := hp
          simp only [kont_nil, kont_p, kont_bp, lpQ_p, retK]
          exact lx_pan hx hlt h' hr hfk
      · have hst : stepR src x.a x.ts = .err x.a := by simp [stepR, hg, hc]
        simp only [kont_nil, kont_n, kont_e, kont_be, k_skip, k_exit, k_ret, k_seq, k_block, k_cond, k_reg, r_nil, r_v, r_st, r_call, r_calli, stE, callT, callI, lpQ_e, eget, lk, lkv, oks, AS.put, AS.keep, evk, splice, Opk.opds, aload, isI, isInt, toI, isB, toB, isS, toS, mk, icmp, nT, AVal.cells, List.length_cons, List.length_nil, List.filterMap, List.map_cons, List.map_nil, List.append_nil, List.nil_append, List.cons_append, Option.map_some, reduceCtorEq, and_true, true_and, forall_const, Nat.reduceEqDiff, ↓reduceIte, Bool.false_eq_true, Nat.reduceAdd, List.drop, List.take, List.take_succ_cons, Nat.reduceLeDiff, Nat.reduceMul, Int.reduceLE, Int.reduceToNat, Nat.le_refl, List.headD_cons, false_implies, Nat.zero_add, and_self, Nat.add_zero, decide_true, hb, hb3, Int.ofNat_lt, hlt, Int.natCast_nonneg, Int.toNat_natCast, List.getElem?_eq_getElem hlt, Option.getD_some, T9_30, sB, u8_lt, hc, callI]
        refine ⟨by decide, (p25 hx.sc).mono ?_⟩
        intro o H' m hp
        have hp : ScPost x.H x.n 6 src (stepR src x.a x.ts) o H' m := by rw [hst]; exact hp
        generalize hr : stepR src x.a x.ts = r at hp
        cases r with
        | ok a' ts' =>
          obtain ⟨rfl, hm, ⟨tk', hbx, htk⟩, hfr, hfk⟩ := hp
          simp only [kont_nil, kont_bn, r_nil, lpQ_n, eget, AS.put, AS.keep, List.filterMap, Option.map_some, reduceCtorEq, Nat.reduceEqDiff, ↓reduceIte, retK]
          have hn := hx.next hlt hr hm hbx htk hfr hfk
          exact .mk ⟨H', m, a', tk', ts'⟩ rfl hn.1 hn.2
        | err e =>
          obtain ⟨rfl, hm, hfr, hfk⟩ := hp
          simp only [kont_nil, kont_p, kont_bp, lpQ_p, retK]
          exact lx_pan hx hlt h' hr hfk
    · simp only [kont_nil, kont_n, kont_e, kont_be, k_skip, k_exit, k_ret, k_seq, k_block, k_cond, k_reg, r_nil, r_v, r_st, r_call, r_calli, stE, callT, callI, lpQ_e, eget, lk, lkv, oks, AS.put, AS.keep, evk, splice, Opk.opds, aload, isI, isInt, toI, isB, toB, isS, toS, mk, icmp, nT, hget_hset, AVal.cells, List.length_cons, List.length_nil, List.filterMap, List.map_cons, List.map_nil, List.append_nil, List.nil_append, Option.map_some, reduceCtorEq, true_and, forall_const, Nat.reduceEqDiff, ↓reduceIte, Bool.false_eq_true, Nat.reduceAdd, List.drop, List.take, List.drop_succ_cons, List.take_succ_cons, Nat.reduceLeDiff, Nat.le_refl, List.headD_cons, false_implies, Nat.zero_add, and_self, Nat.add_zero, decide_false, hb, hx.b0, hx.b1, hx.b2, Int.ofNat_lt, hlt]
      exact lx_end hx hlt h'
end Go.AM
end

/- Tokens: decimal numbers of the reference. Conditions: none. -/
section
set_option maxRecDepth 10000
set_option linter.unusedSimpArgs false
set_option linter.unusedVariables false
set_option linter.unusedVariables false
set_option linter.unusedSimpArgs false
namespace Go.AM
open Go.Proofs Go.Lib

structure V40 where
  v : Nat
  s : List UInt8
def preD (v : Nat) : List UInt8 := if v < 10 then [] else decDigits (v / 10)
theorem pre_dig (v : Nat) : decDigits v = preD v ++ [UInt8.ofNat (48 + v % 10)] := by
  rw [decDigits, preD]
  split
  · rename_i h; rw [Nat.mod_eq_of_lt h]; rfl
  · rfl
theorem wu8 {n : Nat} (h : n < 256) : IntKind.wrap .u8 (n : Int) = n := by
  unfold IntKind.wrap; simp [IntKind.bits, IntKind.signed]; omega
theorem one_dig {k : Nat} (hk : k < 10) : (UInt8.ofNat (48 + k)).toNat = 48 + k := by simp; omega
/-- A digit as the code makes it. -/
theorem dig_mk (v : Nat) : IntKind.wrap .u8 (IntKind.wrap .i64 (48 + (v : Int).tmod 10)) = ((48 + v % 10 : Nat) : Int) := by
  have e0 : (v : Int).tmod 10 = ((v % 10 : Nat) : Int) := by rw [Int.tmod_eq_emod_of_nonneg (by omega)]; omega
  rw [e0, show IntKind.wrap .i64 (48 + ((v % 10 : Nat) : Int)) = ((48 + v % 10 : Nat) : Int) by rw [w64_in (by omega) (by omega)]; omega, wu8 (by omega)]
theorem quo_mk {v : Nat} (h : v ≤ 9223372036854775807) : IntKind.wrap .i64 ((v : Int).tdiv 10) = ((v / 10 : Nat) : Int) := by
  rw [Int.tdiv_eq_ediv_of_nonneg (by omega), w64_in (by omega) (by omega)]; omega
theorem dig_bs (v : Nat) : ∃ bs : List UInt8, [AVal.int .u8 ((48 + v % 10 : Nat) : Int)] = bs.map fun b => .int .u8 b.toNat :=
  ⟨[UInt8.ofNat (48 + v % 10)], by simp only [List.map_cons, List.map_nil, one_dig (Nat.mod_lt v (by omega))]⟩
theorem preD_le {v : Nat} : preD v = if v < 10 then [] else decDigits (v / 10) := rfl
theorem dec_len : ∀ (k u : Nat), u < 10 ^ (k + 1) → (decDigits u).length ≤ k + 1
  | 0, u, h => by rw [decDigits, dif_pos (by simpa using h)]; simp
  | k + 1, u, h => by
    rw [decDigits]
    split
    · simp
    · have := dec_len k (u / 10) (by rw [Nat.pow_succ] at h; omega)
      simp only [List.length_append, List.length_cons, List.length_nil]; omega
theorem dec_len40 {u : Nat} (hu : u ≤ 1099511627776) : (decDigits u).length ≤ 13 := dec_len 12 u (by omega)
theorem p40 (u : Nat) (hu : u ≤ 1099511627776) : Pur Tryd.prog 40 [.int .i64 u] (.str (decDigits u)) := by
  refine .mk ⟨trivial, trivial⟩ trivial (a40 (ev_awp TabOK.tnil (ev_evK ?_)))
  simp only [kont_n, k_seq, k_block, k_reg, r_nil, r_v, penv, eget, lk, lkv, oks, AS.put, AS.keep, evk, evS_eq, allS, fillS, Opk.opds, isI, isInt, toI, iarith, nT, AVal.cells, Tok.esz, List.length_cons, List.length_nil, List.filterMap, List.map_cons, List.map_nil, Option.map_some, reduceCtorEq, true_and, forall_const, ↓reduceIte, Bool.false_eq_true, Nat.reduceLeDiff, Nat.reduceMul, Nat.reduceLT, Int.reduceEq, List.set_cons_zero, List.replicate_succ, List.replicate_zero, isDiv, false_implies, Nat.zero_add, ne_eq, not_false_eq_true, and_self, or_true, Nat.add_zero, c40, dig_mk, Int.toNat_natCast]
  refine ⟨dig_bs u, ?_⟩
  refine k_loop (fun w : V40 => ⟨[(0, true, .int .i64 w.v), (3, true, .str w.s)], hnil, 0⟩) (fun w => w.v ≤ 1099511627776 ∧ decDigits u = preD w.v ++ w.s) (fun w => w.v) ⟨u, [UInt8.ofNat (48 + u % 10)]⟩ rfl ⟨hu, pre_dig u⟩ ?_
  rintro ⟨v, s⟩ ⟨hv, hd⟩
  simp only at hv hd
  have hl : s.length ≤ 13 := by
    have := congrArg List.length hd
    rw [List.length_append] at this
    have := dec_len40 hu
    omega
  by_cases h1 : v < 10
  · have c1 : ((10 : Int) ≤ v) = False := eq_false (by omega)
    simp only [kont_nil, kont_n, kont_e, kont_bn, kont_be, k_skip, k_exit, k_ret, k_seq, k_block, k_cond, k_reg, r_nil, r_v, lpQ_n, lpQ_e, postC, rcs, rc1, rvS, eget, lk, lkv, oks, AS.put, AS.keep, evk, evS_eq, allS, fillS, Opk.opds, isI, isInt, toI, isB, toB, isS, toS, icmp, iarith, nT, AVal.cells, Tok.esz, List.length_cons, List.length_nil, List.filterMap, List.map_cons, List.map_nil, List.nil_append, List.cons_append, Option.map_some, reduceCtorEq, true_and, forall_const, Nat.reduceEqDiff, ↓reduceIte, Bool.false_eq_true, Nat.reduceLeDiff, Nat.reduceMul, Nat.reduceLT, Int.reduceEq, List.set_cons_zero, List.replicate_succ, List.replicate_zero, isDiv, false_implies, Nat.zero_add, ne_eq, not_false_eq_true, and_self, or_true, ret_eq, Nat.add_zero, wk_str, decide_false, c1]
    rw [hd, preD, if_pos h1]; rfl
  · have c1 : ((10 : Int) ≤ v) = True := eq_true (by omega)
    simp only [kont_nil, kont_n, kont_e, kont_bn, kont_be, k_skip, k_exit, k_ret, k_seq, k_block, k_cond, k_reg, r_nil, r_v, lpQ_n, lpQ_e, postC, rcs, rc1, rvS, eget, lk, lkv, oks, AS.put, AS.keep, evk, evS_eq, allS, fillS, Opk.opds, isI, isInt, toI, isB, toB, isS, toS, icmp, iarith, nT, AVal.cells, Tok.esz, List.length_cons, List.length_nil, List.filterMap, List.map_cons, List.map_nil, List.nil_append, List.cons_append, Option.map_some, reduceCtorEq, and_true, true_and, forall_const, Nat.reduceEqDiff, ↓reduceIte, Bool.false_eq_true, Nat.reduceLeDiff, Nat.reduceMul, Nat.reduceLT, Int.reduceEq, List.set_cons_zero, List.replicate_succ, List.replicate_zero, isDiv, false_implies, Nat.zero_add, ne_eq, not_false_eq_true, and_self, or_true, ret_eq, Nat.add_zero, wk_str, decide_true, c1, quo_mk (show v ≤ 9223372036854775807 by omega), dig_mk, Int.toNat_natCast, List.length_cons]
    refine ⟨dig_bs (v / 10), by unfold small; omega, .mk ⟨v / 10, UInt8.ofNat (48 + v / 10 % 10) :: s⟩ rfl ⟨by simp only []; omega, ?_⟩ (by simp only []; omega)⟩
    simp only []
    rw [hd, preD, if_neg h1, pre_dig (v / 10)]; simp
/-- The number that digits tell, as the reference reads it. -/
def foldD : List UInt8 → Nat → Option Nat
  | [], n => some n
  | b :: r, n => if 1099511627776 < 10 * n + (b.toNat - 48) then none else foldD r (10 * n + (b.toNat - 48))
def numF (s : List UInt8) : AVal := match foldD s 0 with
  | none => .tup [.int .i64 0, .bool false]
  | some n => .tup [.int .i64 n, .bool (decide (s.length = 1) || decide ((s[0]?.getD 0).toNat ≠ 48))]
structure V34 where
  i : Nat
  v : Nat
theorem dig_sub {b : UInt8} (h : digB b = true) : IntKind.wrap .u8 ((b.toNat : Int) - 48) = ((b.toNat - 48 : Nat) : Int) ∧ b.toNat - 48 < 10 := by
  simp only [digB, isDig, Bool.and_eq_true, decide_eq_true_eq] at h
  have : (b.toNat : Int) - 48 = ((b.toNat - 48 : Nat) : Int) := by omega
  refine ⟨by rw [this, wu8 (by omega)], by omega⟩
theorem p34 (s : List UInt8) (h0 : 0 < s.length) (hl : s.length < 1000000000) (hd : ∀ b ∈ s, digB b = true) : Pur Tryd.prog 34 [.str s] (numF s) := by
  refine .mk ⟨trivial, trivial⟩ (by unfold numF; split <;> simp [AVal.under, unders]) (a34 (ev_awp TabOK.tnil (ev_evK ?_)))
  simp only [kont_n, k_seq, k_block, k_reg, r_nil, r_v, penv, eget, lk, lkv, oks, AS.put, AS.keep, evk, Opk.opds, List.filterMap, Option.map_some, reduceCtorEq, true_and, Nat.reduceEqDiff, ↓reduceIte, and_self, Nat.add_zero, c34]
  refine k_loop (fun w : V34 => ⟨[(0, true, .str s), (4, true, .int .i64 w.v), (5, true, .int .i64 w.i)], hnil, 0⟩) (fun w => w.i ≤ s.length ∧ w.v ≤ 1099511627776 ∧ foldD s 0 = foldD (s.drop w.i) w.v) (fun w => s.length - w.i) ⟨0, 0⟩ rfl ⟨Nat.zero_le _, Nat.zero_le _, rfl⟩ ?_
  rintro ⟨i, v⟩ ⟨hi, hv, hf⟩
  simp only at hi hv hf
  by_cases hlt : i < s.length
  · have e := w64_succ (k := i) (by omega)
    obtain ⟨d1, d2⟩ := dig_sub (hd s[i] (List.getElem_mem hlt))
    have e1 : IntKind.wrap .i64 (10 * (v : Int)) = ((10 * v : Nat) : Int) := by rw [w64_in (by omega) (by omega)]; omega
    have e2 : IntKind.wrap .i64 ((s[i].toNat - 48 : Nat) : Int) = ((s[i].toNat - 48 : Nat) : Int) := w64_in (by omega) (by omega)
    have e3 : IntKind.wrap .i64 (((10 * v : Nat) : Int) + ((s[i].toNat - 48 : Nat) : Int)) = ((10 * v + (s[i].toNat - 48) : Nat) : Int) := by rw [w64_in (by omega) (by omega)]; omega
    have hdr : s.drop i = s[i] :: s.drop (i + 1) := List.drop_eq_getElem_cons hlt
    rw [hdr, foldD] at hf
    simp only [kont_nil, kont_n, kont_e, kont_r, kont_bn, kont_be, kont_br, k_skip, k_exit, k_ret, k_seq, k_block, k_cond, k_reg, r_nil, r_v, r_vg, r_pick, lpQ_n, lpQ_e, lpQ_r, postC, rcs, rc1, rvS, gok, gvb, eget, lk, lkv, oks, AS.put, AS.keep, evk, Opk.opds, isI, isInt, toI, isB, toB, isS, toS, sel, icmp, iarith, List.filterMap, Option.map_some, reduceCtorEq, and_true, true_and, forall_const, Nat.reduceEqDiff, ↓reduceIte, Bool.false_eq_true, Int.reduceEq, Int.reduceLE, Int.reduceToNat, Bool.true_and, isDiv, false_implies, implies_true, Bool.cond_true_left, imp_self, beq_false, Bool.not_eq_true', decide_eq_true_eq, decide_eq_false_iff_not, ne_eq, not_false_eq_true, impA1, and_self, ret_eq, Nat.add_zero, decide_true, Int.ofNat_lt, hlt, Int.natCast_nonneg, Int.toNat_natCast, List.getElem?_eq_getElem hlt, Option.getD_some, e, d1, e1, e2, e3]
    refine ⟨fun q => ?_, fun q => ?_⟩
    · rw [if_pos (by omega)] at hf
      rw [numF, hf]; exact Wk.refl _
    · rw [if_neg (by omega)] at hf
      exact .mk ⟨i + 1, 10 * v + (s[i].toNat - 48)⟩ rfl ⟨hlt, by simp only []; omega, hf⟩ (by simp only []; omega)
  · have : i = s.length := by omega
    subst this
    rw [List.drop_length, foldD] at hf
    simp only [kont_nil, kont_n, kont_e, kont_r, kont_bn, kont_be, kont_br, k_skip, k_exit, k_ret, k_seq, k_block, k_cond, k_reg, r_nil, r_v, r_vg, r_pick, lpQ_n, lpQ_e, lpQ_r, postC, rcs, rc1, rvS, gok, gvb, eget, lk, lkv, oks, AS.put, AS.keep, evk, Opk.opds, isI, isInt, toI, isB, toB, isS, toS, sel, icmp, iarith, List.filterMap, Option.map_some, reduceCtorEq, and_true, true_and, forall_const, Nat.reduceEqDiff, ↓reduceIte, Bool.false_eq_true, Int.reduceEq, Int.reduceLE, Int.reduceToNat, Bool.true_and, isDiv, false_implies, implies_true, Bool.cond_true_left, imp_self, beq_false, Bool.not_eq_true', decide_eq_true_eq, decide_eq_false_iff_not, ne_eq, not_false_eq_true, impA1, and_self, ret_eq, Nat.add_zero, decide_false, Int.ofNat_lt, hlt]
    refine ⟨fun _ => by omega, ?_⟩
    rw [numF, hf]
    have e : (decide ((s.length : Int) = 1) || !decide (((s[0]?.getD 0).toNat : Int) = 48)) = (decide (s.length = 1) || decide ((s[0]?.getD 0).toNat ≠ 48)) := by
      rw [Bool.eq_iff_iff]; simp; omega
    rw [e]; exact Wk.refl _
end Go.AM
end

/- Tokens: Text. Conditions: none. -/
section
set_option maxRecDepth 10000
set_option linter.unusedSimpArgs false
set_option linter.unusedVariables false
set_option linter.unusedVariables false
set_option linter.unusedSimpArgs false
namespace Go.AM
open Go.Proofs Go.Lib

def wordS (t : Tkn) : List UInt8 := if t.K = 2 then itoa t.N else t.T
def textV (l : List Tkn) : AVal := if l.all validS then .tup [.str (join (l.map wordS) [32]), .int .i64 0] else .tup [.str [], .int .i64 100]
theorem T9_36 (a : List AVal) (H : AHeap) : T9 36 a H = s36 a H := rfl
theorem T9_37' : True := trivial
theorem T9_38 (a : List AVal) (H : AHeap) : T9 38 a H = s38 a H := rfl
abbrev fillW (l : List Tkn) (i : Nat) : List AVal := (l.take i).map (fun t => AVal.str (wordS t)) ++ List.replicate (l.length - i) (.str [])
theorem unders_app {n : Nat} : ∀ {a b : List AVal}, unders n a → unders n b → unders n (a ++ b)
  | [], _, _, hb => hb
  | _ :: _, _, ha, hb => ⟨ha.1, unders_app ha.2 hb⟩
theorem tail_len {B : Nat} : ∀ (ws : List (List UInt8)), (∀ w ∈ ws, w.length ≤ B) → (joinTail [32] ws).length ≤ ws.length * (B + 1)
  | [], _ => by simp [joinTail]
  | w :: r, h => by
    have ih := tail_len r fun x hx => h x (List.mem_cons_of_mem _ hx)
    have hw := h w (List.mem_cons_self ..)
    simp only [joinTail, List.map_cons, List.flatten_cons, List.length_append, List.length_cons, List.length_nil] at ih ⊢
    rw [Nat.add_mul]; omega
theorem join_len {B : Nat} : ∀ (ws : List (List UInt8)), (∀ w ∈ ws, w.length ≤ B) → (join ws [32]).length ≤ ws.length * (B + 1)
  | [], _ => by simp [join_nil]
  | w :: r, h => by
    have ih := tail_len r fun x hx => h x (List.mem_cons_of_mem _ hx)
    have hw := h w (List.mem_cons_self ..)
    rw [join_cons, List.length_append, List.length_cons, Nat.add_mul]; omega
theorem valid_num {t : Tkn} (h : validS t = true) (hk : t.K = 2) : 0 ≤ t.N ∧ t.N ≤ 1099511627776 := by
  simp [validS, hk] at h; omega
theorem valid_txt {t : Tkn} (h : validS t = true) : t.T.length ≤ 32 := by
  unfold validS at h
  split at h
  · simp [nameS] at h; omega
  · split at h
    · simp at h; simp [h.1]
    · split at h
      · simp at h; omega
      · cases h
theorem word_len {t : Tkn} (h : validS t = true) : (wordS t).length ≤ 32 := by
  unfold wordS
  split
  · rename_i hk
    obtain ⟨h1, h2⟩ := valid_num h hk
    rw [itoa, if_neg (by omega)]
    have := dec_len40 (u := t.N.toNat) (by omega)
    omega
  · exact valid_txt h
theorem p16 (l : List Tkn) (hl : l.length ≤ 1000000) : Pur Tryd.prog 16 [.sl (.none 4) (l.map encK)] (textV l) := by
  refine .mk ⟨⟨trivial, encK_under 0 l⟩, trivial⟩ (by unfold textV; split <;> simp [AVal.under, unders]) (a16 (ev_awp T9_ok (ev_evK ?_)))
  simp only [kont_n, k_seq, k_block, k_reg, r_nil, r_v, r_mks, mksE, penv, eget, lk, lkv, oks, AS.put, AS.keep, evk, Opk.opds, isInt, toI, hget_nil, AVal.cells, List.length_cons, List.length_nil, List.filterMap, Option.map_some, reduceCtorEq, and_true, true_and, Nat.reduceEqDiff, ↓reduceIte, Nat.zero_add, and_self, Nat.add_zero, c16, List.length_map, Int.natCast_nonneg, Int.toNat_natCast]
  refine ⟨⟨by unfold small; omega, by omega⟩, ?_⟩
  refine k_loop (fun i : Nat => ⟨[(4, true, .ref 2 1 0 l.length l.length), (10, true, .sl (.none 4) (l.map encK)), (11, true, .int .i64 l.length), (12, true, .int .i64 i)], hset hnil 2 (.arr 1 (fillW l i)), 4⟩)
    (fun i => i ≤ l.length ∧ ∀ j (hj : j < l.length), j < i → validS l[j] = true) (fun i => l.length - i) 0 (by simp [fillW]) ⟨Nat.zero_le _, fun j _ hj => by omega⟩ ?_
  rintro i ⟨hi, hall⟩
  have hlen : ∀ k, k ≤ l.length → (fillW l k).length = l.length := fun k hk => by simp [fillW]; omega
  by_cases hlt : i < l.length
  · have e := w64_succ (k := i) (by omega)
    have hfl := hlen i hi
    have hset' : (fillW l i).set i (.str (wordS l[i])) = fillW l (i + 1) := by
      apply List.ext_getElem?
      intro k
      simp only [fillW, List.getElem?_set, List.getElem?_append, List.getElem?_map, List.length_map, List.length_take, List.getElem?_take, List.getElem?_replicate, List.length_append, List.length_replicate]
      grind
    simp only [kont_nil, kont_n, kont_e, kont_r, kont_bn, kont_be, kont_br, k_skip, k_exit, k_ret, k_seq, k_block, k_cond, k_reg, r_nil, r_v, r_alloc, r_st, r_call, stE, callT, lpQ_n, lpQ_e, lpQ_r, postC, rcs, rc1, rvS, eget, lk, lkv, oks, AS.put, AS.keep, evk, splice, Opk.opds, aload, isI, isInt, toI, isB, toB, mk, icmp, iarith, nT, hget_hset, hget_nil, AVal.cells, Tok.esz, List.length_cons, List.length_nil, List.filterMap, List.map_cons, List.map_nil, List.append_nil, List.nil_append, Option.map_some, reduceCtorEq, and_true, true_and, forall_const, Nat.reduceEqDiff, ↓reduceIte, Bool.false_eq_true, Nat.reduceAdd, List.drop, List.take, List.drop_succ_cons, List.take_succ_cons, Nat.reduceLeDiff, Int.reduceEq, Nat.le_refl, List.headD_cons, isDiv, false_implies, implies_true, Nat.zero_add, Bool.not_eq_true', Bool.not_eq_false', decide_eq_true_eq, decide_eq_false_iff_not, ne_eq, not_false_eq_true, and_self, ret_eq, Nat.add_zero, decide_true, List.length_map, Int.ofNat_lt, hlt, List.getElem?_map, List.getElem?_eq_getElem hlt, Int.toNat_natCast, Option.getD_some, Int.natCast_nonneg, e, T9_36, sK, T9_37, s37, hfl]
    have nxt : validS l[i] = true → ∀ (w : List UInt8), w = wordS l[i] → lpN (fun i : Nat => (⟨[(4, true, .ref 2 1 0 l.length l.length), (10, true, .sl (.none 4) (l.map encK)), (11, true, .int .i64 l.length), (12, true, .int .i64 i)], hset hnil 2 (.arr 1 (fillW l i)), 4⟩ : AS))
        (fun i => i ≤ l.length ∧ ∀ j (hj : j < l.length), j < i → validS l[j] = true) (fun i => l.length - i) i
        ⟨[(4, true, .ref 2 1 0 l.length l.length), (10, true, .sl (.none 4) (l.map encK)), (11, true, .int .i64 l.length), (12, true, .int .i64 ((i + 1 : Nat) : Int))],
          hset (hset (hset (hset hnil 2 (.arr 1 (fillW l i))) 7 (.box [.int .i64 0, .str [], .int .i64 0, .int .i64 0])) 7 (.box [.int .i64 l[i].K, .str l[i].T, .int .i64 l[i].N, .int .i64 l[i].A])) 2 (.arr 1 ((fillW l i).set i (.str w))), 10⟩ := by
      rintro hv w rfl
      rw [hset']
      refine ⟨i + 1, .inr ⟨envWk_refl (nodupB_spec _ rfl), .inr ⟨rfl, ⟨fun id ob ho => ?_, fun id h => ?_⟩, ?_⟩⟩, ⟨hlt, fun j hj hji => ?_⟩, by simp only []; omega⟩
      · have ho' : hget (hset hnil 2 (.arr 1 (fillW l (i + 1)))) id = some ob := ho
        rw [hget_hset] at ho'
        by_cases q : 2 = id
        · rw [if_pos q] at ho'; cases ho'
          refine ⟨by show id < 4; omega, ⟨.arr 1 (fillW l (i + 1)), ?_, OWk.refl _⟩, .inl ?_⟩
          · subst q; exact hget_hset_eq ..
          · exact unders_app (unders_map (f := fun t => AVal.str (wordS t)) (fun t => trivial) _) (unders_replicate trivial)
        · rw [if_neg q] at ho'; simp [hget, hnil] at ho'
      · have h' : hget (hset hnil 2 (.arr 1 (fillW l i))) id ≠ none := h
        show hget (hset hnil 2 (.arr 1 (fillW l (i + 1)))) id ≠ none
        rw [hget_hset] at h' ⊢
        by_cases q : 2 = id
        · rw [if_pos q]; simp
        · rw [if_neg q] at h'; simp [hget, hnil] at h'
      · exact ⟨(by show 2 < 4; omega), ⟨trivial, encK_under _ l⟩, trivial, trivial, trivial⟩
      · by_cases q : j = i
        · subst q; exact hv
        · exact hall j hj (by omega)
    refine ⟨fun hv => ?_, fun hv => ⟨fun hk => ⟨?_, nxt hv _ (by rw [wordS, if_pos hk])⟩, fun hk => nxt hv _ (by rw [wordS, if_neg hk])⟩⟩
    · have hv' : validS l[i] = false := hv
      rw [textV, if_neg]
      · exact Wk.refl _
      · intro hh
        have := List.all_eq_true.1 hh l[i] (List.getElem_mem hlt)
        rw [hv'] at this; cases this
    · have := valid_num hv hk
      simp only at this
      omega
  · have : i = l.length := by omega
    subst this
    have hav : l.all validS = true := List.all_eq_true.2 fun t ht' => by
      obtain ⟨j, hj, rfl⟩ := List.mem_iff_getElem.1 ht'
      exact hall j hj hj
    have hfe : fillW l l.length = (l.map wordS).map .str := by simp [fillW, Function.comp_def]
    have hjl := join_len (B := 32) (l.map wordS) (fun w hw => by
      obtain ⟨t, ht', rfl⟩ := List.mem_map.1 hw
      exact word_len (List.all_eq_true.1 hav t ht'))
    rw [List.length_map] at hjl
    simp only [kont_nil, kont_n, kont_e, kont_r, kont_bn, kont_be, kont_br, k_skip, k_exit, k_ret, k_seq, k_block, k_cond, k_reg, r_nil, r_v, r_alloc, r_st, r_call, stE, callT, lpQ_n, lpQ_e, lpQ_r, postC, rcs, rc1, rvS, eget, lk, lkv, oks, AS.put, AS.keep, evk, splice, Opk.opds, aload, isI, isInt, toI, isB, toB, mk, icmp, iarith, nT, hget_hset, hget_nil, AVal.cells, Tok.esz, List.length_cons, List.length_nil, List.filterMap, List.map_cons, List.map_nil, List.append_nil, List.nil_append, Option.map_some, and_true, true_and, forall_const, Nat.reduceEqDiff, ↓reduceIte, Bool.false_eq_true, Nat.reduceAdd, List.drop, List.take, Int.reduceEq, Nat.le_refl, isDiv, false_implies, implies_true, Nat.zero_add, Bool.not_eq_true', Bool.not_eq_false', decide_eq_true_eq, decide_eq_false_iff_not, ne_eq, not_false_eq_true, and_self, ret_eq, Nat.add_zero, decide_false, List.length_map, Int.ofNat_lt, hlt, T9_38, s38]
    refine ⟨⟨l.map wordS, hfe, by simp, by simp; omega, by omega⟩, ?_⟩
    rw [textV, if_pos hav, hfe]
    refine (congrArg (fun z => Wk (.tup [.str (join z [32]), .int .i64 0]) _) ?_).mpr (Wk.refl _)
    rw [List.map_map]; exact List.map_id _
end Go.AM
end
