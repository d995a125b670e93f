/-
  Rules of deduction: the table of the laws; the examples · Rules of deduction: the laws, first half · Rules of deduction: the laws, second half · Rules of deduction: the law of white space · Rules of deduction: the law of faults · Rules of deduction: lemmas without a condition or a premise · Rules of deduction: other names · Rules of deduction: from the rows to the abstract machine.
  Conditions: none beyond those of its parts.
-/
import Derived.Test.YtpjedmachelflaaGreatDoorB10
import Derived.Test.YtpjedmachelflaaGreatDoorB5
import Derived.Test.YtpjedmachelflaaGreatDoorB7
import Derived.Test.YtpjedmachelflaaGreatDoorRows
import Derived.LaidLaws

section
set_option maxRecDepth 20000
set_option linter.all false
namespace Go.AM
open Go.Proofs Go.Lib
def lxN : Nat → List UInt8 → Nat → ScR
  | 0, _, a => .err a
  | f + 1, [], a => .ok a []
  | f + 1, b :: r, a => match st1 (b :: r) with
    | none => .err a
    | some (k, o) => consR o a (lxN f ((b :: r).drop k) (a + k))
theorem lx_N : ∀ (f : Nat) (l : List UInt8) (a : Nat), l.length < f → lx l a = lxN f l a
  | 0, l, a, h => by omega
  | f + 1, [], a, h => by rw [lx_nil]; rfl
  | f + 1, b :: r, a, h => by
    rw [lxN]
    cases hs : st1 (b :: r) with
    | none => rw [lx_none (by simp) hs]
    | some x =>
      obtain ⟨k, o⟩ := x
      have := st1_pos hs
      rw [lx_some hs, lx_N f _ _ (by simp only [List.length_drop]; omega)]
def pMN (src : Bs) : PL := match lxN (src.length + 1) src 0 with
  | .err a => ⟨[], a, 100⟩
  | .ok _ ts => plOf src (allR (ts.length + 1) ts)
theorem parse_N {src : Bs} (h : src.length ≤ 65536) : parseMV src = plV (pMN src) := by
  unfold parseMV parseLm pMN
  rw [if_neg (by omega), lx_N (src.length + 1) src 0 (by omega)]
  cases lxN (src.length + 1) src 0 <;> rfl
abbrev lmW : Lma := ⟨[115, 105, 110, 103, 108, 101], 1, [[112], [113]], [[120]], [⟨1, [0, 1], [], 0⟩], [⟨0, [0]⟩], 1, 0⟩
abbrev lmO : Lma := ⟨[97], 1, [[112]], [[120]], [], [], 0, 0⟩
abbrev exS : Bs := [108, 101, 109, 109, 97, 32, 115, 105, 110, 103, 108, 101, 32, 108, 101, 118, 101, 108, 32, 49, 32, 123, 32, 99, 101, 108, 108, 115, 32, 112, 44, 32, 113, 59, 32, 108, 101, 116, 116, 101, 114, 115, 32, 120, 59, 32, 100, 105, 102, 102, 101, 114, 101, 110, 116, 32, 112, 44, 32, 113, 59, 32, 111, 110, 108, 121, 32, 112, 58, 32, 120, 59, 32, 108, 97, 99, 107, 115, 32, 113, 32, 120, 59, 32, 125]
def shP (a b : Bs) : Bs := [108, 101, 109, 109, 97, 32, 97, 32, 108, 101, 118, 101, 108, 32] ++ a ++ [32, 123, 32, 99, 101, 108, 108, 115, 32, 112, 59, 32, 108, 101, 116, 116, 101, 114, 115, 32, 120, 59, 32] ++ b ++ [125]
theorem v1 : parseMV exS = plV ⟨[lmW], 0, 0⟩ := by
  rw [parse_N (by decide), show pMN exS = ⟨[lmW], 0, 0⟩ by kernel_rfl]
theorem v2 : parseMV [] = plV ⟨[], 0, 0⟩ := by
  rw [parse_N (by decide), show pMN [] = ⟨[], 0, 0⟩ by kernel_rfl]
theorem v3 : parseMV (shP [49] [108, 97, 99, 107, 115, 32, 112, 32, 120, 59, 32]) = plV ⟨[lmO], 0, 0⟩ := by
  rw [parse_N (by decide), show pMN (shP [49] [108, 97, 99, 107, 115, 32, 112, 32, 120, 59, 32]) = ⟨[lmO], 0, 0⟩ by kernel_rfl]
theorem v4 : parseMV (shP [49] [108, 97, 99, 107, 115, 32, 113, 32, 120, 59, 32]) = plV ⟨[], 0, 160⟩ := by
  rw [parse_N (by decide), show pMN (shP [49] [108, 97, 99, 107, 115, 32, 113, 32, 120, 59, 32]) = ⟨[], 0, 160⟩ by kernel_rfl]
theorem v5 : parseMV (shP [57] [108, 97, 99, 107, 115, 32, 112, 32, 120, 59, 32]) = plV ⟨[], 0, 300⟩ := by
  rw [parse_N (by decide), show pMN (shP [57] [108, 97, 99, 107, 115, 32, 112, 32, 120, 59, 32]) = ⟨[], 0, 300⟩ by kernel_rfl]
theorem v6 : parseMV (shP [49] []) = plV ⟨[], 38, 150⟩ := by
  rw [parse_N (by decide), show pMN (shP [49] []) = ⟨[], 38, 150⟩ by kernel_rfl]
theorem v7 : parseMV [108, 101, 109, 109, 97, 32, 97] = plV ⟨[], 7, 150⟩ := by
  rw [parse_N (by decide), show pMN [108, 101, 109, 109, 97, 32, 97] = ⟨[], 7, 150⟩ by kernel_rfl]
theorem i_1 : itoa 1 = [49] := by
  rw [itoa, if_neg (by decide), decDigits, dif_pos (by decide)]; rfl
theorem pr1 : printMV [lmW] = .tup [.str [108, 101, 109, 109, 97, 32, 115, 105, 110, 103, 108, 101, 32, 108, 101, 118, 101, 108, 32, 49, 32, 123, 32, 99, 101, 108, 108, 115, 32, 112, 32, 44, 32, 113, 32, 59, 32, 108, 101, 116, 116, 101, 114, 115, 32, 120, 32, 59, 32, 100, 105, 102, 102, 101, 114, 101, 110, 116, 32, 112, 32, 44, 32, 113, 32, 59, 32, 111, 110, 108, 121, 32, 112, 32, 58, 32, 120, 32, 59, 32, 108, 97, 99, 107, 115, 32, 113, 32, 120, 32, 59, 32, 125], .int .i64 0] := by
  unfold printMV
  rw [if_neg (by decide), if_neg (by decide)]
  rw [show printT [lmW] = [kI [108, 101, 109, 109, 97], kI [115, 105, 110, 103, 108, 101], kI [108, 101, 118, 101, 108], kN 1, kS [123], kI [99, 101, 108, 108, 115], kI [112], kS [44], kI [113], kS [59], kI [108, 101, 116, 116, 101, 114, 115], kI [120], kS [59], kI [100, 105, 102, 102, 101, 114, 101, 110, 116], kI [112], kS [44], kI [113], kS [59], kI [111, 110, 108, 121], kI [112], kS [58], kI [120], kS [59], kI [108, 97, 99, 107, 115], kI [113], kI [120], kS [59], kS [125]] by kernel_rfl]
  simp only [List.map_cons, List.map_nil, wordS, i_1]; rfl
theorem sl0 : ((shP [49] [108, 97, 99, 107, 115, 32, 112, 32, 120, 59, 32]).length < 1000000000) = True := eq_true (by decide)
theorem sl1 : ((shP [49] [108, 97, 99, 107, 115, 32, 113, 32, 120, 59, 32]).length < 1000000000) = True := eq_true (by decide)
theorem sl2 : ((shP [57] [108, 97, 99, 107, 115, 32, 112, 32, 120, 59, 32]).length < 1000000000) = True := eq_true (by decide)
theorem sl3 : ((shP [49] []).length < 1000000000) = True := eq_true (by decide)
theorem p25 (a b : Bs) (ha : a.length ≤ 100) (hb : b.length ≤ 100) : Pur Tryz.prog 25 [.str a, .str b] (.str (shP a b)) := by
  refine .mk ⟨trivial, trivial, trivial⟩ trivial (a25 (ev_awp TabOK.tnil (ev_evK ?_)))
  simp only [eE, eN, reduceCtorEq, Nat.reduceEqDiff, ↓reduceIte, Nat.reduceAdd, c25]
  refine ⟨small1 (by (try simp only [List.length_append, List.length_cons, List.length_nil]); omega), small1 (by (try simp only [List.length_append, List.length_cons, List.length_nil]); omega), small1 (by (try simp only [List.length_append, List.length_cons, List.length_nil]); omega), small1 (by (try simp only [List.length_append, List.length_cons, List.length_nil]); omega), ?_⟩
  simp [shP]
def dXw : Dc Lma := ⟨encL, decX, fun v => Wk v (encL (decX v)), fun _ h => h⟩
theorem dXw_ok (x : Lma) : dXw.ok (encL x) = True := eq_true (by show Wk (encL x) (encL (decX (encL x))); rw [decX_enc]; exact Wk.refl _)
theorem dXw_dec (x : Lma) : dXw.dec (encL x) = x := decX_enc x
theorem wk_lem {nm : Bs} {lv c l : Int} {cs ls : List Bs} {qs : List Cnd} {ps : List Prm} {a b d e : AVal} (h1 : Wk a (eSs cs)) (h2 : Wk b (eSs ls)) (h3 : Wk d (.sl (.none 4) (qs.map encQ))) (h4 : Wk e (.sl (.none 2) (ps.map encM))) : Wk (.agg [.str nm, .int .i64 lv, a, b, d, e, .int .i64 c, .int .i64 l]) (encL ⟨nm, lv, cs, ls, qs, ps, c, l⟩) :=
  Wk.agg (.cons (Wk.refl _) (.cons (Wk.refl _) (.cons h1 (.cons h2 (.cons h3 (.cons h4 (.cons (Wk.refl _) (.cons (Wk.refl _) .nil))))))))
theorem want_dec : dXw.dec (AVal.agg [AVal.str [115, 105, 110, 103, 108, 101], AVal.int IntKind.i64 1, AVal.sl (Tok.exact 1) [AVal.str [112], AVal.str [113]], AVal.sl (Tok.exact 1) [AVal.str [120]], AVal.sl (Tok.exact 4) [AVal.agg [AVal.int IntKind.i64 1, AVal.sl (Tok.exact 1) [AVal.int IntKind.i64 0, AVal.int IntKind.i64 1], zs, z0]], AVal.sl (Tok.exact 2) [AVal.agg [z0, AVal.sl (Tok.exact 1) [AVal.int IntKind.i64 0]]], AVal.int IntKind.i64 1, z0]) = lmW := rfl
theorem Wks.len : ∀ {ws us : List AVal}, Wks ws us → ws.length = us.length
  | _, _, .nil => rfl
  | _, _, .cons _ t => by rw [List.length_cons, List.length_cons, t.len]
theorem Wks.stab {g : Ghost} {esz : Nat} {f : Nat → Option Value} : ∀ {l m : List AVal}, Wks l m → ∀ o, Stab g esz f o l → Stab g esz f o m
  | _, _, .nil, _, h => h
  | _, _, .cons hw t, o, h => by
    simp only [Stab] at h ⊢
    obtain ⟨⟨v, h1, h2, h3⟩, h4⟩ := h
    exact ⟨⟨v, hw _ _ h1, h2, h3⟩, t.stab _ h4⟩
theorem Wk.slx {t : Tok} {e : Nat} {l m : List AVal} (h : t.esz = e) (hw : Wks l m) : Wk (.sl t l) (.sl (.none e) m) := by
  intro g v hv
  rcases hv with ⟨rfl, rfl, h0⟩ | ⟨ht, b, o, cap, ⟨sp, rfl, hsp⟩, hc, hs, hk⟩
  · cases hw; exact .inl ⟨rfl, rfl, trivial⟩
  · refine .inr ⟨trivial, b, o, cap, ⟨sp, by rw [hw.len], hsp.imp id fun q => ⟨by have := hw.len; rw [q.1] at this; exact List.eq_nil_of_length_eq_zero this.symm, .inr ⟨e, rfl⟩⟩⟩, ?_, ?_, trivial⟩
    · rw [← hw.len]; exact hc
    · rw [h] at hs; exact hw.stab _ hs
theorem want_ok : dXw.ok (AVal.agg [AVal.str [115, 105, 110, 103, 108, 101], AVal.int IntKind.i64 1, AVal.sl (Tok.exact 1) [AVal.str [112], AVal.str [113]], AVal.sl (Tok.exact 1) [AVal.str [120]], AVal.sl (Tok.exact 4) [AVal.agg [AVal.int IntKind.i64 1, AVal.sl (Tok.exact 1) [AVal.int IntKind.i64 0, AVal.int IntKind.i64 1], zs, z0]], AVal.sl (Tok.exact 2) [AVal.agg [z0, AVal.sl (Tok.exact 1) [AVal.int IntKind.i64 0]]], AVal.int IntKind.i64 1, z0]) = True := eq_true (by
  show Wk (AVal.agg [AVal.str [115, 105, 110, 103, 108, 101], AVal.int IntKind.i64 1, AVal.sl (Tok.exact 1) [AVal.str [112], AVal.str [113]], AVal.sl (Tok.exact 1) [AVal.str [120]], AVal.sl (Tok.exact 4) [AVal.agg [AVal.int IntKind.i64 1, AVal.sl (Tok.exact 1) [AVal.int IntKind.i64 0, AVal.int IntKind.i64 1], zs, z0]], AVal.sl (Tok.exact 2) [AVal.agg [z0, AVal.sl (Tok.exact 1) [AVal.int IntKind.i64 0]]], AVal.int IntKind.i64 1, z0]) (encL lmW)
  exact wk_lem (Wk.sl (.inl rfl)) (Wk.sl (.inl rfl)) (Wk.slx rfl (.cons (Wk.agg (.cons (Wk.refl _) (.cons (Wk.sl (.inl rfl)) (.cons (Wk.sl (.inr rfl)) (.cons (Wk.refl _) .nil))))) .nil)) (Wk.slx rfl (.cons (Wk.agg (.cons (Wk.refl _) (.cons (Wk.sl (.inl rfl)) .nil))) .nil)))
theorem wantO_ok : dXw.ok (.agg [.str [], .int .i64 0, .sl .nil [], .sl .nil [], .sl .nil [], .sl .nil [], .int .i64 0, .int .i64 0]) = True := eq_true (by
  show Wk _ (encL ⟨[], 0, [], [], [], [], 0, 0⟩)
  exact wk_lem (Wk.sl (.inr rfl)) (Wk.sl (.inr rfl)) (Wk.sl (.inr rfl)) (Wk.sl (.inr rfl)))
noncomputable def TLw : Tab := tadd 11 (s1 dS (fun s => s.length < 1000000000) parseMV) (tadd 13 (s2 dXs dXs (fun a _ => FewLs a) fun a b => .bool (same a b))
  (tadd 14 (s1 dXs any1 fun l => .bool (fewAB l)) (tadd 15 (s1 dXw any1 fun x => .bool (fewB x)) (tadd 16 (s1 dXs FewLs printMV)
  (tadd 18 (s1 dXw FewL fun x => eI (chk x)) (tadd 20 (s2 dXw dXw (fun a _ => FewL a) fun a b => .bool (same a b)) (tadd 21 (s2 dXw dXw (fun a _ => FewL a) fun a b => .bool (same a b))
  (tadd 22 s22 (tadd 23 (s1 dKs okT textV) (tadd 25 (s2 dS dS (fun a b => a.length ≤ 100 ∧ b.length ≤ 100) fun a b => .str (shP a b)) tnil))))))))))
theorem TLw_ok : TabOK Tryz.prog TLw := ((((((((((TabOK.tnil.add (q2 fun a b h => p25 a b h.1 h.2)).add (q1 fun l h => p23 l h)).add q22).add (q2 fun a b h => p21 a b h)).add (q2 fun a b h => p20 a b h)).add (q1 p18)).add (q1 p16)).add (q1 fun x _ => p15 x)).add (q1 fun x _ => p14 x)).add (q2 fun a b h => p13 a b h)).add (q1 p11)
theorem TLw_mParse (a : List AVal) (H : AHeap) : TLw 11 a H = s1 dS (fun s => s.length < 1000000000) parseMV a H := rfl
theorem TLw_mPrint (a : List AVal) (H : AHeap) : TLw 16 a H = s1 dXs FewLs printMV a H := rfl
theorem TLw_mCheck (a : List AVal) (H : AHeap) : TLw 18 a H = s1 dXw FewL (fun x => eI (chk x)) a H := rfl
theorem TLw_mSame (a : List AVal) (H : AHeap) : TLw 20 a H = s2 dXw dXw (fun a _ => FewL a) (fun a b => .bool (same a b)) a H := rfl
theorem TLw_zSame (a : List AVal) (H : AHeap) : TLw 21 a H = s2 dXw dXw (fun a _ => FewL a) (fun a b => .bool (same a b)) a H := rfl
theorem TLw_lwshort (a : List AVal) (H : AHeap) : TLw 25 a H = s2 dS dS (fun a b => a.length ≤ 100 ∧ b.length ≤ 100) (fun a b => .str (shP a b)) a H := rfl
theorem fewW : FewL lmW = True := eq_true ⟨by show 2 < _; decide, by show 1 < _; decide, by show 1 < _; decide, by show 1 < _; decide, fun q hq => by rw [List.mem_singleton.1 hq]; exact ⟨by show 2 < _; decide, by show 0 < _; decide⟩, fun p hp => by rw [List.mem_singleton.1 hp]; show 1 < _; decide⟩
theorem fewWs : FewLs [lmW] = True := eq_true ⟨by show 1 < _; decide, fun x hx => by rw [List.mem_singleton.1 hx]; rw [fewW]; trivial⟩
theorem few0 : FewL ⟨[], 0, [], [], [], [], 0, 0⟩ = True := eq_true { cs := (by show 0 < _; decide), ls := (by show 0 < _; decide), qs := (by show 0 < _; decide), ps := (by show 0 < _; decide), q := (fun q hq => by cases hq), p := (fun p hp => by cases hp) }
theorem chkW : chk lmW = 0 := by kernel_rfl
theorem chk0 : chk ⟨[], 0, [], [], [], [], 0, 0⟩ = 300 := by kernel_rfl
theorem sameWO : same lmW lmO = false := same_no (by intro h; cases h)
theorem go_ok : dXw.ok (AVal.agg [AVal.str [115, 105, 110, 103, 108, 101], AVal.int IntKind.i64 1, eSs [[112], [113]], eSs [[120]], AVal.sl (Tok.none 4) [encQ { k := 1, cs := [0, 1], ls := [], n := 0 }], AVal.sl (Tok.none 2) [encM { c := 0, ls := [0] }], AVal.int IntKind.i64 1, AVal.int IntKind.i64 0]) = True := dXw_ok lmW
theorem go_dec : dXw.dec (AVal.agg [AVal.str [115, 105, 110, 103, 108, 101], AVal.int IntKind.i64 1, eSs [[112], [113]], eSs [[120]], AVal.sl (Tok.none 4) [encQ { k := 1, cs := [0, 1], ls := [], n := 0 }], AVal.sl (Tok.none 2) [encM { c := 0, ls := [0] }], AVal.int IntKind.i64 1, AVal.int IntKind.i64 0]) = lmW := dXw_dec lmW
theorem goO_ok : dXw.ok (AVal.agg [AVal.str [97], AVal.int IntKind.i64 1, eSs [[112]], eSs [[120]], AVal.sl (Tok.none 4) [], AVal.sl (Tok.none 2) [], AVal.int IntKind.i64 0, AVal.int IntKind.i64 0]) = True := dXw_ok lmO
theorem goO_dec : dXw.dec (AVal.agg [AVal.str [97], AVal.int IntKind.i64 1, eSs [[112]], eSs [[120]], AVal.sl (Tok.none 4) [], AVal.sl (Tok.none 2) [], AVal.int IntKind.i64 0, AVal.int IntKind.i64 0]) = lmO := dXw_dec lmO
theorem wantZ_ok : dXw.ok (AVal.agg [zr, z0, zs, zs, zs, zs, z0, z0]) = True := wantO_ok
theorem wantZ_dec : dXw.dec (AVal.agg [zr, z0, zs, zs, zs, zs, z0, z0]) = ⟨[], 0, [], [], [], [], 0, 0⟩ := rfl
theorem scmpT (a : Bs) : scmp .eql a a = true := by rw [scmp_eq]; simp
theorem w38 : IntKind.wrap .i64 ((List.length (shP [49] []) : Int) - 1) = 38 := by decide
theorem dsW : dXs.ok (eLs [lmW]) = True := dXs_ok (.inl rfl)
theorem ddW : dXs.dec (eLs [lmW]) = [lmW] := dXs_dec
theorem p10 : Pur Tryz.prog 10 [] (.bool true) := by
  refine .mk trivial trivial (a10 (ev_awp TLw_ok (ev_evK ?_)))
  simp only [eE, eC, eN, reduceCtorEq, Nat.reduceEqDiff, ↓reduceIte, Nat.reduceAdd, Nat.reduceLeDiff, Nat.reduceMul, Nat.reduceLT, Int.reduceEq, Int.reduceLT, Bool.not_true, Bool.not_false, c0, c1, Option.getD_some, Int.toNat_zero, Int.le_refl, List.getElem?_cons_zero, List.getElem?_cons_succ, c10, TLw_mParse, TLw_mPrint, TLw_lwshort, TLw_zSame, TLw_mCheck, TLw_mSame, s1, s2, dS, isS, toS, v1, v2, v3, v4, v5, v6, v7, plV, pr1, sl0, sl1, sl2, sl3, dsW, ddW, fewWs, fewW, few0, go_ok, go_dec, goO_ok, goO_dec, wantZ_ok, wantZ_dec, scmpT, w38, want_ok, want_dec, chkW, chk0, sameWO, same_rfl]
end Go.AM
end
section
set_option maxRecDepth 20000
set_option linter.all false
namespace Go.AM
open Go.Proofs Go.Lib
theorem one_ok (x : Lma) : dXs.ok (.sl (.exact 8) [encL x]) = True := dXs_ok (l := [x]) (.inl rfl)
theorem one_dec (x : Lma) : dXs.dec (.sl (.exact 8) [encL x]) = [x] := dXs_dec (l := [x])
theorem few_one {x : Lma} (h : FewL x) : FewLs [x] := ⟨by show 1 < _; decide, fun y hy => by rw [List.mem_singleton.1 hy]; exact h⟩
theorem print_ok {l : List Lma} (h : ∀ x ∈ l, OKL x) (hn : l.length ≤ 16) : printMV l = .tup [.str (jP l), .int .i64 0] := by
  have hall : l.all lemOK = true := List.all_eq_true.2 fun x hx => (lem_okl x).2 (h x hx)
  unfold printMV jP
  rw [if_neg (by omega), if_neg (by rw [hall]; decide)]
theorem jP_one {x : Lma} (h : OKL x) : (jP [x]).length ≤ 65536 := by
  have h1 := join_len (B := 32) ((printT [x]).map wordS) (fun w hw => by
    obtain ⟨t, ht, rfl⟩ := List.mem_map.1 hw
    exact word_len (List.all_eq_true.1 (printT_valid (xs := [x]) fun y hy => by rw [List.mem_singleton.1 hy]; exact h) t ht))
  have h2 := printT_len (l := [x]) fun y hy => by rw [List.mem_singleton.1 hy]; exact h
  rw [List.length_map] at h1
  rw [List.length_singleton] at h2
  unfold jP; omega
theorem chk_ok {x : Lma} (h : OKL x) : chk x = 0 := by unfold chk; rw [if_pos ((lem_okl x).2 h)]
theorem p24 (x : Lma) (hx : OKL x) : Pur Tryz.prog 24 [encL x] (.bool true) := by
  refine .mk ⟨encL_under 0 x, trivial⟩ trivial (a24 (ev_awp TLw_ok (ev_evK ?_)))
  have f1 : FewL x = True := eq_true (okl_few hx)
  have f2 : FewLs [x] = True := eq_true (few_one (okl_few hx))
  have hp : printMV [x] = .tup [.str (jP [x]), .int .i64 0] := print_ok (fun y hy => by rw [List.mem_singleton.1 hy]; exact hx) (by simp)
  have hl := jP_one hx
  have hb : parseMV (jP [x]) = plV ⟨[x], 0, 0⟩ := by
    unfold parseMV jP
    rw [lemmas_back (xs := [x]) (fun y hy => by rw [List.mem_singleton.1 hy]; exact hx) (by simp) hl]
  have hlt : ((jP [x]).length < 1000000000) = True := eq_true (by omega)
  have hc := chk_ok hx
  generalize jP [x] = S at hp hb hlt
  simp only [eE, eC, eN, reduceCtorEq, Nat.reduceEqDiff, ↓reduceIte, Nat.reduceAdd, Nat.reduceLeDiff, Nat.reduceMul, Nat.reduceLT, Int.reduceLT, c1, Option.getD_some, Int.toNat_zero, Int.le_refl, List.getElem?_cons_zero, List.getElem?_cons_succ, c24, TLw_mPrint, TLw_mParse, TLw_mCheck, TLw_zSame, s1, s2, dS, isS, toS, one_ok, one_dec, f1, f2, hp, hb, plV, hlt, dXw_ok, dXw_dec, hc, same_rfl]
def s10 : List AVal → AHeap → Prop × AVal := fun a H => match a with
  | [] => (True, .bool true)
  | _ => (False, .tup [])
theorem q10 : ∀ args H n, (s10 args H).1 → Quiet Tryz.prog 10 args H n (s10 args H).2 := by
  intro args H n hh
  unfold s10 at hh ⊢
  split at hh
  · exact p10.quiet H n
  · exact hh.elim
noncomputable def TL : Tab := tadd 10 s10 (tadd 24 (s1 dXw OKL fun _ => .bool true) TLw)
theorem TL_ok : TabOK Tryz.prog TL := (TLw_ok.add (q1 p24)).add q10
theorem TL_10 (H : AHeap) : TL 10 [] H = (True, .bool true) := rfl
theorem TL_back (a : List AVal) (H : AHeap) : TL 24 a H = s1 dXw OKL (fun _ => .bool true) a H := rfl
theorem TL_mParse (a : List AVal) (H : AHeap) : TL 11 a H = s1 dS (fun s => s.length < 1000000000) parseMV a H := rfl
theorem TL_zSameAll (a : List AVal) (H : AHeap) : TL 13 a H = s2 dXs dXs (fun a _ => FewLs a) (fun a b => .bool (same a b)) a H := rfl
theorem TL_zFewAll (a : List AVal) (H : AHeap) : TL 14 a H = s1 dXs any1 (fun l => .bool (fewAB l)) a H := rfl
theorem TL_zFew (a : List AVal) (H : AHeap) : TL 15 a H = s1 dXw any1 (fun x => .bool (fewB x)) a H := rfl
theorem TL_mPrint (a : List AVal) (H : AHeap) : TL 16 a H = s1 dXs FewLs printMV a H := rfl
theorem TL_mCheck (a : List AVal) (H : AHeap) : TL 18 a H = s1 dXw FewL (fun x => eI (chk x)) a H := rfl
theorem TL_mSame (a : List AVal) (H : AHeap) : TL 20 a H = s2 dXw dXw (fun a _ => FewL a) (fun a b => .bool (same a b)) a H := rfl
theorem TL_lexLex (a : List AVal) (H : AHeap) : TL 22 a H = s22 a H := rfl
theorem TL_lexText (a : List AVal) (H : AHeap) : TL 23 a H = s1 dKs okT textV a H := rfl
theorem eLs_ok (l : List Lma) : dXs.ok (eLs l) = True := dXs_ok (.inl rfl)
theorem eLs_dec (l : List Lma) : dXs.dec (eLs l) = l := dXs_dec
theorem parse_no {src : Bs} (h : (parseLm src).e ≠ 0) : (parseLm src).ls = [] := by
  unfold parseLm at h ⊢
  split
  · rfl
  · rename_i hn
    rw [if_neg hn] at h
    cases hl : lx src 0 with
    | err a => rfl
    | ok a ts =>
      rw [hl] at h
      simp only at h ⊢
      cases hr : allR (ts.length + 1) ts with
      | bad r => rfl
      | ok ds r =>
        rw [hr] at h
        simp only at h ⊢
        split
        · rfl
        rename_i h1; rw [if_neg h1] at h
        split
        · rfl
        rename_i h2; rw [if_neg h2] at h
        split
        · rfl
        rename_i h3; rw [if_neg h3] at h
        exact absurd rfl h
theorem parse_few (src : Bs) : FewLs (parseLm src).ls := by
  by_cases he : (parseLm src).e = 0
  · obtain ⟨h1, h2, -, -⟩ := parsed he
    exact ⟨by show List.length _ < _; omega, fun x hx => okl_few (h1 x hx)⟩
  · have : (parseLm src).ls = [] := parse_no he
    rw [this]; exact ⟨by show 0 < _; decide, fun x hx => by cases hx⟩
end Go.AM
end
section
set_option maxRecDepth 20000
set_option linter.all false
namespace Go.AM
open Go.Proofs Go.Lib
structure V11 where
  i : Nat
  H : AHeap
  n : Nat
theorem p5 (l : List Lma) (src : Bs) : Pur Tryz.prog 5 [eLs l, .str src] (.bool true) := by
  refine .mk ⟨⟨trivial, Ls_under 0 l⟩, trivial, trivial⟩ trivial (a5 (ev_awp TL_ok (ev_evK ?_)))
  cases h1 : fewAB l with
  | false => simp only [eE, eC, eN, reduceCtorEq, Nat.reduceEqDiff, ↓reduceIte, Nat.reduceAdd, Bool.not_true, Bool.not_false, c5, TL_10, TL_zFewAll, s1, isS, toS, eLs_ok, eLs_dec, h1]
  | true =>
  by_cases h : 3000 < src.length
  · have g1 : ((3000 : Int) < src.length) = True := eq_true (by omega)
    simp only [eE, eC, eN, reduceCtorEq, Nat.reduceEqDiff, ↓reduceIte, Nat.reduceAdd, Bool.not_true, c5, TL_10, TL_zFewAll, s1, isS, toS, eLs_ok, eLs_dec, h1, g1]
  have g1 : ((3000 : Int) < src.length) = False := eq_false (by omega)
  have g2 : (src.length < 1000000000) = True := eq_true (by omega)
  have f1 : FewLs l = True := eq_true (fewAB_few h1).1
  have hv : parseMV src = .tup [eLs (parseLm src).ls, .int .i64 (parseLm src).a, .int .i64 (parseLm src).e] := rfl
  by_cases hall : (∀ x ∈ l, OKL x) ∧ l.length ≤ 16
  · have hp := print_ok hall.1 hall.2
    by_cases hj : (jP l).length ≤ 65536
    · have hb1 : parseMV (jP l) = .tup [eLs l, .int .i64 0, .int .i64 0] := by
        unfold parseMV jP
        rw [lemmas_back hall.1 hall.2 hj]; rfl
      have j1 : (((jP l).length : Int) ≤ 65536) = True := eq_true (by omega)
      have j2 : ((jP l).length < 1000000000) = True := eq_true (by omega)
      generalize jP l = J at hp hb1 j1 j2
      by_cases he : (parseLm src).e = 0
      case neg =>
        have hno := parse_no he
        simp only [eE, eC, eN, reduceCtorEq, Nat.reduceEqDiff, ↓reduceIte, Nat.reduceAdd, Nat.reduceLT, Bool.not_true, Bool.not_false, c0, Option.getD_some, List.getElem?_cons_zero, List.getElem?_cons_succ, c5, TL_10, TL_zFewAll, TL_mPrint, TL_mParse, TL_zSameAll, s1, s2, dS, isS, toS, eLs_ok, eLs_dec, h1, g1, g2, f1, hv, he, hno, hp, hb1, j1, j2, same_rfl]
      obtain ⟨k1, k2, k3, -⟩ := parsed he
      have hw := print_ok k1 k2
      have hjl : (jP (parseLm src).ls).length ≤ 65536 := by unfold jP; omega
      have hb : parseMV (jP (parseLm src).ls) = .tup [eLs (parseLm src).ls, .int .i64 0, .int .i64 0] := by
        unfold parseMV jP
        rw [lemmas_back k1 k2 hjl]; rfl
      have f2 : FewLs (parseLm src).ls = True := eq_true (parse_few src)
      have hjt : ((jP (parseLm src).ls).length < 1000000000) = True := eq_true (by omega)
      have hlen : (parseLm src).ls.length < 100 := by omega
      generalize jP (parseLm src).ls = S at hw hb hjt
      generalize (parseLm src).ls = ls at hv k1 k2 hw hb f2 hlen
      simp only [eE, eC, eN, reduceCtorEq, Nat.reduceEqDiff, ↓reduceIte, Nat.reduceAdd, Nat.reduceLT, Bool.not_true, Option.getD_some, List.length_map, List.getElem?_cons_zero, List.getElem?_cons_succ, c5, TL_10, TL_zFewAll, TL_mPrint, TL_mParse, TL_zSameAll, s1, s2, dS, isS, toS, eLs_ok, eLs_dec, h1, g1, g2, f1, hv, he, hp, hb1, j1, j2, same_rfl]
      refine k_loop (fun v : V11 => ⟨[(10, true, eLs ls), (71, true, eLs ls), (72, true, .int .i64 ls.length), (73, true, .int .i64 v.i)], v.H, v.n⟩) (fun v => v.i ≤ ls.length ∧ Fresh v.H v.n) (fun v => ls.length - v.i) ⟨0, hnil, 0⟩ rfl ⟨Nat.zero_le _, Fresh.nil⟩ ?_
      rintro ⟨i, H, n⟩ ⟨hi, hfr⟩
      simp only at hi hfr
      by_cases hlt : i < ls.length
      · have hg := List.getElem?_eq_getElem hlt
        have e := w64_succ (k := i) (by omega)
        have hck := chk_ok (k1 _ (List.getElem_mem hlt))
        have f3 : FewL ls[i] = True := eq_true (okl_few (k1 _ (List.getElem_mem hlt)))
        generalize ls[i] = x at hg hck f3
        have n2 := hfr (n + 2) (by omega)
        simp only [eE, eC, eN, Nat.reduceEqDiff, ↓reduceIte, Nat.reduceAdd, Int.reduceEq, Bool.not_true, Option.getD_some, Int.toNat_natCast, Int.natCast_nonneg, List.length_map, List.getElem?_map, TL_mCheck, s1, lt_T hlt, hg, n2, e, dXw_ok, dXw_dec, hck, f3, hset_hset]
        refine .mk ⟨i + 1, hset H (n + 2) (.box (cellsL x)), n + 4⟩ rfl ⟨hlt, hfr.hset (by simp only []; omega) (by simp only []; omega)⟩ (by simp only []; omega)
      · simp only [eE, eC, eN, reduceCtorEq, Nat.reduceEqDiff, ↓reduceIte, Nat.reduceAdd, Nat.reduceLT, Option.getD_some, List.getElem?_cons_zero, List.getElem?_cons_succ, TL_mPrint, TL_mParse, TL_zSameAll, s1, s2, dS, isS, toS, eLs_ok, eLs_dec, lt_F hlt, hw, hb, hjt, f2, same_rfl]
    · have j1 : (((jP l).length : Int) ≤ 65536) = False := eq_false (by omega)
      generalize jP l = J at hp j1
      by_cases he : (parseLm src).e = 0
      case neg =>
        have hno := parse_no he
        simp only [eE, eC, eN, reduceCtorEq, Nat.reduceEqDiff, ↓reduceIte, Nat.reduceAdd, Nat.reduceLT, Bool.not_true, Bool.not_false, c0, Option.getD_some, List.getElem?_cons_zero, List.getElem?_cons_succ, c5, TL_10, TL_zFewAll, TL_mPrint, TL_mParse, s1, dS, isS, toS, eLs_ok, eLs_dec, h1, g1, g2, f1, hv, he, hno, hp, j1]
      obtain ⟨k1, k2, k3, -⟩ := parsed he
      have hw := print_ok k1 k2
      have hjl : (jP (parseLm src).ls).length ≤ 65536 := by unfold jP; omega
      have hb : parseMV (jP (parseLm src).ls) = .tup [eLs (parseLm src).ls, .int .i64 0, .int .i64 0] := by
        unfold parseMV jP
        rw [lemmas_back k1 k2 hjl]; rfl
      have f2 : FewLs (parseLm src).ls = True := eq_true (parse_few src)
      have hjt : ((jP (parseLm src).ls).length < 1000000000) = True := eq_true (by omega)
      have hlen : (parseLm src).ls.length < 100 := by omega
      generalize jP (parseLm src).ls = S at hw hb hjt
      generalize (parseLm src).ls = ls at hv k1 k2 hw hb f2 hlen
      simp only [eE, eC, eN, reduceCtorEq, Nat.reduceEqDiff, ↓reduceIte, Nat.reduceAdd, Nat.reduceLT, Bool.not_true, Option.getD_some, List.length_map, List.getElem?_cons_zero, List.getElem?_cons_succ, c5, TL_10, TL_zFewAll, TL_mPrint, TL_mParse, s1, dS, isS, toS, eLs_ok, eLs_dec, h1, g1, g2, f1, hv, he, hp, j1]
      refine k_loop (fun v : V11 => ⟨[(10, true, eLs ls), (71, true, eLs ls), (72, true, .int .i64 ls.length), (73, true, .int .i64 v.i)], v.H, v.n⟩) (fun v => v.i ≤ ls.length ∧ Fresh v.H v.n) (fun v => ls.length - v.i) ⟨0, hnil, 0⟩ rfl ⟨Nat.zero_le _, Fresh.nil⟩ ?_
      rintro ⟨i, H, n⟩ ⟨hi, hfr⟩
      simp only at hi hfr
      by_cases hlt : i < ls.length
      · have hg := List.getElem?_eq_getElem hlt
        have e := w64_succ (k := i) (by omega)
        have hck := chk_ok (k1 _ (List.getElem_mem hlt))
        have f3 : FewL ls[i] = True := eq_true (okl_few (k1 _ (List.getElem_mem hlt)))
        generalize ls[i] = x at hg hck f3
        have n2 := hfr (n + 2) (by omega)
        simp only [eE, eC, eN, Nat.reduceEqDiff, ↓reduceIte, Nat.reduceAdd, Int.reduceEq, Bool.not_true, Option.getD_some, Int.toNat_natCast, Int.natCast_nonneg, List.length_map, List.getElem?_map, TL_mCheck, s1, lt_T hlt, hg, n2, e, dXw_ok, dXw_dec, hck, f3, hset_hset]
        refine .mk ⟨i + 1, hset H (n + 2) (.box (cellsL x)), n + 4⟩ rfl ⟨hlt, hfr.hset (by simp only []; omega) (by simp only []; omega)⟩ (by simp only []; omega)
      · simp only [eE, eC, eN, reduceCtorEq, Nat.reduceEqDiff, ↓reduceIte, Nat.reduceAdd, Nat.reduceLT, Option.getD_some, List.getElem?_cons_zero, List.getElem?_cons_succ, TL_mPrint, TL_mParse, TL_zSameAll, s1, s2, dS, isS, toS, eLs_ok, eLs_dec, lt_F hlt, hw, hb, hjt, f2, same_rfl]
  · obtain ⟨s, e, hp, hne⟩ : ∃ s e, printMV l = .tup [.str s, .int .i64 e] ∧ e ≠ 0 := by
      unfold printMV
      split
      · exact ⟨_, _, rfl, by decide⟩
      rename_i hn
      split
      · exact ⟨_, _, rfl, by decide⟩
      · rename_i hl
        exact absurd ⟨fun x hx => (lem_okl x).1 (List.all_eq_true.1 (by simpa using hl) x hx), by omega⟩ hall
    by_cases he : (parseLm src).e = 0
    case neg =>
      have hno := parse_no he
      simp only [eE, eC, eN, reduceCtorEq, Nat.reduceEqDiff, ↓reduceIte, Nat.reduceAdd, Nat.reduceLT, Bool.not_true, Bool.not_false, c0, Option.getD_some, List.getElem?_cons_zero, List.getElem?_cons_succ, c5, TL_10, TL_zFewAll, TL_mPrint, TL_mParse, s1, dS, isS, toS, eLs_ok, eLs_dec, h1, g1, g2, f1, hv, he, hno, hp, hne]
    obtain ⟨k1, k2, k3, -⟩ := parsed he
    have hw := print_ok k1 k2
    have hjl : (jP (parseLm src).ls).length ≤ 65536 := by unfold jP; omega
    have hb : parseMV (jP (parseLm src).ls) = .tup [eLs (parseLm src).ls, .int .i64 0, .int .i64 0] := by
      unfold parseMV jP
      rw [lemmas_back k1 k2 hjl]; rfl
    have f2 : FewLs (parseLm src).ls = True := eq_true (parse_few src)
    have hjt : ((jP (parseLm src).ls).length < 1000000000) = True := eq_true (by omega)
    have hlen : (parseLm src).ls.length < 100 := by omega
    generalize jP (parseLm src).ls = S at hw hb hjt
    generalize (parseLm src).ls = ls at hv k1 k2 hw hb f2 hlen
    simp only [eE, eC, eN, reduceCtorEq, Nat.reduceEqDiff, ↓reduceIte, Nat.reduceAdd, Nat.reduceLT, Bool.not_true, Option.getD_some, List.length_map, List.getElem?_cons_zero, List.getElem?_cons_succ, c5, TL_10, TL_zFewAll, TL_mPrint, TL_mParse, s1, dS, isS, toS, eLs_ok, eLs_dec, h1, g1, g2, f1, hv, he, hp, hne]
    refine k_loop (fun v : V11 => ⟨[(10, true, eLs ls), (71, true, eLs ls), (72, true, .int .i64 ls.length), (73, true, .int .i64 v.i)], v.H, v.n⟩) (fun v => v.i ≤ ls.length ∧ Fresh v.H v.n) (fun v => ls.length - v.i) ⟨0, hnil, 0⟩ rfl ⟨Nat.zero_le _, Fresh.nil⟩ ?_
    rintro ⟨i, H, n⟩ ⟨hi, hfr⟩
    simp only at hi hfr
    by_cases hlt : i < ls.length
    · have hg := List.getElem?_eq_getElem hlt
      have e := w64_succ (k := i) (by omega)
      have hck := chk_ok (k1 _ (List.getElem_mem hlt))
      have f3 : FewL ls[i] = True := eq_true (okl_few (k1 _ (List.getElem_mem hlt)))
      generalize ls[i] = x at hg hck f3
      have n2 := hfr (n + 2) (by omega)
      simp only [eE, eC, eN, Nat.reduceEqDiff, ↓reduceIte, Nat.reduceAdd, Int.reduceEq, Bool.not_true, Option.getD_some, Int.toNat_natCast, Int.natCast_nonneg, List.length_map, List.getElem?_map, TL_mCheck, s1, lt_T hlt, hg, n2, e, dXw_ok, dXw_dec, hck, f3, hset_hset]
      refine .mk ⟨i + 1, hset H (n + 2) (.box (cellsL x)), n + 4⟩ rfl ⟨hlt, hfr.hset (by simp only []; omega) (by simp only []; omega)⟩ (by simp only []; omega)
    · simp only [eE, eC, eN, reduceCtorEq, Nat.reduceEqDiff, ↓reduceIte, Nat.reduceAdd, Nat.reduceLT, Option.getD_some, List.getElem?_cons_zero, List.getElem?_cons_succ, TL_mPrint, TL_mParse, TL_zSameAll, s1, s2, dS, isS, toS, eLs_ok, eLs_dec, lt_F hlt, hw, hb, hjt, f2, same_rfl]
end Go.AM
end
section
set_option maxRecDepth 20000
set_option linter.all false
namespace Go.AM
open Go.Proofs Go.Lib
def gapI (us : List Nat) (i : Nat) : Bs := match us[i]? with
  | some k => gapsM[k % 4]?.getD [32]
  | none => [32]
theorem gapI_ok (us : List Nat) (i : Nat) : GapOK (gapI us i) := by
  unfold gapI
  split
  · exact gapM_ok _
  · exact gap_sp (by decide)
theorem gapM_len (k : Nat) : (gapsM[k % 4]?.getD [32]).length ≤ 6 := by
  have : k % 4 = 0 ∨ k % 4 = 1 ∨ k % 4 = 2 ∨ k % 4 = 3 := by omega
  rcases this with h | h | h | h <;> rw [h] <;> decide
theorem gapI_len (us : List Nat) (i : Nat) : (gapI us i).length ≤ 6 := by
  unfold gapI
  split
  · exact gapM_len _
  · show 1 ≤ 6; decide
def txI (us : List Nat) (ts : List Tkn) (i : Nat) : Bs := txtG ((ts.take i).mapIdx fun j t => (t, gapI us j))
theorem txI_zero (us : List Nat) (ts : List Tkn) : txI us ts 0 = [] := rfl
theorem txI_succ {us : List Nat} {ts : List Tkn} {i : Nat} (h : i < ts.length) : txI us ts (i + 1) = txI us ts i ++ (wordS ts[i] ++ gapI us i) := by
  unfold txI
  rw [List.take_succ_eq_append_getElem h, List.mapIdx_concat]
  have e : (ts.take i).length = i := by rw [List.length_take]; have := h; omega
  rw [e]
  simp [txtG]
theorem txI_len {us : List Nat} {ts : List Tkn} : ∀ i, i ≤ ts.length → (txI us ts i).length ≤ ((ts.take i).map fun t => (wordS t).length).sum + 6 * i
  | 0, _ => by simp [txI_zero]
  | i + 1, h => by
    have h1 : i < ts.length := h
    have ih := txI_len (us := us) (ts := ts) i (by omega)
    have hg := gapI_len us i
    rw [txI_succ h1, List.take_succ_eq_append_getElem h1]
    simp only [List.length_append, List.map_append, List.map_cons, List.map_nil, List.sum_append, List.sum_cons, List.sum_nil]
    omega
theorem sum_take (l : List Nat) (i : Nat) : (l.take i).sum ≤ l.sum := by
  have := congrArg List.sum (List.take_append_drop i l)
  rw [List.sum_append] at this; omega
abbrev eU (k : Nat) : AVal := .int .u8 (k : Int)
abbrev eUs (us : List Nat) : AVal := .sl (.none 1) (us.map eU)
theorem eU_under (n : Nat) (us : List Nat) : unders n (us.map eU) := unders_map (f := eU) (fun _ => (trivial : True)) us
theorem tok_ok (t : Tkn) : dKs.ok (.sl (.exact 4) [.agg [.int .i64 t.K, .str t.T, .int .i64 t.N, .int .i64 t.A]]) = True := eq_true ⟨.inl rfl, rfl⟩
theorem tok_dec (t : Tkn) : dKs.dec (.sl (.exact 4) [.agg [.int .i64 t.K, .str t.T, .int .i64 t.N, .int .i64 t.A]]) = [t] := rfl
theorem okT1 (t : Tkn) : okT [t] = True := eq_true (by show 1 ≤ 1000000; decide)
theorem text1 {t : Tkn} (h : validS t = true) : textV [t] = .tup [.str (wordS t), .int .i64 0] := by
  unfold textV
  rw [if_pos (by simp [h])]
  simp [join_cons, joinTail]
theorem p6 (src : Bs) (us : List Nat) (hus : ∀ k ∈ us, k < 256) : Pur Tryz.prog 6 [.str src, eUs us] (.bool true) := by
  refine .mk ⟨trivial, ⟨trivial, eU_under 0 us⟩, trivial⟩ trivial (a6 (ev_awp TL_ok (ev_evK ?_)))
  by_cases h : 2000 < src.length
  · have g1 : ((2000 : Int) < src.length) = True := eq_true (by omega)
    simp only [eE, eC, eN, reduceCtorEq, Nat.reduceEqDiff, ↓reduceIte, Nat.reduceAdd, Bool.not_true, c6, TL_10, g1]
  have g1 : ((2000 : Int) < src.length) = False := eq_false (by omega)
  have g2 : (src.length < 1000000000) = True := eq_true (by omega)
  have hv : parseMV src = .tup [eLs (parseLm src).ls, .int .i64 (parseLm src).a, .int .i64 (parseLm src).e] := rfl
  rcases lexV_all src with ⟨h6, _⟩ | ⟨h6, a, ts, hr, hlen, hok, hlx⟩ | ⟨h6, a, hlx, hp⟩
  · omega
  · obtain ⟨-, hval, hsum, -⟩ := lx_ok _ _ _ _ _ rfl hr
    simp only [eE, eC, eN, reduceCtorEq, Nat.reduceEqDiff, ↓reduceIte, Nat.reduceAdd, Nat.reduceLeDiff, Nat.reduceMul, Nat.reduceLT, Bool.not_true, Option.getD_some, List.length_map, List.getElem?_cons_zero, List.getElem?_cons_succ, c6, TL_10, TL_mParse, TL_lexLex, s22, s1, dS, isS, toS, g1, g2, hv, hlx]
    have hlen2 : ∀ i, i ≤ ts.length → (txI us ts i).length ≤ 14000 := fun i hi => by
      have k1 := txI_len (us := us) i hi
      have k2 := sum_take (ts.map fun t => (wordS t).length) i
      rw [← List.map_take] at k2
      omega
    refine k_loop (fun v : V11 => ⟨[(1, true, eUs us), (5, true, eLs (parseLm src).ls), (7, true, .int .i64 (parseLm src).e), (11, true, .sl (.exact 1) [.str [32], .str [10], .str [9], .str [32, 47, 47, 32, 120, 10]]), (12, true, .str (txI us ts v.i)), (49, true, .sl (.none 4) (ts.map encK)), (50, true, .int .i64 ts.length), (51, true, .int .i64 v.i)], v.H, v.n⟩) (fun v => v.i ≤ ts.length ∧ Fresh v.H v.n) (fun v => ts.length - v.i) ⟨0, hnil, 0⟩ rfl ⟨Nat.zero_le _, Fresh.nil⟩ ?_
    rintro ⟨i, H, n⟩ ⟨hi, hfr⟩
    simp only at hi hfr
    by_cases hlt : i < ts.length
    · have hg := List.getElem?_eq_getElem hlt
      have e := w64_succ (k := i) (by omega)
      have htv := List.all_eq_true.1 hval _ (List.getElem_mem hlt)
      have nx := txI_succ (us := us) hlt
      have hl := hlen2 i hi
      generalize ts[i] = t at hg htv nx
      have hwl := word_len htv
      have htx := text1 htv
      have n3 := hfr (n + 3) (by omega)
      by_cases hu : i < us.length
      · have hgu := List.getElem?_eq_getElem hu
        have hk := hus _ (List.getElem_mem hu)
        have hgi : gapI us i = gapsM[us[i] % 4]?.getD [32] := by unfold gapI; rw [hgu]
        have hgl := gapI_len us i
        generalize us[i] = k at hgu hk hgi
        have w4 : IntKind.wrap .i64 (k : Int) = k := w64_in (by omega) (by omega)
        have n4 : ((4 : Nat) : Int) = 4 := rfl
        have k4 : k % 4 = 0 ∨ k % 4 = 1 ∨ k % 4 = 2 ∨ k % 4 = 3 := by omega
        rw [hgi] at nx
        rcases k4 with k4 | k4 | k4 | k4
        · have t4 : (k : Int).tmod 4 = 0 := by show ((k % 4 : Nat) : Int) = _; rw [k4]; rfl
          rw [k4, show gapsM[0]?.getD [32] = [32] from rfl] at nx
          simp only [eE, eC, eN, Nat.reduceEqDiff, ↓reduceIte, Nat.reduceAdd, Nat.reduceLeDiff, Nat.reduceMul, Nat.reduceLT, Int.reduceEq, Int.reduceLT, Bool.not_true, Option.getD_some, Int.toNat_zero, Int.le_refl, Int.toNat_natCast, Int.natCast_nonneg, List.length_map, List.getElem?_map, List.getElem?_cons_zero, List.getElem?_cons_succ, TL_lexText, s1, lt_T hlt, lt_T hu, hg, hgu, n3, e, tok_ok, tok_dec, okT1, htx, w4, n4, t4, hset_hset]
          refine ⟨small1 (by (try simp only [List.length_append, List.length_cons, List.length_nil]); omega), small1 (by (try simp only [List.length_append, List.length_cons, List.length_nil]); omega), .mk ⟨i + 1, hset H (n + 3) (.box [.int .i64 t.K, .str t.T, .int .i64 t.N, .int .i64 t.A]), n + 6⟩ (by rw [nx]) ⟨hlt, hfr.hset (by simp only []; omega) (by simp only []; omega)⟩ (by simp only []; omega)⟩
        · have t4 : (k : Int).tmod 4 = 1 := by show ((k % 4 : Nat) : Int) = _; rw [k4]; rfl
          rw [k4, show gapsM[1]?.getD [32] = [10] from rfl] at nx
          simp only [eE, eC, eN, Nat.reduceEqDiff, ↓reduceIte, Nat.reduceAdd, Nat.reduceLeDiff, Nat.reduceMul, Nat.reduceLT, Int.reduceEq, Int.reduceLE, Int.reduceLT, Bool.not_true, Option.getD_some, Int.toNat_one, Int.toNat_natCast, Int.natCast_nonneg, List.length_map, List.getElem?_map, List.getElem?_cons_zero, List.getElem?_cons_succ, TL_lexText, s1, lt_T hlt, lt_T hu, hg, hgu, n3, e, tok_ok, tok_dec, okT1, htx, w4, n4, t4, hset_hset]
          refine ⟨small1 (by (try simp only [List.length_append, List.length_cons, List.length_nil]); omega), small1 (by (try simp only [List.length_append, List.length_cons, List.length_nil]); omega), .mk ⟨i + 1, hset H (n + 3) (.box [.int .i64 t.K, .str t.T, .int .i64 t.N, .int .i64 t.A]), n + 6⟩ (by rw [nx]) ⟨hlt, hfr.hset (by simp only []; omega) (by simp only []; omega)⟩ (by simp only []; omega)⟩
        · have t4 : (k : Int).tmod 4 = 2 := by show ((k % 4 : Nat) : Int) = _; rw [k4]; rfl
          rw [k4, show gapsM[2]?.getD [32] = [9] from rfl] at nx
          simp only [eE, eC, eN, Nat.reduceEqDiff, ↓reduceIte, Nat.reduceAdd, Nat.reduceLeDiff, Nat.reduceMul, Nat.reduceLT, Int.reduceEq, Int.reduceLE, Int.reduceLT, Int.reduceToNat, Bool.not_true, Option.getD_some, Int.toNat_natCast, Int.natCast_nonneg, List.length_map, List.getElem?_map, List.getElem?_cons_zero, List.getElem?_cons_succ, TL_lexText, s1, lt_T hlt, lt_T hu, hg, hgu, n3, e, tok_ok, tok_dec, okT1, htx, w4, n4, t4, hset_hset]
          refine ⟨small1 (by (try simp only [List.length_append, List.length_cons, List.length_nil]); omega), small1 (by (try simp only [List.length_append, List.length_cons, List.length_nil]); omega), .mk ⟨i + 1, hset H (n + 3) (.box [.int .i64 t.K, .str t.T, .int .i64 t.N, .int .i64 t.A]), n + 6⟩ (by rw [nx]) ⟨hlt, hfr.hset (by simp only []; omega) (by simp only []; omega)⟩ (by simp only []; omega)⟩
        · have t4 : (k : Int).tmod 4 = 3 := by show ((k % 4 : Nat) : Int) = _; rw [k4]; rfl
          rw [k4, show gapsM[3]?.getD [32] = [32, 47, 47, 32, 120, 10] from rfl] at nx
          simp only [eE, eC, eN, Nat.reduceEqDiff, ↓reduceIte, Nat.reduceAdd, Nat.reduceLeDiff, Nat.reduceMul, Nat.reduceLT, Int.reduceEq, Int.reduceLE, Int.reduceLT, Int.reduceToNat, Bool.not_true, Option.getD_some, Int.toNat_natCast, Int.natCast_nonneg, List.length_map, List.getElem?_map, List.getElem?_cons_zero, List.getElem?_cons_succ, TL_lexText, s1, lt_T hlt, lt_T hu, hg, hgu, n3, e, tok_ok, tok_dec, okT1, htx, w4, n4, t4, hset_hset]
          refine ⟨small1 (by (try simp only [List.length_append, List.length_cons, List.length_nil]); omega), small1 (by (try simp only [List.length_append, List.length_cons, List.length_nil]); omega), .mk ⟨i + 1, hset H (n + 3) (.box [.int .i64 t.K, .str t.T, .int .i64 t.N, .int .i64 t.A]), n + 6⟩ (by rw [nx]) ⟨hlt, hfr.hset (by simp only []; omega) (by simp only []; omega)⟩ (by simp only []; omega)⟩
      · have hgi : gapI us i = [32] := by unfold gapI; rw [List.getElem?_eq_none (by omega)]
        simp only [eE, eC, eN, Nat.reduceEqDiff, ↓reduceIte, Nat.reduceAdd, Nat.reduceLeDiff, Nat.reduceMul, Nat.reduceLT, Int.reduceEq, Bool.not_true, Option.getD_some, Int.toNat_natCast, Int.natCast_nonneg, List.length_map, List.getElem?_map, List.getElem?_cons_zero, List.getElem?_cons_succ, TL_lexText, s1, lt_T hlt, lt_F hu, hg, n3, e, tok_ok, tok_dec, okT1, htx, hset_hset]
        rw [hgi] at nx
        refine ⟨small1 (by (try simp only [List.length_append, List.length_cons, List.length_nil]); omega), small1 (by (try simp only [List.length_append, List.length_cons, List.length_nil]); omega), .mk ⟨i + 1, hset H (n + 3) (.box [.int .i64 t.K, .str t.T, .int .i64 t.N, .int .i64 t.A]), n + 6⟩ (by rw [nx]) ⟨hlt, hfr.hset (by simp only []; omega) (by simp only []; omega)⟩ (by simp only []; omega)⟩
    · obtain rfl : i = ts.length := by omega
      have hl := hlen2 _ hi
      have htx : ∃ m vs, lx (txI us ts ts.length) 0 = .ok m vs ∧ vs.map bare = ts.map bare := by
        obtain ⟨m, vs, q1, q2⟩ := lx_txtG ((ts.take ts.length).mapIdx fun j t => (t, gapI us j)) 0 (fun p hp => by
          obtain ⟨j, hj, rfl⟩ := List.mem_mapIdx.1 hp
          rw [List.take_length] at hj
          exact ⟨by simpa using List.all_eq_true.1 hval _ (List.getElem_mem hj), gapI_ok us j⟩)
        refine ⟨m, vs, q1, ?_⟩
        rw [q2, List.take_length]
        exact List.ext_getElem (by simp) fun i h1 h2 => by simp
      obtain ⟨m, vs, q1, q2⟩ := htx
      obtain ⟨q3, q4⟩ := spaces_law hr q1 q2 h6 (by omega)
      have hv2 : parseMV (txI us ts ts.length) = .tup [eLs (parseLm src).ls, .int .i64 (parseLm (txI us ts ts.length)).a, .int .i64 (parseLm src).e] := by
        rw [← q3, ← q4]; rfl
      have hlt2 : ((txI us ts ts.length).length < 1000000000) = True := eq_true (by omega)
      have f2 : FewLs (parseLm src).ls = True := eq_true (parse_few src)
      simp only [eE, eC, eN, reduceCtorEq, Nat.reduceEqDiff, ↓reduceIte, Nat.reduceAdd, Nat.reduceLT, Option.getD_some, List.getElem?_cons_zero, List.getElem?_cons_succ, TL_mParse, TL_zSameAll, s1, s2, dS, isS, toS, lt_F hlt, hv2, hlt2, eLs_ok, eLs_dec, f2, same_rfl]
  · have hv2 : parseMV src = .tup [eLs [], .int .i64 a, .int .i64 100] := by unfold parseMV; rw [hp]; rfl
    simp only [eE, eC, eN, reduceCtorEq, Nat.reduceEqDiff, ↓reduceIte, Nat.reduceAdd, Nat.reduceLT, Int.reduceEq, Bool.not_true, Bool.not_false, c0, Option.getD_some, List.getElem?_cons_zero, List.getElem?_cons_succ, c6, TL_10, TL_mParse, TL_lexLex, s22, s1, dS, isS, toS, g1, g2, hv2, hlx]
end Go.AM
end
section
set_option maxRecDepth 20000
set_option linter.all false
namespace Go.AM
open Go.Proofs Go.Lib
theorem lexV_no {src : Bs} (h : (parseLm src).e = 0) : ∃ a ts, lx src 0 = .ok a ts ∧ src.length ≤ 65536 ∧ ts.length ≤ src.length ∧ lexV src = .tup [.sl (.none 4) (ts.map encK), .int .i64 0, .int .i64 0] := by
  rcases lexV_all src with ⟨h6, _, hp⟩ | ⟨h6, a, ts, hr, hlen, hok, hlx⟩ | ⟨h6, a, hlx, hp⟩
  · rw [hp] at h; cases h
  · exact ⟨a, ts, hr, h6, hlen, hlx⟩
  · rw [hp] at h; cases h
theorem lexV_any (src : Bs) : ∃ (ts : List Tkn) (a e : Int), lexV src = .tup [.sl (.none 4) (ts.map encK), .int .i64 a, .int .i64 e] := by
  rcases lexV_all src with ⟨h6, h, _⟩ | ⟨h6, a, ts, hr, hlen, hok, hlx⟩ | ⟨h6, a, hlx, hp⟩
  · exact ⟨[], _, _, h⟩
  · exact ⟨ts, _, _, hlx⟩
  · exact ⟨[], _, _, hlx⟩
theorem p7 (src : Bs) (at' turn : Nat) (t : Tkn) (hat : at' < 65536) (htu : turn < 256) : Pur Tryz.prog 7 [.str src, .int .u16 (at' : Int), .int .u8 (turn : Int), encK t] (.bool true) := by
  refine .mk ⟨trivial, trivial, trivial, ⟨trivial, trivial, trivial, trivial, trivial⟩, trivial⟩ trivial (a7 (ev_awp TL_ok (ev_evK ?_)))
  by_cases h : 2000 < src.length
  · have g1 : ((2000 : Int) < src.length) = True := eq_true (by omega)
    simp only [eE, eC, eN, reduceCtorEq, Nat.reduceEqDiff, ↓reduceIte, Nat.reduceAdd, Nat.reduceLeDiff, Bool.not_true, c7, TL_10, g1]
  have g1 : ((2000 : Int) < src.length) = False := eq_false (by omega)
  by_cases h2 : 100 < t.T.length
  · have g2 : ((100 : Int) < t.T.length) = True := eq_true (by omega)
    simp only [eE, eC, eN, reduceCtorEq, Nat.reduceEqDiff, ↓reduceIte, Nat.reduceAdd, Nat.reduceLeDiff, Bool.not_true, c7, TL_10, g1, g2]
  have g2 : ((100 : Int) < t.T.length) = False := eq_false (by omega)
  have g3 : (src.length < 1000000000) = True := eq_true (by omega)
  have hv : parseMV src = .tup [eLs (parseLm src).ls, .int .i64 (parseLm src).a, .int .i64 (parseLm src).e] := rfl
  by_cases he : (parseLm src).e = 0
  case neg =>
    obtain ⟨ts, a, e, hlx⟩ := lexV_any src
    simp only [eE, eC, eN, reduceCtorEq, Nat.reduceEqDiff, ↓reduceIte, Nat.reduceAdd, Nat.reduceLeDiff, Nat.reduceLT, Bool.not_true, Bool.not_false, Option.getD_some, List.length_map, List.getElem?_cons_zero, List.getElem?_cons_succ, c7, TL_10, TL_mParse, TL_lexLex, s22, s1, dS, isS, toS, g1, g2, g3, hv, hlx, he]
  obtain ⟨a, l, hr, h6, hlen, hlx⟩ := lexV_no he
  by_cases hl0 : l = []
  · subst hl0
    simp only [eE, eC, eN, reduceCtorEq, Nat.reduceEqDiff, ↓reduceIte, Nat.reduceAdd, Nat.reduceLeDiff, Nat.reduceLT, Bool.not_true, c0, Option.getD_some, List.getElem?_cons_zero, List.getElem?_cons_succ, c7, TL_10, TL_mParse, TL_lexLex, s22, s1, dS, isS, toS, g1, g2, g3, hv, hlx, he]
  have hpos : 0 < l.length := List.length_pos_iff.2 hl0
  have g4 : ((l.length : Int) = 0) = False := eq_false (by omega)
  have wa : IntKind.wrap .i64 (at' : Int) = at' := w64_in (by omega) (by omega)
  have tm1 : (at' : Int).tmod (l.length : Int) = ((at' % l.length : Nat) : Int) := rfl
  have hk : at' % l.length < l.length := Nat.mod_lt _ hpos
  generalize at' % l.length = k at tm1 hk
  have mt : ∀ (f : Tkn → AVal) (i : Nat), (l.map f).take i = (l.take i).map f := fun f i => List.map_take.symm
  have md : ∀ (f : Tkn → AVal) (i : Nat), (l.map f).drop i = (l.drop i).map f := fun f i => List.map_drop.symm
  have kl : ((k : Int) ≤ (l.length : Int)) = True := eq_true (by omega)
  have e := w64_succ (k := k) (by omega)
  have kl1 : (((k + 1 : Nat) : Int) ≤ (l.length : Int)) = True := eq_true (by omega)
  have hg := List.getElem?_eq_getElem hk
  have klt : ((k : Int) < (l.length : Int)) = True := eq_true (by omega)
  have s40 : ∀ m, m ≤ 5000 → small m 40 = True := fun m hm => eq_true (small_of (by omega) (by decide))
  have lt1 : (l.take k).length = k := by rw [List.length_take]; omega
  have ld1 : ∀ i, (l.drop i).length = l.length - i := fun i => List.length_drop
  have t3 : turn % 3 = 0 ∨ turn % 3 = 1 ∨ turn % 3 = 2 := by omega
  have z1 : small k 40 = True := s40 _ (by omega)
  have z2 : small (k + 1) 40 = True := s40 _ (by omega)
  have z3 : small (k + (1 + (l.length - (k + 1)))) 40 = True := s40 _ (by omega)
  have z4 : small (k + (l.length - (k + 1))) 40 = True := s40 _ (by omega)
  have z5 : small (k + (1 + (l.length - k))) 40 = True := s40 _ (by omega)
  have y1 : (k ≤ 35184372088832) = True := eq_true (by omega)
  have y2 : (k ≤ 35184372088831) = True := eq_true (by omega)
  have y3 : (k + (1 + (l.length - (k + 1))) ≤ 35184372088832) = True := eq_true (by omega)
  have y4 : (k + (l.length - (k + 1)) ≤ 35184372088832) = True := eq_true (by omega)
  have y5 : (k + (1 + (l.length - k)) ≤ 35184372088832) = True := eq_true (by omega)
  have hpre : textV (l.take k) = .tup [.str (join ((l.take k).map wordS) [32]), .int .i64 0] := by
    unfold textV
    rw [if_pos]
    obtain ⟨-, hval, -, -⟩ := lx_ok _ _ _ _ _ rfl hr
    exact List.all_eq_true.2 fun x hx => List.all_eq_true.1 hval x (List.mem_of_mem_take hx)
  have opre : okT (l.take k) = True := eq_true (by show List.length _ ≤ _; omega)
  have dpre : dKs.ok (.sl (.none 4) ((l.take k).map encK)) = True := eq_true ⟨.inl rfl, by rw [decK_map]⟩
  have epre : dKs.dec (.sl (.none 4) ((l.take k).map encK)) = l.take k := decK_map _
  have law := fun m (hm : m.take k = l.take k) hv he2 => wrong_law (m := m) he hr (Nat.le_of_lt hk) hm hv he2
  have mcase : ∀ m : List Tkn, m.length ≤ 2100 → m.take k = l.take k → (textV m = .tup [.str [], .int .i64 100]) ∨ (∃ S, textV m = .tup [.str S, .int .i64 0] ∧ S.length < 1000000000 ∧ ((parseLm S).e = 150 → ((join ((l.take k).map wordS) [32]).length : Int) ≤ (parseLm S).a)) := by
    intro m hml hm
    rcases textV_cases m with ⟨h1, h2⟩ | ⟨h1, h2⟩
    · refine .inr ⟨_, h2, ?_, fun he2 => law m hm h1 he2⟩
      have := join_len (B := 32) (m.map wordS) (fun w hw' => by obtain ⟨x, hx, rfl⟩ := List.mem_map.1 hw'; exact word_len (List.all_eq_true.1 h1 x hx))
      rw [List.length_map] at this
      omega
    · exact .inl h2
  have tn : ∀ a : List Tkn, (l.take k ++ a).take k = l.take k := fun a => by rw [List.take_append_of_le_length (by omega), List.take_of_length_le (by omega)]
  rcases t3 with t3 | t3 | t3
  · have u3 : (turn : Int).tmod 3 = 0 := by show ((turn % 3 : Nat) : Int) = _; rw [t3]; rfl
    generalize hM : l.take k ++ [t] ++ l.drop (k + 1) = M
    have hX : List.map encK (List.take k l) ++ [AVal.agg [AVal.int IntKind.i64 t.K, AVal.str t.T, AVal.int IntKind.i64 t.N, AVal.int IntKind.i64 t.A]] ++ List.map encK (List.drop (k + 1) l) = M.map encK := by rw [← hM]; simp only [List.map_append, List.map_cons, List.map_nil]
    have oX : ∀ i, dKs.ok (.sl (.own i 4) (List.map encK (List.take k l) ++ [AVal.agg [AVal.int IntKind.i64 t.K, AVal.str t.T, AVal.int IntKind.i64 t.N, AVal.int IntKind.i64 t.A]] ++ List.map encK (List.drop (k + 1) l))) = True := fun i => eq_true ⟨.inl rfl, by rw [hX, decK_map]⟩
    have eX' : ∀ i, dKs.dec (.sl (.own i 4) (List.map encK (List.take k l) ++ [AVal.agg [AVal.int IntKind.i64 t.K, AVal.str t.T, AVal.int IntKind.i64 t.N, AVal.int IntKind.i64 t.A]] ++ List.map encK (List.drop (k + 1) l))) = M := fun i => by rw [hX]; exact decK_map M
    have hml : M.length ≤ 2100 := by rw [← hM]; simp only [List.length_append, List.length_cons, List.length_nil, lt1, ld1]; omega
    have hMt : M.take k = l.take k := by rw [← hM]; (try rw [List.append_assoc]); exact tn _
    have oM : okT M = True := eq_true (by show M.length ≤ _; omega)
    rcases mcase M hml hMt with hT | ⟨S, hT, hS, hlaw⟩
    · simp only [eE, eC, eN, reduceCtorEq, Nat.reduceEqDiff, ↓reduceIte, Nat.reduceAdd, Nat.reduceLeDiff, Nat.reduceMul, Nat.reduceLT, Int.reduceEq, Bool.not_true, Bool.not_false, Option.getD_some, Int.toNat_zero, Int.le_refl, Int.toNat_natCast, Int.natCast_nonneg, List.length_map, List.getElem?_cons_zero, List.getElem?_cons_succ, c7, TL_10, TL_mParse, TL_lexLex, TL_lexText, s22, s1, dS, isS, toS, g1, g2, g3, hv, hlx, he, g4, wa, tm1, u3, mt, md, kl, kl1, e, List.take_length, List.length_append, lt1, ld1, z1, z2, z3, y1, y2, y3, hpre, opre, dpre, epre, oX, eX', oM, hT]
    · have hS' : (S.length < 1000000000) = True := eq_true hS
      have hv2 : parseMV S = .tup [eLs (parseLm S).ls, .int .i64 (parseLm S).a, .int .i64 (parseLm S).e] := rfl
      by_cases he2 : (parseLm S).e = 150
      · have hlw := hlaw he2
        simp only [eE, eC, eN, reduceCtorEq, Nat.reduceEqDiff, ↓reduceIte, Nat.reduceAdd, Nat.reduceLeDiff, Nat.reduceMul, Nat.reduceLT, Int.reduceEq, Bool.not_true, Option.getD_some, Int.toNat_zero, Int.le_refl, Int.toNat_natCast, Int.natCast_nonneg, List.length_map, List.getElem?_cons_zero, List.getElem?_cons_succ, c7, TL_10, TL_mParse, TL_lexLex, TL_lexText, s22, s1, dS, isS, toS, g1, g2, g3, hv, hlx, he, g4, wa, tm1, u3, mt, md, kl, kl1, e, List.take_length, List.length_append, lt1, ld1, z1, z2, z3, y1, y2, y3, hpre, opre, dpre, epre, oX, eX', oM, hT, hS', hv2, he2, hlw]
      · simp only [eE, eC, eN, reduceCtorEq, Nat.reduceEqDiff, ↓reduceIte, Nat.reduceAdd, Nat.reduceLeDiff, Nat.reduceMul, Nat.reduceLT, Int.reduceEq, Bool.not_true, Bool.not_false, Option.getD_some, Int.toNat_zero, Int.le_refl, Int.toNat_natCast, Int.natCast_nonneg, List.length_map, List.getElem?_cons_zero, List.getElem?_cons_succ, c7, TL_10, TL_mParse, TL_lexLex, TL_lexText, s22, s1, dS, isS, toS, g1, g2, g3, hv, hlx, he, g4, wa, tm1, u3, mt, md, kl, kl1, e, List.take_length, List.length_append, lt1, ld1, z1, z2, z3, y1, y2, y3, hpre, opre, dpre, epre, oX, eX', oM, hT, hS', hv2, he2]
  · have u3 : (turn : Int).tmod 3 = 1 := by show ((turn % 3 : Nat) : Int) = _; rw [t3]; rfl
    generalize hM : l.take k ++ l.drop (k + 1) = M
    have hX : List.map encK (List.take k l) ++ List.map encK (List.drop (k + 1) l) = M.map encK := by rw [← hM]; simp only [List.map_append]
    have oX : ∀ i, dKs.ok (.sl (.own i 4) (List.map encK (List.take k l) ++ List.map encK (List.drop (k + 1) l))) = True := fun i => eq_true ⟨.inl rfl, by rw [hX, decK_map]⟩
    have eX' : ∀ i, dKs.dec (.sl (.own i 4) (List.map encK (List.take k l) ++ List.map encK (List.drop (k + 1) l))) = M := fun i => by rw [hX]; exact decK_map M
    have hml : M.length ≤ 2100 := by rw [← hM]; simp only [List.length_append, lt1, ld1]; omega
    have hMt : M.take k = l.take k := by rw [← hM]; (try rw [List.append_assoc]); exact tn _
    have oM : okT M = True := eq_true (by show M.length ≤ _; omega)
    rcases mcase M hml hMt with hT | ⟨S, hT, hS, hlaw⟩
    · simp only [eE, eC, eN, reduceCtorEq, Nat.reduceEqDiff, ↓reduceIte, Nat.reduceAdd, Nat.reduceLeDiff, Nat.reduceMul, Nat.reduceLT, Int.reduceEq, Bool.not_true, Bool.not_false, Option.getD_some, Int.toNat_zero, Int.le_refl, Int.toNat_natCast, Int.natCast_nonneg, List.length_map, List.getElem?_cons_zero, List.getElem?_cons_succ, c7, TL_10, TL_mParse, TL_lexLex, TL_lexText, s22, s1, dS, isS, toS, g1, g2, g3, hv, hlx, he, g4, wa, tm1, u3, mt, md, kl, kl1, e, List.take_length, lt1, ld1, z1, z4, y1, y4, hpre, opre, dpre, epre, oX, eX', oM, hT]
    · have hS' : (S.length < 1000000000) = True := eq_true hS
      have hv2 : parseMV S = .tup [eLs (parseLm S).ls, .int .i64 (parseLm S).a, .int .i64 (parseLm S).e] := rfl
      by_cases he2 : (parseLm S).e = 150
      · have hlw := hlaw he2
        simp only [eE, eC, eN, reduceCtorEq, Nat.reduceEqDiff, ↓reduceIte, Nat.reduceAdd, Nat.reduceLeDiff, Nat.reduceMul, Nat.reduceLT, Int.reduceEq, Bool.not_true, Option.getD_some, Int.toNat_zero, Int.le_refl, Int.toNat_natCast, Int.natCast_nonneg, List.length_map, List.getElem?_cons_zero, List.getElem?_cons_succ, c7, TL_10, TL_mParse, TL_lexLex, TL_lexText, s22, s1, dS, isS, toS, g1, g2, g3, hv, hlx, he, g4, wa, tm1, u3, mt, md, kl, kl1, e, List.take_length, lt1, ld1, z1, z4, y1, y4, hpre, opre, dpre, epre, oX, eX', oM, hT, hS', hv2, he2, hlw]
      · simp only [eE, eC, eN, reduceCtorEq, Nat.reduceEqDiff, ↓reduceIte, Nat.reduceAdd, Nat.reduceLeDiff, Nat.reduceMul, Nat.reduceLT, Int.reduceEq, Bool.not_true, Bool.not_false, Option.getD_some, Int.toNat_zero, Int.le_refl, Int.toNat_natCast, Int.natCast_nonneg, List.length_map, List.getElem?_cons_zero, List.getElem?_cons_succ, c7, TL_10, TL_mParse, TL_lexLex, TL_lexText, s22, s1, dS, isS, toS, g1, g2, g3, hv, hlx, he, g4, wa, tm1, u3, mt, md, kl, kl1, e, List.take_length, lt1, ld1, z1, z4, y1, y4, hpre, opre, dpre, epre, oX, eX', oM, hT, hS', hv2, he2]
  · have u3 : (turn : Int).tmod 3 = 2 := by show ((turn % 3 : Nat) : Int) = _; rw [t3]; rfl
    generalize hM : l.take k ++ [l[k]] ++ l.drop k = M
    have hX : List.map encK (List.take k l) ++ [encK l[k]] ++ List.map encK (List.drop k l) = M.map encK := by rw [← hM]; simp only [List.map_append, List.map_cons, List.map_nil]
    have oX : ∀ i, dKs.ok (.sl (.own i 4) (List.map encK (List.take k l) ++ [encK l[k]] ++ List.map encK (List.drop k l))) = True := fun i => eq_true ⟨.inl rfl, by rw [hX, decK_map]⟩
    have eX' : ∀ i, dKs.dec (.sl (.own i 4) (List.map encK (List.take k l) ++ [encK l[k]] ++ List.map encK (List.drop k l))) = M := fun i => by rw [hX]; exact decK_map M
    have hml : M.length ≤ 2100 := by rw [← hM]; simp only [List.length_append, List.length_cons, List.length_nil, lt1, ld1]; omega
    have hMt : M.take k = l.take k := by rw [← hM]; (try rw [List.append_assoc]); exact tn _
    have oM : okT M = True := eq_true (by show M.length ≤ _; omega)
    rcases mcase M hml hMt with hT | ⟨S, hT, hS, hlaw⟩
    · simp only [eE, eC, eN, reduceCtorEq, Nat.reduceEqDiff, ↓reduceIte, Nat.reduceAdd, Nat.reduceLeDiff, Nat.reduceMul, Nat.reduceLT, Int.reduceEq, Bool.not_true, Bool.not_false, Option.getD_some, Int.toNat_zero, Int.le_refl, Int.toNat_natCast, Int.natCast_nonneg, List.length_map, List.getElem?_map, List.getElem?_cons_zero, List.getElem?_cons_succ, c7, TL_10, TL_mParse, TL_lexLex, TL_lexText, s22, s1, dS, isS, toS, g1, g2, g3, hv, hlx, he, g4, wa, tm1, u3, mt, md, kl, klt, hg, List.take_length, List.length_append, lt1, ld1, z1, z2, z5, y1, y2, y5, hpre, opre, dpre, epre, oX, eX', oM, hT]
    · have hS' : (S.length < 1000000000) = True := eq_true hS
      have hv2 : parseMV S = .tup [eLs (parseLm S).ls, .int .i64 (parseLm S).a, .int .i64 (parseLm S).e] := rfl
      by_cases he2 : (parseLm S).e = 150
      · have hlw := hlaw he2
        simp only [eE, eC, eN, reduceCtorEq, Nat.reduceEqDiff, ↓reduceIte, Nat.reduceAdd, Nat.reduceLeDiff, Nat.reduceMul, Nat.reduceLT, Int.reduceEq, Bool.not_true, Option.getD_some, Int.toNat_zero, Int.le_refl, Int.toNat_natCast, Int.natCast_nonneg, List.length_map, List.getElem?_map, List.getElem?_cons_zero, List.getElem?_cons_succ, c7, TL_10, TL_mParse, TL_lexLex, TL_lexText, s22, s1, dS, isS, toS, g1, g2, g3, hv, hlx, he, g4, wa, tm1, u3, mt, md, kl, klt, hg, List.take_length, List.length_append, lt1, ld1, z1, z2, z5, y1, y2, y5, hpre, opre, dpre, epre, oX, eX', oM, hT, hS', hv2, he2, hlw]
      · simp only [eE, eC, eN, reduceCtorEq, Nat.reduceEqDiff, ↓reduceIte, Nat.reduceAdd, Nat.reduceLeDiff, Nat.reduceMul, Nat.reduceLT, Int.reduceEq, Bool.not_true, Bool.not_false, Option.getD_some, Int.toNat_zero, Int.le_refl, Int.toNat_natCast, Int.natCast_nonneg, List.length_map, List.getElem?_map, List.getElem?_cons_zero, List.getElem?_cons_succ, c7, TL_10, TL_mParse, TL_lexLex, TL_lexText, s22, s1, dS, isS, toS, g1, g2, g3, hv, hlx, he, g4, wa, tm1, u3, mt, md, kl, klt, hg, List.take_length, List.length_append, lt1, ld1, z1, z2, z5, y1, y2, y5, hpre, opre, dpre, epre, oX, eX', oM, hT, hS', hv2, he2]
end Go.AM
end
section
set_option maxRecDepth 20000
set_option linter.all false
namespace Go.AM
open Go.Proofs Go.Lib
theorem aggQ_ok (x : Lma) (Q : List Cnd) (i : Nat) : dXw.ok (.agg [.str x.nm, .int .i64 x.lv, eSs x.cs, eSs x.ls, .sl (.own i 4) (Q.map encQ), .sl (.none 2) (x.ps.map encM), .int .i64 x.c, .int .i64 x.l]) = True := eq_true (by
  show Wk _ (encL (decX _))
  have e : decX (.agg [.str x.nm, .int .i64 x.lv, eSs x.cs, eSs x.ls, .sl (.own i 4) (Q.map encQ), .sl (.none 2) (x.ps.map encM), .int .i64 x.c, .int .i64 x.l]) = { x with qs := Q } := decX_enc { x with qs := Q }
  rw [e]
  exact wk_lem (Wk.refl _) (Wk.refl _) (Wk.sl (.inl rfl)) (Wk.refl _))
theorem aggQ_dec (x : Lma) (Q : List Cnd) (i : Nat) : dXw.dec (.agg [.str x.nm, .int .i64 x.lv, eSs x.cs, eSs x.ls, .sl (.own i 4) (Q.map encQ), .sl (.none 2) (x.ps.map encM), .int .i64 x.c, .int .i64 x.l]) = { x with qs := Q } := decX_enc { x with qs := Q }
theorem aggP_ok (x : Lma) (P : List Prm) (i : Nat) : dXw.ok (.agg [.str x.nm, .int .i64 x.lv, eSs x.cs, eSs x.ls, .sl (.none 4) (x.qs.map encQ), .sl (.own i 2) (P.map encM), .int .i64 x.c, .int .i64 x.l]) = True := eq_true (by
  show Wk _ (encL (decX _))
  have e : decX (.agg [.str x.nm, .int .i64 x.lv, eSs x.cs, eSs x.ls, .sl (.none 4) (x.qs.map encQ), .sl (.own i 2) (P.map encM), .int .i64 x.c, .int .i64 x.l]) = { x with ps := P } := decX_enc { x with ps := P }
  rw [e]
  exact wk_lem (Wk.refl _) (Wk.refl _) (Wk.refl _) (Wk.sl (.inl rfl)))
theorem aggP_dec (x : Lma) (P : List Prm) (i : Nat) : dXw.dec (.agg [.str x.nm, .int .i64 x.lv, eSs x.cs, eSs x.ls, .sl (.none 4) (x.qs.map encQ), .sl (.own i 2) (P.map encM), .int .i64 x.c, .int .i64 x.l]) = { x with ps := P } := decX_enc { x with ps := P }
theorem chk_no {x : Lma} (h : ¬ OKL x) : chk x = 300 := by
  unfold chk
  rw [if_neg (fun q => h ((lem_okl x).1 q))]
theorem p8 (x : Lma) (at' : Nat) (hat : at' < 256) : Pur Tryz.prog 8 [encL x, .int .u8 (at' : Int)] (.bool true) := by
  refine .mk ⟨encL_under 0 x, trivial, trivial⟩ trivial (a8 (ev_awp TL_ok (ev_evK ?_)))
  cases hf : fewB x with
  | false => simp only [eE, eC, eN, reduceCtorEq, Nat.reduceEqDiff, ↓reduceIte, Nat.reduceAdd, Bool.not_true, Bool.not_false, c8, TL_10, TL_zFew, TL_mCheck, s1, dXw_ok, dXw_dec, hf]
  | true =>
  have fx : FewL x = True := eq_true (fewB_few hf)
  by_cases hok : OKL x
  case neg =>
    have hck := chk_no hok
    simp only [eE, eC, eN, reduceCtorEq, Nat.reduceEqDiff, ↓reduceIte, Nat.reduceAdd, Int.reduceEq, Bool.not_true, Bool.not_false, c8, TL_10, TL_zFew, TL_mCheck, s1, dXw_ok, dXw_dec, hf, fx, hck]
  have hck := chk_ok hok
  have hokT : OKL x = True := eq_true hok
  have wa : IntKind.wrap .i64 (at' : Int) = at' := w64_in (by omega) (by omega)
  have hnq := hok.nq
  have hnp := dif_len hok.pc
  rw [List.length_map] at hnp
  have hc4 := hok.cs.2.2.2
  have mtq : ∀ (i : Nat), (x.qs.map encQ).take i = (x.qs.take i).map encQ := fun i => List.map_take.symm
  have mdq : ∀ (i : Nat), (x.qs.map encQ).drop i = (x.qs.drop i).map encQ := fun i => List.map_drop.symm
  have mtp : ∀ (i : Nat), (x.ps.map encM).take i = (x.ps.take i).map encM := fun i => List.map_take.symm
  have mdp : ∀ (i : Nat), (x.ps.map encM).drop i = (x.ps.drop i).map encM := fun i => List.map_drop.symm
  have q0 : x.qs.length = 0 ∨ 0 < x.qs.length := by omega
  have p0 : x.ps.length = 0 ∨ 0 < x.ps.length := by omega
  rcases q0 with q0 | q0
  · rcases p0 with p0 | p0
    · simp only [eE, eC, eN, reduceCtorEq, Nat.reduceEqDiff, ↓reduceIte, Nat.reduceAdd, Nat.reduceLeDiff, Bool.not_true, c0, i00, List.length_map, c8, TL_10, TL_zFew, TL_mCheck, TL_back, s1, dXw_ok, dXw_dec, hf, fx, hck, hokT, q0, p0]
    · have kpt : (at' : Int).tmod (x.ps.length : Int) = ((at' % x.ps.length : Nat) : Int) := rfl
      have kph : at' % x.ps.length < x.ps.length := Nat.mod_lt _ p0
      generalize at' % x.ps.length = kp at kpt kph
      have kp1 : ((0 : Int) < (x.ps.length : Int)) = True := eq_true (by omega)
      have kp2 : ((x.ps.length : Int) = 0) = False := eq_false (by omega)
      have kp3 := w64_succ (k := kp) (by omega)
      have kp4 : ((kp : Int) ≤ (x.ps.length : Int)) = True := eq_true (by omega)
      have kp5 : (((kp + 1 : Nat) : Int) ≤ (x.ps.length : Int)) = True := eq_true (by omega)
      have kp6 : small kp 32 = True := eq_true (small_of (by omega) (by decide))
      have kp7 : small (kp + (x.ps.length - (kp + 1))) 32 = True := eq_true (small_of (by omega) (by decide))
      have kp8 : (kp ≤ 35184372088832) = True := eq_true (by omega)
      have kp9 : (kp + (x.ps.length - (kp + 1)) ≤ 35184372088832) = True := eq_true (by omega)
      have kpl : (List.take kp x.ps).length = kp := by rw [List.length_take]; omega
      have kpm : (List.drop (kp + 1) x.ps).length = x.ps.length - (kp + 1) := List.length_drop
      have kpX : List.map encM (List.take kp x.ps) ++ List.map encM (List.drop (kp + 1) x.ps) = (cutL x.ps kp).map encM := by unfold cutL; rw [List.map_append]
      have kpa : ∀ i, dXw.ok (.agg [.str x.nm, .int .i64 x.lv, eSs x.cs, eSs x.ls, .sl (.none 4) (x.qs.map encQ), .sl (.own i 2) (List.map encM (List.take kp x.ps) ++ List.map encM (List.drop (kp + 1) x.ps)), .int .i64 x.c, .int .i64 x.l]) = True := fun i => by rw [kpX]; exact aggP_ok x _ i
      have kpb : ∀ i, dXw.dec (.agg [.str x.nm, .int .i64 x.lv, eSs x.cs, eSs x.ls, .sl (.none 4) (x.qs.map encQ), .sl (.own i 2) (List.map encM (List.take kp x.ps) ++ List.map encM (List.drop (kp + 1) x.ps)), .int .i64 x.c, .int .i64 x.l]) = { x with ps := cutL x.ps kp } := fun i => by rw [kpX]; exact aggP_dec x _ i
      have kpc : OKL { x with ps := cutL x.ps kp } = True := eq_true (okl_p hok kp)
      simp only [eE, eC, eN, reduceCtorEq, Nat.reduceEqDiff, ↓reduceIte, Nat.reduceAdd, Nat.reduceLeDiff, Nat.reduceMul, Nat.reduceLT, Int.reduceEq, Bool.not_true, c0, i00, Int.toNat_zero, Int.le_refl, Int.toNat_natCast, Int.natCast_nonneg, List.length_map, c8, TL_10, TL_zFew, TL_mCheck, TL_back, s1, dXw_ok, dXw_dec, hf, fx, hck, hokT, wa, mtp, mdp, List.take_length, q0, kpt, kp1, kp2, kp3, kp4, kp5, kp6, kp7, kp8, kp9, kpl, kpm, kpa, kpb, kpc]
  · have kqt : (at' : Int).tmod (x.qs.length : Int) = ((at' % x.qs.length : Nat) : Int) := rfl
    have kqh : at' % x.qs.length < x.qs.length := Nat.mod_lt _ q0
    generalize at' % x.qs.length = kq at kqt kqh
    have kq1 : ((0 : Int) < (x.qs.length : Int)) = True := eq_true (by omega)
    have kq2 : ((x.qs.length : Int) = 0) = False := eq_false (by omega)
    have kq3 := w64_succ (k := kq) (by omega)
    have kq4 : ((kq : Int) ≤ (x.qs.length : Int)) = True := eq_true (by omega)
    have kq5 : (((kq + 1 : Nat) : Int) ≤ (x.qs.length : Int)) = True := eq_true (by omega)
    have kq6 : small kq 64 = True := eq_true (small_of (by omega) (by decide))
    have kq7 : small (kq + (x.qs.length - (kq + 1))) 64 = True := eq_true (small_of (by omega) (by decide))
    have kq8 : (kq ≤ 35184372088832) = True := eq_true (by omega)
    have kq9 : (kq + (x.qs.length - (kq + 1)) ≤ 35184372088832) = True := eq_true (by omega)
    have kql : (List.take kq x.qs).length = kq := by rw [List.length_take]; omega
    have kqm : (List.drop (kq + 1) x.qs).length = x.qs.length - (kq + 1) := List.length_drop
    have kqX : List.map encQ (List.take kq x.qs) ++ List.map encQ (List.drop (kq + 1) x.qs) = (cutL x.qs kq).map encQ := by unfold cutL; rw [List.map_append]
    have kqa : ∀ i, dXw.ok (.agg [.str x.nm, .int .i64 x.lv, eSs x.cs, eSs x.ls, .sl (.own i 4) (List.map encQ (List.take kq x.qs) ++ List.map encQ (List.drop (kq + 1) x.qs)), .sl (.none 2) (x.ps.map encM), .int .i64 x.c, .int .i64 x.l]) = True := fun i => by rw [kqX]; exact aggQ_ok x _ i
    have kqb : ∀ i, dXw.dec (.agg [.str x.nm, .int .i64 x.lv, eSs x.cs, eSs x.ls, .sl (.own i 4) (List.map encQ (List.take kq x.qs) ++ List.map encQ (List.drop (kq + 1) x.qs)), .sl (.none 2) (x.ps.map encM), .int .i64 x.c, .int .i64 x.l]) = { x with qs := cutL x.qs kq } := fun i => by rw [kqX]; exact aggQ_dec x _ i
    have kqc : OKL { x with qs := cutL x.qs kq } = True := eq_true (okl_q hok kq)
    rcases p0 with p0 | p0
    · simp only [eE, eC, eN, reduceCtorEq, Nat.reduceEqDiff, ↓reduceIte, Nat.reduceAdd, Nat.reduceLeDiff, Nat.reduceMul, Nat.reduceLT, Int.reduceEq, Bool.not_true, c0, i00, Int.toNat_zero, Int.le_refl, Int.toNat_natCast, Int.natCast_nonneg, List.length_map, c8, TL_10, TL_zFew, TL_mCheck, TL_back, s1, dXw_ok, dXw_dec, hf, fx, hck, hokT, wa, mtq, mdq, List.take_length, p0, kqt, kq1, kq2, kq3, kq4, kq5, kq6, kq7, kq8, kq9, kql, kqm, kqa, kqb, kqc]
    · have kpt : (at' : Int).tmod (x.ps.length : Int) = ((at' % x.ps.length : Nat) : Int) := rfl
      have kph : at' % x.ps.length < x.ps.length := Nat.mod_lt _ p0
      generalize at' % x.ps.length = kp at kpt kph
      have kp1 : ((0 : Int) < (x.ps.length : Int)) = True := eq_true (by omega)
      have kp2 : ((x.ps.length : Int) = 0) = False := eq_false (by omega)
      have kp3 := w64_succ (k := kp) (by omega)
      have kp4 : ((kp : Int) ≤ (x.ps.length : Int)) = True := eq_true (by omega)
      have kp5 : (((kp + 1 : Nat) : Int) ≤ (x.ps.length : Int)) = True := eq_true (by omega)
      have kp6 : small kp 32 = True := eq_true (small_of (by omega) (by decide))
      have kp7 : small (kp + (x.ps.length - (kp + 1))) 32 = True := eq_true (small_of (by omega) (by decide))
      have kp8 : (kp ≤ 35184372088832) = True := eq_true (by omega)
      have kp9 : (kp + (x.ps.length - (kp + 1)) ≤ 35184372088832) = True := eq_true (by omega)
      have kpl : (List.take kp x.ps).length = kp := by rw [List.length_take]; omega
      have kpm : (List.drop (kp + 1) x.ps).length = x.ps.length - (kp + 1) := List.length_drop
      have kpX : List.map encM (List.take kp x.ps) ++ List.map encM (List.drop (kp + 1) x.ps) = (cutL x.ps kp).map encM := by unfold cutL; rw [List.map_append]
      have kpa : ∀ i, dXw.ok (.agg [.str x.nm, .int .i64 x.lv, eSs x.cs, eSs x.ls, .sl (.none 4) (x.qs.map encQ), .sl (.own i 2) (List.map encM (List.take kp x.ps) ++ List.map encM (List.drop (kp + 1) x.ps)), .int .i64 x.c, .int .i64 x.l]) = True := fun i => by rw [kpX]; exact aggP_ok x _ i
      have kpb : ∀ i, dXw.dec (.agg [.str x.nm, .int .i64 x.lv, eSs x.cs, eSs x.ls, .sl (.none 4) (x.qs.map encQ), .sl (.own i 2) (List.map encM (List.take kp x.ps) ++ List.map encM (List.drop (kp + 1) x.ps)), .int .i64 x.c, .int .i64 x.l]) = { x with ps := cutL x.ps kp } := fun i => by rw [kpX]; exact aggP_dec x _ i
      have kpc : OKL { x with ps := cutL x.ps kp } = True := eq_true (okl_p hok kp)
      simp only [eE, eC, eN, reduceCtorEq, Nat.reduceEqDiff, ↓reduceIte, Nat.reduceAdd, Nat.reduceLeDiff, Nat.reduceMul, Nat.reduceLT, Int.reduceEq, Bool.not_true, Int.toNat_zero, Int.le_refl, Int.toNat_natCast, Int.natCast_nonneg, List.length_map, c8, TL_10, TL_zFew, TL_mCheck, TL_back, s1, dXw_ok, dXw_dec, hf, fx, hck, hokT, wa, mtq, mdq, mtp, mdp, List.take_length, kqt, kq1, kq2, kq3, kq4, kq5, kq6, kq7, kq8, kq9, kql, kqm, kqa, kqb, kqc, kpt, kp1, kp2, kp3, kp4, kp5, kp6, kp7, kp8, kp9, kpl, kpm, kpa, kpb, kpc]
end Go.AM
end
section
set_option maxRecDepth 20000
set_option linter.all false
namespace Go.AM
open Go.Proofs Go.Lib
structure V14 where
  i : Nat
  tk : Tok
  H : AHeap
  n : Nat
abbrev yC (x : Lma) (t1 : Tok) (cs : List Bs) (t2 : Tok) (ls : List Bs) : List AVal := [.str x.nm, .int .i64 x.lv, .sl t1 (cs.map .str), .sl t2 (ls.map .str), .sl (.none 4) (x.qs.map encQ), .sl (.none 2) (x.ps.map encM), .int .i64 x.c, .int .i64 x.l]
structure I14 (x : Lma) (len lo : Nat) (f : Tok → Nat → List AVal) (v : V14) : Prop where
  hi : v.i ≤ len
  hn : lo ≤ v.n
  fr : Fresh v.H v.n
  h0 : hget v.H 0 = some (.box (cellsL x))
  h3 : hget v.H 3 = some (.box (f v.tk v.i))
  tok : tkG 1 lo v.H v.tk
  es : v.tk.esz = 1 ∨ v.i = 0
theorem digN_succ (pre : Bs) (turn i : Nat) : digN pre turn (i + 1) = digN pre turn i ++ [pre ++ [UInt8.ofNat (48 + (i + turn) % 10)]] := by
  unfold digN; rw [List.range_succ, List.map_append]; rfl
theorem digN_names {pre : Bs} (turn n : Nat) (h : ∀ d, d < 10 → nameS (pre ++ [UInt8.ofNat (48 + d)]) = true) : (digN pre turn n).all nameS = true := by
  unfold digN
  rw [List.all_eq_true]
  intro s hs
  obtain ⟨i, -, rfl⟩ := List.mem_map.1 hs
  exact h _ (Nat.mod_lt _ (by decide))
theorem nameC : ∀ d, d < 10 → nameS ([99] ++ [UInt8.ofNat (48 + d)]) = true := by decide
theorem nameL : ∀ d, d < 10 → nameS (wLac ++ [UInt8.ofNat (48 + d)]) = true := by decide
theorem aggN_dec (x : Lma) (cs ls : List Bs) (t1 t2 : Tok) : dXw.dec (.agg (yC x t1 cs t2 ls)) = { x with cs := cs, ls := ls } := decX_enc { x with cs := cs, ls := ls }
theorem aggN_ok (x : Lma) (cs ls : List Bs) {t1 t2 : Tok} (h1 : t1.esz = 1 ∨ cs = []) (h2 : t2.esz = 1 ∨ ls = []) : dXw.ok (.agg (yC x t1 cs t2 ls)) = True := eq_true (by
  show Wk _ (encL (decX _))
  have e : decX (.agg (yC x t1 cs t2 ls)) = { x with cs := cs, ls := ls } := decX_enc { x with cs := cs, ls := ls }
  rw [e]
  exact wk_lem (Wk.sl (h1.imp id fun e => by rw [e]; rfl)) (Wk.sl (h2.imp id fun e => by rw [e]; rfl)) (Wk.refl _) (Wk.refl _))
theorem p9 (x : Lma) (turn : Nat) (htu : turn < 256) : Pur Tryz.prog 9 [encL x, .int .u8 (turn : Int)] (.bool true) := by
  refine .mk ⟨encL_under 0 x, trivial, trivial⟩ trivial (a9 (ev_awp TL_ok (ev_evK ?_)))
  cases hf : fewB x with
  | false => simp only [eE, eC, eN, reduceCtorEq, Nat.reduceEqDiff, ↓reduceIte, Nat.reduceAdd, Bool.not_true, Bool.not_false, c9, TL_10, TL_zFew, TL_mCheck, s1, dXw_ok, dXw_dec, hf]
  | true =>
  have fx : FewL x = True := eq_true (fewB_few hf)
  by_cases hok : OKL x
  case neg =>
    have hck := chk_no hok
    simp only [eE, eC, eN, reduceCtorEq, Nat.reduceEqDiff, ↓reduceIte, Nat.reduceAdd, Int.reduceEq, Bool.not_true, Bool.not_false, c9, TL_10, TL_zFew, TL_mCheck, s1, dXw_ok, dXw_dec, hf, fx, hck]
  have hck := chk_ok hok
  have hc4 := hok.cs.2.2.2
  have hl3 := hok.ls.2.2.2
  have wt : IntKind.wrap .i64 (turn : Int) = turn := w64_in (by omega) (by omega)
  simp only [eE, eC, eN, reduceCtorEq, Nat.reduceEqDiff, ↓reduceIte, Nat.reduceAdd, Nat.reduceLeDiff, Bool.not_true, List.length_map, c9, TL_10, TL_zFew, TL_mCheck, s1, dXw_ok, dXw_dec, hf, fx, hck, hset_hset]
  refine k_loop (fun v : V14 => ⟨[(1, true, .int .u8 (turn : Int)), (2, true, .ptr 0 0), (5, true, .ptr 3 0), (23, true, .int .i64 x.cs.length), (24, true, .int .i64 v.i)], v.H, v.n⟩) (I14 x x.cs.length 5 fun tk i => yC x tk (digN [99] turn i) .nil []) (fun v => x.cs.length - v.i)
    ⟨0, .nil, hset (hset hnil 0 (.box (cellsL x))) 3 (.box (yC x .nil [] .nil [])), 5⟩ rfl ⟨Nat.zero_le _, Nat.le_refl _, (Fresh.nil.hset (m := 5) (Nat.zero_le 5) (show 0 < 5 by decide)).hset (Nat.le_refl 5) (show 3 < 5 by decide), rfl, rfl, .inl rfl, .inr rfl⟩ ?_
  rintro ⟨i, tk, H, n⟩ hI
  have hi := hI.hi
  have hn := hI.hn
  have hfr := hI.fr
  have h0 := hI.h0
  have h3 := hI.h3
  have htk := hI.tok
  have hes := hI.es
  simp only at hi hn hfr h0 h3 htk hes
  have y3 : ∀ k, (3 = n + k) = False := fun k => eq_false (by omega)
  have y4 : ∀ k, (n + k = 3) = False := fun k => eq_false (by omega)
  by_cases hlt : i < x.cs.length
  · have e := w64_succ (k := i) (by omega)
    have w1 : IntKind.wrap .i64 ((i : Int) + (turn : Int)) = ((i + turn : Nat) : Int) := by rw [w64_in (by omega) (by omega)]; omega
    have w2 : (((i + turn : Nat) : Int)).tmod 10 = (((i + turn) % 10 : Nat) : Int) := rfl
    have hd : (i + turn) % 10 < 10 := Nat.mod_lt _ (by decide)
    have nx := digN_succ [99] turn i
    generalize (i + turn) % 10 = d at w2 hd nx
    have w3 : IntKind.wrap .i64 (48 + (d : Int)) = ((48 + d : Nat) : Int) := by rw [w64_in (by omega) (by omega)]; omega
    have w4 : IntKind.wrap .u8 ((48 + d : Nat) : Int) = ((48 + d : Nat) : Int) := wu8 (by omega)
    have hln := digN_len [99] turn i
    have q1 : appOK H 1 tk = True := eq_true htk.app
    have q2 : (i ≤ 35184372088831) = True := eq_true (by omega)
    have q3 : small (i + 1) 16 = True := eq_true (small_of (by omega) (by decide))
    have kx : hget (killTok H tk) 3 = some (.box (yC x tk (digN [99] turn i) .nil [])) := by rw [kill_get htk (.inl (by omega))]; exact h3
    simp only [eE, eC, eN, reduceCtorEq, Nat.reduceEqDiff, ↓reduceIte, Nat.reduceAdd, Nat.reduceLeDiff, Nat.reduceMul, Nat.reduceLT, Int.reduceEq, Int.toNat_natCast, List.length_map, lt_T hlt, e, wt, w1, w2, w3, w4, h3, kx, hln, q1, q2, q3, fr1 hfr, y4]
    refine ⟨⟨[UInt8.ofNat (48 + d)], by simp; omega⟩, by unfold small; omega, .mk ⟨i + 1, .own (n + 13) 1, hset (hset (killTok H tk) (n + 13) .tok) 3 (.box (yC x (.own (n + 13) 1) (digN [99] turn (i + 1)) .nil [])), n + 16⟩ ?_ ⟨hlt, by simp only []; omega, ((kill_fresh htk hfr).hset (m := n + 16) (by omega) (by omega)).hset (Nat.le_refl (n + 16)) (show 3 < n + 16 by omega), ?_, hget_hset_eq .., .inr (.inr ⟨n + 13, rfl, by omega, by rw [hget_hset_ne _ _ _ _ (by omega)]; exact hget_hset_eq ..⟩), .inl rfl⟩ (by simp only []; omega)⟩
    · simp only [nx, yC, List.map_append, List.map_cons, List.map_nil, List.cons_append, List.nil_append]
    · simp only []
      rw [hget_hset_ne _ _ _ _ (by omega), hget_hset_ne _ _ _ _ (by omega), kill_get htk (.inl (by omega))]; exact h0
  obtain rfl : i = x.cs.length := by omega
  have hes1 : tk.esz = 1 ∨ digN [99] turn x.cs.length = [] := hes.imp id fun e => by rw [e]; rfl
  generalize hcs : digN [99] turn x.cs.length = cs at h3 hes1
  simp only [eE, eC, eN, Nat.reduceEqDiff, ↓reduceIte, Nat.reduceAdd, Nat.reduceLeDiff, List.length_map, lt_F hlt, h0]
  refine k_loop (fun v : V14 => ⟨[(1, true, .int .u8 (turn : Int)), (2, true, .ptr 0 0), (5, true, .ptr 3 0), (45, true, .int .i64 x.ls.length), (46, true, .int .i64 v.i)], v.H, v.n⟩) (I14 x x.ls.length n fun t2 i => yC x tk cs t2 (digN wLac turn i)) (fun v => x.ls.length - v.i)
    ⟨0, .nil, H, n⟩ rfl ⟨Nat.zero_le _, Nat.le_refl _, hfr, h0, h3, .inl rfl, .inr rfl⟩ ?_
  clear y3 y4 hfr h0 h3 hlt hi htk hes hI
  rintro ⟨i, t2, H1, n1⟩ hI
  have hi := hI.hi
  have hn1 := hI.hn
  have hfr := hI.fr
  have h0 := hI.h0
  have h3 := hI.h3
  have htk := hI.tok
  have hes := hI.es
  simp only at hi hn1 hfr h0 h3 htk hes
  have y3 : ∀ k, (3 = n1 + k) = False := fun k => eq_false (by omega)
  have y4 : ∀ k, (n1 + k = 3) = False := fun k => eq_false (by omega)
  by_cases hlt : i < x.ls.length
  · have e := w64_succ (k := i) (by omega)
    have w1 : IntKind.wrap .i64 ((i : Int) + (turn : Int)) = ((i + turn : Nat) : Int) := by rw [w64_in (by omega) (by omega)]; omega
    have w2 : (((i + turn : Nat) : Int)).tmod 10 = (((i + turn) % 10 : Nat) : Int) := rfl
    have hd : (i + turn) % 10 < 10 := Nat.mod_lt _ (by decide)
    have nx := digN_succ wLac turn i
    generalize (i + turn) % 10 = d at w2 hd nx
    have w3 : IntKind.wrap .i64 (48 + (d : Int)) = ((48 + d : Nat) : Int) := by rw [w64_in (by omega) (by omega)]; omega
    have w4 : IntKind.wrap .u8 ((48 + d : Nat) : Int) = ((48 + d : Nat) : Int) := wu8 (by omega)
    have hln := digN_len wLac turn i
    have q1 : appOK H1 1 t2 = True := eq_true htk.app
    have q2 : (i ≤ 35184372088831) = True := eq_true (by omega)
    have q3 : small (i + 1) 16 = True := eq_true (small_of (by omega) (by decide))
    have kx : hget (killTok H1 t2) 3 = some (.box (yC x tk cs t2 (digN wLac turn i))) := by rw [kill_get htk (.inl (by omega))]; exact h3
    simp only [eE, eC, eN, reduceCtorEq, Nat.reduceEqDiff, ↓reduceIte, Nat.reduceAdd, Nat.reduceLeDiff, Nat.reduceMul, Nat.reduceLT, Int.reduceEq, Int.toNat_natCast, List.length_map, lt_T hlt, e, wt, w1, w2, w3, w4, h3, kx, hln, q1, q2, q3, fr1 hfr, y4]
    refine ⟨⟨[UInt8.ofNat (48 + d)], by simp; omega⟩, by unfold small; omega, .mk ⟨i + 1, .own (n1 + 13) 1, hset (hset (killTok H1 t2) (n1 + 13) .tok) 3 (.box (yC x tk cs (.own (n1 + 13) 1) (digN wLac turn (i + 1)))), n1 + 16⟩ ?_ ⟨hlt, by simp only []; omega, ((kill_fresh htk hfr).hset (m := n1 + 16) (by omega) (by omega)).hset (Nat.le_refl (n1 + 16)) (show 3 < n1 + 16 by omega), ?_, hget_hset_eq .., .inr (.inr ⟨n1 + 13, rfl, by omega, by rw [hget_hset_ne _ _ _ _ (by omega)]; exact hget_hset_eq ..⟩), .inl rfl⟩ (by simp only []; omega)⟩
    · simp only [nx, yC, List.map_append, List.map_cons, List.map_nil, List.cons_append, List.nil_append]
    · simp only []
      rw [hget_hset_ne _ _ _ _ (by omega), hget_hset_ne _ _ _ _ (by omega), kill_get htk (.inl (by omega))]; exact h0
  obtain rfl : i = x.ls.length := by omega
  have hes2 : t2.esz = 1 ∨ digN wLac turn x.ls.length = [] := hes.imp id fun e => by rw [e]; rfl
  generalize hls : digN wLac turn x.ls.length = ls at h3 hes2
  have hy : OKL { x with cs := cs, ls := ls } = True := eq_true (okl_names hok (by rw [← hcs]; exact ⟨digN_names turn _ nameC, digN_dist _ _ _ (by omega), digN_len ..⟩) (by rw [← hls]; exact ⟨digN_names turn _ nameL, digN_dist _ _ _ (by omega), digN_len ..⟩))
  have ok1 := aggN_ok x cs ls hes1 hes2
  have ok2 := aggN_dec x cs ls tk t2
  have n3 : (3 < n1) = True := eq_true (by omega)
  have n0 : (0 < n1) = True := eq_true (by omega)
  simp only [eE, eC, eN, eX, reduceCtorEq, Nat.reduceEqDiff, ↓reduceIte, Nat.reduceAdd, Nat.reduceLeDiff, Nat.reduceLT, Nat.reduceMod, Nat.reduceSub, Nat.reduceDiv, Bool.not_true, TL_back, TL_mSame, s1, s2, lt_F hlt, h0, h3, ok1, ok2, hy, atK, atN, n0, dXw_ok, dXw_dec, fx, same_rfl]
  trace_state
end Go.AM
end
section
set_option maxRecDepth 20000
set_option linter.all false
namespace Go.AM
open Go.Proofs Go.Lib Go.ChangeShapes Go.WideShapes Go.ChangeAt Go.WideMaps Go.WideElems Go.RowKit
theorem own : ownKnob Tryz.prog.godebug = none := by kernel_rfl
abbrev laid3 : List (String × DataW Unit) := Go.Proofs.YtpjedmachelflaaGreatDoor.Rows.lemmasParseSpecRow.laid
theorem gPow : Tryz.prog.globalNamed ((laid3[2]?.map (·.1)).getD "") = some 3 := by kernel_rfl
theorem gRng : Tryz.prog.globalNamed ((laid3[3]?.map (·.1)).getD "") = some 1 := by kernel_rfl
theorem gSyn : Tryz.prog.globalNamed ((laid3[4]?.map (·.1)).getD "") = some 0 := by kernel_rfl
theorem door_met (os : Os) (args : Array Value) : laidMetH Tryz.prog laid3 ((World.doorLaid Tryz.prog 400 os).forCall (fun _ _ => 0) ⟨#[], args, []⟩).memory :=
  laidMetH_of_parts3 (fuel := 8) (laidMet_of_run' 8 (by kernel_rfl) (by kernel_rfl)) (by kernel_rfl) (by kernel_rfl)
theorem starE : "*" ++ "errors.errorString" = "*errors.errorString" := by decide
theorem row159 (u : TypeId) (h : Tryz.prog.typeName? 3 u = some "*errors.errorString") : u = 174 :=
  typeName_ptr_named (nm := "errors.errorString") (by rw [starE]; kernel_rfl) (by kernel_rfl) (by decide) u (by rw [starE]; exact h)
theorem spot_of {W : World} {a : Addr} (h : Value.okWide Tryz.prog W .any 0 174 (.pointer (some a))) : a.spot = none := by
  unfold Value.okWide at h
  simp only [Tryz.underlying174] at h
  unfold Cell.okWide at h
  simp only [Tryz.underlying174, Cell.ok] at h
  exact h.2.1
def pow10 : List Int := [1, 10, 100, 1000, 10000, 100000, 1000000, 10000000, 100000000, 1000000000, 10000000000, 100000000000, 1000000000000, 10000000000000, 100000000000000, 1000000000000000, 10000000000000000, 100000000000000000, 1000000000000000000, 10000000000000000000]
theorem pstab_err {W : World} {gi fuel : Nat} {cs : Array Value} {text : List UInt8} {p : List MemPlace} {nm : String} (hnm : nm = "*errors.errorString") (hcell : ∀ off, W.cell? ⟨gi, off, none⟩ = cs[off]?)
    (h : DataW.trod (fun _ => ()) Tryz.prog W 0 (fun _ => true) false fuel 132 cs.toList = some (.iface nm (.ptr (.agg [.lit (.string text)])), p))
    (hok : ∀ u v, cs.toList = [.iface u v] → Value.okWide Tryz.prog W .any 0 u v) : PStab (gW W) ((gW W).σ gi) 0 [.ifc 174 (.ep [.str text])] ∧ cs.size = 1 := by
  subst hnm
  obtain ⟨a, s, e1, e2, e3, _, _⟩ := errorString_of_trod Tryz.underlying132 row159 Tryz.underlying174 Tryz.underlying176 rfl rfl Tryz.underlying9 (by kernel_rfl) (by kernel_rfl) h hok
  have hsp := spot_of (hok _ _ e1)
  obtain ⟨b, o, sp⟩ := a
  have hsp' : sp = none := hsp
  subst hsp'
  have hc0 : cs[0]? = some (.iface 174 (.pointer (some ⟨b, o, none⟩))) := by
    rw [← Array.getElem?_toList, e1]; rfl
  refine ⟨⟨⟨_, (hcell 0).trans hc0, ⟨_, rfl, b, o, rfl, ⟨_, e2, ?_, rfl⟩, trivial⟩, rfl⟩, trivial⟩, by rw [← Array.length_toList, e1]; rfl⟩
  show Value.string s = Value.string ⟨text.toArray⟩
  rw [← e3]
theorem var_cells {W : World} {n : String} {g : Nat} {cs : Array Value} (hg : Tryz.prog.globalNamed n = some g) (h : W.var? Tryz.prog n = some cs) : ∃ e fz, W.heap[g]? = some (.cells cs e fz) := by
  simp only [World.var?, hg, Option.bind_some] at h
  split at h
  · rename_i c e fz hh
    cases h; exact ⟨e, fz, hh⟩
  · cases h
theorem glob_all {W : World} (h : laidMetH Tryz.prog laid3 W) : GlobOK (gW W) ∧ GlobZ W := by
  rw [MakeChecks.laidMetH_plain _ _ _ (by kernel_rfl)] at h
  obtain ⟨ps, ⟨g0, t0, cs0, f0, p0, q0, hg0, ht0, hv0, hd0, ⟨g1, t1, cs1, f1, p1, q1, hg1, ht1, hv1, hd1, ⟨g2, t2, cs2, f2, p2, q2, hg2, ht2, hv2, hd2, ⟨g3, t3, cs3, f3, p3, q3, hg3, ht3, hv3, hd3, ⟨g4, t4, cs4, f4, p4, q4, hg4, ht4, hv4, hd4, z4, w4⟩, w3⟩, w2⟩, w1⟩, w0⟩, hnd, hrows⟩ := h
  obtain rfl := Option.some.inj (gPow.symm.trans hg2)
  obtain rfl := Option.some.inj (gRng.symm.trans hg3)
  obtain rfl := Option.some.inj (gSyn.symm.trans hg4)
  obtain rfl := Option.some.inj ((show (Tryz.prog.globals[3]?).map (·.type) = some 168 by kernel_rfl).symm.trans ht2)
  obtain rfl := Option.some.inj ((show (Tryz.prog.globals[1]?).map (·.type) = some 132 by kernel_rfl).symm.trans ht3)
  obtain rfl := Option.some.inj ((show (Tryz.prog.globals[0]?).map (·.type) = some 132 by kernel_rfl).symm.trans ht4)
  have c2 := fun off => World.var?_cell hg2 hv2 off
  have c3 := fun off => World.var?_cell hg3 hv3 off
  have c4 := fun off => World.var?_cell hg4 hv4 off
  have ok3 : ∀ u v, cs3.toList = [.iface u v] → Value.okWide Tryz.prog W .any 0 u v := fun u v e => by
    have hs : cs3.size = 1 := by rw [← Array.length_toList, e]; rfl
    refine (hrows 1 0 (by rw [w0, w1, w2, w3, hs]; simp [MemPlace.row])).2 u v ?_
    rw [c3 0, ← Array.getElem?_toList, e]; rfl
  have ok4 : ∀ u v, cs4.toList = [.iface u v] → Value.okWide Tryz.prog W .any 0 u v := fun u v e => by
    have hs : cs4.size = 1 := by rw [← Array.length_toList, e]; rfl
    refine (hrows 0 0 (by rw [w0, w1, w2, w3, w4, hs]; simp [MemPlace.row])).2 u v ?_
    rw [c4 0, ← Array.getElem?_toList, e]; rfl
  obtain ⟨s3, z3⟩ := pstab_err rfl c3 hd3 ok3
  obtain ⟨s4, z4'⟩ := pstab_err rfl c4 hd4 ok4
  have s2 : PStab (gW W) ((gW W).σ 3) 0 (pow10.map (.int .u64)) := pstab_array (ns := pow10) Tryz.underlying168 Tryz.underlying151 (by kernel_rfl) c2 hd2
  have z2 : cs2.size = 20 := by
    have := Go.Lib.cells_of_tab (zs := pow10) (k := .u64) Tryz.underlying168 Tryz.underlying151 (by kernel_rfl) (by kernel_rfl) hd2
    rw [← Array.length_toList, this]; rfl
  constructor
  · intro i cs hi
    match i, hi with
    | 0, hi => obtain rfl := Option.some.inj hi; exact s4
    | 1, hi => obtain rfl := Option.some.inj hi; exact s3
    | 3, hi => obtain rfl := Option.some.inj hi; exact s2
  · intro i cs hi
    match i, hi with
    | 0, hi => obtain rfl := Option.some.inj hi; obtain ⟨e, fz, k⟩ := var_cells hg4 hv4; exact ⟨_, _, _, k, z4'⟩
    | 1, hi => obtain rfl := Option.some.inj hi; obtain ⟨e, fz, k⟩ := var_cells hg3 hv3; exact ⟨_, _, _, k, z3⟩
    | 3, hi => obtain rfl := Option.some.inj hi; obtain ⟨e, fz, k⟩ := var_cells hg2 hv2; exact ⟨_, _, _, k, z2⟩
abbrev shQ : Sh := .st [.int .i64, .sl (.int .i64), .sl (.int .i64), .int .i64]
abbrev shM : Sh := .st [.int .i64, .sl (.int .i64)]
abbrev shL : Sh := .st [.str, .int .i64, .sl .str, .sl .str, .sl shQ, .sl shM, .int .i64, .int .i64]
abbrev shTk : Sh := .st [.int .i64, .str, .int .i64, .int .i64]
theorem rdMap {e : Sh} {α : Type} {enc : α → AVal} (he : ∀ vs, e.rd vs → ∃ a, e.wrap vs = enc a) {av : List AVal} (h : (Sh.sl e).rd av) : ∃ l : List α, av = [.sl (.none e.size) (l.map enc)] := by
  simp only [Sh.rd] at h
  obtain ⟨l, rfl, hln, h⟩ := h
  suffices ∃ m : List α, l.map e.wrap = m.map enc by
    obtain ⟨m, hm⟩ := this
    exact ⟨m, by rw [hm]⟩
  clear hln
  induction l with
  | nil => exact ⟨[], rfl⟩
  | cons x l ih =>
    obtain ⟨m, hm⟩ := ih fun y hy => h y (by simp [hy])
    obtain ⟨a, ha⟩ := he x (h x (by simp))
    exact ⟨a :: m, by rw [List.map_cons, List.map_cons, hm, ha]⟩
theorem rdI {vs : List AVal} (h : (Sh.int .i64).rd vs) : ∃ n : Int, (Sh.int .i64).wrap vs = eI n := by
  obtain ⟨n, rfl, _⟩ := h
  exact ⟨n, rfl⟩
theorem rdS {vs : List AVal} (h : Sh.str.rd vs) : ∃ s : Bs, Sh.str.wrap vs = .str s := by
  obtain ⟨s, rfl, _⟩ := h
  exact ⟨s, rfl⟩
theorem rdIs {vs : List AVal} (h : (Sh.sl (.int .i64)).rd vs) : ∃ l : List Int, vs = [eIs l] := rdMap (fun _ => rdI) h
theorem rdSs {vs : List AVal} (h : (Sh.sl .str).rd vs) : ∃ l : List Bs, vs = [eSs l] := rdMap (fun _ => rdS) h
theorem rdQ (vs : List AVal) (h : shQ.rd vs) : ∃ q : Cnd, shQ.wrap vs = encQ q := by
  simp only [Sh.rd.eq_5, Sh.rdL] at h
  obtain ⟨_, _, rfl, ⟨k, rfl, _⟩, _, _, rfl, h2, _, _, rfl, h3, _, _, rfl, ⟨n, rfl, _⟩, rfl⟩ := h
  obtain ⟨cs, rfl⟩ := rdIs h2
  obtain ⟨ls, rfl⟩ := rdIs h3
  exact ⟨⟨k, cs, ls, n⟩, rfl⟩
theorem rdM (vs : List AVal) (h : shM.rd vs) : ∃ p : Prm, shM.wrap vs = encM p := by
  simp only [Sh.rd.eq_5, Sh.rdL] at h
  obtain ⟨_, _, rfl, ⟨k, rfl, _⟩, _, _, rfl, h2, rfl⟩ := h
  obtain ⟨ls, rfl⟩ := rdIs h2
  exact ⟨⟨k, ls⟩, rfl⟩
theorem rdX (vs : List AVal) (h : shL.rd vs) : ∃ x : Lma, shL.wrap vs = encL x := by
  simp only [Sh.rd.eq_5, Sh.rdL] at h
  obtain ⟨_, _, rfl, ⟨nm, rfl, _⟩, _, _, rfl, ⟨lv, rfl, _⟩, _, _, rfl, h3, _, _, rfl, h4, _, _, rfl, h5, _, _, rfl, h6, _, _, rfl, ⟨c, rfl, _⟩, _, _, rfl, ⟨l, rfl, _⟩, rfl⟩ := h
  obtain ⟨cs, rfl⟩ := rdSs h3
  obtain ⟨ls, rfl⟩ := rdSs h4
  obtain ⟨qs, rfl⟩ := rdMap rdQ h5
  obtain ⟨ps, rfl⟩ := rdMap rdM h6
  exact ⟨⟨nm, lv, cs, ls, qs, ps, c, l⟩, rfl⟩
theorem rdXs {vs : List AVal} (h : (Sh.sl shL).rd vs) : ∃ l : List Lma, vs = [eLs l] := rdMap rdX h
theorem rdT (vs : List AVal) (h : shTk.rd vs) : ∃ t : Tkn, shTk.wrap vs = encK t := by
  simp only [Sh.rd.eq_5, Sh.rdL] at h
  obtain ⟨_, _, rfl, ⟨k, rfl, _⟩, _, _, rfl, ⟨s, rfl, _⟩, _, _, rfl, ⟨n, rfl, _⟩, _, _, rfl, ⟨a, rfl, _⟩, rfl⟩ := h
  exact ⟨⟨k, s, n, a⟩, rfl⟩
theorem rdU8 {vs : List AVal} (h : (Sh.int .u8).rd vs) : ∃ k : Nat, k < 256 ∧ (Sh.int .u8).wrap vs = eU k := by
  obtain ⟨n, rfl, hw⟩ := h
  have hw : IntKind.u8.min ≤ n ∧ n ≤ IntKind.u8.max := by simpa [Lit.wf] using hw
  have h0 : (0 : Int) ≤ n := hw.1
  have h1 : n ≤ 255 := hw.2
  exact ⟨n.toNat, by omega, by show AVal.int .u8 n = .int .u8 ((n.toNat : Nat) : Int); rw [show ((n.toNat : Nat) : Int) = n by omega]⟩
theorem rdU16 {vs : List AVal} (h : (Sh.int .u16).rd vs) : ∃ k : Nat, k < 65536 ∧ (Sh.int .u16).wrap vs = .int .u16 (k : Int) := by
  obtain ⟨n, rfl, hw⟩ := h
  have hw : IntKind.u16.min ≤ n ∧ n ≤ IntKind.u16.max := by simpa [Lit.wf] using hw
  have h0 : (0 : Int) ≤ n := hw.1
  have h1 : n ≤ 65535 := hw.2
  exact ⟨n.toNat, by omega, by show AVal.int .u16 n = .int .u16 ((n.toNat : Nat) : Int); rw [show ((n.toNat : Nat) : Int) = n by omega]⟩
theorem rdUs {vs : List AVal} (h : (Sh.sl (.int .u8)).rd vs) : ∃ l : List Nat, vs = [eUs l] ∧ ∀ k ∈ l, k < 256 := by
  obtain ⟨l, rfl⟩ := rdMap (α := { k : Nat // k < 256 }) (enc := fun k => eU k.1) (fun vs h => by obtain ⟨k, hk, e⟩ := rdU8 h; exact ⟨⟨k, hk⟩, e⟩) h
  refine ⟨l.map (·.1), ?_, fun k hk => ?_⟩
  · show [AVal.sl (.none 1) _] = [AVal.sl (.none 1) ((l.map (·.1)).map eU)]
    rw [List.map_map]; rfl
  obtain ⟨x, _, rfl⟩ := List.mem_map.1 hk
  exact x.2
theorem argXS {av : List AVal} (h : Sh.rdA [.sl shL, .str] av) : ∃ (l : List Lma) (s : Bs), av = [eLs l, .str s] := by
  simp only [Sh.rdA] at h
  obtain ⟨x, _, rfl, hx, y, _, rfl, ⟨s, rfl, _⟩, rfl⟩ := h
  obtain ⟨l, rfl⟩ := rdXs hx
  exact ⟨l, s, rfl⟩
theorem argSU {av : List AVal} (h : Sh.rdA [.str, .sl (.int .u8)] av) : ∃ (s : Bs) (us : List Nat), av = [.str s, eUs us] ∧ ∀ k ∈ us, k < 256 := by
  simp only [Sh.rdA] at h
  obtain ⟨x, _, rfl, ⟨s, rfl, _⟩, y, _, rfl, hy, rfl⟩ := h
  obtain ⟨us, rfl, hu⟩ := rdUs hy
  exact ⟨s, us, rfl, hu⟩
theorem argSUUT {av : List AVal} (h : Sh.rdA [.str, .int .u16, .int .u8, shTk] av) : ∃ (s : Bs) (a b : Nat) (t : Tkn), av = [.str s, .int .u16 (a : Int), .int .u8 (b : Int), encK t] ∧ a < 65536 ∧ b < 256 := by
  simp only [Sh.rdA] at h
  obtain ⟨x, _, rfl, ⟨s, rfl, _⟩, y, _, rfl, hy, z, _, rfl, hz, w, _, rfl, hw, rfl⟩ := h
  obtain ⟨a, ha, ea⟩ := rdU16 hy
  obtain ⟨b, hb, eb⟩ := rdU8 hz
  obtain ⟨t, et⟩ := rdT _ hw
  exact ⟨s, a, b, t, by rw [ea, eb, et]; rfl, ha, hb⟩
theorem argXU {av : List AVal} (h : Sh.rdA [shL, .int .u8] av) : ∃ (x : Lma) (k : Nat), av = [encL x, .int .u8 (k : Int)] ∧ k < 256 := by
  simp only [Sh.rdA] at h
  obtain ⟨x, _, rfl, hx, y, _, rfl, hy, rfl⟩ := h
  obtain ⟨a, ha⟩ := rdX _ hx
  obtain ⟨k, hk, ek⟩ := rdU8 hy
  exact ⟨a, k, by rw [ha, ek], hk⟩
end Go.AM
end
