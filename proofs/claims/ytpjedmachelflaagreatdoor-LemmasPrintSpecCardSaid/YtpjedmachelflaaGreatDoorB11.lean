/-
  Rules of deduction: the table of the laws; the examples · Rules of deduction: the laws, first half · Rules of deduction: the laws, second half · Rules of deduction: the law of white space · Rules of deduction: the law of faults · Rules of deduction: lemmas without a condition or a premise · Rules of deduction: other names · Rules of deduction: from the rows to the abstract machine.
  Conditions: none beyond those of its parts.
-/
import Derived.Test.YtpjedmachelflaaGreatDoorB10
import Derived.Test.YtpjedmachelflaaGreatDoorB5
import Derived.Test.YtpjedmachelflaaGreatDoorB7
import Derived.Test.YtpjedmachelflaaGreatDoorRows
import Derived.LaidLaws

section
set_option maxRecDepth 20000
set_option linter.all false
namespace Go.AM
open Go.Proofs Go.Lib
def lxN : Nat → List UInt8 → Nat → ScR
  | 0, _, a => .err a
  | f + 1, [], a => .ok a []
  | f + 1, b :: r, a => match st1 (b :: r) with
    | none => .err a
    | some (k, o) => consR o a (lxN f ((b :: r).drop k) (a + k))
theorem lx_N : ∀ (f : Nat) (l : List UInt8) (a : Nat), l.length < f → lx l a = lxN f l a
  | 0, l, a, h => by omega
  | f + 1, [], a, h => by rw [lx_nil]; rfl
  | f + 1, b :: r, a, h => by
    rw [lxN]
    cases hs : st1 (b :: r) with
    | none => rw [lx_none (by simp) hs]
    | some x =>
      obtain ⟨k, o⟩ := x
      have := st1_pos hs
      rw [lx_some hs, lx_N f _ _ (by simp only [List.length_drop]; omega)]
def pMN (src : Bs) : PL := match lxN (src.length + 1) src 0 with
  | .err a => ⟨[], a, 100⟩
  | .ok _ ts => plOf src (allR (ts.length + 1) ts)
theorem parse_N {src : Bs} (h : src.length ≤ 65536) : parseMV src = plV (pMN src) := by
  unfold parseMV parseLm pMN
  rw [if_neg (by omega), lx_N (src.length + 1) src 0 (by omega)]
  cases lxN (src.length + 1) src 0 <;> rfl
abbrev lmW : Lma := ⟨[115, 105, 110, 103, 108, 101], 1, [[112], [113]], [[120]], [⟨1, [0, 1], [], 0⟩], [⟨0, [0]⟩], 1, 0⟩
abbrev lmO : Lma := ⟨[97], 1, [[112]], [[120]], [], [], 0, 0⟩
abbrev exS : Bs := [108, 101, 109, 109, 97, 32, 115, 105, 110, 103, 108, 101, 32, 108, 101, 118, 101, 108, 32, 49, 32, 123, 32, 99, 101, 108, 108, 115, 32, 112, 44, 32, 113, 59, 32, 108, 101, 116, 116, 101, 114, 115, 32, 120, 59, 32, 100, 105, 102, 102, 101, 114, 101, 110, 116, 32, 112, 44, 32, 113, 59, 32, 111, 110, 108, 121, 32, 112, 58, 32, 120, 59, 32, 108, 97, 99, 107, 115, 32, 113, 32, 120, 59, 32, 125]
def shP (a b : Bs) : Bs := [108, 101, 109, 109, 97, 32, 97, 32, 108, 101, 118, 101, 108, 32] ++ a ++ [32, 123, 32, 99, 101, 108, 108, 115, 32, 112, 59, 32, 108, 101, 116, 116, 101, 114, 115, 32, 120, 59, 32] ++ b ++ [125]
theorem v1 : parseMV exS = plV ⟨[lmW], 0, 0⟩ := by
  rw [parse_N (by decide), show pMN exS = ⟨[lmW], 0, 0⟩ by kernel_rfl]
theorem v2 : parseMV [] = plV ⟨[], 0, 0⟩ := by
  rw [parse_N (by decide), show pMN [] = ⟨[], 0, 0⟩ by kernel_rfl]
theorem v3 : parseMV (shP [49] [108, 97, 99, 107, 115, 32, 112, 32, 120, 59, 32]) = plV ⟨[lmO], 0, 0⟩ := by
  rw [parse_N (by decide), show pMN (shP [49] [108, 97, 99, 107, 115, 32, 112, 32, 120, 59, 32]) = ⟨[lmO], 0, 0⟩ by kernel_rfl]
theorem v4 : parseMV (shP [49] [108, 97, 99, 107, 115, 32, 113, 32, 120, 59, 32]) = plV ⟨[], 0, 160⟩ := by
  rw [parse_N (by decide), show pMN (shP [49] [108, 97, 99, 107, 115, 32, 113, 32, 120, 59, 32]) = ⟨[], 0, 160⟩ by kernel_rfl]
theorem v5 : parseMV (shP [57] [108, 97, 99, 107, 115, 32, 112, 32, 120, 59, 32]) = plV ⟨[], 0, 300⟩ := by
  rw [parse_N (by decide), show pMN (shP [57] [108, 97, 99, 107, 115, 32, 112, 32, 120, 59, 32]) = ⟨[], 0, 300⟩ by kernel_rfl]
theorem v6 : parseMV (shP [49] []) = plV ⟨[], 38, 150⟩ := by
  rw [parse_N (by decide), show pMN (shP [49] []) = ⟨[], 38, 150⟩ by kernel_rfl]
theorem v7 : parseMV [108, 101, 109, 109, 97, 32, 97] = plV ⟨[], 7, 150⟩ := by
  rw [parse_N (by decide), show pMN [108, 101, 109, 109, 97, 32, 97] = ⟨[], 7, 150⟩ by kernel_rfl]
theorem i_1 : itoa 1 = [49] := by
  rw [itoa, if_neg (by decide), decDigits, dif_pos (by decide)]; rfl
theorem pr1 : printMV [lmW] = .tup [.str [108, 101, 109, 109, 97, 32, 115, 105, 110, 103, 108, 101, 32, 108, 101, 118, 101, 108, 32, 49, 32, 123, 32, 99, 101, 108, 108, 115, 32, 112, 32, 44, 32, 113, 32, 59, 32, 108, 101, 116, 116, 101, 114, 115, 32, 120, 32, 59, 32, 100, 105, 102, 102, 101, 114, 101, 110, 116, 32, 112, 32, 44, 32, 113, 32, 59, 32, 111, 110, 108, 121, 32, 112, 32, 58, 32, 120, 32, 59, 32, 108, 97, 99, 107, 115, 32, 113, 32, 120, 32, 59, 32, 125], .int .i64 0] := by
  unfold printMV
  rw [if_neg (by decide), if_neg (by decide)]
  rw [show printT [lmW] = [kI [108, 101, 109, 109, 97], kI [115, 105, 110, 103, 108, 101], kI [108, 101, 118, 101, 108], kN 1, kS [123], kI [99, 101, 108, 108, 115], kI [112], kS [44], kI [113], kS [59], kI [108, 101, 116, 116, 101, 114, 115], kI [120], kS [59], kI [100, 105, 102, 102, 101, 114, 101, 110, 116], kI [112], kS [44], kI [113], kS [59], kI [111, 110, 108, 121], kI [112], kS [58], kI [120], kS [59], kI [108, 97, 99, 107, 115], kI [113], kI [120], kS [59], kS [125]] by kernel_rfl]
  simp only [List.map_cons, List.map_nil, wordS, i_1]; rfl
theorem sl0 : ((shP [49] [108, 97, 99, 107, 115, 32, 112, 32, 120, 59, 32]).length < 1000000000) = True := eq_true (by decide)
theorem sl1 : ((shP [49] [108, 97, 99, 107, 115, 32, 113, 32, 120, 59, 32]).length < 1000000000) = True := eq_true (by decide)
theorem sl2 : ((shP [57] [108, 97, 99, 107, 115, 32, 112, 32, 120, 59, 32]).length < 1000000000) = True := eq_true (by decide)
theorem sl3 : ((shP [49] []).length < 1000000000) = True := eq_true (by decide)
theorem p25 (a b : Bs) (ha : a.length ≤ 100) (hb : b.length ≤ 100) : Pur Tryz.prog 25 [.str a, .str b] (.str (shP a b)) := by
  refine .mk ⟨trivial, trivial, trivial⟩ trivial (a25 (ev_awp TabOK.tnil (ev_evK ?_)))
  simp only [eE, eN, reduceCtorEq, Nat.reduceEqDiff, ↓reduceIte, Nat.reduceAdd, c25]
  refine ⟨small1 (by (try simp only [List.length_append, List.length_cons, List.length_nil]); omega), small1 (by (try simp only [List.length_append, List.length_cons, List.length_nil]); omega), small1 (by (try simp only [List.length_append, List.length_cons, List.length_nil]); omega), small1 (by (try simp only [List.length_append, List.length_cons, List.length_nil]); omega), ?_⟩
  simp [shP]
def dXw : Dc Lma := ⟨encL, decX, fun v => Wk v (encL (decX v)), fun _ h => h⟩
theorem dXw_ok (x : Lma) : dXw.ok (encL x) = True := eq_true (by show Wk (encL x) (encL (decX (encL x))); rw [decX_enc]; exact Wk.refl _)
theorem dXw_dec (x : Lma) : dXw.dec (encL x) = x := decX_enc x
theorem wk_lem {nm : Bs} {lv c l : Int} {cs ls : List Bs} {qs : List Cnd} {ps : List Prm} {a b d e : AVal} (h1 : Wk a (eSs cs)) (h2 : Wk b (eSs ls)) (h3 : Wk d (.sl (.none 4) (qs.map encQ))) (h4 : Wk e (.sl (.none 2) (ps.map encM))) : Wk (.agg [.str nm, .int .i64 lv, a, b, d, e, .int .i64 c, .int .i64 l]) (encL ⟨nm, lv, cs, ls, qs, ps, c, l⟩) :=
  Wk.agg (.cons (Wk.refl _) (.cons (Wk.refl _) (.cons h1 (.cons h2 (.cons h3 (.cons h4 (.cons (Wk.refl _) (.cons (Wk.refl _) .nil))))))))
theorem want_dec : dXw.dec (AVal.agg [AVal.str [115, 105, 110, 103, 108, 101], AVal.int IntKind.i64 1, AVal.sl (Tok.exact 1) [AVal.str [112], AVal.str [113]], AVal.sl (Tok.exact 1) [AVal.str [120]], AVal.sl (Tok.exact 4) [AVal.agg [AVal.int IntKind.i64 1, AVal.sl (Tok.exact 1) [AVal.int IntKind.i64 0, AVal.int IntKind.i64 1], zs, z0]], AVal.sl (Tok.exact 2) [AVal.agg [z0, AVal.sl (Tok.exact 1) [AVal.int IntKind.i64 0]]], AVal.int IntKind.i64 1, z0]) = lmW := rfl
theorem Wks.len : ∀ {ws us : List AVal}, Wks ws us → ws.length = us.length
  | _, _, .nil => rfl
  | _, _, .cons _ t => by rw [List.length_cons, List.length_cons, t.len]
theorem Wks.stab {g : Ghost} {esz : Nat} {f : Nat → Option Value} : ∀ {l m : List AVal}, Wks l m → ∀ o, Stab g esz f o l → Stab g esz f o m
  | _, _, .nil, _, h => h
  | _, _, .cons hw t, o, h => by
    simp only [Stab] at h ⊢
    obtain ⟨⟨v, h1, h2, h3⟩, h4⟩ := h
    exact ⟨⟨v, hw _ _ h1, h2, h3⟩, t.stab _ h4⟩
theorem Wk.slx {t : Tok} {e : Nat} {l m : List AVal} (h : t.esz = e) (hw : Wks l m) : Wk (.sl t l) (.sl (.none e) m) := by
  intro g v hv
  rcases hv with ⟨rfl, rfl, h0⟩ | ⟨ht, b, o, cap, ⟨sp, rfl, hsp⟩, hc, hs, hk⟩
  · cases hw; exact .inl ⟨rfl, rfl, trivial⟩
  · refine .inr ⟨trivial, b, o, cap, ⟨sp, by rw [hw.len], hsp.imp id fun q => ⟨by have := hw.len; rw [q.1] at this; exact List.eq_nil_of_length_eq_zero this.symm, .inr ⟨e, rfl⟩⟩⟩, ?_, ?_, trivial⟩
    · rw [← hw.len]; exact hc
    · rw [h] at hs; exact hw.stab _ hs
theorem want_ok : dXw.ok (AVal.agg [AVal.str [115, 105, 110, 103, 108, 101], AVal.int IntKind.i64 1, AVal.sl (Tok.exact 1) [AVal.str [112], AVal.str [113]], AVal.sl (Tok.exact 1) [AVal.str [120]], AVal.sl (Tok.exact 4) [AVal.agg [AVal.int IntKind.i64 1, AVal.sl (Tok.exact 1) [AVal.int IntKind.i64 0, AVal.int IntKind.i64 1], zs, z0]], AVal.sl (Tok.exact 2) [AVal.agg [z0, AVal.sl (Tok.exact 1) [AVal.int IntKind.i64 0]]], AVal.int IntKind.i64 1, z0]) = True := eq_true (by
  show Wk (AVal.agg [AVal.str [115, 105, 110, 103, 108, 101], AVal.int IntKind.i64 1, AVal.sl (Tok.exact 1) [AVal.str [112], AVal.str [113]], AVal.sl (Tok.exact 1) [AVal.str [120]], AVal.sl (Tok.exact 4) [AVal.agg [AVal.int IntKind.i64 1, AVal.sl (Tok.exact 1) [AVal.int IntKind.i64 0, AVal.int IntKind.i64 1], zs, z0]], AVal.sl (Tok.exact 2) [AVal.agg [z0, AVal.sl (Tok.exact 1) [AVal.int IntKind.i64 0]]], AVal.int IntKind.i64 1, z0]) (encL lmW)
  exact wk_lem (Wk.sl (.inl rfl)) (Wk.sl (.inl rfl)) (Wk.slx rfl (.cons (Wk.agg (.cons (Wk.refl _) (.cons (Wk.sl (.inl rfl)) (.cons (Wk.sl (.inr rfl)) (.cons (Wk.refl _) .nil))))) .nil)) (Wk.slx rfl (.cons (Wk.agg (.cons (Wk.refl _) (.cons (Wk.sl (.inl rfl)) .nil))) .nil)))
theorem wantO_ok : dXw.ok (.agg [.str [], .int .i64 0, .sl .nil [], .sl .nil [], .sl .nil [], .sl .nil [], .int .i64 0, .int .i64 0]) = True := eq_true (by
  show Wk _ (encL ⟨[], 0, [], [], [], [], 0, 0⟩)
  exact wk_lem (Wk.sl (.inr rfl)) (Wk.sl (.inr rfl)) (Wk.sl (.inr rfl)) (Wk.sl (.inr rfl)))
noncomputable def TLw : Tab := tadd 11 (s1 dS (fun s => s.length < 1000000000) parseMV) (tadd 13 (s2 dXs dXs (fun a _ => FewLs a) fun a b => .bool (same a b))
  (tadd 14 (s1 dXs any1 fun l => .bool (fewAB l)) (tadd 15 (s1 dXw any1 fun x => .bool (fewB x)) (tadd 16 (s1 dXs FewLs printMV)
  (tadd 18 (s1 dXw FewL fun x => eI (chk x)) (tadd 20 (s2 dXw dXw (fun a _ => FewL a) fun a b => .bool (same a b)) (tadd 21 (s2 dXw dXw (fun a _ => FewL a) fun a b => .bool (same a b))
  (tadd 22 s22 (tadd 23 (s1 dKs okT textV) (tadd 25 (s2 dS dS (fun a b => a.length ≤ 100 ∧ b.length ≤ 100) fun a b => .str (shP a b)) tnil))))))))))
theorem TLw_ok : TabOK Tryz.prog TLw := ((((((((((TabOK.tnil.add (q2 fun a b h => p25 a b h.1 h.2)).add (q1 fun l h => p23 l h)).add q22).add (q2 fun a b h => p21 a b h)).add (q2 fun a b h => p20 a b h)).add (q1 p18)).add (q1 p16)).add (q1 fun x _ => p15 x)).add (q1 fun x _ => p14 x)).add (q2 fun a b h => p13 a b h)).add (q1 p11)
theorem TLw_mParse (a : List AVal) (H : AHeap) : TLw 11 a H = s1 dS (fun s => s.length < 1000000000) parseMV a H := rfl
theorem TLw_mPrint (a : List AVal) (H : AHeap) : TLw 16 a H = s1 dXs FewLs printMV a H := rfl
theorem TLw_mCheck (a : List AVal) (H : AHeap) : TLw 18 a H = s1 dXw FewL (fun x => eI (chk x)) a H := rfl
theorem TLw_mSame (a : List AVal) (H : AHeap) : TLw 20 a H = s2 dXw dXw (fun a _ => FewL a) (fun a b => .bool (same a b)) a H := rfl
theorem TLw_zSame (a : List AVal) (H : AHeap) : TLw 21 a H = s2 dXw dXw (fun a _ => FewL a) (fun a b => .bool (same a b)) a H := rfl
theorem TLw_lwshort (a : List AVal) (H : AHeap) : TLw 25 a H = s2 dS dS (fun a b => a.length ≤ 100 ∧ b.length ≤ 100) (fun a b => .str (shP a b)) a H := rfl
theorem fewW : FewL lmW = True := eq_true ⟨by show 2 < _; decide, by show 1 < _; decide, by show 1 < _; decide, by show 1 < _; decide, fun q hq => by rw [List.mem_singleton.1 hq]; exact ⟨by show 2 < _; decide, by show 0 < _; decide⟩, fun p hp => by rw [List.mem_singleton.1 hp]; show 1 < _; decide⟩
theorem fewWs : FewLs [lmW] = True := eq_true ⟨by show 1 < _; decide, fun x hx => by rw [List.mem_singleton.1 hx]; rw [fewW]; trivial⟩
theorem few0 : FewL ⟨[], 0, [], [], [], [], 0, 0⟩ = True := eq_true { cs := (by show 0 < _; decide), ls := (by show 0 < _; decide), qs := (by show 0 < _; decide), ps := (by show 0 < _; decide), q := (fun q hq => by cases hq), p := (fun p hp => by cases hp) }
theorem chkW : chk lmW = 0 := by kernel_rfl
theorem chk0 : chk ⟨[], 0, [], [], [], [], 0, 0⟩ = 300 := by kernel_rfl
theorem sameWO : same lmW lmO = false := same_no (by intro h; cases h)
theorem go_ok : dXw.ok (AVal.agg [AVal.str [115, 105, 110, 103, 108, 101], AVal.int IntKind.i64 1, eSs [[112], [113]], eSs [[120]], AVal.sl (Tok.none 4) [encQ { k := 1, cs := [0, 1], ls := [], n := 0 }], AVal.sl (Tok.none 2) [encM { c := 0, ls := [0] }], AVal.int IntKind.i64 1, AVal.int IntKind.i64 0]) = True := dXw_ok lmW
theorem go_dec : dXw.dec (AVal.agg [AVal.str [115, 105, 110, 103, 108, 101], AVal.int IntKind.i64 1, eSs [[112], [113]], eSs [[120]], AVal.sl (Tok.none 4) [encQ { k := 1, cs := [0, 1], ls := [], n := 0 }], AVal.sl (Tok.none 2) [encM { c := 0, ls := [0] }], AVal.int IntKind.i64 1, AVal.int IntKind.i64 0]) = lmW := dXw_dec lmW
theorem goO_ok : dXw.ok (AVal.agg [AVal.str [97], AVal.int IntKind.i64 1, eSs [[112]], eSs [[120]], AVal.sl (Tok.none 4) [], AVal.sl (Tok.none 2) [], AVal.int IntKind.i64 0, AVal.int IntKind.i64 0]) = True := dXw_ok lmO
theorem goO_dec : dXw.dec (AVal.agg [AVal.str [97], AVal.int IntKind.i64 1, eSs [[112]], eSs [[120]], AVal.sl (Tok.none 4) [], AVal.sl (Tok.none 2) [], AVal.int IntKind.i64 0, AVal.int IntKind.i64 0]) = lmO := dXw_dec lmO
theorem wantZ_ok : dXw.ok (AVal.agg [zr, z0, zs, zs, zs, zs, z0, z0]) = True := wantO_ok
theorem wantZ_dec : dXw.dec (AVal.agg [zr, z0, zs, zs, zs, zs, z0, z0]) = ⟨[], 0, [], [], [], [], 0, 0⟩ := rfl
theorem scmpT (a : Bs) : scmp .eql a a = true := by rw [scmp_eq]; simp
theorem w38 : IntKind.wrap .i64 ((List.length (shP [49] []) : Int) - 1) = 38 := by decide
theorem dsW : dXs.ok (eLs [lmW]) = True := dXs_ok (.inl rfl)
theorem ddW : dXs.dec (eLs [lmW]) = [lmW] := dXs_dec
theorem p10 : Pur Tryz.prog 10 [] (.bool true) := by
  refine .mk trivial trivial (a10 (ev_awp TLw_ok (ev_evK ?_)))
  simp only [eE, eC, eN, reduceCtorEq, Nat.reduceEqDiff, ↓reduceIte, Nat.reduceAdd, Nat.reduceLeDiff, Nat.reduceMul, Nat.reduceLT, Int.reduceEq, Int.reduceLT, Bool.not_true, Bool.not_false, c0, c1, Option.getD_some, Int.toNat_zero, Int.le_refl, List.getElem?_cons_zero, List.getElem?_cons_succ, c10, TLw_mParse, TLw_mPrint, TLw_lwshort, TLw_zSame, TLw_mCheck, TLw_mSame, s1, s2, dS, isS, toS, v1, v2, v3, v4, v5, v6, v7, plV, pr1, sl0, sl1, sl2, sl3, dsW, ddW, fewWs, fewW, few0, go_ok, go_dec, goO_ok, goO_dec, wantZ_ok, wantZ_dec, scmpT, w38, want_ok, want_dec, chkW, chk0, sameWO, same_rfl]
end Go.AM
end
section
set_option maxRecDepth 20000
set_option linter.all false
namespace Go.AM
open Go.Proofs Go.Lib
theorem one_ok (x : Lma) : dXs.ok (.sl (.exact 8) [encL x]) = True := dXs_ok (l := [x]) (.inl rfl)
theorem one_dec (x : Lma) : dXs.dec (.sl (.exact 8) [encL x]) = [x] := dXs_dec (l := [x])
theorem few_one {x : Lma} (h : FewL x) : FewLs [x] := ⟨by show 1 < _; decide, fun y hy => by rw [List.mem_singleton.1 hy]; exact h⟩
theorem print_ok {l : List Lma} (h : ∀ x ∈ l, OKL x) (hn : l.length ≤ 16) : printMV l = .tup [.str (jP l), .int .i64 0] := by
  have hall : l.all lemOK = true := List.all_eq_true.2 fun x hx => (lem_okl x).2 (h x hx)
  unfold printMV jP
  rw [if_neg (by omega), if_neg (by rw [hall]; decide)]
theorem jP_one {x : Lma} (h : OKL x) : (jP [x]).length ≤ 65536 := by
  have h1 := join_len (B := 32) ((printT [x]).map wordS) (fun w hw => by
    obtain ⟨t, ht, rfl⟩ := List.mem_map.1 hw
    exact word_len (List.all_eq_true.1 (printT_valid (xs := [x]) fun y hy => by rw [List.mem_singleton.1 hy]; exact h) t ht))
  have h2 := printT_len (l := [x]) fun y hy => by rw [List.mem_singleton.1 hy]; exact h
  rw [List.length_map] at h1
  rw [List.length_singleton] at h2
  unfold jP; omega
theorem chk_ok {x : Lma} (h : OKL x) : chk x = 0 := by unfold chk; rw [if_pos ((lem_okl x).2 h)]
theorem p24 (x : Lma) (hx : OKL x) : Pur Tryz.prog 24 [encL x] (.bool true) := by
  refine .mk ⟨encL_under 0 x, trivial⟩ trivial (a24 (ev_awp TLw_ok (ev_evK ?_)))
  have f1 : FewL x = True := eq_true (okl_few hx)
  have f2 : FewLs [x] = True := eq_true (few_one (okl_few hx))
  have hp : printMV [x] = .tup [.str (jP [x]), .int .i64 0] := print_ok (fun y hy => by rw [List.mem_singleton.1 hy]; exact hx) (by simp)
  have hl := jP_one hx
  have hb : parseMV (jP [x]) = plV ⟨[x], 0, 0⟩ := by
    unfold parseMV jP
    rw [lemmas_back (xs := [x]) (fun y hy => by rw [List.mem_singleton.1 hy]; exact hx) (by simp) hl]
  have hlt : ((jP [x]).length < 1000000000) = True := eq_true (by omega)
  have hc := chk_ok hx
  generalize jP [x] = S at hp hb hlt
  simp only [eE, eC, eN, reduceCtorEq, Nat.reduceEqDiff, ↓reduceIte, Nat.reduceAdd, Nat.reduceLeDiff, Nat.reduceMul, Nat.reduceLT, Int.reduceLT, c1, Option.getD_some, Int.toNat_zero, Int.le_refl, List.getElem?_cons_zero, List.getElem?_cons_succ, c24, TLw_mPrint, TLw_mParse, TLw_mCheck, TLw_zSame, s1, s2, dS, isS, toS, one_ok, one_dec, f1, f2, hp, hb, plV, hlt, dXw_ok, dXw_dec, hc, same_rfl]
def s10 : List AVal → AHeap → Prop × AVal := fun a H => match a with
  | [] => (True, .bool true)
  | _ => (False, .tup [])
theorem q10 : ∀ args H n, (s10 args H).1 → Quiet Tryz.prog 10 args H n (s10 args H).2 := by
  intro args H n hh
  unfold s10 at hh ⊢
  split at hh
  · exact p10.quiet H n
  · exact hh.elim
noncomputable def TL : Tab := tadd 10 s10 (tadd 24 (s1 dXw OKL fun _ => .bool true) TLw)
theorem TL_ok : TabOK Tryz.prog TL := (TLw_ok.add (q1 p24)).add q10
theorem eLs_ok (l : List Lma) : dXs.ok (eLs l) = True := dXs_ok (.inl rfl)
theorem eLs_dec (l : List Lma) : dXs.dec (eLs l) = l := dXs_dec
end Go.AM
end
section
set_option maxRecDepth 20000
set_option linter.all false
namespace Go.AM
open Go.Proofs Go.Lib
theorem print_any (l : List Lma) : ∃ s e, printMV l = .tup [.str s, .int .i64 e] := by
  unfold printMV
  split
  · exact ⟨_, _, rfl⟩
  split
  · exact ⟨_, _, rfl⟩
  · exact ⟨_, _, rfl⟩
noncomputable def TLq : Tab := tadd 17 (s1 dXs FewLs printMV) (tadd 19 (s1 dXw FewL fun x => eI (chk x)) TL)
theorem TLq_ok : TabOK Tryz.prog TLq := (TL_ok.add (q1 p19)).add (q1 p17)
theorem TLq_10 (H : AHeap) : TLq 10 [] H = (True, .bool true) := rfl
theorem TLq_zFewAll (a : List AVal) (H : AHeap) : TLq 14 a H = s1 dXs any1 (fun l => .bool (fewAB l)) a H := rfl
theorem TLq_zFew (a : List AVal) (H : AHeap) : TLq 15 a H = s1 dXw any1 (fun x => .bool (fewB x)) a H := rfl
theorem TLq_mPrint (a : List AVal) (H : AHeap) : TLq 16 a H = s1 dXs FewLs printMV a H := rfl
theorem TLq_zPrint (a : List AVal) (H : AHeap) : TLq 17 a H = s1 dXs FewLs printMV a H := rfl
theorem TLq_mCheck (a : List AVal) (H : AHeap) : TLq 18 a H = s1 dXw FewL (fun x => eI (chk x)) a H := rfl
theorem TLq_zCheck (a : List AVal) (H : AHeap) : TLq 19 a H = s1 dXw FewL (fun x => eI (chk x)) a H := rfl
theorem TLq_mSame (a : List AVal) (H : AHeap) : TLq 20 a H = s2 dXw dXw (fun a _ => FewL a) (fun a b => .bool (same a b)) a H := rfl
theorem TLq_zSame (a : List AVal) (H : AHeap) : TLq 21 a H = s2 dXw dXw (fun a _ => FewL a) (fun a b => .bool (same a b)) a H := rfl
theorem p4 (l : List Lma) (a b : Lma) : Pur Tryz.prog 4 [eLs l, encL a, encL b] (.bool true) := by
  refine .mk ⟨⟨trivial, Ls_under 0 l⟩, encL_under 0 a, encL_under 0 b, trivial⟩ trivial (a4 (ev_awp TLq_ok (ev_evK ?_)))
  cases h1 : fewAB l with
  | false => simp only [eE, eC, eN, reduceCtorEq, Nat.reduceEqDiff, ↓reduceIte, Nat.reduceAdd, Bool.not_true, Bool.not_false, c4, TLq_10, TLq_zFewAll, TLq_zFew, s1, eLs_ok, eLs_dec, dXw_ok, dXw_dec, h1]
  | true =>
    cases h2 : fewB a with
    | false => simp only [eE, eC, eN, reduceCtorEq, Nat.reduceEqDiff, ↓reduceIte, Nat.reduceAdd, Bool.not_true, Bool.not_false, c4, TLq_10, TLq_zFewAll, TLq_zFew, s1, eLs_ok, eLs_dec, dXw_ok, dXw_dec, h1, h2]
    | true =>
      cases h3 : fewB b with
      | false => simp only [eE, eC, eN, reduceCtorEq, Nat.reduceEqDiff, ↓reduceIte, Nat.reduceAdd, Bool.not_true, Bool.not_false, c4, TLq_10, TLq_zFewAll, TLq_zFew, s1, eLs_ok, eLs_dec, dXw_ok, dXw_dec, h1, h2, h3]
      | true =>
        have d1 : FewLs l = True := eq_true (fewAB_few h1).1
        have d2 : FewL a = True := eq_true (fewB_few h2)
        have d3 : FewL b = True := eq_true (fewB_few h3)
        obtain ⟨s, e, hp⟩ := print_any l
        simp only [eE, eC, eN, reduceCtorEq, Nat.reduceEqDiff, ↓reduceIte, Nat.reduceAdd, Nat.reduceLT, Bool.not_true, Option.getD_some, List.getElem?_cons_zero, List.getElem?_cons_succ, c4, TLq_10, TLq_zFewAll, TLq_zFew, TLq_mPrint, TLq_zPrint, TLq_mCheck, TLq_zCheck, TLq_mSame, TLq_zSame, s1, s2, eLs_ok, eLs_dec, dXw_ok, dXw_dec, h1, h2, h3, d1, d2, hp, scmpT, same_rfl]
end Go.AM
end
section
set_option maxRecDepth 20000
set_option linter.all false
namespace Go.AM
open Go.Proofs Go.Lib
end Go.AM
end
section
set_option maxRecDepth 20000
set_option linter.all false
namespace Go.AM
open Go.Proofs Go.Lib
end Go.AM
end
section
set_option maxRecDepth 20000
set_option linter.all false
namespace Go.AM
open Go.Proofs Go.Lib
end Go.AM
end
section
set_option maxRecDepth 20000
set_option linter.all false
namespace Go.AM
open Go.Proofs Go.Lib
end Go.AM
end
section
set_option maxRecDepth 20000
set_option linter.all false
namespace Go.AM
open Go.Proofs Go.Lib Go.ChangeShapes Go.WideShapes Go.ChangeAt Go.WideMaps Go.WideElems Go.RowKit
theorem own : ownKnob Tryz.prog.godebug = none := by kernel_rfl
abbrev laid3 : List (String × DataW Unit) := Go.Proofs.YtpjedmachelflaaGreatDoor.Rows.lemmasParseSpecRow.laid
theorem gPow : Tryz.prog.globalNamed ((laid3[2]?.map (·.1)).getD "") = some 3 := by kernel_rfl
theorem gRng : Tryz.prog.globalNamed ((laid3[3]?.map (·.1)).getD "") = some 1 := by kernel_rfl
theorem gSyn : Tryz.prog.globalNamed ((laid3[4]?.map (·.1)).getD "") = some 0 := by kernel_rfl
theorem door_met (os : Os) (args : Array Value) : laidMetH Tryz.prog laid3 ((World.doorLaid Tryz.prog 400 os).forCall (fun _ _ => 0) ⟨#[], args, []⟩).memory :=
  laidMetH_of_parts3 (fuel := 8) (laidMet_of_run' 8 (by kernel_rfl) (by kernel_rfl)) (by kernel_rfl) (by kernel_rfl)
theorem starE : "*" ++ "errors.errorString" = "*errors.errorString" := by decide
theorem row159 (u : TypeId) (h : Tryz.prog.typeName? 3 u = some "*errors.errorString") : u = 174 :=
  typeName_ptr_named (nm := "errors.errorString") (by rw [starE]; kernel_rfl) (by kernel_rfl) (by decide) u (by rw [starE]; exact h)
theorem spot_of {W : World} {a : Addr} (h : Value.okWide Tryz.prog W .any 0 174 (.pointer (some a))) : a.spot = none := by
  unfold Value.okWide at h
  simp only [Tryz.underlying174] at h
  unfold Cell.okWide at h
  simp only [Tryz.underlying174, Cell.ok] at h
  exact h.2.1
def pow10 : List Int := [1, 10, 100, 1000, 10000, 100000, 1000000, 10000000, 100000000, 1000000000, 10000000000, 100000000000, 1000000000000, 10000000000000, 100000000000000, 1000000000000000, 10000000000000000, 100000000000000000, 1000000000000000000, 10000000000000000000]
theorem pstab_err {W : World} {gi fuel : Nat} {cs : Array Value} {text : List UInt8} {p : List MemPlace} {nm : String} (hnm : nm = "*errors.errorString") (hcell : ∀ off, W.cell? ⟨gi, off, none⟩ = cs[off]?)
    (h : DataW.trod (fun _ => ()) Tryz.prog W 0 (fun _ => true) false fuel 132 cs.toList = some (.iface nm (.ptr (.agg [.lit (.string text)])), p))
    (hok : ∀ u v, cs.toList = [.iface u v] → Value.okWide Tryz.prog W .any 0 u v) : PStab (gW W) ((gW W).σ gi) 0 [.ifc 174 (.ep [.str text])] ∧ cs.size = 1 := by
  subst hnm
  obtain ⟨a, s, e1, e2, e3, _, _⟩ := errorString_of_trod Tryz.underlying132 row159 Tryz.underlying174 Tryz.underlying176 rfl rfl Tryz.underlying9 (by kernel_rfl) (by kernel_rfl) h hok
  have hsp := spot_of (hok _ _ e1)
  obtain ⟨b, o, sp⟩ := a
  have hsp' : sp = none := hsp
  subst hsp'
  have hc0 : cs[0]? = some (.iface 174 (.pointer (some ⟨b, o, none⟩))) := by
    rw [← Array.getElem?_toList, e1]; rfl
  refine ⟨⟨⟨_, (hcell 0).trans hc0, ⟨_, rfl, b, o, rfl, ⟨_, e2, ?_, rfl⟩, trivial⟩, rfl⟩, trivial⟩, by rw [← Array.length_toList, e1]; rfl⟩
  show Value.string s = Value.string ⟨text.toArray⟩
  rw [← e3]
theorem var_cells {W : World} {n : String} {g : Nat} {cs : Array Value} (hg : Tryz.prog.globalNamed n = some g) (h : W.var? Tryz.prog n = some cs) : ∃ e fz, W.heap[g]? = some (.cells cs e fz) := by
  simp only [World.var?, hg, Option.bind_some] at h
  split at h
  · rename_i c e fz hh
    cases h; exact ⟨e, fz, hh⟩
  · cases h
theorem glob_all {W : World} (h : laidMetH Tryz.prog laid3 W) : GlobOK (gW W) ∧ GlobZ W := by
  rw [MakeChecks.laidMetH_plain _ _ _ (by kernel_rfl)] at h
  obtain ⟨ps, ⟨g0, t0, cs0, f0, p0, q0, hg0, ht0, hv0, hd0, ⟨g1, t1, cs1, f1, p1, q1, hg1, ht1, hv1, hd1, ⟨g2, t2, cs2, f2, p2, q2, hg2, ht2, hv2, hd2, ⟨g3, t3, cs3, f3, p3, q3, hg3, ht3, hv3, hd3, ⟨g4, t4, cs4, f4, p4, q4, hg4, ht4, hv4, hd4, z4, w4⟩, w3⟩, w2⟩, w1⟩, w0⟩, hnd, hrows⟩ := h
  obtain rfl := Option.some.inj (gPow.symm.trans hg2)
  obtain rfl := Option.some.inj (gRng.symm.trans hg3)
  obtain rfl := Option.some.inj (gSyn.symm.trans hg4)
  obtain rfl := Option.some.inj ((show (Tryz.prog.globals[3]?).map (·.type) = some 168 by kernel_rfl).symm.trans ht2)
  obtain rfl := Option.some.inj ((show (Tryz.prog.globals[1]?).map (·.type) = some 132 by kernel_rfl).symm.trans ht3)
  obtain rfl := Option.some.inj ((show (Tryz.prog.globals[0]?).map (·.type) = some 132 by kernel_rfl).symm.trans ht4)
  have c2 := fun off => World.var?_cell hg2 hv2 off
  have c3 := fun off => World.var?_cell hg3 hv3 off
  have c4 := fun off => World.var?_cell hg4 hv4 off
  have ok3 : ∀ u v, cs3.toList = [.iface u v] → Value.okWide Tryz.prog W .any 0 u v := fun u v e => by
    have hs : cs3.size = 1 := by rw [← Array.length_toList, e]; rfl
    refine (hrows 1 0 (by rw [w0, w1, w2, w3, hs]; simp [MemPlace.row])).2 u v ?_
    rw [c3 0, ← Array.getElem?_toList, e]; rfl
  have ok4 : ∀ u v, cs4.toList = [.iface u v] → Value.okWide Tryz.prog W .any 0 u v := fun u v e => by
    have hs : cs4.size = 1 := by rw [← Array.length_toList, e]; rfl
    refine (hrows 0 0 (by rw [w0, w1, w2, w3, w4, hs]; simp [MemPlace.row])).2 u v ?_
    rw [c4 0, ← Array.getElem?_toList, e]; rfl
  obtain ⟨s3, z3⟩ := pstab_err rfl c3 hd3 ok3
  obtain ⟨s4, z4'⟩ := pstab_err rfl c4 hd4 ok4
  have s2 : PStab (gW W) ((gW W).σ 3) 0 (pow10.map (.int .u64)) := pstab_array (ns := pow10) Tryz.underlying168 Tryz.underlying151 (by kernel_rfl) c2 hd2
  have z2 : cs2.size = 20 := by
    have := Go.Lib.cells_of_tab (zs := pow10) (k := .u64) Tryz.underlying168 Tryz.underlying151 (by kernel_rfl) (by kernel_rfl) hd2
    rw [← Array.length_toList, this]; rfl
  constructor
  · intro i cs hi
    match i, hi with
    | 0, hi => obtain rfl := Option.some.inj hi; exact s4
    | 1, hi => obtain rfl := Option.some.inj hi; exact s3
    | 3, hi => obtain rfl := Option.some.inj hi; exact s2
  · intro i cs hi
    match i, hi with
    | 0, hi => obtain rfl := Option.some.inj hi; obtain ⟨e, fz, k⟩ := var_cells hg4 hv4; exact ⟨_, _, _, k, z4'⟩
    | 1, hi => obtain rfl := Option.some.inj hi; obtain ⟨e, fz, k⟩ := var_cells hg3 hv3; exact ⟨_, _, _, k, z3⟩
    | 3, hi => obtain rfl := Option.some.inj hi; obtain ⟨e, fz, k⟩ := var_cells hg2 hv2; exact ⟨_, _, _, k, z2⟩
abbrev shQ : Sh := .st [.int .i64, .sl (.int .i64), .sl (.int .i64), .int .i64]
abbrev shM : Sh := .st [.int .i64, .sl (.int .i64)]
abbrev shL : Sh := .st [.str, .int .i64, .sl .str, .sl .str, .sl shQ, .sl shM, .int .i64, .int .i64]
theorem rdMap {e : Sh} {α : Type} {enc : α → AVal} (he : ∀ vs, e.rd vs → ∃ a, e.wrap vs = enc a) {av : List AVal} (h : (Sh.sl e).rd av) : ∃ l : List α, av = [.sl (.none e.size) (l.map enc)] := by
  simp only [Sh.rd] at h
  obtain ⟨l, rfl, hln, h⟩ := h
  suffices ∃ m : List α, l.map e.wrap = m.map enc by
    obtain ⟨m, hm⟩ := this
    exact ⟨m, by rw [hm]⟩
  clear hln
  induction l with
  | nil => exact ⟨[], rfl⟩
  | cons x l ih =>
    obtain ⟨m, hm⟩ := ih fun y hy => h y (by simp [hy])
    obtain ⟨a, ha⟩ := he x (h x (by simp))
    exact ⟨a :: m, by rw [List.map_cons, List.map_cons, hm, ha]⟩
theorem rdI {vs : List AVal} (h : (Sh.int .i64).rd vs) : ∃ n : Int, (Sh.int .i64).wrap vs = eI n := by
  obtain ⟨n, rfl, _⟩ := h
  exact ⟨n, rfl⟩
theorem rdS {vs : List AVal} (h : Sh.str.rd vs) : ∃ s : Bs, Sh.str.wrap vs = .str s := by
  obtain ⟨s, rfl, _⟩ := h
  exact ⟨s, rfl⟩
theorem rdIs {vs : List AVal} (h : (Sh.sl (.int .i64)).rd vs) : ∃ l : List Int, vs = [eIs l] := rdMap (fun _ => rdI) h
theorem rdSs {vs : List AVal} (h : (Sh.sl .str).rd vs) : ∃ l : List Bs, vs = [eSs l] := rdMap (fun _ => rdS) h
theorem rdQ (vs : List AVal) (h : shQ.rd vs) : ∃ q : Cnd, shQ.wrap vs = encQ q := by
  simp only [Sh.rd.eq_5, Sh.rdL] at h
  obtain ⟨_, _, rfl, ⟨k, rfl, _⟩, _, _, rfl, h2, _, _, rfl, h3, _, _, rfl, ⟨n, rfl, _⟩, rfl⟩ := h
  obtain ⟨cs, rfl⟩ := rdIs h2
  obtain ⟨ls, rfl⟩ := rdIs h3
  exact ⟨⟨k, cs, ls, n⟩, rfl⟩
theorem rdM (vs : List AVal) (h : shM.rd vs) : ∃ p : Prm, shM.wrap vs = encM p := by
  simp only [Sh.rd.eq_5, Sh.rdL] at h
  obtain ⟨_, _, rfl, ⟨k, rfl, _⟩, _, _, rfl, h2, rfl⟩ := h
  obtain ⟨ls, rfl⟩ := rdIs h2
  exact ⟨⟨k, ls⟩, rfl⟩
theorem rdX (vs : List AVal) (h : shL.rd vs) : ∃ x : Lma, shL.wrap vs = encL x := by
  simp only [Sh.rd.eq_5, Sh.rdL] at h
  obtain ⟨_, _, rfl, ⟨nm, rfl, _⟩, _, _, rfl, ⟨lv, rfl, _⟩, _, _, rfl, h3, _, _, rfl, h4, _, _, rfl, h5, _, _, rfl, h6, _, _, rfl, ⟨c, rfl, _⟩, _, _, rfl, ⟨l, rfl, _⟩, rfl⟩ := h
  obtain ⟨cs, rfl⟩ := rdSs h3
  obtain ⟨ls, rfl⟩ := rdSs h4
  obtain ⟨qs, rfl⟩ := rdMap rdQ h5
  obtain ⟨ps, rfl⟩ := rdMap rdM h6
  exact ⟨⟨nm, lv, cs, ls, qs, ps, c, l⟩, rfl⟩
theorem rdXs {vs : List AVal} (h : (Sh.sl shL).rd vs) : ∃ l : List Lma, vs = [eLs l] := rdMap rdX h
theorem argXXX {av : List AVal} (h : Sh.rdA [.sl shL, shL, shL] av) : ∃ (l : List Lma) (a b : Lma), av = [eLs l, encL a, encL b] := by
  simp only [Sh.rdA] at h
  obtain ⟨x, _, rfl, hx, y, _, rfl, hy, z, _, rfl, hz, rfl⟩ := h
  obtain ⟨l, rfl⟩ := rdXs hx
  obtain ⟨a, ha⟩ := rdX _ hy
  obtain ⟨b, hb⟩ := rdX _ hz
  exact ⟨l, a, b, by rw [ha, hb]; rfl⟩
end Go.AM
end
