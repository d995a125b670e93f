/-
  Rules of deduction: a lemma read · Rules of deduction: lemmas that are not valid are found; what was read is not too long · Rules of deduction: Parse · Rules of deduction: whether two lemmas are the same · Rules of deduction: the reference's Same, SameAll, Few, FewAll · Rules of deduction: what the printer collects · Rules of deduction: a lemma printed · Rules of deduction: Print.
  Conditions: none beyond those of its parts.
-/
import Derived.Test.YtpjedmachelflaaGreatDoorB8
import Derived.Test.YtpjedmachelflaaGreatDoorB5
import Derived.Test.YtpjedmachelflaaGreatDoorB7

section
set_option maxRecDepth 20000
set_option linter.all false
namespace Go.AM
open Go.Proofs Go.Lib
theorem name_cnt {l r : List Tkn} {s : Bs} (h : nameR l = .ok s r) : 1 + r.length ≤ l.length := by have := name_len h; omega
theorem numb_cnt {l r : List Tkn} {v : Int} (h : numbR l = .ok v r) : 1 + r.length ≤ l.length := by
  cases l with
  | nil => cases h
  | cons t l =>
    simp only [numbR, kindR] at h
    split at h
    · cases h; simp; omega
    · cases h
theorem need_cnt {l r : List Tkn} {w : Bs} {u : Unit} (h : need w l = .ok u r) : r.length ≤ l.length := by
  unfold need at h
  split at h
  · cases h; rw [List.length_tail]; omega
  · cases h
theorem item_cnt {l r : List Tkn} {i : Itm} (h : itemR l = .ok i r) : i.cs.length ≤ l.length ∧ i.ls.length ≤ l.length ∧ r.length ≤ l.length := by
  have ht : l.tail.length ≤ l.length := by rw [List.length_tail]; omega
  unfold itemR at h
  split at h
  · obtain ⟨cs, q, h1, h2⟩ := bd_ok' h; cases h2; have := names_cnt h1; simp; omega
  split at h
  · obtain ⟨cs, q, h1, h2⟩ := bd_ok' h; cases h2; have := names_cnt h1; simp; omega
  split at h
  · obtain ⟨cs, q, h1, h2⟩ := bd_ok' h; cases h2; have := names_cnt h1; simp; omega
  split at h
  · obtain ⟨a, q, h1, h2⟩ := bd_ok' h; obtain ⟨u, q2, h3, h4⟩ := bd_ok' h2; obtain ⟨cs, q3, h5, h6⟩ := bd_ok' h4; cases h6
    have := name_cnt h1; have := need_cnt h3; have := names_cnt h5; simp; omega
  split at h
  · obtain ⟨a, q, h1, h2⟩ := bd_ok' h; obtain ⟨u, q2, h3, h4⟩ := bd_ok' h2; obtain ⟨cs, q3, h5, h6⟩ := bd_ok' h4; cases h6
    have := numb_cnt h1; have := need_cnt h3; have := names_cnt h5; simp; omega
  split at h
  · obtain ⟨a, q, h1, h2⟩ := bd_ok' h; obtain ⟨ls, q1, h7, h8⟩ := bd_ok' h2; obtain ⟨u, q2, h3, h4⟩ := bd_ok' h8; obtain ⟨cs, q3, h5, h6⟩ := bd_ok' h4; cases h6
    have := numb_cnt h1; have := names_cnt h7; have := need_cnt h3; have := names_cnt h5; simp; omega
  split at h
  · obtain ⟨a, q, h1, h2⟩ := bd_ok' h; obtain ⟨u, q2, h3, h4⟩ := bd_ok' h2; obtain ⟨cs, q3, h5, h6⟩ := bd_ok' h4; cases h6
    have := name_cnt h1; have := need_cnt h3; have := names_cnt h5; simp; omega
  · cases h
abbrev xC (nm : Bs) (lv : Int) (cs ls : List Bs) (tq : Tok) (qs : List Cnd) (tp : Tok) (ps : List Prm) (c l : Int) : List AVal := [.str nm, .int .i64 lv, eSs cs, eSs ls, .sl tq (qs.map encQ), .sl tp (ps.map encM), .int .i64 c, .int .i64 l]
structure VL where
  f : Nat
  m : List Tkn
  ac : List Itm
  tq : Tok
  tp : Tok
  H : AHeap
  n : Nat
structure IL {β : Type} (src : Bs) (L : Nat) (H : AHeap) (n pid : Nat) (nm : Bs) (lv : Int) (cs ls : List Bs) (tot : Rs β) (G : List Itm → List Tkn → Rs β) (v : VL) : Prop where
  hn : n + 12 ≤ v.n
  fr : Fresh v.H v.n
  hp : hget v.H pid = some (pB src v.m)
  hx : hget v.H n = some (.box (xC nm lv cs ls v.tq (qsOf cs ls v.ac) v.tp (psOf cs ls v.ac) 0 0))
  hm : hget v.H (n + 2) = some (.map mapEs 7)
  hk : KeepsB pid H v.H
  kq : tkG 4 (n + 12) v.H v.tq
  kp : tkG 2 (n + 12) v.H v.tp
  dj : ∀ i, v.tq = .own i 4 → v.tp ≠ .own i 2
  eq : v.tq.esz = 4 ∨ qsOf cs ls v.ac = []
  ep : v.tp.esz = 2 ∨ psOf cs ls v.ac = []
  hl : v.m.length + v.ac.length ≤ L
  ok : ∀ t ∈ v.m, okTk t
  hf : v.m.length < v.f
  tot : tot = (itemsR v.f v.m).bd fun is q => G (v.ac ++ is) q
abbrev encD (d : Drf) : AVal := .tup [encL (resolve d), .bool (named d)]
def Tlm : Tab := tadd 72 (s2 dSs dSs (fun a b => few a ∧ few b) eFind) tnil
theorem Tlm_ok : TabOK Tryz.prog Tlm := TabOK.tnil.add (q2 fun a b h => p72 a b h.1 h.2)
theorem Tlm_f (a : List AVal) (H : AHeap) : Tlm 72 a H = s2 dSs dSs (fun a b => few a ∧ few b) eFind a H := rfl
theorem tkG.kill {e e' lo lo' : Nat} {H : AHeap} {tk tk' : Tok} (h : tkG e lo H tk) (h' : tkG e' lo' H tk') (hd : ∀ i, tk = .own i e → tk' ≠ .own i e') : tkG e lo (killTok H tk') tk := by
  rcases h' with rfl | rfl | ⟨j, rfl, h1, h2⟩
  · exact h
  · exact h
  · rcases h with rfl | rfl | ⟨id, rfl, h3, h4⟩
    · exact .inl rfl
    · exact .inr (.inl rfl)
    · refine .inr (.inr ⟨id, rfl, h3, ?_⟩)
      simp only [killTok]
      rw [hget_hset_ne _ _ _ _ (fun e => hd id rfl (by rw [e]))]; exact h4
theorem qs_len (cs ls : List Bs) (is : List Itm) : (qsOf cs ls is).length ≤ is.length := by unfold qsOf; rw [List.length_map]; exact List.length_filter_le ..
theorem ps_len (cs ls : List Bs) (is : List Itm) : (psOf cs ls is).length ≤ is.length := by unfold psOf; rw [List.length_map]; exact List.length_filter_le ..
theorem qs_app0 {cs ls : List Bs} {is : List Itm} {i : Itm} (h : i.k = 0) : qsOf cs ls (is ++ [i]) = qsOf cs ls is := by simp [qsOf, List.filter_append, h]
theorem qs_app1 {cs ls : List Bs} {is : List Itm} {i : Itm} (h : i.k ≠ 0) : qsOf cs ls (is ++ [i]) = qsOf cs ls is ++ [⟨i.k, idxs cs i.cs, idxs ls i.ls, i.n⟩] := by simp [qsOf, List.filter_append, h]
theorem ps_app0 {cs ls : List Bs} {is : List Itm} {i : Itm} (h : i.k = 0) : psOf cs ls (is ++ [i]) = psOf cs ls is ++ [⟨(idxs cs i.cs)[0]?.getD 0, idxs ls i.ls⟩] := by simp [psOf, List.filter_append, h]
theorem ps_app1 {cs ls : List Bs} {is : List Itm} {i : Itm} (h : i.k ≠ 0) : psOf cs ls (is ++ [i]) = psOf cs ls is := by simp [psOf, List.filter_append, h]
theorem ok_app {cs ls : List Bs} {is : List Itm} {i : Itm} : okOf cs ls (is ++ [i]) = (okOf cs ls is && allIn cs i.cs && allIn ls i.ls) := by simp [okOf, Bool.and_assoc]
theorem st_bdX {α β : Type} {enc : α → AVal} {enc' : β → AVal} {T : Tab} {b mk : Nat} {cx : Nat → AVal} {d : Option Nat} {kp : List Nat} {ops : List (Nat × AOp)} {k : List Item} {st : AS} {rs : List RC} {fid : FuncId} {xs : List AVal} {g : List Tkn → Rs α} {K : α → List Tkn → Rs β} {src : Bs} {l : List Tkn} {pid : Nat} {H0 H1 : AHeap} {n1 : Nat} (h : StepOK fid xs enc g) (hs : src.length < 1000000000) (hl : l.length < 1000000000)
    (hp : hget H1 pid = some (pB src l)) (hk : KeepsB pid H0 H1)
    (go : ∀ a r, g l = .ok a r → retXK Tryz.prog T b cx mk d ops kp k (postC rs (WPost enc' src H0 pid (K a r))) st (.ret (enc a)) (hset H1 pid (pB src r)) n1) :
    ACalls Tryz.prog fid (.ptr pid 0 :: xs) H1 n1 (retXK Tryz.prog T b cx mk d ops kp k (postC rs (WPost enc' src H0 pid ((g l).bd K))) st) := by
  refine (h src l pid H1 n1 hs hl hp).mono fun o H' n' q => ?_
  cases hg : g l with
  | ok a r =>
    rw [hg] at q
    obtain ⟨rfl, rfl, rfl⟩ := q
    exact go a r hg
  | bad r =>
    rw [hg] at q
    obtain ⟨rfl, rfl, rfl⟩ := q
    show kont _ _ _ _ _ _
    rw [kont_pan]
    exact ⟨rfl, hget_hset_eq .., hk.set⟩
theorem ms1 {v : AVal} {w : Bs} : mset (.str w) v 0 [] = [(.str w, v, 0)] := rfl
theorem lookf {z : AVal} {o : Option AVal} : lookV z false o = o.getD z := rfl
def lemG (nm : Bs) (lv : Int) (cs ls : List Bs) (is : List Itm) (r : List Tkn) : Rs Drf :=
  (nameR r).bd fun c r => (nameR r).bd fun x r => (need2 [59] [125] r).bd fun _ r => .ok ⟨nm, lv, cs, ls, is, c, x⟩ r
theorem lem_eq (l : List Tkn) : lemR l = (need wLem l).bd fun _ r => (nameR r).bd fun nm r => (need wLev r).bd fun _ r => (numbR r).bd fun lv r => (need2 [123] wCel r).bd fun _ r => (namesR r).bd fun cs r =>
    (need2 [59] wLet r).bd fun _ r => (namesR r).bd fun ls r => (need [59] r).bd fun _ r => (itemsR (r.length + 1) r).bd fun is r => lemG nm lv cs ls is r := by
  unfold lemR lemG need2
  simp only [bd_assoc]
theorem ne_ws : ((wRis : Bs) = wDif) = False ∧ ((wNea : Bs) = wDif) = False ∧ ((wNea : Bs) = wRis) = False ∧ ((wHom : Bs) = wDif) = False ∧ ((wHom : Bs) = wRis) = False ∧ ((wHom : Bs) = wNea) = False ∧ ((wApa : Bs) = wDif) = False ∧ ((wApa : Bs) = wRis) = False ∧ ((wApa : Bs) = wNea) = False ∧ ((wApa : Bs) = wHom) = False ∧ ((wQuo : Bs) = wDif) = False ∧ ((wQuo : Bs) = wRis) = False ∧ ((wQuo : Bs) = wNea) = False ∧ ((wQuo : Bs) = wHom) = False ∧ ((wQuo : Bs) = wApa) = False ∧ ((wOnl : Bs) = wDif) = False ∧ ((wOnl : Bs) = wRis) = False ∧ ((wOnl : Bs) = wNea) = False ∧ ((wOnl : Bs) = wHom) = False ∧ ((wOnl : Bs) = wApa) = False ∧ ((wOnl : Bs) = wQuo) = False :=
  ⟨eq_false (by decide), eq_false (by decide), eq_false (by decide), eq_false (by decide), eq_false (by decide), eq_false (by decide), eq_false (by decide), eq_false (by decide), eq_false (by decide), eq_false (by decide), eq_false (by decide), eq_false (by decide), eq_false (by decide), eq_false (by decide), eq_false (by decide), eq_false (by decide), eq_false (by decide), eq_false (by decide), eq_false (by decide), eq_false (by decide), eq_false (by decide)⟩
theorem t_lemma {src : Bs} {l : List Tkn} {pid : Nat} {H : AHeap} {n : Nat} (hs : src.length < 1000000000) (hl : l.length < 1000000000) (hok : ∀ t ∈ l, okTk t) (hp : hget H pid = some (pB src l)) (hf : Fresh H n) (hlt : pid < n) :
    ACalls Tryz.prog 27 [.ptr pid 0] H n (WPost encD src H pid (lemR l)) := by
  refine a27 (ev_awp Tlm_ok (ev_evK ?_))
  rw [lem_eq]
  simp only [eE, eN, reduceCtorEq, Nat.reduceEqDiff, ↓reduceIte, Nat.reduceAdd, Nat.reduceLeDiff, Nat.reduceMul, nS1, fr1 hf, fr0 hf, hset_hset, c27, xe_mkm, xe_mput, mkfit, KT.is, mset, mfind, ceq_s, Option.isSome_none, ne_ws]
  refine st_bd (t_need1 wLem) hs hl (by simp only [hget_hset, sep2 hlt, sep4 hlt, if_false]; exact hp) (fun id ob hne hx => by have := hf.lt hx; simp only [hget_hset]; (repeat rw [if_neg (by omega)]); exact hx) fun u r1 hr1 => ?_
  have k1 := need_cnt hr1
  simp only [eE, eN, reduceCtorEq, Nat.reduceEqDiff, ↓reduceIte, retK]
  refine st_bd t_name hs (by omega) (by simp only [hget_hset, sep2 hlt, sep4 hlt, if_true, if_false]) (fun id ob hne hx => by have := hf.lt hx; simp only [hget_hset]; (repeat rw [if_neg (by omega)]); exact hx) fun nm r2 hr2 => ?_
  have k2 := name_cnt hr2
  simp only [eE, eN, reduceCtorEq, Nat.reduceEqDiff, ↓reduceIte, Nat.reduceAdd, Nat.reduceLeDiff, Nat.reduceMul, nS1, sep3 hlt, hset_hset, retK]
  refine st_bd (t_need1 wLev) hs (by omega) (by simp only [hget_hset, sep2 hlt, sep4 hlt, if_true, if_false]) (fun id ob hne hx => by have := hf.lt hx; simp only [hget_hset]; (repeat rw [if_neg (by omega)]); exact hx) fun u r3 hr3 => ?_
  have k3 := need_cnt hr3
  simp only [eE, eN, reduceCtorEq, Nat.reduceEqDiff, ↓reduceIte, retK]
  refine st_bd t_number hs (by omega) (by simp only [hget_hset, sep2 hlt, sep4 hlt, if_true, if_false]) (fun id ob hne hx => by have := hf.lt hx; simp only [hget_hset]; (repeat rw [if_neg (by omega)]); exact hx) fun lv r4 hr4 => ?_
  have k4 := numb_cnt hr4
  simp only [eE, eN, reduceCtorEq, Nat.reduceEqDiff, ↓reduceIte, Nat.reduceAdd, Nat.reduceLeDiff, Nat.reduceMul, Nat.reduceLT, nS1, sep3 hlt, hset_hset, retK]
  refine st_bd (t_need2 [123] wCel) hs (by omega) (by simp only [hget_hset, sep2 hlt, sep4 hlt, if_true, if_false]) (fun id ob hne hx => by have := hf.lt hx; simp only [hget_hset]; (repeat rw [if_neg (by omega)]); exact hx) fun u r5 hr5 => ?_
  have k5 : r5.length ≤ r4.length := by obtain ⟨_, q, h1, h2⟩ := bd_ok' hr5; have := need_cnt h1; have := need_cnt h2; omega
  simp only [eE, eN, reduceCtorEq, Nat.reduceEqDiff, ↓reduceIte, retK]
  refine st_bd t_names hs (by omega) (by simp only [hget_hset, sep2 hlt, sep4 hlt, if_true, if_false]) (fun id ob hne hx => by have := hf.lt hx; simp only [hget_hset]; (repeat rw [if_neg (by omega)]); exact hx) fun cs r6 hr6 => ?_
  have k6 := names_cnt hr6
  simp only [eE, eN, reduceCtorEq, Nat.reduceEqDiff, ↓reduceIte, Nat.reduceAdd, Nat.reduceLeDiff, Nat.reduceMul, Nat.reduceLT, nS1, sep3 hlt, hset_hset, retK]
  refine st_bd (t_need2 [59] wLet) hs (by omega) (by simp only [hget_hset, sep2 hlt, sep4 hlt, if_true, if_false]) (fun id ob hne hx => by have := hf.lt hx; simp only [hget_hset]; (repeat rw [if_neg (by omega)]); exact hx) fun u r7 hr7 => ?_
  have k7 : r7.length ≤ r6.length := by obtain ⟨_, q, h1, h2⟩ := bd_ok' hr7; have := need_cnt h1; have := need_cnt h2; omega
  simp only [eE, eN, reduceCtorEq, Nat.reduceEqDiff, ↓reduceIte, retK]
  refine st_bd t_names hs (by omega) (by simp only [hget_hset, sep2 hlt, sep4 hlt, if_true, if_false]) (fun id ob hne hx => by have := hf.lt hx; simp only [hget_hset]; (repeat rw [if_neg (by omega)]); exact hx) fun ls r8 hr8 => ?_
  have k8 := names_cnt hr8
  simp only [eE, eN, reduceCtorEq, Nat.reduceEqDiff, ↓reduceIte, Nat.reduceAdd, Nat.reduceLeDiff, Nat.reduceMul, nS1, sep3 hlt, hset_hset, retK]
  refine st_bd (t_need1 [59]) hs (by omega) (by simp only [hget_hset, sep2 hlt, sep4 hlt, if_true, if_false]) (fun id ob hne hx => by have := hf.lt hx; simp only [hget_hset]; (repeat rw [if_neg (by omega)]); exact hx) fun u r9 hr9 => ?_
  have k9 := need_cnt hr9
  simp only [eE, eN, reduceCtorEq, Nat.reduceEqDiff, ↓reduceIte, retK]
  generalize hHH : hset _ pid (pB src r9) = HH
  have e1 : hget HH pid = some (pB src r9) := by rw [← hHH]; exact hget_hset_eq ..
  have e2 : hget HH n = some (.box (xC nm lv cs ls .nil [] .nil [] 0 0)) := by rw [← hHH]; (simp only [hget_hset, sep3 hlt, if_true, if_false]) <;> rfl
  have e3 : hget HH (n + 2) = some (.map mapEs 7) := by rw [← hHH]; (simp only [hget_hset, sep1 hlt, natE1, reduceCtorEq, if_true, if_false]) <;> rfl
  have e4 : KeepsB pid H HH := by rw [← hHH]; exact (fun id ob hne hx => by have := hf.lt hx; simp only [hget_hset]; (repeat rw [if_neg (by omega)]); exact hx)
  have e5 : Fresh HH (n + 12) := by
    rw [← hHH]
    intro id hid
    simp only [hget_hset]
    repeat rw [if_neg (by omega)]
    exact hf id (by omega)
  clear hHH
  have e6 : ∀ t ∈ r9, okTk t := by
    have sub : ∀ {α : Type} {g : List Tkn → Rs α} {a b : List Tkn} {x : α}, Lc g → g a = .ok x b → (∀ t ∈ a, okTk t) → ∀ t ∈ b, okTk t := fun hg h k t ht => by
      obtain ⟨u, rfl, -⟩ := hg.ok _ _ _ h
      exact k t (List.mem_append_right u ht)
    exact sub (lc_need _) hr9 (sub lc_names hr8 (sub ((lc_need _).bd fun _ => lc_need _) hr7 (sub lc_names hr6 (sub ((lc_need _).bd fun _ => lc_need _) hr5 (sub lc_numb hr4 (sub (lc_need _) hr3 (sub lc_name hr2 (sub (lc_need _) hr1 hok))))))))
  generalize hT : ((itemsR (r9.length + 1) r9).bd fun is r => lemG nm lv cs ls is r) = tot
  refine k_loop (fun v : VL => ⟨[(0, true, .ptr pid 0), (2, true, .ptr n 0), (3, true, .bool (okOf cs ls v.ac)), (4, true, .mp (n + 2))], v.H, v.n⟩) (IL src l.length H n pid nm lv cs ls tot (lemG nm lv cs ls)) (fun v => v.f)
    ⟨r9.length + 1, r9, [], .nil, .nil, HH, n + 12⟩ rfl ⟨Nat.le_refl _, e5, e1, e2, e3, e4, .inl rfl, .inl rfl, fun i h => (by cases h), .inr rfl, .inr rfl, by simp only [List.length_nil]; omega, e6, Nat.lt_succ_self _, by simp only [List.nil_append]; exact hT.symm⟩ ?_
  clear hT e1 e2 e3 e4 e5 e6 HH
  rintro ⟨f, m, ac, tq, tp, H1, n1⟩ hI
  have hn := hI.hn
  have hp1 := hI.hp
  have hx1 := hI.hx
  have hm1 := hI.hm
  have hk1 := hI.hk
  have hl1 := hI.hl
  have hf1 := hI.hf
  simp only at hn hp1 hx1 hm1 hk1 hl1 hf1
  have hlt1 : pid < n1 := by omega
  have hml : m.length < 1000000000 := by omega
  have hfr1 := hI.fr
  simp only at hfr1
  have y1 : ∀ k, (n = n1 + k) = False := fun k => eq_false (by omega)
  have y2 : ∀ k, (n1 + k = n) = False := fun k => eq_false (by omega)
  have y3 : ∀ k, (n + 2 = n1 + k) = False := fun k => eq_false (by omega)
  have y4 : ∀ k, (n1 + k = n + 2) = False := fun k => eq_false (by omega)
  by_cases hw : hdW wLac m = true
  · have hT := hI.tot
    simp only at hT
    obtain ⟨f, rfl⟩ : ∃ g, f = g + 1 := ⟨f - 1, by omega⟩
    rw [itemsR, if_pos hw] at hT
    simp only [eE, ↓reduceIte]
    refine st_ok (t_is wLac) hs hml hp1 (a := true) (r := m.tail) (by unfold isR; rw [if_pos hw]) ?_
    have hml2 : m.tail.length < 1000000000 := by rw [List.length_tail]; omega
    have f1 : few cs = True := eq_true (by show cs.length < _; omega)
    have f2 : few ls = True := eq_true (by show ls.length < _; omega)
    rw [show (Rs.ok [] m.tail).bd _ = lemG nm lv cs ls (ac ++ []) m.tail from rfl, List.append_nil] at hT
    rw [hT]
    unfold lemG
    have few1 : ∀ c : Bs, few [c] = True := fun c => eq_true (by show 1 < _; decide)
    have fo : ∀ c : Bs, decide (0 ≤ idxS cs c) = allIn cs [c] := fun c => by simp [allIn]
    simp only [eE, eC, eN, eX, reduceCtorEq, Nat.reduceEqDiff, ↓reduceIte, Nat.reduceAdd, Nat.reduceLeDiff, Nat.reduceLT, Nat.reduceMod, Nat.reduceSub, Nat.reduceDiv, Bool.not_true, sep3 hlt, retK, hx1, atK, atN]
    refine st_bdX t_name hs hml2 (hget_hset_eq ..) hk1.set fun c r1 hr1 => ?_
    have j1 := name_cnt hr1
    simp only [eE, eN, eX, reduceCtorEq, Nat.reduceEqDiff, ↓reduceIte, Nat.reduceAdd, Nat.reduceLeDiff, Nat.reduceMul, Nat.reduceLT, Nat.reduceMod, Nat.reduceSub, Nat.reduceDiv, nS1, List.getElem?_cons_zero, Option.getD_some, sep3 hlt, hset_hset, retXK, hx1, atK, atN, Tlm_f, s2, dSs, okL, decL, toSs_map, toS, f1, few1, eFind, List.getElem?_cons_succ]
    refine st_bdX t_name hs (by omega) (hget_hset_eq ..) hk1.set fun x r2 hr2 => ?_
    have j2 := name_cnt hr2
    simp only [eE, eN, eX, reduceCtorEq, Nat.reduceEqDiff, ↓reduceIte, Nat.reduceAdd, Nat.reduceLeDiff, Nat.reduceMul, Nat.reduceLT, Int.reduceLT, Nat.reduceMod, Nat.reduceSub, Nat.reduceDiv, c1, nS1, List.getElem?_cons_zero, Option.getD_some, Int.toNat_zero, Int.le_refl, sep3 hlt, hset_hset, retXK, hx1, atK, atN, Tlm_f, s2, dSs, okL, decL, toSs_map, toS, f2, few1, eFind, List.getElem?_cons_succ, idxs]
    have hkb : KeepsB pid H (hset (hset H1 pid (pB src r2)) n (.box [.str nm, .int .i64 lv, eSs cs, eSs ls, .sl tq ((qsOf cs ls ac).map encQ), .sl tp ((psOf cs ls ac).map encM), eI (idxS cs c), eI (idxS ls x)])) := fun id ob hne hx => by
      have := hf.lt hx
      rw [hget_hset_ne _ _ _ _ (by omega)]; exact hk1.set id ob hne hx
    refine st_bd (t_need2 [59] [125]) hs (by omega) (by simp only [hget_hset, sep4 hlt, if_true, if_false]) hkb fun u r3 hr3 => ?_
    simp only [eE, eC, eN, reduceCtorEq, Nat.reduceEqDiff, ↓reduceIte, Nat.reduceAdd, rcell, sep3 hlt, retK]
    refine ⟨⟨_, rfl, ?_⟩, (by simp only [hget_hset, sep4 hlt, if_true, if_false]), ?_⟩
    · refine Wk.tup2 (Wk.agg (.cons (Wk.refl _) (.cons (Wk.refl _) (.cons (Wk.refl _) (.cons (Wk.refl _) (.cons (Wk.sl ?_) (.cons (Wk.sl ?_) (.cons (Wk.refl _) (.cons (Wk.refl _) .nil))))))))) ?_
      · exact hI.eq.imp id fun e => by simp only at e; rw [e]; rfl
      · exact hI.ep.imp id fun e => by simp only at e; rw [e]; rfl
      · show Wk (.bool _) (.bool _)
        rw [show named ⟨nm, lv, cs, ls, ac, c, x⟩ = (okOf cs ls ac && allIn cs [c] && allIn ls [x]) from rfl]
        exact Wk.refl _
    · intro id ob hne hx
      have := hf.lt hx
      simp only [hget_hset]
      repeat rw [if_neg (by omega)]
      exact hk1 id ob hne hx
  obtain ⟨f, rfl⟩ : ∃ g, f = g + 1 := ⟨f - 1, by omega⟩
  have hT := hI.tot
  simp only at hT
  rw [itemsR, if_neg hw] at hT
  simp only [eE, ↓reduceIte]
  refine st_ok (t_is wLac) hs hml hp1 (a := false) (r := m) (by unfold isR; rw [if_neg hw]) ?_
  have hok1 := hI.ok
  simp only at hok1
  have fail : itemR m = .bad m → tot = .bad m := fun e => by rw [hT, e]; rfl
  cases m with
  | nil =>
    simp only [eE, eC, eN, eX, reduceCtorEq, Nat.reduceEqDiff, ↓reduceIte, Nat.reduceAdd, Bool.not_true, Bool.not_false, c0, i00, Int.toNat_zero, Int.le_refl, List.drop_one, retK]
    refine st_bad t_fail hs hml (hget_hset_eq ..) rfl ?_
    simp only [eE, eN, hset_hset]
    rw [fail rfl]
    exact ⟨rfl, hget_hset_eq .., hk1.set⟩
  | cons t r =>
    by_cases hk : t.K = 1
    case neg =>
      simp only [eE, eC, eN, eX, reduceCtorEq, Nat.reduceEqDiff, ↓reduceIte, Nat.reduceAdd, Nat.reduceLeDiff, Bool.not_true, Bool.not_false, cS0, cS1, List.getElem?_cons_zero, Option.getD_some, Int.toNat_zero, Int.le_refl, retK, hk]
      refine st_bad t_fail hs hml (hget_hset_eq ..) rfl ?_
      simp only [eE, eN, hset_hset]
      rw [fail (item_no (hok1 t (by simp)) hk r)]
      exact ⟨rfl, hget_hset_eq .., hk1.set⟩
    rcases item_fn hk r with ⟨fid, g, q1, q2, q3⟩ | ⟨q1, q3⟩
    · rw [q3] at hT
      simp only [eE, eC, eN, eX, reduceCtorEq, Nat.reduceEqDiff, ↓reduceIte, Nat.reduceAdd, Nat.reduceLeDiff, Int.reduceLE, Bool.not_true, Bool.not_false, cS0, cS1, cS2, List.getElem?_cons_zero, Option.getD_some, Int.toNat_zero, Int.toNat_one, Int.le_refl, Int.toNat_natCast, List.take_length, sep1 hlt, hset_hset, retK, hk, xe_look, hm1, KT.is, map_fit, lookf, q1, xe_fn]
      have hrl : r.length < 1000000000 := by simp at hml; omega
      cases hgr : g r with
      | bad r1 =>
        rw [hgr] at hT
        refine st_bad q2 hs hrl (hget_hset_eq ..) hgr ?_
        simp only [eE, eN, hset_hset]
        rw [hT]
        exact ⟨rfl, hget_hset_eq .., hk1.set⟩
      | ok i r1 =>
        rw [hgr] at hT
        have hic := item_cnt (q3.trans hgr)
        simp only [List.length_cons] at hic hml hl1
        refine st_ok q2 hs hrl (hget_hset_eq ..) hgr ?_
        simp only [eE, eN, reduceCtorEq, Nat.reduceEqDiff, ↓reduceIte, Nat.reduceAdd, Nat.reduceLeDiff, Nat.reduceMul, nS1, hset_hset, retK, fr1 hfr1, sep1 hlt1, encIt]
        cases hn5 : need [59] r1 with
        | bad r2 =>
          rw [show (Rs.ok i r1).bd _ = (need [59] r1).bd _ from rfl, hn5] at hT
          refine st_bad (t_need1 [59]) hs (by omega) ?_ hn5 ?_
          · simp only [hget_hset, sep2 hlt1, if_true, if_false]
          simp only [eE, eN]
          rw [hT]
          refine ⟨rfl, hget_hset_eq .., KeepsB.set (fun id ob hne hx => ?_)⟩
          have := hf.lt hx
          rw [hget_hset_ne _ _ _ _ (by omega)]; exact hk1.set id ob hne hx
        | ok u r2 =>
          rw [show (Rs.ok i r1).bd _ = (need [59] r1).bd _ from rfl, hn5] at hT
          refine st_ok (t_need1 [59]) hs (by omega) ?_ hn5 ?_
          · simp only [hget_hset, sep2 hlt1, if_true, if_false]
          generalize hG : hset _ pid (pB src r2) = G
          have g1 : hget G pid = some (pB src r2) := by rw [← hG]; exact hget_hset_eq ..
          have g2 : hget G n = some (.box (xC nm lv cs ls tq (qsOf cs ls ac) tp (psOf cs ls ac) 0 0)) := by
            rw [← hG]; simp only [hget_hset, sep3 hlt, y2, if_false]; exact hx1
          have g3 : hget G (n + 2) = some (.map mapEs 7) := by
            rw [← hG]; simp only [hget_hset, sep1 hlt, y4, if_false]; exact hm1
          have g4 : hget G (n1 + 3) = some (.box [.int .i64 i.k, .int .i64 i.n, eSs i.ls, eSs i.cs]) := by
            rw [← hG]; simp only [hget_hset, sep1 hlt1, if_true, if_false]
          have g5 : KeepsB pid H G := by
            rw [← hG]
            refine KeepsB.set (fun id ob hne hx => ?_)
            have := hf.lt hx
            rw [hget_hset_ne _ _ _ _ (by omega)]; exact hk1.set id ob hne hx
          have g6 : Fresh G (n1 + 5) := by
            rw [← hG]
            exact ((hfr1.hset (m := n1) (Nat.le_refl _) hlt1).hset (m := n1 + 5) (by omega) (by omega)).hset (Nat.le_refl _) (by omega)
          have gn : hget (hset H1 pid (pB src r1)) (n1 + 3) = none := by rw [hget_hset_ne _ _ _ _ (by omega)]; exact hfr1 _ (by omega)
          have g7 : tkG 4 (n + 12) G tq := by
            rw [← hG]
            exact ((hI.kq.set (.inl (by omega))).set (.inr (.inr gn))).set (.inl (by omega))
          have g8 : tkG 2 (n + 12) G tp := by
            rw [← hG]
            exact ((hI.kp.set (.inl (by omega))).set (.inr (.inr gn))).set (.inl (by omega))
          clear hG gn
          have hn59 := need_lt hn5
          have hql := qs_len cs ls ac
          have hpl := ps_len cs ls ac
          have okr : ∀ t ∈ r2, okTk t := by
            obtain ⟨u1, e1, -⟩ := lc_item.ok _ _ _ (q3.trans hgr)
            obtain ⟨u2, e2, -⟩ := (lc_need _).ok _ _ _ hn5
            intro t' ht
            exact hok1 t' (by rw [e1, e2]; simp [ht])
          have f1 : few cs = True := eq_true (by show cs.length < _; omega)
          have f2 : few ls = True := eq_true (by show ls.length < _; omega)
          have f3 : few i.cs = True := eq_true (by show i.cs.length < _; omega)
          have f4 : few i.ls = True := eq_true (by show i.ls.length < _; omega)
          have hT' : tot = (itemsR f r2).bd fun is q => lemG nm lv cs ls (ac ++ [i] ++ is) q := by
            rw [hT]
            show ((itemsR f r2).bd fun is q => Rs.ok (i :: is) q).bd _ = _
            cases itemsR f r2 <;> simp [Rs.bd]
          simp only [List.length_cons] at hf1
          by_cases hk0 : i.k = 0
          · obtain ⟨-, a, ha⟩ := item_shape (q3.trans hgr) hk0
            have a1 : appOK G 2 tp = True := eq_true g8.app
            have a2 : ((psOf cs ls ac).length ≤ 35184372088831) = True := eq_true (by omega)
            have a3 : small ((psOf cs ls ac).length + 1) 32 = True := eq_true (small_of (by omega) (by decide))
            have kn : hget (killTok G tp) n = some (.box (xC nm lv cs ls tq (qsOf cs ls ac) tp (psOf cs ls ac) 0 0)) := by rw [kill_get g8 (.inl (by omega))]; exact g2
            have hidx : idxs cs i.cs = [idxS cs a] := by rw [ha]; rfl
            have gno' := g6 (n1 + 13) (by omega)
            simp only [eE, eC, eN, reduceCtorEq, Nat.reduceEqDiff, ↓reduceIte, Nat.reduceAdd, Nat.reduceLeDiff, Nat.reduceMul, Nat.reduceLT, Int.reduceLT, c1, nS1, List.getElem?_cons_zero, Option.getD_some, Int.toNat_zero, Int.le_refl, retK, g2, g4, Tlm_f, s2, dSs, okL, decL, toSs_map, f1, f2, f3, f4, eFind, List.getElem?_cons_succ, hk0, hidx, a1, a2, a3, kn, gno', List.length_map, y2]
            have kp : hget (killTok G tp) pid = some (pB src r2) := by rw [kill_get g8 (.inl (by omega))]; exact g1
            have km : hget (killTok G tp) (n + 2) = some (.map mapEs 7) := by rw [kill_get g8 (.inl (by omega))]; exact g3
            have kf := kill_fresh g8 g6
            have ko : tkG 4 (n + 12) (killTok G tp) tq := g7.kill g8 (fun i h h2 => hI.dj i h h2)
            have kx : ∃ cs, hget (hset (killTok G tp) (n1 + 13) .tok) n = some (.box cs) := ⟨_, by rw [hget_hset_ne _ _ _ _ (by omega)]; exact kn⟩
            have gno := g6 (n1 + 13) (by omega)
            refine .mk ⟨f, r2, ac ++ [i], tq, .own (n1 + 13) 2, hset (hset (killTok G tp) (n1 + 13) .tok) n (.box (xC nm lv cs ls (tq) (qsOf cs ls (ac ++ [i])) (.own (n1 + 13) 2) (psOf cs ls (ac ++ [i])) 0 0)), n1 + 16⟩ ?_ ⟨by simp only []; omega, (kf.hset (m := n1 + 16) (by omega) (by omega)).hset (Nat.le_refl (n1 + 16)) (show n < n1 + 16 by omega), ?_, hget_hset_eq .., ?_, fun id ob hne hx => ?_, (ko.set (.inr (.inr (kill_none (lo := n + 12) g8 gno)))).set (.inr (.inl kx)), .inr (.inr ⟨n1 + 13, rfl, by omega, by rw [hget_hset_ne _ _ _ _ (by omega)]; exact hget_hset_eq ..⟩), fun j h h2 => ?_, ?_, ?_, ?_, okr, ?_, hT'⟩ (by simp only []; omega)
            · rw [qs_app0 hk0, ps_app0 hk0, ok_app, hidx]
              simp only [xC, List.map_append, List.map_cons, List.map_nil, List.getElem?_cons_zero, Option.getD_some]
            · simp only []
              rw [hget_hset_ne _ _ _ _ (by omega), hget_hset_ne _ _ _ _ (by omega)]; exact kp
            · simp only []
              rw [hget_hset_ne _ _ _ _ (by omega), hget_hset_ne _ _ _ _ (by omega)]; exact km
            · have := hf.lt hx
              simp only []
              rw [hget_hset_ne _ _ _ _ (by omega), hget_hset_ne _ _ _ _ (by omega), kill_get g8 (.inl (by omega))]; exact g5 id ob hne hx
            · cases h2
              rcases g7 with rfl | rfl | ⟨id, rfl, _, h3⟩
              · cases h
              · cases h
              · cases h; have := g6.lt h3; omega
            · simp only []; rw [qs_app0 hk0]; exact hI.eq
            · exact .inl rfl
            · simp only [List.length_append, List.length_cons, List.length_nil]; omega
            · simp only []; omega
          · have gno' := g6 (n1 + 15) (by omega)
            have a1 : appOK G 4 tq = True := eq_true g7.app
            have a2 : ((qsOf cs ls ac).length ≤ 35184372088831) = True := eq_true (by omega)
            have a3 : small ((qsOf cs ls ac).length + 1) 64 = True := eq_true (small_of (by omega) (by decide))
            have kn : hget (killTok G tq) n = some (.box (xC nm lv cs ls tq (qsOf cs ls ac) tp (psOf cs ls ac) 0 0)) := by rw [kill_get g7 (.inl (by omega))]; exact g2
            simp only [eE, eC, eN, reduceCtorEq, Nat.reduceEqDiff, ↓reduceIte, Nat.reduceAdd, Nat.reduceLeDiff, Nat.reduceMul, Nat.reduceLT, nS1, List.getElem?_cons_zero, Option.getD_some, retK, g2, g4, Tlm_f, s2, dSs, okL, decL, toSs_map, f1, f2, f3, f4, eFind, List.getElem?_cons_succ, hk0, a1, a2, a3, kn, gno', List.length_map, y2]
            have kp : hget (killTok G tq) pid = some (pB src r2) := by rw [kill_get g7 (.inl (by omega))]; exact g1
            have km : hget (killTok G tq) (n + 2) = some (.map mapEs 7) := by rw [kill_get g7 (.inl (by omega))]; exact g3
            have kf := kill_fresh g7 g6
            have ko : tkG 2 (n + 12) (killTok G tq) tp := g8.kill g7 (fun i h h2 => hI.dj i h2 h)
            have kx : ∃ cs, hget (hset (killTok G tq) (n1 + 15) .tok) n = some (.box cs) := ⟨_, by rw [hget_hset_ne _ _ _ _ (by omega)]; exact kn⟩
            have gno := g6 (n1 + 15) (by omega)
            refine .mk ⟨f, r2, ac ++ [i], .own (n1 + 15) 4, tp, hset (hset (killTok G tq) (n1 + 15) .tok) n (.box (xC nm lv cs ls (.own (n1 + 15) 4) (qsOf cs ls (ac ++ [i])) (tp) (psOf cs ls (ac ++ [i])) 0 0)), n1 + 18⟩ ?_ ⟨by simp only []; omega, (kf.hset (m := n1 + 18) (by omega) (by omega)).hset (Nat.le_refl (n1 + 18)) (show n < n1 + 18 by omega), ?_, hget_hset_eq .., ?_, fun id ob hne hx => ?_, .inr (.inr ⟨n1 + 15, rfl, by omega, by rw [hget_hset_ne _ _ _ _ (by omega)]; exact hget_hset_eq ..⟩), (ko.set (.inr (.inr (kill_none (lo := n + 12) g7 gno)))).set (.inr (.inl kx)), fun j h h2 => ?_, ?_, ?_, ?_, okr, ?_, hT'⟩ (by simp only []; omega)
            · rw [qs_app1 hk0, ps_app1 hk0, ok_app]
              simp only [xC, List.map_append, List.map_cons, List.map_nil]
            · simp only []
              rw [hget_hset_ne _ _ _ _ (by omega), hget_hset_ne _ _ _ _ (by omega)]; exact kp
            · simp only []
              rw [hget_hset_ne _ _ _ _ (by omega), hget_hset_ne _ _ _ _ (by omega)]; exact km
            · have := hf.lt hx
              simp only []
              rw [hget_hset_ne _ _ _ _ (by omega), hget_hset_ne _ _ _ _ (by omega), kill_get g7 (.inl (by omega))]; exact g5 id ob hne hx
            · cases h
              rcases g8 with rfl | rfl | ⟨id, rfl, _, h3⟩
              · cases h2
              · cases h2
              · cases h2; have := g6.lt h3; omega
            · exact .inl rfl
            · simp only []; rw [ps_app1 hk0]; exact hI.ep
            · simp only [List.length_append, List.length_cons, List.length_nil]; omega
            · simp only []; omega
    · simp only [eE, eC, eN, eX, reduceCtorEq, Nat.reduceEqDiff, ↓reduceIte, Nat.reduceAdd, Nat.reduceLeDiff, Bool.not_true, Bool.not_false, cS0, cS1, List.getElem?_cons_zero, Option.getD_some, Int.toNat_zero, Int.le_refl, sep1 hlt, retK, hk, xe_look, hm1, KT.is, map_fit, lookf, q1, xe_nf, Option.getD_none]
      refine st_bad t_fail hs hml (hget_hset_eq ..) rfl ?_
      simp only [eE, eN, hset_hset]
      rw [fail q3]
      exact ⟨rfl, hget_hset_eq .., hk1.set⟩
end Go.AM
end
section
set_option maxRecDepth 20000
set_option linter.all false
namespace Go.AM
open Go.Proofs Go.Lib
def Tm2 : Tab := tadd 18 (s1 dX FewL fun x => eI (chk x)) tnil
theorem Tm2_ok : TabOK Tryz.prog Tm2 := TabOK.tnil.add (q1 fun x h => p18 x h)
theorem Tm2_c (a : List AVal) (H : AHeap) : Tm2 18 a H = s1 dX FewL (fun x => eI (chk x)) a H := rfl
theorem chk_ne (x : Lma) : (!decide (chk x = 0)) = !lemOK x := by
  unfold chk
  cases lemOK x <;> rfl
theorem p29 (x : Lma) (hx : FewL x) : Pur Tryz.prog 29 [encL x] (.bool (!lemOK x)) := by
  refine .mk ⟨encL_under 0 x, trivial⟩ trivial (a29 (ev_awp Tm2_ok (ev_evK ?_)))
  simp only [eE, eN, Nat.reduceEqDiff, ↓reduceIte, Nat.reduceAdd, c29, Tm2_c, s1, dX_ok, dX_dec, eq_true hx]
  exact chk_ne x
def Tif : Tab := tadd 29 (s1 dX FewL fun x => .bool (!lemOK x)) tnil
theorem Tif_ok : TabOK Tryz.prog Tif := TabOK.tnil.add (q1 fun x h => p29 x h)
theorem Tif_c (a : List AVal) (H : AHeap) : Tif 29 a H = s1 dX FewL (fun x => .bool (!lemOK x)) a H := rfl
def FewLs (l : List Lma) : Prop := few l ∧ ∀ x ∈ l, FewL x
def badI (l : List Lma) : Int := match l.findIdx? (fun x => !lemOK x) with
  | some k => k
  | none => -1
theorem badI_any (l : List Lma) : decide (0 ≤ badI l) = !l.all lemOK := by
  unfold badI
  cases h : l.findIdx? (fun x => !lemOK x) with
  | none =>
    have := List.findIdx?_eq_none_iff.1 h
    have e : l.all lemOK = true := List.all_eq_true.2 fun x hx => by have := this x hx; simpa using this
    rw [e]; rfl
  | some k =>
    obtain ⟨h1, h2, -⟩ := List.findIdx?_eq_some_iff_getElem.1 h
    have e : l.all lemOK = false := List.all_eq_false.2 ⟨_, List.getElem_mem h1, by simpa using h2⟩
    rw [e]; simp
abbrev eLs (l : List Lma) : AVal := .sl (.none 8) (l.map encL)
theorem Ls_under (n : Nat) (l : List Lma) : unders n (l.map encL) := unders_map (encL_under n) l
theorem p73 (l : List Lma) (hl : FewLs l) : Pur Tryz.prog 73 [eLs l, .fn (.func 29) [] []] (eI (badI l)) := by
  refine .mk ⟨⟨trivial, Ls_under 0 l⟩, by simp [AVal.under, unders], trivial⟩ trivial (a73 (ev_awp Tif_ok (ev_evK ?_)))
  have hln := hl.1
  simp only [eE, eN, reduceCtorEq, Nat.reduceEqDiff, ↓reduceIte, Nat.reduceAdd, List.length_map, c73]
  refine k_loop (fun i : Nat => ⟨[(0, true, eLs l), (1, true, .fn (.func 29) [] []), (7, true, .int .i64 l.length), (8, true, .int .i64 i)], hnil, 0⟩) (fun i => i ≤ l.length ∧ ∀ j (hj : j < l.length), j < i → lemOK l[j] = true) (fun i => l.length - i) 0 rfl ⟨Nat.zero_le _, fun j hj h => by omega⟩ ?_
  rintro i ⟨hi, hall⟩
  by_cases hlt : i < l.length
  case neg =>
    simp only [eE, eC, eN, reduceCtorEq, Nat.reduceEqDiff, ↓reduceIte, lt_F hlt]
    unfold badI
    rw [find_none fun j hj => by rw [hall j hj (by omega)]; rfl]
  have hg := List.getElem?_eq_getElem hlt
  have e := w64_succ (k := i) (by omega)
  have hx := hl.2 _ (List.getElem_mem hlt)
  cases hb : lemOK l[i] with
  | false =>
    simp only [eE, eC, eN, reduceCtorEq, Nat.reduceEqDiff, ↓reduceIte, Nat.reduceAdd, Bool.not_false, Option.getD_some, Int.toNat_natCast, Int.natCast_nonneg, List.length_map, List.getElem?_map, lt_T hlt, hg, Tif_c, s1, dX_ok, dX_dec, eq_true hx, hb]
    unfold badI
    rw [find_some hlt (by rw [hb]; rfl) fun j hj h => by rw [hall j hj h]; rfl]
  | true =>
    simp only [eE, eC, eN, reduceCtorEq, Nat.reduceEqDiff, ↓reduceIte, Nat.reduceAdd, Int.reduceEq, Bool.not_true, Option.getD_some, Int.toNat_natCast, Int.natCast_nonneg, List.length_map, List.getElem?_map, lt_T hlt, hg, e, Tif_c, s1, dX_ok, dX_dec, eq_true hx, hb]
    refine .mk (i + 1) rfl ⟨hlt, fun j hj h => ?_⟩ (by omega)
    by_cases q : j = i
    · subst q; exact hb
    · exact hall j hj (by omega)
def sLf (f : List Lma → AVal) : List AVal → AHeap → Prop × AVal := fun a H => match a with
  | [x, .fn (.func 29) [] []] => (dXs.ok x ∧ FewLs (dXs.dec x), f (dXs.dec x))
  | _ => (False, .tup [])
theorem qLf {fid : FuncId} {f : List Lma → AVal} (h : ∀ l, FewLs l → Pur Tryz.prog fid [eLs l, .fn (.func 29) [] []] (f l)) : ∀ args H n, (sLf f args H).1 → Quiet Tryz.prog fid args H n (sLf f args H).2 := by
  intro args H n hh
  unfold sLf at hh ⊢
  split at hh
  · rename_i x
    refine ACalls.args ((h _ hh.2).quiet H n) ?_
    rintro g vs ⟨v, r, rfl, k1, k2⟩
    exact ⟨v, _, rfl, dXs.wk _ hh.1 _ _ k1, k2⟩
  · exact hh.elim
theorem dXs_ok {t : Tok} {l : List Lma} (h : t.esz = 8 ∨ l = []) : dXs.ok (.sl t (l.map encL)) = True := eq_true (by
  refine ⟨h.imp id fun e => by rw [e]; rfl, ?_⟩
  rw [map_dec decX_enc])
theorem dXs_dec {t : Tok} {l : List Lma} : dXs.dec (.sl t (l.map encL)) = l := map_dec decX_enc l
def Tcf : Tab := tadd 73 (sLf fun l => eI (badI l)) tnil
theorem Tcf_ok : TabOK Tryz.prog Tcf := TabOK.tnil.add (qLf p73)
theorem Tcf_c (a : List AVal) (H : AHeap) : Tcf 73 a H = sLf (fun l => eI (badI l)) a H := rfl
theorem p28 (l : List Lma) (hl : FewLs l) : Pur Tryz.prog 28 [eLs l, .fn (.func 29) [] []] (.bool (!l.all lemOK)) := by
  refine .mk ⟨⟨trivial, Ls_under 0 l⟩, by simp [AVal.under, unders], trivial⟩ trivial (a28 (ev_awp Tcf_ok (ev_evK ?_)))
  simp only [eE, eN, reduceCtorEq, Nat.reduceEqDiff, ↓reduceIte, Nat.reduceAdd, c28, Tcf_c, sLf, dXs_ok (t := .none 8) (l := l) (.inl rfl), dXs_dec, eq_true hl, badI_any]
theorem items_cnt : ∀ (f : Nat) {l r : List Tkn} {is : List Itm}, itemsR f l = .ok is r → is.length ≤ l.length ∧ (∀ i ∈ is, i.cs.length ≤ l.length ∧ i.ls.length ≤ l.length) ∧ r.length ≤ l.length
  | 0, l, r, is, h => by cases h
  | f + 1, l, r, is, h => by
    rw [itemsR] at h
    split at h
    · cases h; exact ⟨Nat.zero_le _, (fun i hi => by cases hi), by rw [List.length_tail]; omega⟩
    · obtain ⟨i, q, h1, h⟩ := bd_ok' h
      obtain ⟨_, q2, h2, h⟩ := bd_ok' h
      obtain ⟨js, q3, h3, h⟩ := bd_ok' h
      cases h
      have k1 := item_cnt h1
      have k2 := need_lt h2
      obtain ⟨k3, k4, k5⟩ := items_cnt f h3
      refine ⟨by simp only [List.length_cons]; omega, fun j hj => ?_, by omega⟩
      rcases List.mem_cons.1 hj with rfl | hj
      · omega
      · have := k4 j hj; omega
theorem lem_few {l r : List Tkn} {d : Drf} (hl : l.length < 1000000000) (h : lemR l = .ok d r) : FewL (resolve d) := by
  rw [lem_eq] at h
  obtain ⟨_, r1, h1, h⟩ := bd_ok' h
  obtain ⟨nm, r2, h2, h⟩ := bd_ok' h
  obtain ⟨_, r3, h3, h⟩ := bd_ok' h
  obtain ⟨lv, r4, h4, h⟩ := bd_ok' h
  obtain ⟨_, r5, h5, h⟩ := bd_ok' h
  obtain ⟨cs, r6, h6, h⟩ := bd_ok' h
  obtain ⟨_, r7, h7, h⟩ := bd_ok' h
  obtain ⟨ls, r8, h8, h⟩ := bd_ok' h
  obtain ⟨_, r9, h9, h⟩ := bd_ok' h
  obtain ⟨is, r10, h10, h⟩ := bd_ok' h
  unfold lemG at h
  obtain ⟨c, _, _, h⟩ := bd_ok' h
  obtain ⟨x, _, _, h⟩ := bd_ok' h
  obtain ⟨_, _, _, h⟩ := bd_ok' h
  cases h
  have k1 := need_cnt h1
  have k2 := name_cnt h2
  have k3 := need_cnt h3
  have k4 := numb_cnt h4
  have k5 : r5.length ≤ r4.length := by obtain ⟨_, q, a, b⟩ := bd_ok' h5; have := need_cnt a; have := need_cnt b; omega
  have k6 := names_cnt h6
  have k7 : r7.length ≤ r6.length := by obtain ⟨_, q, a, b⟩ := bd_ok' h7; have := need_cnt a; have := need_cnt b; omega
  have k8 := names_cnt h8
  have k9 := need_cnt h9
  obtain ⟨k10, k11, k12⟩ := items_cnt _ h10
  refine ⟨by show cs.length < _; omega, by show ls.length < _; omega, ?_, ?_, fun q hq => ?_, fun p hp => ?_⟩
  · show (qsOf cs ls is).length < _
    have := qs_len cs ls is; omega
  · show (psOf cs ls is).length < _
    have := ps_len cs ls is; omega
  · obtain ⟨i, hi, rfl⟩ := List.mem_map.1 (show q ∈ (is.filter fun i => decide (i.k ≠ 0)).map _ from hq)
    have := k11 i (List.mem_filter.1 hi).1
    simp only [few, idxs, List.length_map]; omega
  · obtain ⟨i, hi, rfl⟩ := List.mem_map.1 (show p ∈ (is.filter fun i => decide (i.k = 0)).map _ from hp)
    have := k11 i (List.mem_filter.1 hi).1
    simp only [few, idxs, List.length_map]; omega
theorem step_exact {α : Type} {fid : FuncId} {xs : List AVal} {enc : α → AVal} {g : Rs α} {src : Bs} {l : List Tkn} {pid : Nat} {H : AHeap} {n : Nat} (hc : Callable Tryz.prog fid) (he : ∀ n a, (enc a).under n) (hp : hget H pid = some (pB src l))
    (h : Fresh H n → pid < n → ACalls Tryz.prog fid (.ptr pid 0 :: xs) H n (WPost enc src H pid g)) : ACalls Tryz.prog fid (.ptr pid 0 :: xs) H n (SPost enc src H n pid g) := by
  refine ACalls.fresh hc fun hf => ?_
  refine ACalls.forget (h hf (hf.lt hp)) ?_
  intro o H' n' q
  cases hg : g with
  | ok a r =>
    rw [hg] at q
    obtain ⟨⟨v, rfl, hw⟩, h1, h2⟩ := q
    exact ⟨.ret (enc a), _, ⟨rfl, rfl, rfl⟩, step_forget hf hp h1 h2, hw, he n a⟩
  | bad r =>
    rw [hg] at q
    obtain ⟨rfl, h1, h2⟩ := q
    exact ⟨.pan (wrongV src r), _, ⟨rfl, rfl, rfl⟩, step_forget hf hp h1 h2, Wk.refl _, trivial⟩
theorem t_lemmaS {src : Bs} {l : List Tkn} {pid : Nat} {H : AHeap} {n : Nat} (hs : src.length < 1000000000) (hl : l.length < 1000000000) (hok : ∀ t ∈ l, okTk t) (hp : hget H pid = some (pB src l)) :
    ACalls Tryz.prog 27 [.ptr pid 0] H n (SPost encD src H n pid (lemR l)) :=
  step_exact l27 (fun n d => ⟨encL_under n _, trivial, trivial⟩) hp fun hf hlt => t_lemma hs hl hok hp hf hlt
end Go.AM
end
section
set_option maxRecDepth 20000
set_option linter.all false
namespace Go.AM
open Go.Proofs Go.Lib
def plV (r : PL) : AVal := .tup [eLs r.ls, .int .i64 r.a, .int .i64 r.e]
def parseMV (src : Bs) : AVal := plV (parseLm src)
theorem lexV_all (src : Bs) : (65536 < src.length ∧ lexV src = .tup [.sl (.none 4) [], .int .i64 0, .int .i64 2] ∧ parseLm src = ⟨[], 0, 2⟩) ∨
    (src.length ≤ 65536 ∧ ∃ a ts, lx src 0 = .ok a ts ∧ ts.length ≤ src.length ∧ (∀ t ∈ ts, okTk t) ∧ lexV src = .tup [.sl (.none 4) (ts.map encK), .int .i64 0, .int .i64 0]) ∨
    (src.length ≤ 65536 ∧ ∃ a, lexV src = .tup [.sl (.none 4) [], .int .i64 a, .int .i64 100] ∧ parseLm src = ⟨[], a, 100⟩) := by
  unfold lexV
  split
  · rename_i h; exact .inl ⟨h, rfl, by unfold parseLm; rw [if_pos h]⟩
  · rename_i h
    rw [lexR_lx]
    cases hr : lx src 0 with
    | ok a ts =>
      obtain ⟨-, hv, -, hlen⟩ := lx_ok _ _ _ _ _ rfl hr
      refine .inr (.inl ⟨by omega, a, ts, rfl, hlen, fun t ht => ?_, rfl⟩)
      have := List.all_eq_true.1 hv t ht
      unfold okTk
      unfold validS at this
      split at this
      · exact .inl (by assumption)
      split at this
      · exact .inr (.inl (by assumption))
      split at this
      · refine .inr (.inr ?_)
        simp only [Bool.and_eq_true, decide_eq_true_eq] at this
        omega
      · cases this
    | err a => exact .inr (.inr ⟨by omega, a, rfl, by unfold parseLm; rw [if_neg h, hr]⟩)
def Tps : Tab := tadd 22 s22 (tadd 28 (sLf fun l => .bool (!l.all lemOK)) tnil)
theorem Tps_ok : TabOK Tryz.prog Tps := (TabOK.tnil.add (qLf p28)).add q22
theorem Tps_lex (a : List AVal) (H : AHeap) : Tps 22 a H = s22 a H := rfl
theorem Tps_cf (a : List AVal) (H : AHeap) : Tps 28 a H = sLf (fun l => .bool (!l.all lemOK)) a H := rfl
theorem dPn {H : AHeap} {n i0 i1 i2 : Nat} : ADefer Tryz.prog 26 [.ptr i0 0, .ptr i1 0, .ptr i2 0] .nilifc H n (fun H' n' => H' = H ∧ n' = n) := by
  refine a26 (ev_awp TabOK.tnil (ev_evK ?_))
  simp only [eE, eC, eN, reduceCtorEq, Nat.reduceEqDiff, ↓reduceIte, Nat.reduceAdd, Bool.not_true, c26, xe_n0]
theorem dPp {H : AHeap} {n : Nat} {x y z : AVal} {p : Int} (h0 : hget H 0 = some (.box [x])) (h1 : hget H 1 = some (.box [y])) (h2 : hget H 2 = some (.box [z])) :
    ADefer Tryz.prog 26 [.ptr 0 0, .ptr 1 0, .ptr 2 0] (.ifc 59 (.int .i64 p)) H n (fun H' n' => hget H' 0 = some (.box [.sl .nil []]) ∧ hget H' 1 = some (.box [.int .i64 p]) ∧ hget H' 2 = some (.box [.int .i64 150])) := by
  refine a26 (ev_awp TabOK.tnil (ev_evK ?_))
  simp only [eE, eC, eN, reduceCtorEq, Nat.reduceEqDiff, ↓reduceIte, Nat.reduceAdd, c26, xe_n1, xe_tas, h0, h1, h2]
abbrev rsP : List RC := [.c 2 1 false, .c 3 1 false, .c 4 1 false]
abbrev envP (src : Bs) : List (Nat × Bool × AVal) := [(0, true, .str src), (2, true, .ptr 0 0), (3, true, .ptr 1 0), (4, true, .ptr 2 0)]
abbrev argsP : List AVal := [.ptr 0 0, .ptr 1 0, .ptr 2 0]
theorem rc_P {src : Bs} {H : AHeap} {n : Nat} {x y z r : AVal} (h0 : hget H 0 = some (.box [x])) (h1 : hget H 1 = some (.box [y])) (h2 : hget H 2 = some (.box [z])) (hw : Wk (.tup [x, y, z]) r) : RcOf rsP (envP src) (Ret r) H n := by
  unfold RcOf
  simp only [eE, reduceCtorEq, Nat.reduceEqDiff, ↓reduceIte, rcell, h0, h1, h2]
  exact hw
theorem px_panP {src : Bs} {H : AHeap} {m : Nat} {x y z r : AVal} {p : Int} (h0 : hget H 0 = some (.box [x])) (h1 : hget H 1 = some (.box [y])) (h2 : hget H 2 = some (.box [z])) (hr : r = plV ⟨[], p, 150⟩) :
    postX Tryz.prog 26 argsP rsP (envP src) (Ret r) (.pan (.ifc 59 (.int .i64 p))) ⟨[], H, m⟩ := by
  subst hr
  refine ADefer.mono (dPp h0 h1 h2) ?_
  rintro H2 n2 ⟨k1, k2, k3⟩
  exact rc_P k1 k2 k3 (Wk.tup3 (Wk.sl (.inr rfl)) (Wk.refl _) (Wk.refl _))
theorem px_retP {src : Bs} {H : AHeap} {m : Nat} {env : List (Nat × Bool × AVal)} {x y z r : AVal} (h0 : hget H 0 = some (.box [x])) (h1 : hget H 1 = some (.box [y])) (h2 : hget H 2 = some (.box [z])) (hw : Wk (.tup [x, y, z]) r) :
    postX Tryz.prog 26 argsP rsP (envP src) (Ret r) .ret ⟨env, H, m⟩ := by
  refine ADefer.mono dPn ?_
  rintro H2 n2 ⟨rfl, -⟩
  exact rc_P h0 h1 h2 hw
structure VP where
  f : Nat
  m : List Tkn
  ds : List Drf
  tk : Tok
  H : AHeap
  n : Nat
structure IP (src : Bs) (ts : List Tkn) (v : VP) : Prop where
  hn : 8 ≤ v.n
  fr : Fresh v.H v.n
  hp : hget v.H 6 = some (pB src v.m)
  h0 : hget v.H 0 = some (.box [.sl v.tk ((v.ds.map resolve).map encL)])
  h1 : ∃ x, hget v.H 1 = some (.box [x])
  h2 : ∃ x, hget v.H 2 = some (.box [x])
  tok : tkG 8 7 v.H v.tk
  es : v.tk.esz = 8 ∨ v.ds = []
  hf : v.m.length < v.f
  hl : v.m.length + v.ds.length ≤ ts.length
  ok : ∀ t ∈ v.m, okTk t
  few : ∀ d ∈ v.ds, FewL (resolve d)
  eq : allR (ts.length + 1) ts = (allR v.f v.m).bd fun ds' q => .ok (v.ds ++ ds') q
def plOf (src : Bs) : Rs (List Drf) → PL
  | .bad r => ⟨[], placeS src r, 150⟩
  | .ok ds _ => if 16 < ds.length then ⟨[], 0, 2⟩ else if (ds.all named) = false then ⟨[], 0, 160⟩ else if ((ds.map resolve).all lemOK) = false then ⟨[], 0, 300⟩ else ⟨ds.map resolve, 0, 0⟩
theorem parse_plOf {src : Bs} {a : Nat} {ts : List Tkn} (h : src.length ≤ 65536) (hr : lx src 0 = .ok a ts) : parseMV src = plV (plOf src (allR (ts.length + 1) ts)) := by
  unfold parseMV parseLm
  rw [if_neg (by omega), hr]
  rfl
abbrev z8 : List AVal := [.str [], .int .i64 0, .sl .nil [], .sl .nil [], .sl .nil [], .sl .nil [], .int .i64 0, .int .i64 0]
abbrev hpP (src : Bs) (H : AHeap) (n : Nat) (r : List Tkn) (x : Lma) : AHeap := hset (hset (hset H 6 (pB src r)) (n + 5) (.box z8)) (n + 5) (.box (cellsL x))
theorem all_step {f : Nat} {m : List Tkn} (h : m ≠ []) : allR (f + 1) m = (lemR m).bd fun d r => (allR f r).bd fun ds q => .ok (d :: ds) q := by
  cases m with
  | nil => exact absurd rfl h
  | cons t r => rfl
theorem all_nil (f : Nat) : allR f [] = .ok [] [] := by cases f <;> rfl
theorem p11 (src : Bs) (hs : src.length < 1000000000) : Pur Tryz.prog 11 [.str src] (parseMV src) := by
  refine .mk ⟨trivial, trivial⟩ ⟨⟨trivial, Ls_under 0 _⟩, trivial, trivial, trivial⟩ (a11 (ev_awp Tps_ok (ev_evK ?_)))
  rcases lexV_all src with ⟨h6, hv, hp⟩ | ⟨h6, a, ts, hr, hlen, hok, hv⟩ | ⟨h6, a, hv, hp⟩
  · unfold parseMV
    rw [hp]
    simp only [eE, eC, eN, reduceCtorEq, Nat.reduceEqDiff, ↓reduceIte, Nat.reduceAdd, Nat.reduceLT, Int.reduceEq, Bool.not_false, rcell, Option.getD_some, List.getElem?_cons_zero, List.getElem?_cons_succ, c11_0, c11_1, c11_2, aspine, postD, Tps_lex, s22, hs, hv, atK, atN]
    exact Wk.tup3 (Wk.sl (.inr rfl)) (Wk.refl _) (Wk.refl _)
  · simp only [eE, eC, eN, reduceCtorEq, Nat.reduceEqDiff, ↓reduceIte, Nat.reduceAdd, Nat.reduceLT, Bool.not_true, Option.getD_some, List.getElem?_cons_zero, List.getElem?_cons_succ, c11_0, c11_1, c11_2, aspine, postD, stepOp, Tps_lex, s22, hs, hv]
    refine ⟨_, _, rfl, ev_awp Tps_ok (ev_evK ?_)⟩
    generalize hE : List.filter (fun (e : Nat × Bool × AVal) => Nat.blt e.1 5) _ = E
    have hE' : E = envP src := by rw [← hE]; rfl
    subst hE'
    clear hE
    rw [List.nil_append]
    rw [parse_plOf h6 hr]
    simp only [eE, eN, reduceCtorEq, Nat.reduceEqDiff, ↓reduceIte, Nat.reduceAdd, Nat.reduceLeDiff, c11]
    refine k_loop (fun v : VP => ⟨[(2, true, .ptr 0 0), (3, true, .ptr 1 0), (4, true, .ptr 2 0), (6, true, .ptr 6 0), (7, true, .bool (v.ds.all named))], v.H, v.n⟩) (IP src ts) (fun v => v.f)
      ⟨ts.length + 1, ts, [], .nil, hset (hset (hset (hset (hset (hset hnil 0 (.box [.sl .nil []])) 1 (.box [.int .i64 0])) 2 (.box [.int .i64 0])) 1 (.box [.int .i64 0])) 2 (.box [.int .i64 0])) 6 (pB src ts), 8⟩ rfl
      ⟨Nat.le_refl _, fun id hid => ?_, rfl, rfl, ⟨_, rfl⟩, ⟨_, rfl⟩, .inl rfl, .inr rfl, Nat.lt_succ_self _, Nat.le_refl _, hok, fun d hd => (by cases hd), ?_⟩ ?_
    · simp only [] at hid ⊢
      simp only [hget_hset]
      repeat rw [if_neg (by omega)]
      rfl
    · simp only [List.nil_append]
      cases allR (ts.length + 1) ts <;> rfl
    rintro ⟨f, m, ds, tk, H, n⟩ ⟨hn, hfr, hp1, h0, ⟨x1, h1⟩, ⟨x2, h2⟩, htk, hes, hf, hl, hok1, hfew, heq⟩
    simp only at hn hfr hp1 h0 h1 h2 htk hes hf hl hok1 hfew heq
    by_cases hm : m = []
    · subst hm
      rw [all_nil] at heq
      rw [heq]
      simp only [Rs.bd, List.append_nil, plOf]
      have l0 : ((0 : Int) < (([] : List Tkn).length : Int)) = False := eq_false (by simp)
      have hesT : tk.esz = 8 ∨ (ds.map resolve) = [] := hes.imp id fun e => by rw [e]; rfl
      have hwk : ∀ ls a e, ds.map resolve = ls → Wk (.tup [.sl tk ((ds.map resolve).map encL), .int .i64 a, .int .i64 e]) (plV ⟨ls, a, e⟩) := fun ls a e he => by
        subst he
        exact Wk.tup3 (Wk.sl (hesT.imp id fun e => by rw [e]; rfl)) (Wk.refl _) (Wk.refl _)
      have hfl : FewLs (ds.map resolve) := ⟨by show (ds.map resolve).length < _; rw [List.length_map]; omega, fun x hx => by
        obtain ⟨d, hd, rfl⟩ := List.mem_map.1 hx; exact hfew d hd⟩
      have hn0 : ∀ e, Wk (.tup [.sl .nil [], .int .i64 0, .int .i64 e]) (plV ⟨[], 0, e⟩) := fun e => Wk.tup3 (Wk.sl (.inr rfl)) (Wk.refl _) (Wk.refl _)
      by_cases h16 : 16 < ds.length
      · have l16 : ((16 : Int) < (ds.length : Int)) = True := eq_true (by omega)
        rw [if_pos h16]
        simp only [eE, eC, eN, reduceCtorEq, Nat.reduceEqDiff, ↓reduceIte, Nat.reduceAdd, c0, i00, List.length_map, hp1, h0, h1, h2, l16]
        exact px_retP (x := .sl .nil []) (y := .int .i64 0) (z := .int .i64 2) rfl rfl rfl (hn0 2)
      have l16 : ((16 : Int) < (ds.length : Int)) = False := eq_false (by omega)
      rw [if_neg h16]
      cases hnm : ds.all named with
      | false =>
        rw [if_pos rfl]
        simp only [eE, eC, eN, reduceCtorEq, Nat.reduceEqDiff, ↓reduceIte, Nat.reduceAdd, Bool.not_false, c0, i00, List.length_map, hp1, h0, h1, h2, l16]
        exact px_retP (x := .sl .nil []) (y := .int .i64 0) (z := .int .i64 160) rfl rfl rfl (hn0 160)
      | true =>
        rw [if_neg (by decide)]
        cases hva : (ds.map resolve).all lemOK with
        | false =>
          rw [if_pos rfl]
          simp only [eE, eC, eN, reduceCtorEq, Nat.reduceEqDiff, ↓reduceIte, Nat.reduceAdd, Bool.not_true, Bool.not_false, c0, i00, List.length_map, hp1, h0, h1, h2, l16, Tps_cf, sLf, dXs_ok hesT, dXs_dec, eq_true hfl, hva]
          exact px_retP (x := .sl .nil []) (y := .int .i64 0) (z := .int .i64 300) rfl rfl rfl (hn0 300)
        | true =>
          rw [if_neg (by decide)]
          simp only [eE, eC, eN, reduceCtorEq, Nat.reduceEqDiff, ↓reduceIte, Nat.reduceAdd, Bool.not_true, c0, i00, List.length_map, hp1, h0, h1, h2, l16, Tps_cf, sLf, dXs_ok hesT, dXs_dec, eq_true hfl, hva]
          exact px_retP (x := .sl tk ((ds.map resolve).map encL)) (y := .int .i64 0) (z := .int .i64 0) rfl rfl rfl (hwk _ 0 0 rfl)
    · have hmp : ((0 : Int) < (m.length : Int)) = True := eq_true (by have := List.length_pos_iff.2 hm; omega)
      obtain ⟨f, rfl⟩ : ∃ g, f = g + 1 := ⟨f - 1, by omega⟩
      rw [all_step hm] at heq
      simp only [eE, eC, eN, Nat.reduceEqDiff, ↓reduceIte, Nat.reduceAdd, List.length_map, hp1, hmp]
      refine (t_lemmaS hs (by omega) hok1 hp1).mono fun o H' n' hq => ?_
      cases hlm : lemR m with
      | bad r =>
        rw [hlm] at hq heq
        obtain ⟨rfl, rfl, rfl⟩ := hq
        simp only [eE, eN, retK]
        rw [heq]
        exact px_panP (x := .sl tk ((ds.map resolve).map encL)) (y := x1) (z := x2) (by rw [hget_hset_ne _ _ _ _ (by decide)]; exact h0) (by rw [hget_hset_ne _ _ _ _ (by decide)]; exact h1) (by rw [hget_hset_ne _ _ _ _ (by decide)]; exact h2) rfl
      | ok d r =>
        rw [hlm] at hq heq
        obtain ⟨rfl, rfl, rfl⟩ := hq
        have hrl := lem_lt hlm
        have hdf := lem_few (by omega) hlm
        have y1 : ∀ k, (n + k = 6) = False := fun k => eq_false (by omega)
        have y0 : ∀ k, (n + k = 0) = False := fun k => eq_false (by omega)
        have gt : tkG 8 7 (hpP src H n r (resolve d)) tk := ((htk.set (.inl (by decide))).set (.inr (.inr (by rw [hget_hset_ne _ _ _ _ (by omega)]; exact hfr _ (by omega))))).set (.inr (.inl ⟨_, hget_hset_eq ..⟩))
        have gf : Fresh (hpP src H n r (resolve d)) (n + 8) := ((hfr.hset (m := n) (Nat.le_refl _) (by omega)).hset (m := n + 8) (by omega) (by omega)).hset (Nat.le_refl (n + 8)) (by omega)
        have a1 : appOK (hpP src H n r (resolve d)) 8 tk = True := eq_true gt.app
        have a2 : (ds.length ≤ 35184372088831) = True := eq_true (by omega)
        have a3 : small (ds.length + 1) 136 = True := eq_true (small_of (by omega) (by decide))
        have gk : ∀ i, i < 7 → hget (killTok (hpP src H n r (resolve d)) tk) i = hget (hset H 6 (pB src r)) i := fun i hi => by
          rw [kill_get gt (.inl hi), hget_hset_ne _ _ _ _ (by omega), hget_hset_ne _ _ _ _ (by omega)]
        have k0 : hget (killTok (hpP src H n r (resolve d)) tk) 0 = some (.box [.sl tk ((ds.map resolve).map encL)]) := by rw [gk 0 (by decide), hget_hset_ne _ _ _ _ (by decide)]; exact h0
        have g11 := hfr (n + 11) (by omega)
        have n1 : (n = 1) = False := eq_false (by omega)
        simp only [eE, eC, eN, reduceCtorEq, Nat.reduceEqDiff, ↓reduceIte, Nat.reduceAdd, Nat.reduceLeDiff, Nat.reduceMul, Nat.reduceLT, Option.getD_some, List.length_map, List.getElem?_cons_zero, List.getElem?_cons_succ, retK, fr1 hfr, y0, h0, a1, a2, a3, k0, natE3, n1]
        have okr : ∀ t ∈ r, okTk t := by
          obtain ⟨u, e1, -⟩ := lc_lem.ok _ _ _ hlm
          intro t ht; exact hok1 t (by rw [e1]; simp [ht])
        refine .mk ⟨f, r, ds ++ [d], .own (n + 11) 8, hset (hset (killTok (hpP src H n r (resolve d)) tk) (n + 11) .tok) 0 (.box [.sl (.own (n + 11) 8) (((ds ++ [d]).map resolve).map encL)]), n + 13⟩ ?_ ⟨by simp only []; omega, ((kill_fresh gt gf).hset (m := n + 13) (by omega) (by omega)).hset (Nat.le_refl (n + 13)) (show 0 < n + 13 by omega), ?_, hget_hset_eq .., ⟨x1, ?_⟩, ⟨x2, ?_⟩, .inr (.inr ⟨n + 11, rfl, by omega, ?_⟩), .inl rfl, by simp only []; omega, ?_, okr, fun e he => ?_, ?_⟩ (by simp only []; omega)
        · simp only [List.map_append, List.map_cons, List.map_nil, List.all_append, List.all_cons, List.all_nil, Bool.and_true]
        · simp only []
          rw [hget_hset_ne _ _ _ _ (by decide), hget_hset_ne _ _ _ _ (by omega), gk 6 (by decide)]; exact hget_hset_eq ..
        · simp only []
          rw [hget_hset_ne _ _ _ _ (by decide), hget_hset_ne _ _ _ _ (by omega), gk 1 (by decide), hget_hset_ne _ _ _ _ (by decide)]; exact h1
        · simp only []
          rw [hget_hset_ne _ _ _ _ (by decide), hget_hset_ne _ _ _ _ (by omega), gk 2 (by decide), hget_hset_ne _ _ _ _ (by decide)]; exact h2
        · rw [hget_hset_ne _ _ _ _ (by omega)]; exact hget_hset_eq ..
        · simp only [List.length_append, List.length_cons, List.length_nil]; omega
        · rcases List.mem_append.1 he with h | h
          · exact hfew e h
          · rw [List.mem_singleton.1 h]; exact hdf
        · rw [heq]
          simp only [Rs.bd]
          cases allR f r <;> simp
  · unfold parseMV
    rw [hp]
    simp only [eE, eC, eN, reduceCtorEq, Nat.reduceEqDiff, ↓reduceIte, Nat.reduceAdd, Nat.reduceLT, Int.reduceEq, Bool.not_false, rcell, Option.getD_some, List.getElem?_cons_zero, List.getElem?_cons_succ, c11_0, c11_1, c11_2, aspine, postD, Tps_lex, s22, hs, hv, atK, atN]
    exact Wk.tup3 (Wk.sl (.inr rfl)) (Wk.refl _) (Wk.refl _)
end Go.AM
end
section
set_option maxRecDepth 20000
set_option linter.all false
namespace Go.AM
open Go.Proofs Go.Lib
noncomputable def same {α : Type} (a b : α) : Bool := @decide (a = b) (Classical.propDecidable _)
theorem same_iff {α : Type} {a b : α} : same a b = true ↔ a = b := by unfold same; exact @decide_eq_true_iff _ (Classical.propDecidable _)
theorem same_no {α : Type} {a b : α} (h : a ≠ b) : same a b = false := by
  cases q : same a b with
  | false => rfl
  | true => exact absurd (same_iff.1 q) h
theorem same_rfl {α : Type} (a : α) : same a a = true := same_iff.2 rfl
theorem same_of {α : Type} {a b : α} {x : Bool} (h : x = true ↔ a = b) : x = same a b := by
  cases x with
  | true => exact (same_iff.2 (h.1 rfl)).symm
  | false => exact (same_no fun e => by have := h.2 e; cases this).symm
theorem cnd_ext {a b : Cnd} : a = b ↔ a.k = b.k ∧ a.n = b.n ∧ a.cs = b.cs ∧ a.ls = b.ls := by
  cases a; cases b; simp only [Cnd.mk.injEq]; exact ⟨fun ⟨h1, h2, h3, h4⟩ => ⟨h1, h4, h2, h3⟩, fun ⟨h1, h2, h3, h4⟩ => ⟨h1, h3, h4, h2⟩⟩
theorem prm_ext {a b : Prm} : a = b ↔ a.c = b.c ∧ a.ls = b.ls := by cases a; cases b; simp only [Prm.mk.injEq]
theorem lma_ext {a b : Lma} : a = b ↔ a.nm = b.nm ∧ a.lv = b.lv ∧ a.cs = b.cs ∧ a.ls = b.ls ∧ a.qs = b.qs ∧ a.ps = b.ps ∧ a.c = b.c ∧ a.l = b.l := by cases a; cases b; simp only [Lma.mk.injEq]
abbrev fewQ (q : Cnd) : Prop := few q.cs ∧ few q.ls
abbrev fewP (p : Prm) : Prop := few p.ls
def dM : Dc Prm := dEx encM decM
theorem dM_ok (q : Prm) : dM.ok (encM q) = True := eq_true (by show encM q = encM (decM (encM q)); rw [decM_enc])
theorem dM_dec (q : Prm) : dM.dec (encM q) = q := decM_enc q
def Tei : Tab := tadd 42 (s2 dIs dIs (fun a _ => few a) fun a b => .bool (decide (a = b))) tnil
theorem Tei_ok : TabOK Tryz.prog Tei := TabOK.tnil.add (q2 p42)
theorem Tei_e (a : List AVal) (H : AHeap) : Tei 42 a H = s2 dIs dIs (fun a _ => few a) (fun a b => .bool (decide (a = b))) a H := rfl
theorem p41 (a b : Cnd) (ha : fewQ a) : Pur Tryz.prog 41 [encQ a, encQ b] (.bool (same a b)) := by
  refine .mk ⟨encQ_under 0 a, encQ_under 0 b, trivial⟩ trivial (a41 (ev_awp Tei_ok (ev_evK ?_)))
  have h1 := ha.1
  have h2 := ha.2
  simp only [eE, eC, eN, reduceCtorEq, Nat.reduceEqDiff, ↓reduceIte, Nat.reduceAdd, Nat.reduceLeDiff, c41, Tei_e, s2, dIs, okL, decL, eI_map, h1, h2]
  refine same_of ?_
  rw [cnd_ext]
  simp only [Bool.and_eq_true, decide_eq_true_eq, and_assoc]
theorem p44 (a b : Prm) (ha : fewP a) : Pur Tryz.prog 44 [encM a, encM b] (.bool (same a b)) := by
  refine .mk ⟨encM_under 0 a, encM_under 0 b, trivial⟩ trivial (a44 (ev_awp Tei_ok (ev_evK ?_)))
  have h1 := ha
  simp only [eE, eC, eN, reduceCtorEq, Nat.reduceEqDiff, ↓reduceIte, Nat.reduceAdd, Nat.reduceLeDiff, c44, Tei_e, s2, dIs, okL, decL, eI_map, h1]
  refine same_of ?_
  rw [prm_ext]
  simp only [Bool.and_eq_true, decide_eq_true_eq]
noncomputable def Teq : Tab := tadd 41 (s2 dQ dQ (fun a _ => fewQ a) fun a b => .bool (same a b)) tnil
theorem Teq_ok : TabOK Tryz.prog Teq := TabOK.tnil.add (q2 p41)
theorem Teq_e (a : List AVal) (H : AHeap) : Teq 41 a H = s2 dQ dQ (fun a _ => fewQ a) (fun a b => .bool (same a b)) a H := rfl
theorem p40 (a b : List Cnd) (ha : few a) (hq : ∀ x ∈ a, fewQ x) : Pur Tryz.prog 40 [.sl (.none 4) (a.map encQ), .sl (.none 4) (b.map encQ), .fn (.func 41) [] []] (.bool (same a b)) := by
  refine .mk ⟨⟨trivial, unders_map (encQ_under 0) a⟩, ⟨trivial, unders_map (encQ_under 0) b⟩, by simp [AVal.under, unders], trivial⟩ trivial (a40 (ev_awp Teq_ok (ev_evK ?_)))
  by_cases hl : a.length = b.length
  case neg =>
    simp only [eE, eC, eN, reduceCtorEq, Nat.reduceEqDiff, ↓reduceIte, Nat.reduceAdd, Bool.not_false, List.length_map, c40, len_ne hl, Bool.not_false]
    exact (same_no fun e => hl (by rw [e])).symm
  simp only [eE, eC, eN, reduceCtorEq, Nat.reduceEqDiff, ↓reduceIte, Nat.reduceAdd, Bool.not_true, List.length_map, c40, len_eq hl]
  refine k_loop (fun i : Nat => ⟨[(1, true, .sl (.none 4) (b.map encQ)), (2, true, .fn (.func 41) [] []), (15, true, .sl (.none 4) (a.map encQ)), (16, true, .int .i64 a.length), (17, true, .int .i64 i)], hnil, 0⟩) (fun i => i ≤ a.length ∧ ∀ j, j < i → a[j]? = b[j]?) (fun i => a.length - i) 0 rfl ⟨Nat.zero_le _, fun j hj => by omega⟩ ?_
  rintro i ⟨hi, hall⟩
  by_cases hlt : i < a.length
  case neg =>
    simp only [eE, eC, eN, Nat.reduceEqDiff, ↓reduceIte, lt_F hlt]
    exact (same_iff.2 (ext_take hl fun j hj => hall j (by omega))).symm
  have hltb : i < b.length := by omega
  have hga := List.getElem?_eq_getElem hlt
  have hgb := List.getElem?_eq_getElem hltb
  have e := w64_succ (k := i) (by omega)
  have hf := hq _ (List.getElem_mem hlt)
  cases hs : same a[i] b[i] with
  | true =>
    simp only [eE, eC, eN, Nat.reduceEqDiff, ↓reduceIte, Nat.reduceAdd, Int.reduceEq, Bool.not_true, Option.getD_some, Int.toNat_natCast, Int.natCast_nonneg, List.length_map, List.getElem?_map, lt_T hlt, lt_T hltb, hga, hgb, e, Teq_e, s2, dQ_ok, dQ_dec, eq_true hf, hs]
    refine lpN.drop (i + 1) rfl rfl rfl rfl Fresh.nil (fun _ _ h => by cases h) ⟨⟨trivial, unders_map (encQ_under 0) b⟩, by simp [AVal.under, unders], ⟨trivial, unders_map (encQ_under 0) a⟩, trivial, trivial, trivial⟩ ⟨hlt, fun j h => ?_⟩ (by omega)
    by_cases q : j = i
    · subst q; rw [hga, hgb, same_iff.1 hs]
    · exact hall j (by omega)
  | false =>
    simp only [eE, eC, eN, Nat.reduceEqDiff, ↓reduceIte, Nat.reduceAdd, Bool.not_false, Option.getD_some, Int.toNat_natCast, Int.natCast_nonneg, List.length_map, List.getElem?_map, lt_T hlt, lt_T hltb, hga, hgb, Teq_e, s2, dQ_ok, dQ_dec, eq_true hf, hs]
    refine (same_no fun q => ?_).symm
    subst q
    rw [same_rfl] at hs; cases hs
noncomputable def Tep : Tab := tadd 44 (s2 dM dM (fun a _ => fewP a) fun a b => .bool (same a b)) tnil
theorem Tep_ok : TabOK Tryz.prog Tep := TabOK.tnil.add (q2 p44)
theorem Tep_e (a : List AVal) (H : AHeap) : Tep 44 a H = s2 dM dM (fun a _ => fewP a) (fun a b => .bool (same a b)) a H := rfl
theorem p43 (a b : List Prm) (ha : few a) (hq : ∀ x ∈ a, fewP x) : Pur Tryz.prog 43 [.sl (.none 2) (a.map encM), .sl (.none 2) (b.map encM), .fn (.func 44) [] []] (.bool (same a b)) := by
  refine .mk ⟨⟨trivial, unders_map (encM_under 0) a⟩, ⟨trivial, unders_map (encM_under 0) b⟩, by simp [AVal.under, unders], trivial⟩ trivial (a43 (ev_awp Tep_ok (ev_evK ?_)))
  by_cases hl : a.length = b.length
  case neg =>
    simp only [eE, eC, eN, reduceCtorEq, Nat.reduceEqDiff, ↓reduceIte, Nat.reduceAdd, Bool.not_false, List.length_map, c43, len_ne hl, Bool.not_false]
    exact (same_no fun e => hl (by rw [e])).symm
  simp only [eE, eC, eN, reduceCtorEq, Nat.reduceEqDiff, ↓reduceIte, Nat.reduceAdd, Bool.not_true, List.length_map, c43, len_eq hl]
  refine k_loop (fun i : Nat => ⟨[(1, true, .sl (.none 2) (b.map encM)), (2, true, .fn (.func 44) [] []), (15, true, .sl (.none 2) (a.map encM)), (16, true, .int .i64 a.length), (17, true, .int .i64 i)], hnil, 0⟩) (fun i => i ≤ a.length ∧ ∀ j, j < i → a[j]? = b[j]?) (fun i => a.length - i) 0 rfl ⟨Nat.zero_le _, fun j hj => by omega⟩ ?_
  rintro i ⟨hi, hall⟩
  by_cases hlt : i < a.length
  case neg =>
    simp only [eE, eC, eN, Nat.reduceEqDiff, ↓reduceIte, lt_F hlt]
    exact (same_iff.2 (ext_take hl fun j hj => hall j (by omega))).symm
  have hltb : i < b.length := by omega
  have hga := List.getElem?_eq_getElem hlt
  have hgb := List.getElem?_eq_getElem hltb
  have e := w64_succ (k := i) (by omega)
  have hf := hq _ (List.getElem_mem hlt)
  cases hs : same a[i] b[i] with
  | true =>
    simp only [eE, eC, eN, Nat.reduceEqDiff, ↓reduceIte, Nat.reduceAdd, Int.reduceEq, Bool.not_true, Option.getD_some, Int.toNat_natCast, Int.natCast_nonneg, List.length_map, List.getElem?_map, lt_T hlt, lt_T hltb, hga, hgb, e, Tep_e, s2, dM_ok, dM_dec, eq_true hf, hs]
    refine lpN.drop (i + 1) rfl rfl rfl rfl Fresh.nil (fun _ _ h => by cases h) ⟨⟨trivial, unders_map (encM_under 0) b⟩, by simp [AVal.under, unders], ⟨trivial, unders_map (encM_under 0) a⟩, trivial, trivial, trivial⟩ ⟨hlt, fun j h => ?_⟩ (by omega)
    by_cases q : j = i
    · subst q; rw [hga, hgb, same_iff.1 hs]
    · exact hall j (by omega)
  | false =>
    simp only [eE, eC, eN, Nat.reduceEqDiff, ↓reduceIte, Nat.reduceAdd, Bool.not_false, Option.getD_some, Int.toNat_natCast, Int.natCast_nonneg, List.length_map, List.getElem?_map, lt_T hlt, lt_T hltb, hga, hgb, Tep_e, s2, dM_ok, dM_dec, eq_true hf, hs]
    refine (same_no fun q => ?_).symm
    subst q
    rw [same_rfl] at hs; cases hs
theorem p48 (a b : List Int) (ha : few a) : Pur Tryz.prog 48 [eIs a, eIs b] (.bool (decide (a = b))) := by
  refine .mk ⟨⟨trivial, eI_under 0 a⟩, ⟨trivial, eI_under 0 b⟩, trivial⟩ trivial (a48 (ev_awp TabOK.tnil (ev_evK ?_)))
  by_cases hl : a.length = b.length
  case neg =>
    simp only [eE, eC, eN, reduceCtorEq, Nat.reduceEqDiff, ↓reduceIte, Nat.reduceAdd, Bool.not_false, List.length_map, c48, len_ne hl, Bool.not_false]
    exact (decide_eq_false fun e => hl (by rw [e])).symm
  simp only [eE, eC, eN, reduceCtorEq, Nat.reduceEqDiff, ↓reduceIte, Nat.reduceAdd, Bool.not_true, List.length_map, c48, len_eq hl]
  refine k_loop (fun i : Nat => ⟨[(0, true, eIs a), (1, true, eIs b), (5, true, .int .i64 i)], hnil, 0⟩) (fun i => i ≤ a.length ∧ ∀ j, j < i → a[j]? = b[j]?) (fun i => a.length - i) 0 rfl ⟨Nat.zero_le _, fun j hj => by omega⟩ ?_
  rintro i ⟨hi, hall⟩
  by_cases hlt : i < a.length
  case neg =>
    simp only [eE, eC, eN, reduceCtorEq, Nat.reduceEqDiff, ↓reduceIte, List.length_map, lt_F hlt]
    exact (decide_eq_true (ext_take hl fun j hj => hall j (by omega))).symm
  have hltb : i < b.length := by omega
  have hga := List.getElem?_eq_getElem hlt
  have hgb := List.getElem?_eq_getElem hltb
  have e := w64_succ (k := i) (by omega)
  by_cases hs : a[i] = b[i]
  · simp only [eE, eC, eN, reduceCtorEq, Nat.reduceEqDiff, ↓reduceIte, Int.reduceEq, Bool.not_true, Option.getD_some, Int.toNat_natCast, Int.natCast_nonneg, List.length_map, List.getElem?_map, lt_T hlt, lt_T hltb, hga, hgb, hs, e]
    refine .mk (i + 1) rfl ⟨hlt, fun j h => ?_⟩ (by omega)
    by_cases q : j = i
    · subst q; rw [hga, hgb, hs]
    · exact hall j (by omega)
  · simp only [eE, eC, eN, reduceCtorEq, Nat.reduceEqDiff, ↓reduceIte, Bool.not_false, Option.getD_some, Int.toNat_natCast, Int.natCast_nonneg, List.length_map, List.getElem?_map, lt_T hlt, lt_T hltb, hga, hgb, hs]
    exact (decide_eq_false fun q => hs (by simp [q])).symm
theorem p46 (a b : List Bs) (ha : few a) : Pur Tryz.prog 46 [eSs a, eSs b] (.bool (decide (a = b))) := by
  refine .mk ⟨⟨trivial, strs_under 0 a⟩, ⟨trivial, strs_under 0 b⟩, trivial⟩ trivial (a46 (ev_awp TabOK.tnil (ev_evK ?_)))
  by_cases hl : a.length = b.length
  case neg =>
    simp only [eE, eC, eN, reduceCtorEq, Nat.reduceEqDiff, ↓reduceIte, Nat.reduceAdd, Bool.not_false, List.length_map, c46, len_ne hl, Bool.not_false]
    exact (decide_eq_false fun e => hl (by rw [e])).symm
  simp only [eE, eC, eN, reduceCtorEq, Nat.reduceEqDiff, ↓reduceIte, Nat.reduceAdd, Bool.not_true, List.length_map, c46, len_eq hl]
  refine k_loop (fun i : Nat => ⟨[(0, true, eSs a), (1, true, eSs b), (5, true, .int .i64 i)], hnil, 0⟩) (fun i => i ≤ a.length ∧ ∀ j, j < i → a[j]? = b[j]?) (fun i => a.length - i) 0 rfl ⟨Nat.zero_le _, fun j hj => by omega⟩ ?_
  rintro i ⟨hi, hall⟩
  by_cases hlt : i < a.length
  case neg =>
    simp only [eE, eC, eN, reduceCtorEq, Nat.reduceEqDiff, ↓reduceIte, List.length_map, lt_F hlt]
    exact (decide_eq_true (ext_take hl fun j hj => hall j (by omega))).symm
  have hltb : i < b.length := by omega
  have hga := List.getElem?_eq_getElem hlt
  have hgb := List.getElem?_eq_getElem hltb
  have e := w64_succ (k := i) (by omega)
  by_cases hs : a[i] = b[i]
  · simp only [eE, eC, eN, reduceCtorEq, Nat.reduceEqDiff, ↓reduceIte, Int.reduceEq, Bool.not_true, Option.getD_some, Int.toNat_natCast, Int.natCast_nonneg, List.length_map, List.getElem?_map, lt_T hlt, lt_T hltb, hga, hgb, hs, e, scmp_ne]
    refine .mk (i + 1) rfl ⟨hlt, fun j h => ?_⟩ (by omega)
    by_cases q : j = i
    · subst q; rw [hga, hgb, hs]
    · exact hall j (by omega)
  · simp only [eE, eC, eN, reduceCtorEq, Nat.reduceEqDiff, ↓reduceIte, Bool.not_false, Option.getD_some, Int.toNat_natCast, Int.natCast_nonneg, List.length_map, List.getElem?_map, lt_T hlt, lt_T hltb, hga, hgb, hs, scmp_ne]
    exact (decide_eq_false fun q => hs (by simp [q])).symm
def Tzi : Tab := tadd 48 (s2 dIs dIs (fun a _ => few a) fun a b => .bool (decide (a = b))) tnil
theorem Tzi_ok : TabOK Tryz.prog Tzi := TabOK.tnil.add (q2 p48)
theorem Tzi_e (a : List AVal) (H : AHeap) : Tzi 48 a H = s2 dIs dIs (fun a _ => few a) (fun a b => .bool (decide (a = b))) a H := rfl
theorem p47 (a b : Cnd) (ha : fewQ a) : Pur Tryz.prog 47 [encQ a, encQ b] (.bool (same a b)) := by
  refine .mk ⟨encQ_under 0 a, encQ_under 0 b, trivial⟩ trivial (a47 (ev_awp Tzi_ok (ev_evK ?_)))
  have h1 := ha.1
  have h2 := ha.2
  simp only [eE, eC, eN, reduceCtorEq, Nat.reduceEqDiff, ↓reduceIte, Nat.reduceAdd, Nat.reduceLeDiff, c47, Tzi_e, s2, dIs, okL, decL, eI_map, h1, h2]
  refine same_of ?_
  rw [cnd_ext]
  simp only [Bool.and_eq_true, decide_eq_true_eq, and_assoc]
noncomputable def sEf {α : Type} (D : Dc (List α)) (clo : FuncId) (c : α → Prop) : List AVal → AHeap → Prop × AVal := fun a H => match a with
  | [x, y, .fn (.func f) [] []] => (f = clo ∧ D.ok x ∧ D.ok y ∧ few (D.dec x) ∧ ∀ z ∈ D.dec x, c z, .bool (same (D.dec x) (D.dec y)))
  | _ => (False, .tup [])
theorem qEf {α : Type} {D : Dc (List α)} {clo fid : FuncId} {c : α → Prop} (h : ∀ a b, few a → (∀ z ∈ a, c z) → Pur Tryz.prog fid [D.enc a, D.enc b, .fn (.func clo) [] []] (.bool (same a b))) : ∀ args H n, (sEf D clo c args H).1 → Quiet Tryz.prog fid args H n (sEf D clo c args H).2 := by
  intro args H n hh
  unfold sEf at hh ⊢
  split at hh
  · obtain ⟨rfl, h1, h2, h3, h4⟩ := hh
    refine ACalls.args ((h _ _ h3 h4).quiet H n) ?_
    rintro g vs ⟨v, r, rfl, k1, w, r', rfl, k2, k3⟩
    exact ⟨v, _, rfl, D.wk _ h1 _ _ k1, w, _, rfl, D.wk _ h2 _ _ k2, k3⟩
  · exact hh.elim
def dQs : Dc (List Cnd) := ⟨fun l => .sl (.none 4) (l.map encQ), decL decQ, okL 4 encQ decQ, okL_wk⟩
def dMs : Dc (List Prm) := ⟨fun l => .sl (.none 2) (l.map encM), decL decM, okL 2 encM decM, okL_wk⟩
theorem dQs_ok (l : List Cnd) : dQs.ok (.sl (.none 4) (l.map encQ)) = True := eq_true ⟨.inl rfl, by rw [map_dec decQ_enc]⟩
theorem dQs_dec (l : List Cnd) : dQs.dec (.sl (.none 4) (l.map encQ)) = l := map_dec decQ_enc l
theorem dMs_ok (l : List Prm) : dMs.ok (.sl (.none 2) (l.map encM)) = True := eq_true ⟨.inl rfl, by rw [map_dec decM_enc]⟩
theorem dMs_dec (l : List Prm) : dMs.dec (.sl (.none 2) (l.map encM)) = l := map_dec decM_enc l
noncomputable def Tsm : Tab := tadd 40 (sEf dQs 41 fewQ) (tadd 43 (sEf dMs 44 fewP) (tadd 45 (s2 dSs dSs (fun a _ => few a) fun a b => .bool (decide (a = b))) tnil))
theorem Tsm_ok : TabOK Tryz.prog Tsm := ((TabOK.tnil.add (q2 p45)).add (qEf p43)).add (qEf p40)
theorem Tsm_q (a : List AVal) (H : AHeap) : Tsm 40 a H = sEf dQs 41 fewQ a H := rfl
theorem Tsm_p (a : List AVal) (H : AHeap) : Tsm 43 a H = sEf dMs 44 fewP a H := rfl
theorem Tsm_s (a : List AVal) (H : AHeap) : Tsm 45 a H = s2 dSs dSs (fun a _ => few a) (fun a b => .bool (decide (a = b))) a H := rfl
theorem p20 (a b : Lma) (ha : FewL a) : Pur Tryz.prog 20 [encL a, encL b] (.bool (same a b)) := by
  refine .mk ⟨encL_under 0 a, encL_under 0 b, trivial⟩ trivial (a20 (ev_awp Tsm_ok (ev_evK ?_)))
  have hq : (∀ z ∈ a.qs, fewQ z) = True := eq_true ha.q
  have hp : (∀ z ∈ a.ps, fewP z) = True := eq_true ha.p
  simp only [eE, eC, eN, reduceCtorEq, Nat.reduceEqDiff, ↓reduceIte, Nat.reduceAdd, Nat.reduceLeDiff, c20, Tsm_q, Tsm_p, Tsm_s, sEf, s2, dQs_ok, dQs_dec, dMs_ok, dMs_dec, ha.qs, ha.ps, hq, hp, dSs, okL, decL, toSs_map, ha.cs, ha.ls, scmp_eq]
  refine same_of ?_
  rw [lma_ext]
  simp only [Bool.and_eq_true, decide_eq_true_eq, and_assoc, same_iff]
  exact ⟨fun ⟨h1, h2, h3, h4, h5, h6, h7, h8⟩ => ⟨h3, h4, h5, h6, h1, h2, h7, h8⟩, fun ⟨h1, h2, h3, h4, h5, h6, h7, h8⟩ => ⟨h5, h6, h1, h2, h3, h4, h7, h8⟩⟩
end Go.AM
end
section
set_option maxRecDepth 20000
set_option linter.all false
namespace Go.AM
open Go.Proofs Go.Lib
noncomputable def Tzs : Tab := tadd 46 (s2 dSs dSs (fun a _ => few a) fun a b => .bool (decide (a = b))) (tadd 48 (s2 dIs dIs (fun a _ => few a) fun a b => .bool (decide (a = b))) (tadd 47 (s2 dQ dQ (fun a _ => fewQ a) fun a b => .bool (same a b)) tnil))
theorem Tzs_ok : TabOK Tryz.prog Tzs := ((TabOK.tnil.add (q2 p47)).add (q2 p48)).add (q2 p46)
theorem Tzs_s (a : List AVal) (H : AHeap) : Tzs 46 a H = s2 dSs dSs (fun a _ => few a) (fun a b => .bool (decide (a = b))) a H := rfl
theorem Tzs_i (a : List AVal) (H : AHeap) : Tzs 48 a H = s2 dIs dIs (fun a _ => few a) (fun a b => .bool (decide (a = b))) a H := rfl
theorem Tzs_q (a : List AVal) (H : AHeap) : Tzs 47 a H = s2 dQ dQ (fun a _ => fewQ a) (fun a b => .bool (same a b)) a H := rfl
theorem p21 (a b : Lma) (ha : FewL a) : Pur Tryz.prog 21 [encL a, encL b] (.bool (same a b)) := by
  refine .mk ⟨encL_under 0 a, encL_under 0 b, trivial⟩ trivial (a21 (ev_awp Tzs_ok (ev_evK ?_)))
  have hqn := ha.qs
  have hpn := ha.ps
  simp only [eE, eC, eN, reduceCtorEq, Nat.reduceEqDiff, ↓reduceIte, Nat.reduceAdd, Nat.reduceLeDiff, List.length_map, c21, Tzs_s, s2, dSs, okL, decL, toSs_map, ha.cs, ha.ls, scmp_ne]
  rw [cK_i]
  refine ⟨fun hB => ?_, fun hB => ?_⟩
  · simp only [eE, eN, ↓reduceIte]
    refine (same_no fun e => ?_).symm
    subst e
    simp at hB
  simp only [Bool.or_eq_false_iff, Bool.not_eq_false', decide_eq_true_eq] at hB
  obtain ⟨⟨⟨⟨⟨⟨⟨h1, h2⟩, h3⟩, h4⟩, h5⟩, h6⟩, h7⟩, h8⟩ := hB
  have h5' : a.qs.length = b.qs.length := by omega
  have h6' : a.ps.length = b.ps.length := by omega
  simp only [eE, eN, Nat.reduceEqDiff, ↓reduceIte]
  refine k_loop (fun i : Nat => ⟨[(2, true, .ptr 0 0), (3, true, .ptr 1 0), (5, true, .int .i64 i)], hset (hset hnil 0 (.box (cellsL a))) 1 (.box (cellsL b)), 3⟩) (fun i => i ≤ a.qs.length ∧ ∀ j, j < i → a.qs[j]? = b.qs[j]?) (fun i => a.qs.length - i) 0 rfl ⟨Nat.zero_le _, fun j hj => by omega⟩ ?_
  rintro i ⟨hi, hall⟩
  by_cases hlt : i < a.qs.length
  · have hltb : i < b.qs.length := by omega
    have hga := List.getElem?_eq_getElem hlt
    have hgb := List.getElem?_eq_getElem hltb
    have e := w64_succ (k := i) (by omega)
    have hf : fewQ a.qs[i] := ha.q _ (List.getElem_mem hlt)
    cases hs : same a.qs[i] b.qs[i] with
    | true =>
      simp only [eE, eC, eN, reduceCtorEq, Nat.reduceEqDiff, ↓reduceIte, Nat.reduceAdd, Nat.reduceLeDiff, Int.reduceEq, Bool.not_true, Option.getD_some, Int.toNat_natCast, Int.natCast_nonneg, List.length_map, List.getElem?_map, lt_T hlt, lt_T hltb, hga, hgb, e, Tzs_q, s2, dQ_ok, dQ_dec, eq_true hf, hs]
      refine .mk (i + 1) rfl ⟨hlt, fun j h => ?_⟩ (by omega)
      by_cases q : j = i
      · subst q; rw [hga, hgb, same_iff.1 hs]
      · exact hall j (by omega)
    | false =>
      simp only [eE, eC, eN, reduceCtorEq, Nat.reduceEqDiff, ↓reduceIte, Nat.reduceAdd, Nat.reduceLeDiff, Bool.not_false, Option.getD_some, Int.toNat_natCast, Int.natCast_nonneg, List.length_map, List.getElem?_map, lt_T hlt, lt_T hltb, hga, hgb, Tzs_q, s2, dQ_ok, dQ_dec, eq_true hf, hs]
      refine (same_no fun q => ?_).symm
      subst q
      rw [same_rfl] at hs; cases hs
  have hqe : a.qs = b.qs := ext_take h5' fun j hj => hall j (by omega)
  simp only [eE, eC, eN, reduceCtorEq, Nat.reduceEqDiff, ↓reduceIte, Nat.reduceAdd, Nat.reduceLeDiff, List.length_map, lt_F hlt]
  clear hlt hall hi
  refine k_loop (fun i : Nat => ⟨[(2, true, .ptr 0 0), (3, true, .ptr 1 0), (6, true, .int .i64 i)], hset (hset hnil 0 (.box (cellsL a))) 1 (.box (cellsL b)), 3⟩) (fun i => i ≤ a.ps.length ∧ ∀ j, j < i → a.ps[j]? = b.ps[j]?) (fun i => a.ps.length - i) 0 rfl ⟨Nat.zero_le _, fun j hj => by omega⟩ ?_
  rintro i ⟨hi, hall⟩
  by_cases hlt : i < a.ps.length
  · have hltb : i < b.ps.length := by omega
    have hga := List.getElem?_eq_getElem hlt
    have hgb := List.getElem?_eq_getElem hltb
    have e := w64_succ (k := i) (by omega)
    have hf : fewP a.ps[i] := ha.p _ (List.getElem_mem hlt)
    by_cases hc : a.ps[i].c = b.ps[i].c
    · by_cases hs : a.ps[i].ls = b.ps[i].ls
      · have hf2 : few b.ps[i].ls := hs ▸ hf
        simp only [eE, eC, eN, reduceCtorEq, Nat.reduceEqDiff, ↓reduceIte, Nat.reduceAdd, Nat.reduceLeDiff, Int.reduceEq, Bool.not_true, Option.getD_some, Int.toNat_natCast, Int.natCast_nonneg, List.length_map, List.getElem?_map, lt_T hlt, lt_T hltb, hga, hgb, e, Tzs_i, s2, dIs, okL, decL, eI_map, hf2, hc, hs]
        refine .mk (i + 1) rfl ⟨hlt, fun j h => ?_⟩ (by omega)
        by_cases q : j = i
        · subst q; rw [hga, hgb, prm_ext.2 ⟨hc, hs⟩]
        · exact hall j (by omega)
      · simp only [eE, eC, eN, reduceCtorEq, Nat.reduceEqDiff, ↓reduceIte, Nat.reduceAdd, Nat.reduceLeDiff, Bool.not_true, Bool.not_false, Option.getD_some, Int.toNat_natCast, Int.natCast_nonneg, List.length_map, List.getElem?_map, lt_T hlt, lt_T hltb, hga, hgb, Tzs_i, s2, dIs, okL, decL, eI_map, hf, hc, hs]
        refine (same_no fun q => hs ?_).symm
        subst q; rfl
    · simp only [eE, eC, eN, reduceCtorEq, Nat.reduceEqDiff, ↓reduceIte, Nat.reduceAdd, Nat.reduceLeDiff, Bool.not_true, Bool.not_false, Option.getD_some, Int.toNat_natCast, Int.natCast_nonneg, List.length_map, List.getElem?_map, lt_T hlt, lt_T hltb, hga, hgb, hc]
      refine (same_no fun q => hc ?_).symm
      subst q; rfl
  have hpe : a.ps = b.ps := ext_take h6' fun j hj => hall j (by omega)
  simp only [eE, eC, eN, reduceCtorEq, Nat.reduceEqDiff, ↓reduceIte, Nat.reduceAdd, Nat.reduceLeDiff, List.length_map, lt_F hlt]
  exact (same_iff.2 (lma_ext.2 ⟨h1, h2, h3, h4, hqe, hpe, h7, h8⟩)).symm
noncomputable def Tza : Tab := tadd 21 (s2 dX dX (fun a _ => FewL a) fun a b => .bool (same a b)) tnil
theorem Tza_ok : TabOK Tryz.prog Tza := TabOK.tnil.add (q2 p21)
theorem Tza_s (a : List AVal) (H : AHeap) : Tza 21 a H = s2 dX dX (fun a _ => FewL a) (fun a b => .bool (same a b)) a H := rfl
theorem p13 (a b : List Lma) (ha : FewLs a) : Pur Tryz.prog 13 [eLs a, eLs b] (.bool (same a b)) := by
  refine .mk ⟨⟨trivial, Ls_under 0 a⟩, ⟨trivial, Ls_under 0 b⟩, trivial⟩ trivial (a13 (ev_awp Tza_ok (ev_evK ?_)))
  have han := ha.1
  by_cases hl : a.length = b.length
  case neg =>
    simp only [eE, eC, eN, reduceCtorEq, Nat.reduceEqDiff, ↓reduceIte, Nat.reduceAdd, Bool.not_false, List.length_map, c13, len_ne hl, Bool.not_false]
    exact (same_no fun e => hl (by rw [e])).symm
  simp only [eE, eC, eN, reduceCtorEq, Nat.reduceEqDiff, ↓reduceIte, Nat.reduceAdd, Bool.not_true, List.length_map, c13, len_eq hl]
  refine k_loop (fun i : Nat => ⟨[(0, true, eLs a), (1, true, eLs b), (5, true, .int .i64 i)], hnil, 0⟩) (fun i => i ≤ a.length ∧ ∀ j, j < i → a[j]? = b[j]?) (fun i => a.length - i) 0 rfl ⟨Nat.zero_le _, fun j hj => by omega⟩ ?_
  rintro i ⟨hi, hall⟩
  by_cases hlt : i < a.length
  case neg =>
    simp only [eE, eC, eN, reduceCtorEq, Nat.reduceEqDiff, ↓reduceIte, List.length_map, lt_F hlt]
    exact (same_iff.2 (ext_take hl fun j hj => hall j (by omega))).symm
  have hltb : i < b.length := by omega
  have hga := List.getElem?_eq_getElem hlt
  have hgb := List.getElem?_eq_getElem hltb
  have e := w64_succ (k := i) (by omega)
  have hf := ha.2 _ (List.getElem_mem hlt)
  cases hs : same a[i] b[i] with
  | true =>
    simp only [eE, eC, eN, reduceCtorEq, Nat.reduceEqDiff, ↓reduceIte, Nat.reduceAdd, Int.reduceEq, Bool.not_true, Option.getD_some, Int.toNat_natCast, Int.natCast_nonneg, List.length_map, List.getElem?_map, lt_T hlt, lt_T hltb, hga, hgb, e, Tza_s, s2, dX_ok, dX_dec, eq_true hf, hs]
    refine .mk (i + 1) rfl ⟨hlt, fun j h => ?_⟩ (by omega)
    by_cases q : j = i
    · subst q; rw [hga, hgb, same_iff.1 hs]
    · exact hall j (by omega)
  | false =>
    simp only [eE, eC, eN, reduceCtorEq, Nat.reduceEqDiff, ↓reduceIte, Nat.reduceAdd, Bool.not_false, Option.getD_some, Int.toNat_natCast, Int.natCast_nonneg, List.length_map, List.getElem?_map, lt_T hlt, lt_T hltb, hga, hgb, Tza_s, s2, dX_ok, dX_dec, eq_true hf, hs]
    refine (same_no fun q => ?_).symm
    subst q
    rw [same_rfl] at hs; cases hs
def fewB (x : Lma) : Bool := decide (x.cs.length ≤ 10) && decide (x.ls.length ≤ 10) && decide (x.qs.length ≤ 10) && decide (x.ps.length ≤ 10) && (x.qs.all fun q => decide (q.cs.length ≤ 10) && decide (q.ls.length ≤ 10)) && x.ps.all fun p => decide (p.ls.length ≤ 10)
theorem fewB_few {x : Lma} (h : fewB x = true) : FewL x := by
  unfold fewB at h
  simp only [Bool.and_eq_true, decide_eq_true_eq, List.all_eq_true] at h
  obtain ⟨⟨⟨⟨⟨h1, h2⟩, h3⟩, h4⟩, h5⟩, h6⟩ := h
  exact ⟨by show x.cs.length < _; omega, by show x.ls.length < _; omega, by show x.qs.length < _; omega, by show x.ps.length < _; omega, fun q hq => by have := h5 q hq; constructor <;> (show List.length _ < _; omega), fun p hp => by have := h6 p hp; show List.length _ < _; omega⟩
theorem gt10 {n : Nat} : decide ((10 : Int) < n) = !decide (n ≤ 10) := by rw [Bool.eq_iff_iff]; simp; omega
theorem p15 (x : Lma) : Pur Tryz.prog 15 [encL x] (.bool (fewB x)) := by
  refine .mk ⟨encL_under 0 x, trivial⟩ trivial (a15 (ev_awp TabOK.tnil (ev_evK ?_)))
  simp only [eE, eC, eN, Nat.reduceEqDiff, ↓reduceIte, Nat.reduceAdd, Nat.reduceLeDiff, List.length_map, c15, gt10]
  rw [cK_i]
  refine ⟨fun hB => ?_, fun hB => ?_⟩
  · simp only [eE, eN, ↓reduceIte]
    cases q : fewB x with
    | false => rfl
    | true =>
      unfold fewB at q
      simp only [Bool.and_eq_true] at q
      obtain ⟨⟨⟨⟨⟨h1, h2⟩, h3⟩, h4⟩, h5⟩, h6⟩ := q
      simp [h1, h2, h3, h4] at hB
  simp only [Bool.or_eq_false_iff, Bool.not_eq_false'] at hB
  obtain ⟨⟨⟨h1, h2⟩, h3⟩, h4⟩ := hB
  have hq10 : x.qs.length ≤ 10 := by simpa using h3
  have hp10 : x.ps.length ≤ 10 := by simpa using h4
  unfold fewB
  rw [h1, h2, h3, h4]
  simp only [Bool.true_and]
  simp only [eE, eN, Nat.reduceEqDiff, ↓reduceIte, Bool.not_true]
  refine k_loop (fun i : Nat => ⟨[(1, true, .ptr 0 0), (3, true, .int .i64 i)], hset hnil 0 (.box (cellsL x)), 2⟩) (fun i => i ≤ x.qs.length ∧ ∀ j (hj : j < x.qs.length), j < i → x.qs[j].cs.length ≤ 10 ∧ x.qs[j].ls.length ≤ 10) (fun i => x.qs.length - i) 0 rfl ⟨Nat.zero_le _, fun j hj h => by omega⟩ ?_
  rintro i ⟨hi, hall⟩
  by_cases hlt : i < x.qs.length
  · have hg := List.getElem?_eq_getElem hlt
    have e := w64_succ (k := i) (by omega)
    cases b1 : (decide (x.qs[i].cs.length ≤ 10)) with
    | false =>
      simp only [eE, eC, eN, reduceCtorEq, Nat.reduceEqDiff, ↓reduceIte, Nat.reduceAdd, Nat.reduceLeDiff, Bool.not_true, Bool.not_false, Option.getD_some, Int.toNat_natCast, Int.natCast_nonneg, List.length_map, List.getElem?_map, lt_T hlt, hg, gt10, b1]
      rw [List.all_eq_false.2 ⟨_, List.getElem_mem hlt, by rw [b1]; exact Bool.false_ne_true⟩]; rfl
    | true =>
      cases b2 : (decide (x.qs[i].ls.length ≤ 10)) with
      | false =>
        simp only [eE, eC, eN, Nat.reduceEqDiff, ↓reduceIte, Nat.reduceAdd, Nat.reduceLeDiff, Bool.not_true, Bool.not_false, Option.getD_some, Int.toNat_natCast, Int.natCast_nonneg, List.length_map, List.getElem?_map, lt_T hlt, hg, gt10, b1, b2]
        rw [List.all_eq_false.2 ⟨_, List.getElem_mem hlt, by rw [b1, b2]; decide⟩]; rfl
      | true =>
        simp only [eE, eC, eN, Nat.reduceEqDiff, ↓reduceIte, Nat.reduceAdd, Nat.reduceLeDiff, Int.reduceEq, Bool.not_true, Option.getD_some, Int.toNat_natCast, Int.natCast_nonneg, List.length_map, List.getElem?_map, lt_T hlt, hg, e, gt10, b1, b2]
        refine .mk (i + 1) rfl ⟨hlt, fun j hj h => ?_⟩ (by omega)
        by_cases q : j = i
        · subst q; exact ⟨of_decide_eq_true b1, of_decide_eq_true b2⟩
        · exact hall j hj (by omega)
  have hqa : (x.qs.all fun q => decide (q.cs.length ≤ 10) && decide (q.ls.length ≤ 10)) = true := List.all_eq_true.2 fun q hq => by
    obtain ⟨j, hj, rfl⟩ := List.mem_iff_getElem.1 hq
    have := hall j hj (by omega)
    rw [decide_eq_true this.1, decide_eq_true this.2]; rfl
  rw [hqa, Bool.true_and]
  simp only [eE, eC, eN, Nat.reduceEqDiff, ↓reduceIte, Nat.reduceAdd, Nat.reduceLeDiff, List.length_map, lt_F hlt]
  clear hlt hall hi
  refine k_loop (fun i : Nat => ⟨[(1, true, .ptr 0 0), (4, true, .int .i64 i)], hset hnil 0 (.box (cellsL x)), 2⟩) (fun i => i ≤ x.ps.length ∧ ∀ j (hj : j < x.ps.length), j < i → x.ps[j].ls.length ≤ 10) (fun i => x.ps.length - i) 0 rfl ⟨Nat.zero_le _, fun j hj h => by omega⟩ ?_
  rintro i ⟨hi, hall⟩
  by_cases hlt : i < x.ps.length
  · have hg := List.getElem?_eq_getElem hlt
    have e := w64_succ (k := i) (by omega)
    cases b1 : (decide (x.ps[i].ls.length ≤ 10)) with
    | false =>
      simp only [eE, eC, eN, Nat.reduceEqDiff, ↓reduceIte, Nat.reduceAdd, Nat.reduceLeDiff, Bool.not_false, Option.getD_some, Int.toNat_natCast, Int.natCast_nonneg, List.length_map, List.getElem?_map, lt_T hlt, hg, gt10, b1]
      exact (List.all_eq_false.2 ⟨_, List.getElem_mem hlt, by rw [b1]; decide⟩).symm
    | true =>
      simp only [eE, eC, eN, Nat.reduceEqDiff, ↓reduceIte, Nat.reduceAdd, Nat.reduceLeDiff, Int.reduceEq, Bool.not_true, Option.getD_some, Int.toNat_natCast, Int.natCast_nonneg, List.length_map, List.getElem?_map, lt_T hlt, hg, e, gt10, b1]
      refine .mk (i + 1) rfl ⟨hlt, fun j hj h => ?_⟩ (by omega)
      by_cases q : j = i
      · subst q; exact of_decide_eq_true b1
      · exact hall j hj (by omega)
  simp only [eE, eC, eN, Nat.reduceEqDiff, ↓reduceIte, Nat.reduceAdd, Nat.reduceLeDiff, List.length_map, lt_F hlt]
  exact (List.all_eq_true.2 fun q hq => by
    obtain ⟨j, hj, rfl⟩ := List.mem_iff_getElem.1 hq
    exact decide_eq_true (hall j hj (by omega))).symm
def Tzf : Tab := tadd 15 (s1 dX any1 fun x => .bool (fewB x)) tnil
theorem Tzf_ok : TabOK Tryz.prog Tzf := TabOK.tnil.add (q1 fun x _ => p15 x)
theorem Tzf_f (a : List AVal) (H : AHeap) : Tzf 15 a H = s1 dX any1 (fun x => .bool (fewB x)) a H := rfl
def fewAB (l : List Lma) : Bool := decide (l.length ≤ 20) && l.all fewB
theorem fewAB_few {l : List Lma} (h : fewAB l = true) : FewLs l ∧ l.length ≤ 20 := by
  unfold fewAB at h
  rw [Bool.and_eq_true, decide_eq_true_eq, List.all_eq_true] at h
  exact ⟨⟨by show l.length < _; omega, fun x hx => fewB_few (h.2 x hx)⟩, h.1⟩
theorem p14 (l : List Lma) : Pur Tryz.prog 14 [eLs l] (.bool (fewAB l)) := by
  refine .mk ⟨⟨trivial, Ls_under 0 l⟩, trivial⟩ trivial (a14 (ev_awp Tzf_ok (ev_evK ?_)))
  simp only [eE, eN, reduceCtorEq, ↓reduceIte, c14]
  refine k_loop (fun i : Nat => ⟨[(0, true, eLs l), (3, true, .int .i64 i)], hnil, 0⟩) (fun i => i ≤ l.length ∧ i ≤ 20 ∧ ∀ j (hj : j < l.length), j < i → fewB l[j] = true) (fun i => l.length - i) 0 rfl ⟨Nat.zero_le _, Nat.zero_le _, fun j hj h => by omega⟩ ?_
  rintro i ⟨hi, hi2, hall⟩
  by_cases hlt : i < l.length
  · by_cases h20 : i < 20
    · have hg := List.getElem?_eq_getElem hlt
      have e := w64_succ (k := i) (by omega)
      have l20 : ((i : Int) < 20) = True := eq_true (by omega)
      cases hb : fewB l[i] with
      | true =>
        simp only [eE, eC, eN, reduceCtorEq, Nat.reduceEqDiff, ↓reduceIte, Nat.reduceAdd, Int.reduceEq, Bool.not_true, Option.getD_some, Int.toNat_natCast, Int.natCast_nonneg, List.length_map, List.getElem?_map, lt_T hlt, hg, e, l20, Tzf_f, s1, dX_ok, dX_dec, hb]
        refine .mk (i + 1) rfl ⟨hlt, h20, fun j hj h => ?_⟩ (by omega)
        by_cases q : j = i
        · subst q; exact hb
        · exact hall j hj (by omega)
      | false =>
        simp only [eE, eC, eN, reduceCtorEq, Nat.reduceEqDiff, ↓reduceIte, Nat.reduceAdd, Bool.not_false, Option.getD_some, Int.toNat_natCast, Int.natCast_nonneg, List.length_map, List.getElem?_map, lt_T hlt, hg, l20, Tzf_f, s1, dX_ok, dX_dec, hb]
        unfold fewAB
        rw [List.all_eq_false.2 ⟨_, List.getElem_mem hlt, by rw [hb]; decide⟩, Bool.and_false]
    · have l20 : ((i : Int) < 20) = False := eq_false (by omega)
      have l21 : ((l.length : Int) ≤ 20) = False := eq_false (by omega)
      simp only [eE, eC, eN, reduceCtorEq, Nat.reduceEqDiff, ↓reduceIte, List.length_map, lt_T hlt, l20, l21]
      unfold fewAB
      rw [decide_eq_false (by omega : ¬ l.length ≤ 20)]; rfl
  · simp only [eE, eC, eN, reduceCtorEq, Nat.reduceEqDiff, ↓reduceIte, List.length_map, lt_F hlt]
    unfold fewAB
    rw [List.all_eq_true.2 fun q hq => by
      obtain ⟨j, hj, rfl⟩ := List.mem_iff_getElem.1 hq
      exact hall j hj (by omega), Bool.and_true, decide_eq_decide]
    omega
end Go.AM
end
section
set_option maxRecDepth 20000
set_option linter.all false
namespace Go.AM
open Go.Proofs Go.Lib
def KeepsT (pid : Nat) (H H' : AHeap) : Prop := ∀ id ob, id ≠ pid → ob ≠ .tok → hget H id = some ob → hget H' id = some ob
theorem KeepsT.refl {pid : Nat} (H : AHeap) : KeepsT pid H H := fun _ _ _ _ h => h
theorem KeepsT.trans {pid : Nat} {H H' H'' : AHeap} (h : KeepsT pid H H') (k : KeepsT pid H' H'') : KeepsT pid H H'' := fun id ob h1 h2 x => k id ob h1 h2 (h id ob h1 h2 x)
theorem KeepsT.box {pid id : Nat} {H H' : AHeap} {cs : List AVal} (h : KeepsT pid H H') (hne : id ≠ pid) (hx : hget H id = some (.box cs)) : hget H' id = some (.box cs) := h id _ hne (by simp) hx
theorem kill_keep {e lo i : Nat} {H : AHeap} {tk : Tok} {ob : AObj} (h : tkG e lo H tk) (hi : hget H i = some ob) (ho : ob ≠ .tok) : hget (killTok H tk) i = some ob := by
  rcases h with rfl | rfl | ⟨id, rfl, h1, h2⟩
  · exact hi
  · exact hi
  · simp only [killTok]
    rw [hget_hset_ne _ _ _ _ (by rintro rfl; rw [h2] at hi; cases hi; exact ho rfl)]; exact hi
def PrS (pid : Nat) (H : AHeap) (n : Nat) (ts : List Tkn) : Prop := ∃ tk, hget H pid = some (.box [.sl tk (ts.map encK)]) ∧ tkG 4 0 H tk ∧ (tk.esz = 4 ∨ ts = []) ∧ Fresh H n
def EPost (pid : Nat) (H : AHeap) (n : Nat) (ts : List Tkn) (o : AOut) (H' : AHeap) (n' : Nat) : Prop := o = .ret (.tup []) ∧ n ≤ n' ∧ PrS pid H' n' ts ∧ KeepsT pid H H'
def EmitOK (B : Nat) (fid : FuncId) (xs : List AVal) (out : List Tkn) : Prop := ∀ (pid : Nat) (H : AHeap) (n : Nat) (ts : List Tkn), PrS pid H n ts → ts.length ≤ B → ACalls Tryz.prog fid (.ptr pid 0 :: xs) H n (EPost pid H n (ts ++ out))
theorem em {fid : FuncId} {xs : List AVal} {out ts : List Tkn} {pid n1 : Nat} {H1 : AHeap} {T : Tab} {b : Nat} {d : Option Nat} {kp : List Nat} {ops : List AOp} {k : List Item} {st : AS} {Q : AExit → AS → Prop} {B : Nat} (h : EmitOK B fid xs out) (hp : PrS pid H1 n1 ts) (hl : ts.length ≤ B)
    (go : ∀ H' n', n1 ≤ n' → PrS pid H' n' (ts ++ out) → KeepsT pid H1 H' → retK Tryz.prog T b d ops kp k Q st (.ret (.tup [])) H' n') : ACalls Tryz.prog fid (.ptr pid 0 :: xs) H1 n1 (retK Tryz.prog T b d ops kp k Q st) := by
  refine (h pid H1 n1 ts hp hl).mono fun o H' n' q => ?_
  obtain ⟨rfl, h1, h2, h3⟩ := q
  exact go H' n' h1 h2 h3
theorem PrS.put {pid n m id : Nat} {H : AHeap} {ts : List Tkn} {tk : Tok} {t : Tkn} (hb : hget H pid = some (.box [.sl tk (ts.map encK)])) (htk : tkG 4 0 H tk) (hf : Fresh H n) (hid : n ≤ id) (hm : id < m) :
    PrS pid (hset (hset (killTok H tk) id .tok) pid (.box [.sl (.own id 4) (ts.map encK ++ [encK t])])) m (ts ++ [t]) ∧ KeepsT pid H (hset (hset (killTok H tk) id .tok) pid (.box [.sl (.own id 4) (ts.map encK ++ [encK t])])) := by
  have hp := hf.lt hb
  refine ⟨⟨.own id 4, ?_, .inr (.inr ⟨id, rfl, Nat.zero_le _, ?_⟩), .inl rfl, ?_⟩, fun j ob hne ho hx => ?_⟩
  · rw [hget_hset_eq, List.map_append]; rfl
  · rw [hget_hset_ne _ _ _ _ (by omega)]; exact hget_hset_eq ..
  · exact ((kill_fresh htk hf).hset (m := m) (by omega) hm).hset (Nat.le_refl _) (by omega)
  · have := hf.lt hx
    rw [hget_hset_ne _ _ _ _ (Ne.symm hne), hget_hset_ne _ _ _ _ (by omega)]; exact kill_keep htk hx ho
theorem e_number (v : Int) : EmitOK 900000 93 [.int .i64 v] [kN v] := by
  intro pid H n ts hP hl
  obtain ⟨tk, hb, htk, hes, hf⟩ := hP
  have hlt := hf.lt hb
  refine a93 (ev_awp TabOK.tnil (ev_evK ?_))
  have q1 : appOK H 4 tk = True := eq_true htk.app
  have q2 : (ts.length ≤ 35184372088831) = True := eq_true (by omega)
  have q3 : small (ts.length + 1) 40 = True := eq_true (small_of (by omega) (by decide))
  have k0 : hget (killTok H tk) pid = some (.box [.sl tk (ts.map encK)]) := kill_keep htk hb (by simp)
  simp only [eE, eN, reduceCtorEq, Nat.reduceEqDiff, ↓reduceIte, Nat.reduceAdd, Nat.reduceLeDiff, Nat.reduceMul, Nat.reduceLT, List.length_map, c93, hb, q1, q2, q3, fr1 hf, sep2 hlt, k0]
  obtain ⟨h1, h2⟩ := PrS.put (t := kN v) (m := n + 12) (id := n + 8) hb htk hf (by omega) (by omega)
  exact ⟨rfl, by omega, h1, h2⟩
def wT (s : Bs) : Tkn := if nameS s = true then kI s else kS s
def Tw : Tab := tadd 36 (s1 dS any1 fun s => .bool (nameS s)) tnil
theorem Tw_ok : TabOK Tryz.prog Tw := TabOK.tnil.add (q1 fun s _ => p36 s)
theorem Tw_n (a : List AVal) (H : AHeap) : Tw 36 a H = s1 dS any1 (fun s => .bool (nameS s)) a H := rfl
structure Vw where
  i : Nat
  H : AHeap
  n : Nat
theorem e_words (l : List Bs) (hl1 : l.length ≤ 1000) : EmitOK 900000 92 [.sl (.exact 1) (l.map .str)] (l.map wT) := by
  intro pid H n ts hP hl
  refine a92 (ev_awp Tw_ok (ev_evK ?_))
  simp only [eE, eN, reduceCtorEq, Nat.reduceEqDiff, ↓reduceIte, Nat.reduceAdd, List.length_map, c92]
  refine k_loop (fun v : Vw => ⟨[(0, true, .ptr pid 0), (6, true, .sl (.exact 1) (l.map .str)), (7, true, .int .i64 l.length), (8, true, .int .i64 v.i)], v.H, v.n⟩) (fun v => v.i ≤ l.length ∧ n ≤ v.n ∧ PrS pid v.H v.n (ts ++ (l.take v.i).map wT) ∧ KeepsT pid H v.H) (fun v => l.length - v.i) ⟨0, H, n⟩ rfl ⟨Nat.zero_le _, Nat.le_refl _, by simpa using hP, KeepsT.refl _⟩ ?_
  rintro ⟨i, H1, n1⟩ ⟨hi, hn, hP1, hk1⟩
  simp only at hi hn hP1 hk1
  by_cases hlt : i < l.length
  case neg =>
    simp only [eE, eC, eN, reduceCtorEq, Nat.reduceEqDiff, ↓reduceIte, lt_F hlt]
    rw [take_all hlt] at hP1
    exact ⟨rfl, hn, hP1, hk1⟩
  have hg := List.getElem?_eq_getElem hlt
  have e := w64_succ (k := i) (by omega)
  obtain ⟨tk, hb, htk, hes, hf⟩ := hP1
  have hpl := hf.lt hb
  have hlen : (ts ++ (l.take i).map wT).length ≤ 1000000 := by simp; omega
  have nx : ∀ t, wT l[i] = t → ts ++ (l.take (i + 1)).map wT = ts ++ (l.take i).map wT ++ [t] := fun t h => by rw [map_take hlt, h, List.append_assoc]
  generalize ts ++ (l.take i).map wT = us at hb hlen nx hes
  have q1 : appOK H1 4 tk = True := eq_true htk.app
  have q2 : (us.length ≤ 35184372088831) = True := eq_true (by omega)
  have q3 : small (us.length + 1) 40 = True := eq_true (small_of (by omega) (by decide))
  have k0 : hget (killTok H1 tk) pid = some (.box [.sl tk (us.map encK)]) := kill_keep htk hb (by simp)
  cases hnm : nameS l[i] with
  | true =>
    simp only [eE, eC, eN, reduceCtorEq, Nat.reduceEqDiff, ↓reduceIte, Nat.reduceAdd, Nat.reduceLeDiff, Nat.reduceMul, Nat.reduceLT, Int.reduceEq, Option.getD_some, Int.toNat_natCast, Int.natCast_nonneg, List.length_map, List.getElem?_map, lt_T hlt, hg, e, Tw_n, s1, dS, isS, toS, hnm, hb, q1, q2, q3, fr1 hf, sep2 hpl, k0]
    obtain ⟨h1, h2⟩ := PrS.put (t := kI l[i]) (m := n1 + 12) (id := n1 + 8) hb htk hf (by omega) (by omega)
    exact .mk ⟨i + 1, _, n1 + 12⟩ rfl ⟨hlt, by simp only []; omega, by rw [nx _ (by unfold wT; rw [if_pos hnm])]; exact h1, hk1.trans h2⟩ (by simp only []; omega)
  | false =>
    simp only [eE, eC, eN, reduceCtorEq, Nat.reduceEqDiff, ↓reduceIte, Nat.reduceAdd, Nat.reduceLeDiff, Nat.reduceMul, Nat.reduceLT, Int.reduceEq, Option.getD_some, Int.toNat_natCast, Int.natCast_nonneg, List.length_map, List.getElem?_map, lt_T hlt, hg, e, Tw_n, s1, dS, isS, toS, hnm, hb, q1, q2, q3, fr1 hf, sep2 hpl, k0]
    obtain ⟨h1, h2⟩ := PrS.put (t := kS l[i]) (m := n1 + 12) (id := n1 + 8) hb htk hf (by omega) (by omega)
    exact .mk ⟨i + 1, _, n1 + 12⟩ rfl ⟨hlt, by simp only []; omega, by rw [nx _ (by unfold wT; rw [if_neg (by rw [hnm]; decide)])]; exact h1, hk1.trans h2⟩ (by simp only []; omega)
theorem nsT_take {l : List Bs} {i : Nat} (h : i < l.length) : nsT (l.take (i + 1)) = nsT (l.take i) ++ (if i = 0 then [kI l[i]] else [kS [44], kI l[i]]) := by
  cases l with
  | nil => simp at h
  | cons s r =>
    cases i with
    | zero => simp [nsT, mT]
    | succ i =>
      have hi : i < r.length := by simpa using h
      simp only [List.take_succ_cons, nsT, List.getElem_cons_succ, Nat.add_one_ne_zero, if_false]
      unfold mT
      rw [List.take_add_one, List.getElem?_eq_getElem hi, List.flatMap_append]
      simp
theorem nsT_len (l : List Bs) : (nsT l).length ≤ 2 * l.length := by
  cases l with
  | nil => simp [nsT]
  | cons s r =>
    simp only [nsT, List.length_cons, mT]
    have : (r.flatMap fun s => [kS [44], kI s]).length = 2 * r.length := by
      induction r with
      | nil => rfl
      | cons x r ih => simp only [List.flatMap_cons, List.length_append, ih, List.length_cons, List.length_nil]; omega
    omega
theorem e_word1 (s : Bs) : EmitOK 900000 92 [.sl (.exact 1) [.str s]] [wT s] := e_words [s] (by simp)
theorem e_list (l : List Bs) (ks : List Int) (hk : ∀ k ∈ ks, 0 ≤ k ∧ k < l.length ∧ nameS (getS l k) = true) (hl1 : ks.length ≤ 1000) : EmitOK 800000 94 [eSs l, eIs ks] (nsT (ks.map (getS l))) := by
  intro pid H n ts hP hl
  have hnl := nsT_len (ks.map (getS l))
  rw [List.length_map] at hnl
  refine a94 (ev_awp TabOK.tnil (ev_evK ?_))
  simp only [eE, eN, reduceCtorEq, Nat.reduceEqDiff, ↓reduceIte, Nat.reduceAdd, List.length_map, c94]
  refine k_loop (fun v : Vw => ⟨[(0, true, .ptr pid 0), (1, true, eSs l), (8, true, eIs ks), (9, true, .int .i64 ks.length), (10, true, .int .i64 v.i)], v.H, v.n⟩) (fun v => v.i ≤ ks.length ∧ n ≤ v.n ∧ PrS pid v.H v.n (ts ++ nsT ((ks.map (getS l)).take v.i)) ∧ KeepsT pid H v.H) (fun v => ks.length - v.i) ⟨0, H, n⟩ rfl ⟨Nat.zero_le _, Nat.le_refl _, by simpa [nsT] using hP, KeepsT.refl _⟩ ?_
  rintro ⟨i, H1, n1⟩ ⟨hi, hn, hP1, hk1⟩
  simp only at hi hn hP1 hk1
  by_cases hlt : i < ks.length
  case neg =>
    simp only [eE, eC, eN, reduceCtorEq, Nat.reduceEqDiff, ↓reduceIte, lt_F hlt]
    rw [List.take_of_length_le (by simp; omega)] at hP1
    exact ⟨rfl, hn, hP1, hk1⟩
  have hg := List.getElem?_eq_getElem hlt
  have e := w64_succ (k := i) (by omega)
  obtain ⟨k0, k1, k2⟩ := hk _ (List.getElem_mem hlt)
  have hltm : i < (ks.map (getS l)).length := by simpa using hlt
  have nx := nsT_take hltm
  have hgm : (ks.map (getS l))[i] = getS l ks[i] := by simp
  rw [hgm] at nx
  have hnt := nsT_len ((ks.map (getS l)).take i)
  have htl : ((ks.map (getS l)).take i).length ≤ ks.length := by simp; omega
  have hgl : l[ks[i].toNat]?.getD [] = getS l ks[i] := rfl
  have hgl2 : l[ks[i].toNat]? = some (getS l ks[i]) := by
    rw [← hgl, List.getElem?_eq_getElem (by omega)]; rfl
  have k3 : (ks[i].toNat < l.length) = True := eq_true (by omega)
  have hw : wT (getS l ks[i]) = kI (getS l ks[i]) := by unfold wT; rw [if_pos k2]
  generalize getS l ks[i] = s at hgl2 nx hw hgm
  by_cases h0 : i = 0
  · subst h0
    simp only [if_true] at nx
    have lz : ((0 : Int) < (ks.length : Int)) = True := eq_true (by omega)
    simp only [eE, eC, eN, reduceCtorEq, Nat.reduceEqDiff, ↓reduceIte, Nat.reduceLeDiff, Nat.reduceMul, Nat.reduceLT, c0, i00, Option.getD_some, Int.toNat_zero, Int.le_refl, List.length_map, List.getElem?_map, lz, hg, k0, k1, hgl2]
    refine em (e_word1 s) hP1 (by simp only [List.length_append]; omega) fun H2 n2 hn2 hP2 hk2 => ?_
    simp only [eE, eN, reduceCtorEq, Nat.reduceEqDiff, ↓reduceIte, Int.reduceEq, retK]
    refine .mk ⟨0 + 1, H2, n2⟩ rfl ⟨hlt, by simp only []; omega, ?_, hk1.trans hk2⟩ (by simp only []; omega)
    simp only []
    rw [nx, ← List.append_assoc, ← hw]; exact hP2
  · have hi0 : ((0 : Int) < (i : Int)) = True := eq_true (by omega)
    rw [if_neg h0] at nx
    simp only [eE, eC, eN, reduceCtorEq, Nat.reduceEqDiff, ↓reduceIte, Nat.reduceLeDiff, Nat.reduceMul, Nat.reduceLT, Option.getD_some, Int.toNat_natCast, Int.natCast_nonneg, List.length_map, List.getElem?_map, lt_T hlt, hg, hi0]
    refine em (e_word1 [44]) hP1 (by simp only [List.length_append]; omega) fun H2 n2 hn2 hP2 hk2 => ?_
    simp only [eE, eN, reduceCtorEq, Nat.reduceEqDiff, ↓reduceIte, Nat.reduceLeDiff, Nat.reduceMul, Nat.reduceLT, Option.getD_some, List.length_map, List.getElem?_map, retK, k0, k1, hgl2]
    refine em (e_word1 s) hP2 (by simp only [List.length_append, List.length_cons, List.length_nil]; omega) fun H3 n3 hn3 hP3 hk3 => ?_
    simp only [eE, eN, reduceCtorEq, Nat.reduceEqDiff, ↓reduceIte, Int.reduceEq, retK, e]
    refine .mk ⟨i + 1, H3, n3⟩ rfl ⟨hlt, by simp only []; omega, ?_, hk1.trans (hk2.trans hk3)⟩ (by simp only []; omega)
    simp only []
    have e44 : wT [44] = kS [44] := rfl
    rw [nx, ← hw, ← e44]
    simpa using hP3
end Go.AM
end
section
set_option maxRecDepth 20000
set_option linter.all false
namespace Go.AM
open Go.Proofs Go.Lib
theorem range_get (l : List Bs) : (rangeI l.length).map (getS l) = l := by
  apply List.ext_getElem
  · simp [rangeI]
  · intro i h1 h2
    simp [rangeI, getS, h2]
theorem okr_of {l : List Bs} (h : l.all nameS = true) {ks : List Int} (hk : (ks.all fun k => decide (0 ≤ k) && decide (k < l.length)) = true) : ∀ k ∈ ks, 0 ≤ k ∧ k < l.length ∧ nameS (getS l k) = true := fun k hk1 => by
  have := List.all_eq_true.1 hk k hk1
  simp only [Bool.and_eq_true, decide_eq_true_eq] at this
  exact ⟨this.1, this.2, get_name h this.1 this.2⟩
theorem e_all {l : List Bs} (h : l.all nameS = true) (hl : l.length ≤ 1000) : EmitOK 800000 94 [eSs l, eIs (rangeI l.length)] (nsT l) := by
  have := e_list l (rangeI l.length) (okr_of h (by
    rw [List.all_eq_true]
    intro k hk
    obtain ⟨i, hi, rfl⟩ := List.mem_map.1 hk
    have := List.mem_range.1 hi
    simp; omega)) (by rw [rangeI_len]; exact hl)
  rwa [range_get] at this
theorem wT_y {s : Bs} (h : nameS s = true) : wT s = kI s := by unfold wT; rw [if_pos h]
def Tpl : Tab := tadd 95 (s1 dSs (fun a => few a) fun a => eIs (rangeI a.length)) tnil
theorem Tpl_ok : TabOK Tryz.prog Tpl := TabOK.tnil.add (q1 fun a h => p95 a h)
theorem Tpl_a (a : List AVal) (H : AHeap) : Tpl 95 a H = s1 dSs (fun a => few a) (fun a => eIs (rangeI a.length)) a H := rfl
def hdT (x : Lma) : List Tkn := [kI wLem, kI x.nm, kI wLev, kN x.lv, kS [123], kI wCel] ++ nsT x.cs ++ [kS [59], kI wLet] ++ nsT x.ls ++ [kS [59]]
def iQ (x : Lma) (q : Cnd) : Itm := ⟨q.k, q.n, q.ls.map (getS x.ls), q.cs.map (getS x.cs)⟩
def iP (x : Lma) (p : Prm) : Itm := ⟨0, 0, p.ls.map (getS x.ls), [getS x.cs p.c]⟩
def enT (x : Lma) : List Tkn := [kI wLac, kI (getS x.cs x.c), kI (getS x.ls x.l), kS [59], kS [125]]
theorem drT_parts (x : Lma) : drT (unR x) = hdT x ++ isT' (x.qs.map (iQ x)) ++ isT' (x.ps.map (iP x)) ++ enT x := by
  unfold drT hdT enT unR isT'
  simp only [List.flatMap_append, List.append_assoc]
  rfl
theorem it_len (i : Itm) : (itT i).length ≤ 4 + 2 * i.ls.length + 2 * i.cs.length := by
  have h1 := nsT_len i.ls
  have h2 := nsT_len i.cs
  unfold itT
  repeat' split
  all_goals simp only [List.length_cons, List.length_append]; omega
theorem isT_take {is : List Itm} {i : Nat} (h : i < is.length) : isT' (is.take (i + 1)) = isT' (is.take i) ++ (itT is[i] ++ [kS [59]]) := by
  unfold isT'
  rw [List.take_add_one, List.getElem?_eq_getElem h, List.flatMap_append]
  simp
theorem isTl {is : List Itm} (h : ∀ i ∈ is, i.ls.length ≤ 4 ∧ i.cs.length ≤ 4) : (isT' is).length ≤ 21 * is.length := by
  induction is with
  | nil => simp [isT']
  | cons i r ih =>
    have h1 := it_len i
    have h2 := h i (by simp)
    have := ih fun j hj => h j (by simp [hj])
    have e : isT' (i :: r) = itT i ++ [kS [59]] ++ isT' r := by simp [isT']
    rw [e]
    simp only [List.length_append, List.length_cons, List.length_nil]; omega
theorem dif_len {l : List Int} {n : Nat} (h : difI l n = true) : l.length ≤ n := by
  have hr := dif_rng h
  unfold difI at h; rw [Bool.and_eq_true] at h
  exact pigeon n l h.2 hr
theorem q_len {x : Lma} (h : OKL x) {q : Cnd} (hq : q ∈ x.qs) : q.ls.length ≤ 3 ∧ q.cs.length ≤ 4 := by
  have hk := cnd_ok (h.qs q hq)
  have h1 := dif_len hk.cs
  have h2 := dif_len hk.ls
  have := h.cs.2.2.2
  have := h.ls.2.2.2
  omega
theorem p_len {x : Lma} (h : OKL x) {p : Prm} (hp : p ∈ x.ps) : p.ls.length ≤ 3 := by
  have h2 := dif_len (h.ps p hp).1
  have := h.ls.2.2.2
  omega
theorem okl_few {x : Lma} (h : OKL x) : FewL x := by
  have h1 := h.cs.2.2.2
  have h2 := h.ls.2.2.2
  have h3 := h.nq
  have h4 := dif_len h.pc
  rw [List.length_map] at h4
  exact ⟨by show x.cs.length < _; omega, by show x.ls.length < _; omega, by show x.qs.length < _; omega, by show x.ps.length < _; omega, fun q hq => by have := q_len h hq; constructor <;> (show List.length _ < _; omega), fun p hp => by have := p_len h hp; show List.length _ < _; omega⟩
theorem words3 {a b c : Bs} : EmitOK 900000 92 [.sl (.exact 1) [.str a, .str b, .str c]] [wT a, wT b, wT c] := e_words [a, b, c] (by simp)
theorem words2 {a b : Bs} : EmitOK 900000 92 [.sl (.exact 1) [.str a, .str b]] [wT a, wT b] := e_words [a, b] (by simp)
theorem words5 {a b c d e : Bs} : EmitOK 900000 92 [.sl (.exact 1) [.str a, .str b, .str c, .str d, .str e]] [wT a, wT b, wT c, wT d, wT e] := e_words [a, b, c, d, e] (by simp)
def kw (k : Int) : Bs := if k = 1 then wDif else if k = 2 then wHom else if k = 3 then wApa else if k = 4 then wRis else if k = 5 then wNea else wQuo
structure Vp where
  i : Nat
  H : AHeap
  n : Nat
theorem e_lemma (x : Lma) (hx : OKL x) : EmitOK 700000 34 [encL x] (drT (unR x)) := by
  intro pid H n ts hP hl
  have hfx := okl_few hx
  have hf : Fresh H n := by obtain ⟨_, _, _, _, h⟩ := hP; exact h
  have hlt : pid < n := by obtain ⟨_, hb, _, _, h⟩ := hP; exact h.lt hb
  have hc4 := hx.cs.2.2.2
  have hl3 := hx.ls.2.2.2
  have hq6 := hx.nq
  have hp4 := dif_len hx.pc
  rw [List.length_map] at hp4
  have hnc := nsT_len x.cs
  have hnl := nsT_len x.ls
  refine a34 (ev_awp Tpl_ok (ev_evK ?_))
  have hP0 : PrS pid (hset H n (.box (cellsL x))) (n + 1) ts := by
    obtain ⟨tk, hb, htk, hes, h⟩ := hP
    refine ⟨tk, by rw [hget_hset_ne _ _ _ _ (by omega)]; exact hb, htk.set (.inr (.inr (hf _ (Nat.le_refl _)))), hes, h.hset (by omega) (by omega)⟩
  have hx0 : hget (hset H n (.box (cellsL x))) n = some (.box (cellsL x)) := hget_hset_eq ..
  have hk0 : KeepsT pid H (hset H n (.box (cellsL x))) := fun id ob hne ho h => by
    have := hf.lt h
    rw [hget_hset_ne _ _ _ _ (by omega)]; exact h
  have hne : n ≠ pid := by omega
  simp only [eE, eN, reduceCtorEq, Nat.reduceEqDiff, ↓reduceIte, Nat.reduceAdd, Nat.reduceLeDiff, Nat.reduceMul, Nat.reduceLT, c34, fr0 hf]
  generalize hset H n (.box (cellsL x)) = H0 at hP0 hx0 hk0
  refine em words3 hP0 (by omega) fun H1 n1 hn1 hP1 hk1 => ?_
  have hx1 := hk1.box hne hx0
  simp only [eE, eN, reduceCtorEq, Nat.reduceEqDiff, ↓reduceIte, Nat.reduceAdd, Nat.reduceLeDiff, retK, hx1]
  have c0T : few x.cs = True := eq_true hfx.cs
  have l0T : few x.ls = True := eq_true hfx.ls
  refine em (e_number x.lv) hP1 (by simp only [List.length_append, List.length_cons, List.length_nil]; omega) fun H2 n2 hn2 hP2 hk2 => ?_
  have hx2 := hk2.box hne hx1
  simp only [eE, eN, reduceCtorEq, Nat.reduceEqDiff, ↓reduceIte, Nat.reduceLeDiff, Nat.reduceMul, Nat.reduceLT, retK]
  refine em words2 hP2 (by simp only [List.length_append, List.length_cons, List.length_nil]; omega) fun H3 n3 hn3 hP3 hk3 => ?_
  have hx3 := hk3.box hne hx2
  simp only [eE, eN, reduceCtorEq, Nat.reduceEqDiff, ↓reduceIte, Nat.reduceAdd, Nat.reduceLeDiff, retK, hx3, Tpl_a, s1, dSs, okL, decL, toSs_map, c0T]
  refine em (e_all hx.cs.1 (by omega)) hP3 (by simp only [List.length_append, List.length_cons, List.length_nil]; omega) fun H4 n4 hn4 hP4 hk4 => ?_
  have hx4 := hk4.box hne hx3
  simp only [eE, eN, reduceCtorEq, Nat.reduceEqDiff, ↓reduceIte, Nat.reduceLeDiff, Nat.reduceMul, Nat.reduceLT, retK]
  refine em words2 hP4 (by simp only [List.length_append, List.length_cons, List.length_nil]; omega) fun H5 n5 hn5 hP5 hk5 => ?_
  have hx5 := hk5.box hne hx4
  simp only [eE, eN, reduceCtorEq, Nat.reduceEqDiff, ↓reduceIte, Nat.reduceAdd, Nat.reduceLeDiff, retK, hx5, Tpl_a, s1, dSs, okL, decL, toSs_map, l0T]
  refine em (e_all hx.ls.1 (by omega)) hP5 (by simp only [List.length_append, List.length_cons, List.length_nil]; omega) fun H6 n6 hn6 hP6 hk6 => ?_
  have hx6 := hk6.box hne hx5
  simp only [eE, eN, reduceCtorEq, Nat.reduceEqDiff, ↓reduceIte, Nat.reduceLeDiff, Nat.reduceMul, Nat.reduceLT, retK]
  refine em (e_word1 [59]) hP6 (by simp only [List.length_append, List.length_cons, List.length_nil]; omega) fun H7 n7 hn7 hP7 hk7 => ?_
  have hx7 := hk7.box hne hx6
  simp only [eE, eN, reduceCtorEq, Nat.reduceEqDiff, ↓reduceIte, Nat.reduceAdd, Nat.reduceLeDiff, List.length_map, retK, hx7]
  have hPh : PrS pid H7 n7 (ts ++ hdT x) := by
    have e : ts ++ hdT x = ts ++ [wT wLem, wT x.nm, wT wLev] ++ [kN x.lv] ++ [wT [123], wT wCel] ++ nsT x.cs ++ [wT [59], wT wLet] ++ nsT x.ls ++ [wT [59]] := by
      have e1 : wT wLem = kI wLem := rfl
      have e2 : wT wLev = kI wLev := rfl
      have e3 : wT [123] = kS [123] := rfl
      have e4 : wT wCel = kI wCel := rfl
      have e5 : wT [59] = kS [59] := rfl
      have e6 : wT wLet = kI wLet := rfl
      unfold hdT
      rw [e1, e2, e3, e4, e5, e6, wT_y hx.nm]
      simp only [List.append_assoc, List.cons_append, List.nil_append]
    rw [e]; exact hP7
  have hkh : KeepsT pid H H7 := hk0.trans (hk1.trans (hk2.trans (hk3.trans (hk4.trans (hk5.trans (hk6.trans hk7))))))
  have hn0 : n ≤ n7 := by omega
  clear hP1 hP2 hP3 hP4 hP5 hP6 hP7 hk1 hk2 hk3 hk4 hk5 hk6 hk7 hx1 hx2 hx3 hx4 hx5 hx6 hn1 hn2 hn3 hn4 hn5 hn6 hn7 hP0 hk0 hx0
  have hhl : (hdT x).length ≤ 40 := by
    unfold hdT
    simp only [List.length_append, List.length_cons, List.length_nil]; omega
  have hQl : ∀ i, (isT' ((x.qs.map (iQ x)).take i)).length ≤ 126 := fun i => by
    have h1 := isTl (is := (x.qs.map (iQ x)).take i) (fun j hj => by
      obtain ⟨q, hq, rfl⟩ := List.mem_map.1 (List.mem_of_mem_take hj)
      have := q_len hx hq
      simp only [iQ, List.length_map]; omega)
    have h2 : ((x.qs.map (iQ x)).take i).length ≤ x.qs.length := by simp; omega
    omega
  refine k_loop (fun v : Vp => ⟨[(0, true, .ptr pid 0), (3, true, .ptr n 0), (41, true, .sl (.none 4) (x.qs.map encQ)), (42, true, .int .i64 x.qs.length), (43, true, .int .i64 v.i)], v.H, v.n⟩) (fun v => v.i ≤ x.qs.length ∧ n ≤ v.n ∧ PrS pid v.H v.n (ts ++ hdT x ++ isT' ((x.qs.map (iQ x)).take v.i)) ∧ KeepsT pid H v.H ∧ hget v.H n = some (.box (cellsL x))) (fun v => x.qs.length - v.i)
    ⟨0, H7, n7⟩ rfl ⟨Nat.zero_le _, hn0, by simpa [isT'] using hPh, hkh, hx7⟩ ?_
  clear hPh hkh hx7 hn0 H7 n7 H1 n1 H2 n2 H3 n3 H4 n4 H5 n5 H6 n6 H0
  rintro ⟨i, H0, n0⟩ ⟨hi, hn0, hP0, hk0, hx0⟩
  simp only at hi hn0 hP0 hk0 hx0
  by_cases hli : i < x.qs.length
  · have hg := List.getElem?_eq_getElem hli
    have e := w64_succ (k := i) (by omega)
    have hqm : x.qs[i] ∈ x.qs := List.getElem_mem hli
    have hok := cnd_ok (hx.qs _ hqm)
    have hql := q_len hx hqm
    have nx := isT_take (is := x.qs.map (iQ x)) (i := i) (by simpa using hli)
    rw [show (x.qs.map (iQ x))[i]'(by simpa using hli) = iQ x x.qs[i] by simp] at nx
    have hlp := hQl i
    generalize x.qs[i] = q at hg hok hql nx
    have hfr0 : Fresh H0 n0 := by obtain ⟨_, _, _, _, h⟩ := hP0; exact h
    have hP1 : PrS pid (hset (hset H0 (n0 + 2) (.box [.int .i64 0, .sl .nil [], .sl .nil [], .int .i64 0])) (n0 + 2) (.box [.int .i64 q.k, eIs q.cs, eIs q.ls, .int .i64 q.n])) (n0 + 4) (ts ++ hdT x ++ isT' ((x.qs.map (iQ x)).take i)) := by
      obtain ⟨tk, hb, htk, hes, h⟩ := hP0
      refine ⟨tk, by rw [hget_hset_ne _ _ _ _ (by omega), hget_hset_ne _ _ _ _ (by omega)]; exact hb, (htk.set (.inr (.inr (h _ (by omega))))).set (.inr (.inl ⟨_, hget_hset_eq ..⟩)), hes, (h.hset (m := n0 + 4) (by omega) (by omega)).hset (Nat.le_refl _) (by omega)⟩
    have hx1 : hget (hset (hset H0 (n0 + 2) (.box [.int .i64 0, .sl .nil [], .sl .nil [], .int .i64 0])) (n0 + 2) (.box [.int .i64 q.k, eIs q.cs, eIs q.ls, .int .i64 q.n])) n = some (.box (cellsL x)) := by
      rw [hget_hset_ne _ _ _ _ (by omega), hget_hset_ne _ _ _ _ (by omega)]; exact hx0
    have hq1 : hget (hset (hset H0 (n0 + 2) (.box [.int .i64 0, .sl .nil [], .sl .nil [], .int .i64 0])) (n0 + 2) (.box [.int .i64 q.k, eIs q.cs, eIs q.ls, .int .i64 q.n])) (n0 + 2) = some (.box [.int .i64 q.k, eIs q.cs, eIs q.ls, .int .i64 q.n]) := hget_hset_eq ..
    have hk1 : KeepsT pid H (hset (hset H0 (n0 + 2) (.box [.int .i64 0, .sl .nil [], .sl .nil [], .int .i64 0])) (n0 + 2) (.box [.int .i64 q.k, eIs q.cs, eIs q.ls, .int .i64 q.n])) := fun id ob h1 h2 h3 => by
      have := hf.lt h3
      rw [hget_hset_ne _ _ _ _ (by omega), hget_hset_ne _ _ _ _ (by omega)]; exact hk0 id ob h1 h2 h3
    have hne2 : n0 + 2 ≠ pid := by omega
    have kwi : EmitOK 900000 92 [.sl (.exact 1) [.str (kw q.k)]] [wT (kw q.k)] := e_word1 _
    have elL := e_list x.ls q.ls (okr_of hx.ls.1 (dif_rng hok.ls)) (by omega)
    have elC := e_list x.cs q.cs (okr_of hx.cs.1 (dif_rng hok.cs)) (by omega)
    have hnL := nsT_len (q.ls.map (getS x.ls))
    have hnC := nsT_len (q.cs.map (getS x.cs))
    rw [List.length_map] at hnL hnC
    have y1 : (n = n0 + 2) = False := eq_false (by omega)
    have y2 : (n0 + 2 = n) = False := eq_false (by omega)
    have c7 : ((7 : Nat) : Int) = 7 := rfl
    obtain ⟨k, cs, ls, v⟩ := q
    simp only at hql hnL hnC elL elC
    have hkd := hok.kind
    simp only at hkd
    rcases hkd with ⟨rfl | rfl, k2, k3, k4⟩ | ⟨rfl, k2, k3⟩ | ⟨rfl, k2, k3, k4, k5⟩ | ⟨rfl, k2, k3, k4⟩ | ⟨rfl, k2, k3, k4⟩
    · have hls : ls = [] := List.length_eq_zero_iff.1 k3
      simp only [eE, eC, eN, reduceCtorEq, Nat.reduceEqDiff, ↓reduceIte, Nat.reduceAdd, Nat.reduceLeDiff, Nat.reduceMul, Nat.reduceLT, Int.reduceLE, Int.reduceLT, Option.getD_some, Int.toNat_one, Int.toNat_natCast, Int.natCast_nonneg, List.length_map, List.getElem?_map, lt_T hli, hg, fr1 hfr0, c7]
      refine em (e_word1 wDif) hP1 (by simp only [List.length_append]; omega) fun G2 m2 hm2 hP2 hk2 => ?_
      have hx2 := hk2.box hne hx1
      have hq2 := hk2.box hne2 hq1
      simp only [eE, eC, eN, reduceCtorEq, Nat.reduceEqDiff, ↓reduceIte, Nat.reduceAdd, Nat.reduceLeDiff, Int.reduceEq, retK, hx2, hq2]
      refine em elL hP2 (by simp only [List.length_append, List.length_cons, List.length_nil]; omega) fun G3 m3 hm3 hP3 hk3 => ?_
      have hx3 := hk3.box hne hx2
      have hq3 := hk3.box hne2 hq2
      simp only [eE, eC, eN, reduceCtorEq, Nat.reduceEqDiff, ↓reduceIte, Nat.reduceAdd, Nat.reduceLeDiff, Int.reduceEq, retK, hx3, hq3]
      refine em elC hP3 (by simp only [List.length_append, List.length_cons, List.length_nil]; omega) fun G4 m4 hm4 hP4 hk4 => ?_
      have hx4 := hk4.box hne hx3
      simp only [eE, eN, reduceCtorEq, Nat.reduceEqDiff, ↓reduceIte, Nat.reduceLeDiff, Nat.reduceMul, Nat.reduceLT, retK]
      refine em (e_word1 [59]) hP4 (by simp only [List.length_append, List.length_cons, List.length_nil]; omega) fun G5 m5 hm5 hP5 hk5 => ?_
      have hx5 := hk5.box hne hx4
      simp only [eE, eN, reduceCtorEq, Nat.reduceEqDiff, ↓reduceIte, Int.reduceEq, retK, e]
      refine .mk ⟨i + 1, G5, m5⟩ rfl ⟨hli, by simp only []; omega, ?_, hk1.trans (hk2.trans (hk3.trans (hk4.trans (hk5)))), hx5⟩ (by simp only []; omega)
      simp only []
      rw [nx]
      have w1 : wT wDif = kI wDif := rfl
      have w2 : wT [58] = kS [58] := rfl
      have w3 : wT [59] = kS [59] := rfl
      rw [w1, w3] at hP5
      simpa [itT, iQ, nsT, hls] using hP5
    · have hls : ls = [] := List.length_eq_zero_iff.1 k3
      simp only [eE, eC, eN, reduceCtorEq, Nat.reduceEqDiff, ↓reduceIte, Nat.reduceAdd, Nat.reduceLeDiff, Nat.reduceMul, Nat.reduceLT, Int.reduceLE, Int.reduceLT, Int.reduceToNat, Option.getD_some, Int.toNat_natCast, Int.natCast_nonneg, List.length_map, List.getElem?_map, lt_T hli, hg, fr1 hfr0, c7]
      refine em (e_word1 wRis) hP1 (by simp only [List.length_append]; omega) fun G2 m2 hm2 hP2 hk2 => ?_
      have hx2 := hk2.box hne hx1
      have hq2 := hk2.box hne2 hq1
      simp only [eE, eC, eN, reduceCtorEq, Nat.reduceEqDiff, ↓reduceIte, Nat.reduceAdd, Nat.reduceLeDiff, Int.reduceEq, retK, hx2, hq2]
      refine em elL hP2 (by simp only [List.length_append, List.length_cons, List.length_nil]; omega) fun G3 m3 hm3 hP3 hk3 => ?_
      have hx3 := hk3.box hne hx2
      have hq3 := hk3.box hne2 hq2
      simp only [eE, eC, eN, reduceCtorEq, Nat.reduceEqDiff, ↓reduceIte, Nat.reduceAdd, Nat.reduceLeDiff, Int.reduceEq, retK, hx3, hq3]
      refine em elC hP3 (by simp only [List.length_append, List.length_cons, List.length_nil]; omega) fun G4 m4 hm4 hP4 hk4 => ?_
      have hx4 := hk4.box hne hx3
      simp only [eE, eN, reduceCtorEq, Nat.reduceEqDiff, ↓reduceIte, Nat.reduceLeDiff, Nat.reduceMul, Nat.reduceLT, retK]
      refine em (e_word1 [59]) hP4 (by simp only [List.length_append, List.length_cons, List.length_nil]; omega) fun G5 m5 hm5 hP5 hk5 => ?_
      have hx5 := hk5.box hne hx4
      simp only [eE, eN, reduceCtorEq, Nat.reduceEqDiff, ↓reduceIte, Int.reduceEq, retK, e]
      refine .mk ⟨i + 1, G5, m5⟩ rfl ⟨hli, by simp only []; omega, ?_, hk1.trans (hk2.trans (hk3.trans (hk4.trans (hk5)))), hx5⟩ (by simp only []; omega)
      simp only []
      rw [nx]
      have w1 : wT wRis = kI wRis := rfl
      have w2 : wT [58] = kS [58] := rfl
      have w3 : wT [59] = kS [59] := rfl
      rw [w1, w3] at hP5
      simpa [itT, iQ, nsT, hls] using hP5
    · simp only [eE, eC, eN, reduceCtorEq, Nat.reduceEqDiff, ↓reduceIte, Nat.reduceAdd, Nat.reduceLeDiff, Nat.reduceMul, Nat.reduceLT, Int.reduceLE, Int.reduceLT, Int.reduceToNat, Option.getD_some, Int.toNat_natCast, Int.natCast_nonneg, List.length_map, List.getElem?_map, lt_T hli, hg, fr1 hfr0, c7]
      refine em (e_word1 wHom) hP1 (by simp only [List.length_append]; omega) fun G2 m2 hm2 hP2 hk2 => ?_
      have hx2 := hk2.box hne hx1
      have hq2 := hk2.box hne2 hq1
      simp only [eE, eC, eN, reduceCtorEq, Nat.reduceEqDiff, ↓reduceIte, Nat.reduceAdd, Nat.reduceLeDiff, Int.reduceEq, retK, hx2, hq2]
      refine em elL hP2 (by simp only [List.length_append, List.length_cons, List.length_nil]; omega) fun G3 m3 hm3 hP3 hk3 => ?_
      have hx3 := hk3.box hne hx2
      have hq3 := hk3.box hne2 hq2
      simp only [eE, eC, eN, reduceCtorEq, Nat.reduceEqDiff, ↓reduceIte, Nat.reduceAdd, Nat.reduceLeDiff, Nat.reduceMul, Nat.reduceLT, Int.reduceEq, retK, hq3]
      refine em (e_word1 [58]) hP3 (by simp only [List.length_append, List.length_cons, List.length_nil]; omega) fun G4 m4 hm4 hP4 hk4 => ?_
      have hx4 := hk4.box hne hx3
      have hq4 := hk4.box hne2 hq3
      simp only [eE, eN, reduceCtorEq, Nat.reduceEqDiff, ↓reduceIte, Nat.reduceAdd, Nat.reduceLeDiff, retK, hx4, hq4]
      refine em elC hP4 (by simp only [List.length_append, List.length_cons, List.length_nil]; omega) fun G5 m5 hm5 hP5 hk5 => ?_
      have hx5 := hk5.box hne hx4
      simp only [eE, eN, reduceCtorEq, Nat.reduceEqDiff, ↓reduceIte, Nat.reduceLeDiff, Nat.reduceMul, Nat.reduceLT, retK]
      refine em (e_word1 [59]) hP5 (by simp only [List.length_append, List.length_cons, List.length_nil]; omega) fun G6 m6 hm6 hP6 hk6 => ?_
      have hx6 := hk6.box hne hx5
      simp only [eE, eN, reduceCtorEq, Nat.reduceEqDiff, ↓reduceIte, Int.reduceEq, retK, e]
      refine .mk ⟨i + 1, G6, m6⟩ rfl ⟨hli, by simp only []; omega, ?_, hk1.trans (hk2.trans (hk3.trans (hk4.trans (hk5.trans (hk6))))), hx6⟩ (by simp only []; omega)
      simp only []
      rw [nx]
      have w1 : wT wHom = kI wHom := rfl
      have w2 : wT [58] = kS [58] := rfl
      have w3 : wT [59] = kS [59] := rfl
      rw [w1, w2, w3] at hP6
      simpa [itT, iQ] using hP6
    · have hls : ls = [] := List.length_eq_zero_iff.1 k3
      simp only [eE, eC, eN, reduceCtorEq, Nat.reduceEqDiff, ↓reduceIte, Nat.reduceAdd, Nat.reduceLeDiff, Nat.reduceMul, Nat.reduceLT, Int.reduceLE, Int.reduceLT, Int.reduceToNat, Option.getD_some, Int.toNat_natCast, Int.natCast_nonneg, List.length_map, List.getElem?_map, lt_T hli, hg, fr1 hfr0, c7]
      refine em (e_word1 wApa) hP1 (by simp only [List.length_append]; omega) fun G2 m2 hm2 hP2 hk2 => ?_
      have hx2 := hk2.box hne hx1
      have hq2 := hk2.box hne2 hq1
      simp only [eE, eC, eN, reduceCtorEq, Nat.reduceEqDiff, ↓reduceIte, Nat.reduceAdd, Nat.reduceLeDiff, Int.reduceEq, Bool.not_true, retK, hq2]
      refine em (e_number v) hP2 (by simp only [List.length_append, List.length_cons, List.length_nil]; omega) fun G3 m3 hm3 hP3 hk3 => ?_
      have hx3 := hk3.box hne hx2
      have hq3 := hk3.box hne2 hq2
      simp only [eE, eN, reduceCtorEq, Nat.reduceEqDiff, ↓reduceIte, Nat.reduceAdd, Nat.reduceLeDiff, retK, hx3, hq3]
      refine em elL hP3 (by simp only [List.length_append, List.length_cons, List.length_nil]; omega) fun G4 m4 hm4 hP4 hk4 => ?_
      have hx4 := hk4.box hne hx3
      have hq4 := hk4.box hne2 hq3
      simp only [eE, eC, eN, reduceCtorEq, Nat.reduceEqDiff, ↓reduceIte, Nat.reduceAdd, Nat.reduceLeDiff, Nat.reduceMul, Nat.reduceLT, Int.reduceEq, Bool.not_true, retK, hq4]
      refine em (e_word1 [58]) hP4 (by simp only [List.length_append, List.length_cons, List.length_nil]; omega) fun G5 m5 hm5 hP5 hk5 => ?_
      have hx5 := hk5.box hne hx4
      have hq5 := hk5.box hne2 hq4
      simp only [eE, eN, reduceCtorEq, Nat.reduceEqDiff, ↓reduceIte, Nat.reduceAdd, Nat.reduceLeDiff, retK, hx5, hq5]
      refine em elC hP5 (by simp only [List.length_append, List.length_cons, List.length_nil]; omega) fun G6 m6 hm6 hP6 hk6 => ?_
      have hx6 := hk6.box hne hx5
      simp only [eE, eN, reduceCtorEq, Nat.reduceEqDiff, ↓reduceIte, Nat.reduceLeDiff, Nat.reduceMul, Nat.reduceLT, retK]
      refine em (e_word1 [59]) hP6 (by simp only [List.length_append, List.length_cons, List.length_nil]; omega) fun G7 m7 hm7 hP7 hk7 => ?_
      have hx7 := hk7.box hne hx6
      simp only [eE, eN, reduceCtorEq, Nat.reduceEqDiff, ↓reduceIte, Int.reduceEq, retK, e]
      refine .mk ⟨i + 1, G7, m7⟩ rfl ⟨hli, by simp only []; omega, ?_, hk1.trans (hk2.trans (hk3.trans (hk4.trans (hk5.trans (hk6.trans (hk7)))))), hx7⟩ (by simp only []; omega)
      simp only []
      rw [nx]
      have w1 : wT wApa = kI wApa := rfl
      have w2 : wT [58] = kS [58] := rfl
      have w3 : wT [59] = kS [59] := rfl
      rw [w1, w2, w3] at hP7
      simpa [itT, iQ, nsT, hls] using hP7
    · have hls : ls = [] := List.length_eq_zero_iff.1 k3
      simp only [eE, eC, eN, reduceCtorEq, Nat.reduceEqDiff, ↓reduceIte, Nat.reduceAdd, Nat.reduceLeDiff, Nat.reduceMul, Nat.reduceLT, Int.reduceLE, Int.reduceLT, Int.reduceToNat, Option.getD_some, Int.toNat_natCast, Int.natCast_nonneg, List.length_map, List.getElem?_map, lt_T hli, hg, fr1 hfr0, c7]
      refine em (e_word1 wNea) hP1 (by simp only [List.length_append]; omega) fun G2 m2 hm2 hP2 hk2 => ?_
      have hx2 := hk2.box hne hx1
      have hq2 := hk2.box hne2 hq1
      simp only [eE, eC, eN, reduceCtorEq, Nat.reduceEqDiff, ↓reduceIte, Nat.reduceAdd, Nat.reduceLeDiff, Int.reduceEq, retK, hx2, hq2]
      refine em elL hP2 (by simp only [List.length_append, List.length_cons, List.length_nil]; omega) fun G3 m3 hm3 hP3 hk3 => ?_
      have hx3 := hk3.box hne hx2
      have hq3 := hk3.box hne2 hq2
      simp only [eE, eC, eN, reduceCtorEq, Nat.reduceEqDiff, ↓reduceIte, Nat.reduceAdd, Nat.reduceLeDiff, Int.reduceEq, retK, hx3, hq3]
      refine em elC hP3 (by simp only [List.length_append, List.length_cons, List.length_nil]; omega) fun G4 m4 hm4 hP4 hk4 => ?_
      have hx4 := hk4.box hne hx3
      simp only [eE, eN, reduceCtorEq, Nat.reduceEqDiff, ↓reduceIte, Nat.reduceLeDiff, Nat.reduceMul, Nat.reduceLT, retK]
      refine em (e_word1 [59]) hP4 (by simp only [List.length_append, List.length_cons, List.length_nil]; omega) fun G5 m5 hm5 hP5 hk5 => ?_
      have hx5 := hk5.box hne hx4
      simp only [eE, eN, reduceCtorEq, Nat.reduceEqDiff, ↓reduceIte, Int.reduceEq, retK, e]
      refine .mk ⟨i + 1, G5, m5⟩ rfl ⟨hli, by simp only []; omega, ?_, hk1.trans (hk2.trans (hk3.trans (hk4.trans (hk5)))), hx5⟩ (by simp only []; omega)
      simp only []
      rw [nx]
      have w1 : wT wNea = kI wNea := rfl
      have w2 : wT [58] = kS [58] := rfl
      have w3 : wT [59] = kS [59] := rfl
      rw [w1, w3] at hP5
      simpa [itT, iQ, nsT, hls] using hP5
    · simp only [eE, eC, eN, reduceCtorEq, Nat.reduceEqDiff, ↓reduceIte, Nat.reduceAdd, Nat.reduceLeDiff, Nat.reduceMul, Nat.reduceLT, Int.reduceLE, Int.reduceLT, Int.reduceToNat, Option.getD_some, Int.toNat_natCast, Int.natCast_nonneg, List.length_map, List.getElem?_map, lt_T hli, hg, fr1 hfr0, c7]
      refine em (e_word1 wQuo) hP1 (by simp only [List.length_append]; omega) fun G2 m2 hm2 hP2 hk2 => ?_
      have hx2 := hk2.box hne hx1
      have hq2 := hk2.box hne2 hq1
      simp only [eE, eC, eN, reduceCtorEq, Nat.reduceEqDiff, ↓reduceIte, Nat.reduceAdd, Nat.reduceLeDiff, Int.reduceEq, retK, hq2]
      refine em (e_number v) hP2 (by simp only [List.length_append, List.length_cons, List.length_nil]; omega) fun G3 m3 hm3 hP3 hk3 => ?_
      have hx3 := hk3.box hne hx2
      have hq3 := hk3.box hne2 hq2
      simp only [eE, eN, reduceCtorEq, Nat.reduceEqDiff, ↓reduceIte, Nat.reduceAdd, Nat.reduceLeDiff, retK, hx3, hq3]
      refine em elL hP3 (by simp only [List.length_append, List.length_cons, List.length_nil]; omega) fun G4 m4 hm4 hP4 hk4 => ?_
      have hx4 := hk4.box hne hx3
      have hq4 := hk4.box hne2 hq3
      simp only [eE, eC, eN, reduceCtorEq, Nat.reduceEqDiff, ↓reduceIte, Nat.reduceAdd, Nat.reduceLeDiff, Nat.reduceMul, Nat.reduceLT, Int.reduceEq, Bool.not_true, retK, hq4]
      refine em (e_word1 [58]) hP4 (by simp only [List.length_append, List.length_cons, List.length_nil]; omega) fun G5 m5 hm5 hP5 hk5 => ?_
      have hx5 := hk5.box hne hx4
      have hq5 := hk5.box hne2 hq4
      simp only [eE, eN, reduceCtorEq, Nat.reduceEqDiff, ↓reduceIte, Nat.reduceAdd, Nat.reduceLeDiff, retK, hx5, hq5]
      refine em elC hP5 (by simp only [List.length_append, List.length_cons, List.length_nil]; omega) fun G6 m6 hm6 hP6 hk6 => ?_
      have hx6 := hk6.box hne hx5
      simp only [eE, eN, reduceCtorEq, Nat.reduceEqDiff, ↓reduceIte, Nat.reduceLeDiff, Nat.reduceMul, Nat.reduceLT, retK]
      refine em (e_word1 [59]) hP6 (by simp only [List.length_append, List.length_cons, List.length_nil]; omega) fun G7 m7 hm7 hP7 hk7 => ?_
      have hx7 := hk7.box hne hx6
      simp only [eE, eN, reduceCtorEq, Nat.reduceEqDiff, ↓reduceIte, Int.reduceEq, retK, e]
      refine .mk ⟨i + 1, G7, m7⟩ rfl ⟨hli, by simp only []; omega, ?_, hk1.trans (hk2.trans (hk3.trans (hk4.trans (hk5.trans (hk6.trans (hk7)))))), hx7⟩ (by simp only []; omega)
      simp only []
      rw [nx]
      have w1 : wT wQuo = kI wQuo := rfl
      have w2 : wT [58] = kS [58] := rfl
      have w3 : wT [59] = kS [59] := rfl
      rw [w1, w2, w3] at hP7
      simpa [itT, iQ] using hP7
  obtain rfl : i = x.qs.length := by omega
  rw [List.take_of_length_le (show (x.qs.map (iQ x)).length ≤ x.qs.length by simp)] at hP0
  have hQl' := hQl x.qs.length
  rw [List.take_of_length_le (show (x.qs.map (iQ x)).length ≤ x.qs.length by simp)] at hQl'
  simp only [eE, eC, eN, reduceCtorEq, Nat.reduceEqDiff, ↓reduceIte, Nat.reduceAdd, Nat.reduceLeDiff, List.length_map, lt_F hli, hx0]
  clear hQl hi hli
  refine k_loop (fun v : Vp => ⟨[(0, true, .ptr pid 0), (3, true, .ptr n 0), (99, true, .sl (.none 2) (x.ps.map encM)), (100, true, .int .i64 x.ps.length), (101, true, .int .i64 v.i)], v.H, v.n⟩) (fun v => v.i ≤ x.ps.length ∧ n ≤ v.n ∧ PrS pid v.H v.n (ts ++ hdT x ++ isT' (x.qs.map (iQ x)) ++ isT' ((x.ps.map (iP x)).take v.i)) ∧ KeepsT pid H v.H ∧ hget v.H n = some (.box (cellsL x))) (fun v => x.ps.length - v.i)
    ⟨0, H0, n0⟩ rfl ⟨Nat.zero_le _, hn0, by simpa [isT'] using hP0, hk0, hx0⟩ ?_
  clear hP0 hk0 hx0 hn0 H0 n0
  rintro ⟨i, H0, n0⟩ ⟨hi, hn0, hP0, hk0, hx0⟩
  simp only at hi hn0 hP0 hk0 hx0
  have hQl : ∀ i, (isT' ((x.ps.map (iP x)).take i)).length ≤ 84 := fun i => by
    have h1 := isTl (is := (x.ps.map (iP x)).take i) (fun j hj => by
      obtain ⟨q, hq, rfl⟩ := List.mem_map.1 (List.mem_of_mem_take hj)
      have := p_len hx hq
      simp only [iP, List.length_map, List.length_cons, List.length_nil]; omega)
    have h2 : ((x.ps.map (iP x)).take i).length ≤ x.ps.length := by simp; omega
    omega
  have hlp := hQl i
  by_cases hli : i < x.ps.length
  · have hg := List.getElem?_eq_getElem hli
    have e := w64_succ (k := i) (by omega)
    have hqm : x.ps[i] ∈ x.ps := List.getElem_mem hli
    have hok := hx.ps _ hqm
    have hql := p_len hx hqm
    have hcc := List.all_eq_true.1 (dif_rng hx.pc) x.ps[i].c (List.mem_map.2 ⟨_, hqm, rfl⟩)
    simp only [Bool.and_eq_true, decide_eq_true_eq] at hcc
    have nx := isT_take (is := x.ps.map (iP x)) (i := i) (by simpa using hli)
    rw [show (x.ps.map (iP x))[i]'(by simpa using hli) = iP x x.ps[i] by simp] at nx
    generalize x.ps[i] = q at hg hok hql nx hcc
    obtain ⟨c, ls⟩ := q
    simp only at hok hql hcc
    have hfr0 : Fresh H0 n0 := by obtain ⟨_, _, _, _, h⟩ := hP0; exact h
    have hP1 : PrS pid (hset (hset H0 (n0 + 2) (.box [.int .i64 0, .sl .nil []])) (n0 + 2) (.box [.int .i64 c, eIs ls])) (n0 + 4) (ts ++ hdT x ++ isT' (x.qs.map (iQ x)) ++ isT' ((x.ps.map (iP x)).take i)) := by
      obtain ⟨tk, hb, htk, hes, h⟩ := hP0
      refine ⟨tk, by rw [hget_hset_ne _ _ _ _ (by omega), hget_hset_ne _ _ _ _ (by omega)]; exact hb, (htk.set (.inr (.inr (h _ (by omega))))).set (.inr (.inl ⟨_, hget_hset_eq ..⟩)), hes, (h.hset (m := n0 + 4) (by omega) (by omega)).hset (Nat.le_refl _) (by omega)⟩
    have hx1 : hget (hset (hset H0 (n0 + 2) (.box [.int .i64 0, .sl .nil []])) (n0 + 2) (.box [.int .i64 c, eIs ls])) n = some (.box (cellsL x)) := by
      rw [hget_hset_ne _ _ _ _ (by omega), hget_hset_ne _ _ _ _ (by omega)]; exact hx0
    have hq1 : hget (hset (hset H0 (n0 + 2) (.box [.int .i64 0, .sl .nil []])) (n0 + 2) (.box [.int .i64 c, eIs ls])) (n0 + 2) = some (.box [.int .i64 c, eIs ls]) := hget_hset_eq ..
    have hk1 : KeepsT pid H (hset (hset H0 (n0 + 2) (.box [.int .i64 0, .sl .nil []])) (n0 + 2) (.box [.int .i64 c, eIs ls])) := fun id ob h1 h2 h3 => by
      have := hf.lt h3
      rw [hget_hset_ne _ _ _ _ (by omega), hget_hset_ne _ _ _ _ (by omega)]; exact hk0 id ob h1 h2 h3
    have hne2 : n0 + 2 ≠ pid := by omega
    have elL := e_list x.ls ls (okr_of hx.ls.1 (dif_rng hok.1)) (by omega)
    have hnL := nsT_len (ls.map (getS x.ls))
    rw [List.length_map] at hnL
    have y1 : (n = n0 + 2) = False := eq_false (by omega)
    have y2 : (n0 + 2 = n) = False := eq_false (by omega)
    have g1 : x.cs[c.toNat]? = some (getS x.cs c) := by
      unfold getS; rw [List.getElem?_eq_getElem (by omega)]; rfl
    have g2 : (c.toNat < x.cs.length) = True := eq_true (by omega)
    have gv := get_name hx.cs.1 hcc.1 hcc.2
    simp only [eE, eC, eN, reduceCtorEq, Nat.reduceEqDiff, ↓reduceIte, Nat.reduceAdd, Nat.reduceLeDiff, Nat.reduceMul, Nat.reduceLT, Option.getD_some, Int.toNat_natCast, Int.natCast_nonneg, List.length_map, List.getElem?_map, lt_T hli, hg, fr1 hfr0, y2, hx0, g1, hcc.1, hcc.2]
    refine em words3 hP1 (by simp only [List.length_append]; omega) fun G2 m2 hm2 hP2 hk2 => ?_
    have hx2 := hk2.box hne hx1
    have hq2 := hk2.box hne2 hq1
    simp only [eE, eN, reduceCtorEq, Nat.reduceEqDiff, ↓reduceIte, Nat.reduceAdd, Nat.reduceLeDiff, retK, hx2, hq2]
    refine em elL hP2 (by simp only [List.length_append, List.length_cons, List.length_nil]; omega) fun G3 m3 hm3 hP3 hk3 => ?_
    have hx3 := hk3.box hne hx2
    simp only [eE, eN, reduceCtorEq, Nat.reduceEqDiff, ↓reduceIte, Nat.reduceLeDiff, Nat.reduceMul, Nat.reduceLT, retK]
    refine em (e_word1 [59]) hP3 (by simp only [List.length_append, List.length_cons, List.length_nil]; omega) fun G4 m4 hm4 hP4 hk4 => ?_
    have hx4 := hk4.box hne hx3
    simp only [eE, eN, reduceCtorEq, Nat.reduceEqDiff, ↓reduceIte, Int.reduceEq, retK, e]
    refine .mk ⟨i + 1, G4, m4⟩ rfl ⟨hli, by simp only []; omega, ?_, hk1.trans (hk2.trans (hk3.trans hk4)), hx4⟩ (by simp only []; omega)
    simp only []
    rw [nx]
    have w1 : wT wOnl = kI wOnl := rfl
    have w2 : wT [58] = kS [58] := rfl
    have w3 : wT [59] = kS [59] := rfl
    rw [w1, w2, w3, wT_y gv] at hP4
    simpa [itT, iP, nsT, mT] using hP4
  obtain rfl : i = x.ps.length := by omega
  rw [List.take_of_length_le (show (x.ps.map (iP x)).length ≤ x.ps.length by simp)] at hP0 hlp
  have c1 := hx.c
  have l1 := hx.l
  have g1 : x.cs[x.c.toNat]? = some (getS x.cs x.c) := by
    unfold getS; rw [List.getElem?_eq_getElem (by omega)]; rfl
  have g2 : x.ls[x.l.toNat]? = some (getS x.ls x.l) := by
    unfold getS; rw [List.getElem?_eq_getElem (by omega)]; rfl
  have g3 : (x.c.toNat < x.cs.length) = True := eq_true (by omega)
  have g4 : (x.l.toNat < x.ls.length) = True := eq_true (by omega)
  simp only [eE, eC, eN, reduceCtorEq, Nat.reduceEqDiff, ↓reduceIte, Nat.reduceAdd, Nat.reduceLeDiff, Nat.reduceMul, Nat.reduceLT, c1, Option.getD_some, List.length_map, List.getElem?_map, lt_F hli, hx0, g1, g2, l1.1, l1.2]
  refine em words5 hP0 (by simp only [List.length_append]; omega) fun G m hm hP1 hk1 => ?_
  simp only [eE, eN, retK]
  refine ⟨rfl, by omega, ?_, hk0.trans hk1⟩
  have w1 : wT wLac = kI wLac := rfl
  have w2 : wT [59] = kS [59] := rfl
  have w3 : wT [125] = kS [125] := rfl
  rw [w1, w2, w3, wT_y (get_name hx.cs.1 c1.1 c1.2), wT_y (get_name hx.ls.1 l1.1 l1.2)] at hP1
  rw [drT_parts]
  simpa [enT] using hP1
end Go.AM
end
section
set_option maxRecDepth 20000
set_option linter.all false
namespace Go.AM
open Go.Proofs Go.Lib
def printMV (l : List Lma) : AVal := if 16 < l.length then .tup [.str [], .int .i64 2] else if l.all lemOK = false then .tup [.str [], .int .i64 300] else .tup [.str (join ((printT l).map wordS) [32]), .int .i64 0]
def Tpr : Tab := tadd 23 (s1 dKs okT textV) (tadd 18 (s1 dX FewL fun x => eI (chk x)) tnil)
theorem Tpr_ok : TabOK Tryz.prog Tpr := (TabOK.tnil.add (q1 fun x h => p18 x h)).add (q1 fun l h => p23 l h)
theorem Tpr_t (a : List AVal) (H : AHeap) : Tpr 23 a H = s1 dKs okT textV a H := rfl
theorem Tpr_c (a : List AVal) (H : AHeap) : Tpr 18 a H = s1 dX FewL (fun x => eI (chk x)) a H := rfl
theorem print_take {l : List Lma} {i : Nat} (h : i < l.length) : printT (l.take (i + 1)) = printT (l.take i) ++ drT (unR l[i]) := by
  unfold printT
  rw [List.take_add_one, List.getElem?_eq_getElem h, List.map_append, List.flatMap_append]
  simp
theorem drT_len {x : Lma} (hx : OKL x) : (drT (unR x)).length ≤ 300 := by
  have hnc := nsT_len x.cs
  have hnl := nsT_len x.ls
  have hc4 := hx.cs.2.2.2
  have hl3 := hx.ls.2.2.2
  have hq6 := hx.nq
  have hp4 := dif_len hx.pc
  rw [List.length_map] at hp4
  have h1 := isTl (is := x.qs.map (iQ x)) (fun j hj => by
    obtain ⟨q, hq, rfl⟩ := List.mem_map.1 hj
    have := q_len hx hq
    simp only [iQ, List.length_map]; omega)
  have h2 := isTl (is := x.ps.map (iP x)) (fun j hj => by
    obtain ⟨q, hq, rfl⟩ := List.mem_map.1 hj
    have := p_len hx hq
    simp only [iP, List.length_map, List.length_cons, List.length_nil]; omega)
  rw [List.length_map] at h1 h2
  rw [drT_parts]
  unfold hdT enT
  simp only [List.length_append, List.length_cons, List.length_nil]; omega
theorem printT_len {l : List Lma} (h : ∀ x ∈ l, OKL x) : (printT l).length ≤ 300 * l.length := by
  induction l with
  | nil => simp [printT]
  | cons x r ih =>
    have e : printT (x :: r) = drT (unR x) ++ printT r := by simp [printT]
    rw [e]
    have := drT_len (h x (by simp))
    have := ih fun y hy => h y (by simp [hy])
    simp only [List.length_append, List.length_cons]; omega
theorem p16 (l : List Lma) (hl : FewLs l) : Pur Tryz.prog 16 [eLs l] (printMV l) := by
  refine .mk ⟨⟨trivial, Ls_under 0 l⟩, trivial⟩ (by unfold printMV; split <;> (try split) <;> simp [AVal.under, unders]) (a16 (ev_awp Tpr_ok (ev_evK ?_)))
  unfold printMV
  by_cases h16 : 16 < l.length
  · have l16 : ((16 : Int) < (l.length : Int)) = True := eq_true (by omega)
    rw [if_pos h16]
    simp only [eE, eC, eN, reduceCtorEq, Nat.reduceEqDiff, ↓reduceIte, List.length_map, c16, l16]
    exact Wk.refl _
  have l16 : ((16 : Int) < (l.length : Int)) = False := eq_false (by omega)
  rw [if_neg h16]
  simp only [eE, eC, eN, reduceCtorEq, Nat.reduceEqDiff, ↓reduceIte, List.length_map, c16, l16]
  refine k_loop (fun v : Vp => ⟨[(4, true, .ptr 0 0), (10, true, eLs l), (11, true, .int .i64 l.length), (12, true, .int .i64 v.i)], v.H, v.n⟩) (fun v => v.i ≤ l.length ∧ PrS 0 v.H v.n (printT (l.take v.i)) ∧ ∀ j (hj : j < l.length), j < v.i → lemOK l[j] = true) (fun v => l.length - v.i) ⟨0, hset hnil 0 (.box [.sl .nil []]), 1⟩ rfl
    ⟨Nat.zero_le _, ⟨.nil, rfl, .inl rfl, .inr rfl, Fresh.nil.hset (Nat.zero_le 1) (Nat.zero_lt_succ 0)⟩, fun j hj h => absurd h (Nat.not_lt_zero _)⟩ ?_
  rintro ⟨i, H0, n0⟩ ⟨hi, hP0, hall⟩
  simp only at hi hP0 hall
  have hfr0 : Fresh H0 n0 := by obtain ⟨_, _, _, _, h⟩ := hP0; exact h
  have hn0 : 0 < n0 := by obtain ⟨_, hb, _, _, h⟩ := hP0; exact h.lt hb
  have hokt : ∀ x ∈ l.take i, OKL x := fun x hx => by
    obtain ⟨j, hj, rfl⟩ := List.mem_iff_getElem.1 hx
    rw [List.getElem_take]
    exact (lem_okl _).1 (hall j (by simp at hj; omega) (by simp at hj; omega))
  have hlen := printT_len hokt
  have htl : (l.take i).length ≤ 16 := by simp; omega
  by_cases hlt : i < l.length
  · have hg := List.getElem?_eq_getElem hlt
    have e := w64_succ (k := i) (by omega)
    have hfx := hl.2 _ (List.getElem_mem hlt)
    have nx := print_take hlt
    have hla : lemOK l[i] = false → l.all lemOK = false := fun h => List.all_eq_false.2 ⟨_, List.getElem_mem hlt, by rw [h]; exact Bool.false_ne_true⟩
    have hll : lemOK l[i] = true → ∀ j (hj : j < l.length), j < i + 1 → lemOK l[j] = true := fun h j hj hji => by
      by_cases q : j = i
      · subst q; exact h
      · exact hall j hj (by omega)
    generalize l[i] = x at hg hfx nx hla hll
    cases hlo : lemOK x with
    | false =>
      rw [if_pos (hla hlo)]
      have hck : chk x = 300 := by unfold chk; rw [if_neg (by rw [hlo]; decide)]
      simp only [eE, eC, eN, Nat.reduceEqDiff, ↓reduceIte, Nat.reduceAdd, Int.reduceEq, Bool.not_false, Option.getD_some, Int.toNat_natCast, Int.natCast_nonneg, List.length_map, List.getElem?_map, lt_T hlt, hg, fr1 hfr0, Tpr_c, s1, dX_ok, dX_dec, eq_true hfx, hck]
      exact Wk.refl _
    | true =>
      have hck : chk x = 0 := by unfold chk; rw [if_pos hlo]
      have hP1 : PrS 0 (hset (hset H0 (n0 + 2) (.box z8)) (n0 + 2) (.box (cellsL x))) (n0 + 4) (printT (l.take i)) := by
        obtain ⟨tk, hb, htk, hes, h⟩ := hP0
        refine ⟨tk, by rw [hget_hset_ne _ _ _ _ (by omega), hget_hset_ne _ _ _ _ (by omega)]; exact hb, (htk.set (.inr (.inr (h _ (by omega))))).set (.inr (.inl ⟨_, hget_hset_eq ..⟩)), hes, (h.hset (m := n0 + 4) (by omega) (by omega)).hset (Nat.le_refl _) (by omega)⟩
      simp only [eE, eC, eN, Nat.reduceEqDiff, ↓reduceIte, Nat.reduceAdd, Bool.not_true, Option.getD_some, Int.toNat_natCast, Int.natCast_nonneg, List.length_map, List.getElem?_map, lt_T hlt, hg, fr1 hfr0, Tpr_c, s1, dX_ok, dX_dec, eq_true hfx, hck]
      refine em (e_lemma x ((lem_okl x).1 hlo)) hP1 (by omega) fun G m hm hP2 hk2 => ?_
      simp only [eE, eN, Nat.reduceEqDiff, ↓reduceIte, Int.reduceEq, retK, e]
      refine .mk ⟨i + 1, G, m⟩ rfl ⟨hlt, ?_, hll hlo⟩ (by simp only []; omega)
      simp only []
      rw [nx]; exact hP2
  obtain rfl : i = l.length := by omega
  rw [List.take_length] at hP0 hlen hokt
  have hall' : l.all lemOK = true := List.all_eq_true.2 fun x hx => (lem_okl x).2 (hokt x hx)
  rw [if_neg (by rw [hall']; decide)]
  obtain ⟨tk, hb, htk, hes, h⟩ := hP0
  have hesT : (tk.esz = 4 ∨ (printT l).map encK = []) = True := eq_true (hes.imp id fun e => by rw [e]; rfl)
  have hokT : okT (printT l) = True := eq_true (by unfold okT; omega)
  have htx : textV (printT l) = .tup [.str (join ((printT l).map wordS) [32]), .int .i64 0] := by unfold textV; rw [if_pos (printT_valid hokt)]
  simp only [eE, eC, eN, Nat.reduceEqDiff, ↓reduceIte, Nat.reduceAdd, Nat.reduceLT, Option.getD_some, List.getElem?_cons_zero, List.getElem?_cons_succ, lt_F hlt, hb, Tpr_t, s1, dKs, okL, decL, decK_map, hesT, hokT, htx]
  exact Wk.refl _
end Go.AM
end
