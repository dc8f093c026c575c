/-
  What holds for good: how it is read by the program. What holds for good: all that the program reads; how the document writes it. What holds for good: how the document writes it, and takes names and clocks' numbers. What holds for good: what the document reads. What holds for good: all that the document reads. What holds for good: what is written is read as it is, by both readers; plain law. PosixLaw: equations of functions, as the evaluator prints them. What holds for good: the two statements.
-/
import Derived.Test.YteccmgkfmeoekaaDoorMXB
import Derived.Shelf.Strings.SlTrimAscii
import Derived.Test.YteccmgkfmeoekaaDoorMF
set_option linter.unusedVariables false
set_option linter.unusedSimpArgs false
set_option linter.unusedSectionVars false
namespace Nt.Ev.YteccmgkfmeoekaaDoor.Px
set_option maxRecDepth 100000
open Go Go.RowKit Nt Nt.Num Go.Proofs.YteccmgkfmeoekaaDoor Nt.Ev.YteccmgkfmeoekaaDoor Nt.Civil
variable [MLen]
theorem pTlS_ok (s c : List UInt8) (hc : band (ile (slen s) 1000) (band (ile (slen c) 1000) (asciiBc c)) = true) : Contract aE 137 [.str s, .str c] (.str (tlP s c)) := by
  obtain ⟨h1, h2⟩ := band_true hc
  obtain ⟨h2, h3⟩ := band_true h2
  have h2 := len_p h2
  refine contract_old fun G w vs hG hg hp => ?_
  obtain ⟨x, y, rfl, hx, hy⟩ := PW_two hp
  unfold rep at hx hy
  subst hx; subst hy
  have sz : (⟨c.toArray⟩ : ByteArray).size = c.length := by simp [ByteArray.size]
  refine (Go.Proofs.Any.strings_TrimLeft_laid Go.Proofs.Tryd.lays161 (by kernel_rfl) ⟨s.toArray⟩ ⟨c.toArray⟩ w (by rw [sz]; omega) (fun j b hb => ?_)).mono ?_
  · have h3 : (c.all fun c => decide (c.toNat < 128)) = true := h3
    exact of_decide_eq_true (List.all_eq_true.1 h3 b (List.mem_of_getElem? (by simpa using hb)))
  · rintro e w' ⟨rfl, hb⟩
    exact ⟨_, rfl, hb, res_str _⟩
theorem pCpS_ok (s p : List UInt8) (hc : ile (slen s) 1000 = true) : Contract aE 140 [.str s, .str p] (.tup [.str (cpTp s p), .bool (cpBp s p)]) := by
  refine contract_old fun G w vs hG hg hp => ?_
  obtain ⟨x, y, rfl, hx, hy⟩ := PW_two hp
  unfold rep at hx hy
  subst hx; subst hy
  refine (Go.Proofs.Tryd.strings_CutPrefix ⟨s.toArray⟩ ⟨p.toArray⟩ w).mono ?_
  rintro e w' ⟨rfl, rfl⟩
  exact ⟨_, rfl, Below.refl _ _, res_two (same_str _) (same_bool _)⟩
theorem pS16_ok : SOk aE pS16 := by
  unfold pS16
  refine SOk.cons (fun args r h => ?_) (SOk.cons (fun args r h => ?_) (pS12_ok))
  · unfold pTlS at h
    split at h
    · simp only [Option.some.injEq, Prod.mk.injEq] at h
      obtain ⟨hc, rfl⟩ := h
      exact pTlS_ok _ _ hc
    · cases h
  · unfold pCpS at h
    split at h
    · simp only [Option.some.injEq, Prod.mk.injEq] at h
      obtain ⟨hc, rfl⟩ := h
      exact pCpS_ok _ _ hc
    · cases h
theorem tl_len (l c : List UInt8) : (tlP l c).length ≤ l.length := (List.dropWhile_suffix (l := l) fun b => c.contains b).sublist.length_le
theorem tw_len (l c : List UInt8) : (twP l c).length ≤ l.length := (List.takeWhile_sublist (l := l) fun b => c.contains b).length_le
theorem cp_len (l c : List UInt8) : (cpTp l c).length ≤ l.length := by
  unfold cpTp Lib.trimPrefix
  split
  · rw [List.length_drop]; omega
  · exact Nat.le_refl _
theorem tw_tl (l c : List UInt8) : twP l c ++ tlP l c = l := List.takeWhile_append_dropWhile
theorem pRnS_ok (l c : List UInt8) (hc : band (ile (slen l) 1000) (band (ile (slen c) 1000) (asciiBc c)) = true) : XOk aE 116 [.bxa 0 [.str l], .str c] (.out false (.str (twP l c)) [[.str (tlP l c)]]) := by
  refine XOk.out (xc_of_body aE_ok pS16_ok 5 2 ?_)
  have h1 := tl_len l c
  have hl := len_p (band_true hc).1
  have e : isub .i64 (slen l) (slen (tlP l c)) = ((twP l c).length : Int) := by
    have := congrArg List.length (tw_tl l c)
    rw [List.length_append] at this
    rw [slen_nat, slen_nat, isub64 (by omega)]; omega
  have h2 := tw_len l c
  have hb : band (ile 0 ((twP l c).length : Int)) (ile ((twP l c).length : Int) (slen l)) = true := by rw [band_iff, ile_iff, ile_iff, slen_nat]; omega
  have e1 : ssub l 0 ((twP l c).length : Int) = twP l c := by
    have q : ssub l ((0 : Nat) : Int) ((twP l c).length : Int) = (l.drop 0).take ((twP l c).length - 0) := ssub_nat l 0 _
    have q2 : ssub l 0 ((twP l c).length : Int) = ssub l ((0 : Nat) : Int) ((twP l c).length : Int) := rfl
    rw [q2, q, List.drop_zero, Nat.sub_zero]
    have h := congrArg (List.take (twP l c).length) (tw_tl l c)
    rw [List.take_left] at h
    exact h.symm
  have e2 : ssub l ((twP l c).length : Int) (slen l) = tlP l c := by
    rw [slen_nat, ssub_nat]
    have h := congrArg (List.drop (twP l c).length) (tw_tl l c)
    rw [List.drop_left] at h
    rw [← h]
    exact List.take_of_length_le (by have := congrArg List.length (tw_tl l c); rw [List.length_append] at this; omega)
  rw [pRn_top, sel_pos hc, e, sel_pos hb, sel_pos hb, e1, e2]
theorem pSgS_ok (l c : List UInt8) (hc : ile (slen l) 1000 = true) : XOk aE 115 [.bxa 0 [.str l], .str c] (.out false (.bool (cpBp l c)) [[.str (cpTp l c)]]) := by
  refine XOk.out (xc_of_body aE_ok pS16_ok 5 2 ?_)
  rw [pSg_top, sel_pos hc]
theorem pS17_ok : SOk aE pS17 := by
  unfold pS17
  refine SOk.consX (fun args r h => ?_) (SOk.consX (fun args r h => ?_) (pS16_ok))
  · unfold pRnS at h
    split at h
    · simp only [Option.some.injEq, Prod.mk.injEq] at h
      obtain ⟨hc, rfl⟩ := h
      exact pRnS_ok _ _ hc
    · cases h
  · unfold pSgS at h
    split at h
    · simp only [Option.some.injEq, Prod.mk.injEq] at h
      obtain ⟨hc, rfl⟩ := h
      exact pSgS_ok _ _ hc
    · cases h
def guV : V := .iface 114 (.agg [])
theorem asc_run {l c : List UInt8} (h : l.length ≤ 1000) (hc : c.length ≤ 1000) (ha : asciiBc c = true) : band (ile (slen l) 1000) (band (ile (slen c) 1000) (asciiBc c)) = true := by rw [ha, p_len h, p_len hc]; rfl
theorem cho_ok {f : Nat} {args : List V} {q : Bool} {x : V} {l : List UInt8} {S : List (Nat × FSpec)} (hS : SOk aE S) (fuel d : Nat) (h : evBd aE (evFn aE S fuel d) fuel f args some = some (sel q (.out false x [[.str l]]) (.out true guV [[.str l]]))) : XOk aE f args (.cho q (.out false x [[.str l]]) (.out true guV [[.str l]])) := by
  refine XOk.cho (fun hq => ?_) (fun hq => ?_)
  · subst hq; exact XOk.out (xc_of_body aE_ok hS fuel d h)
  · subst hq; exact XOk.out (xc_of_body aE_ok hS fuel d h)
theorem bT (b : Bool) (h : b = true) : bnot b = false := by rw [h]; rfl
theorem bF (b : Bool) (h : ¬ b = true) : bnot b = true := by rw [bnot_iff]; exact h
theorem pNmS2_ok (l : List UInt8) (hc : ile (slen l) 900 = true) : XOk aE 81 [.bxa 0 [.str l]] (.cho (nmQ l) (.out false (.str (nmA l)) [[.str (nmL l)]]) (.out true (.iface 114 (.agg [])) [[.str (nmL l)]])) := by
  have hl := len_p9 hc
  refine cho_ok pS17_ok 5 3 ?_
  have h1 := cp_len l [60]
  have h2 := tl_len (cpTp l [60]) alns
  rw [pRN_top, sel_pos (p_len (by omega))]
  unfold nmQ nmA nmL nmP
  by_cases h : cpBp l [60] = true
  · rw [sel_neg (bT _ h), if_pos h, sel_pos (asc_run (by omega) (by decide) (by decide)), sel_pos (p_len (Nat.le_trans (tl_len _ _) (by omega)))]
    by_cases h3 : cpBp (tlP (cpTp l [60]) alns) [62] = true
    · rw [sel_neg (bT _ h3), if_pos h3]; rfl
    · rw [sel_pos (bF _ h3), if_neg h3]; rfl
  · rw [sel_pos (bF _ h), if_neg h, sel_pos (asc_run (by omega) (by decide) (by decide))]; rfl
theorem pCkS_ok (l : List UInt8) (hc : ile (slen l) 900 = true) : XOk aE 82 [.bxa 0 [.str l]] (.cho (ckQ l) (.out false (.tup [.int .i64 (ckN l), .bool (ckS l)]) [[.str (ckL l)]]) (.out true (.iface 114 (.agg [])) [[.str (ckL l)]])) := by
  have hl := len_p9 hc
  refine cho_ok pS17_ok 5 3 ?_
  have h1 := tw_len l clks
  rw [pRC_top, sel_pos (asc_run (by omega) (by decide) (by decide)), sel_pos (show ile (slen (twP l clks)) 1000 = true from p_len (by omega))]
  unfold ckQ ckN ckS ckL
  cases h2 : seq (twP l clks) [] with
  | true => rfl
  | false =>
    cases h3 : ieq (rdWc (twP l clks)) 0 with
    | true => rfl
    | false => rfl
theorem pS18_ok : SOk aE pS18 := by
  unfold pS18
  refine SOk.consX (fun args r h => ?_) (SOk.consX (fun args r h => ?_) (pS17_ok))
  · unfold pNmS2 at h
    split at h
    · simp only [Option.some.injEq, Prod.mk.injEq] at h
      obtain ⟨hc, rfl⟩ := h
      exact pNmS2_ok _ hc
    · cases h
  · unfold pCkS at h
    split at h
    · simp only [Option.some.injEq, Prod.mk.injEq] at h
      obtain ⟨hc, rfl⟩ := h
      exact pCkS_ok _ hc
    · cases h
theorem num_sel {α : Type} (a : List UInt8) (p n : α) : sel (ieq (nrW a) 0) (sel (bnot (ilt (nrI a) 100)) p n) p = sel (numQ a) n p := by
  unfold numQ
  cases ieq (nrW a) 0 <;> cases ilt (nrI a) 100 <;> rfl
theorem dyNum_t {l : List UInt8} {K : Int → List UInt8 → Bool × (Int × Int × Int × Int) × List UInt8} (h : numQ (twP l dgs) = true) : dyNum l K = K (nrI (twP l dgs)) (tlP l dgs) := if_pos h
theorem dyNum_f {l : List UInt8} {K : Int → List UInt8 → Bool × (Int × Int × Int × Int) × List UInt8} (h : ¬ numQ (twP l dgs) = true) : dyNum l K = (false, (0, 0, 0, 0), tlP l dgs) := if_neg h
theorem dyDot_t {l : List UInt8} {K : List UInt8 → Bool × (Int × Int × Int × Int) × List UInt8} (h : cpBp l [46] = true) : dyDot l K = K (cpTp l [46]) := if_pos h
theorem dyDot_f {l : List UInt8} {K : List UInt8 → Bool × (Int × Int × Int × Int) × List UInt8} (h : ¬ cpBp l [46] = true) : dyDot l K = (false, (0, 0, 0, 0), cpTp l [46]) := if_neg h
def outD (r : Bool × (Int × Int × Int × Int) × List UInt8) : V := sel r.1 (.out false (.agg [.int .i64 r.2.1.1, .int .i64 r.2.1.2.1, .int .i64 r.2.1.2.2.1, .int .i64 r.2.1.2.2.2]) [[.str r.2.2]]) (.out true guV [[.str r.2.2]])
theorem pDyS_ok (l : List UInt8) (hc : ile (slen l) 900 = true) : XOk aE 83 [.bxa 0 [.str l]] (.cho (dyQ l) (.out false (.agg [.int .i64 (dyM l), .int .i64 (dyW l), .int .i64 (dyD l), .int .i64 (dyC l)]) [[.str (dyL l)]]) (.out true (.iface 114 (.agg [])) [[.str (dyL l)]])) := by
  have hl := len_p9 hc
  refine cho_ok pS18_ok 6 3 ?_
  show _ = some (outD (dyP l))
  rw [pRD_u6_top, sel_pos (p_len (by omega))]
  simp only [num_sel]
  unfold dyP
  have k1 := cp_len l [44, 77]
  by_cases h0 : cpBp l [44, 77] = true
  rotate_left
  · rw [sel_pos (bF _ h0), if_neg h0]; rfl
  rw [sel_neg (bT _ h0), if_pos h0]
  generalize cpTp l [44, 77] = l1 at *
  have t1 := tw_len l1 dgs
  have t2 := tl_len l1 dgs
  rw [sel_pos (show band (ile (slen l1) 1000) (band (ile 10 1000) (asciiBc dgs)) = true from asc_run (c := dgs) (by omega) (by decide) (by decide)), sel_pos (show ile (slen (twP l1 dgs)) 1000 = true from p_len (by omega))]
  by_cases h1 : numQ (twP l1 dgs) = true
  rotate_left
  · rw [dyNum_f h1, sel_neg (by simpa using h1)]; rfl
  rw [dyNum_t h1, sel_pos h1]
  generalize nrI (twP l1 dgs) = a1 at *
  generalize tlP l1 dgs = l2 at *
  rw [sel_pos (p_len (by omega : l2.length ≤ 1000))]
  have t3 := cp_len l2 [46]
  by_cases h2 : cpBp l2 [46] = true
  rotate_left
  · rw [dyDot_f h2, sel_pos (bF _ h2)]; rfl
  rw [dyDot_t h2, sel_neg (bT _ h2)]
  generalize cpTp l2 [46] = l3 at *
  have t1 := tw_len l3 dgs
  have t2 := tl_len l3 dgs
  rw [sel_pos (show band (ile (slen l3) 1000) (band (ile 10 1000) (asciiBc dgs)) = true from asc_run (c := dgs) (by omega) (by decide) (by decide)), sel_pos (show ile (slen (twP l3 dgs)) 1000 = true from p_len (by omega))]
  by_cases h1 : numQ (twP l3 dgs) = true
  rotate_left
  · rw [dyNum_f h1, sel_neg (by simpa using h1)]; rfl
  rw [dyNum_t h1, sel_pos h1]
  generalize nrI (twP l3 dgs) = a2 at *
  generalize tlP l3 dgs = l4 at *
  rw [sel_pos (p_len (by omega : l4.length ≤ 1000))]
  have t3 := cp_len l4 [46]
  by_cases h2 : cpBp l4 [46] = true
  rotate_left
  · rw [dyDot_f h2, sel_pos (bF _ h2)]; rfl
  rw [dyDot_t h2, sel_neg (bT _ h2)]
  generalize cpTp l4 [46] = l5 at *
  have t1 := tw_len l5 dgs
  have t2 := tl_len l5 dgs
  rw [sel_pos (show band (ile (slen l5) 1000) (band (ile 10 1000) (asciiBc dgs)) = true from asc_run (c := dgs) (by omega) (by decide) (by decide)), sel_pos (show ile (slen (twP l5 dgs)) 1000 = true from p_len (by omega))]
  by_cases h1 : numQ (twP l5 dgs) = true
  rotate_left
  · rw [dyNum_f h1, sel_neg (by simpa using h1)]; rfl
  rw [dyNum_t h1, sel_pos h1]
  generalize nrI (twP l5 dgs) = a3 at *
  generalize tlP l5 dgs = l6 at *
  rw [sel_pos (p_len (by omega : l6.length ≤ 1000))]
  have t4 := cp_len l6 [47]
  unfold dyEnd
  by_cases h3 : cpBp l6 [47] = true
  · rw [if_pos h3, sel_pos h3, sel_pos (p_len9 (by omega : (cpTp l6 [47]).length ≤ 900))]
    cases h4 : ckQ (cpTp l6 [47]) with
    | false => rfl
    | true =>
      cases h5 : ckS (cpTp l6 [47]) with
      | false => rfl
      | true => rfl
  · rw [if_neg h3, sel_neg (by simpa using h3)]; rfl
theorem pS19_ok : SOk aE pS19 := by
  unfold pS19
  refine SOk.consX (fun args r h => ?_) (pS18_ok)
  · unfold pDyS at h
    split at h
    · simp only [Option.some.injEq, Prod.mk.injEq] at h
      obtain ⟨hc, rfl⟩ := h
      exact pDyS_ok _ hc
    · cases h
end Nt.Ev.YteccmgkfmeoekaaDoor.Px

set_option linter.unusedVariables false
set_option linter.unusedSimpArgs false
set_option linter.unusedSectionVars false
namespace Nt.Ev.YteccmgkfmeoekaaDoor.Px
set_option maxRecDepth 100000
open Go Go.RowKit Nt Nt.Num Go.Proofs.YteccmgkfmeoekaaDoor Nt.Ev.YteccmgkfmeoekaaDoor Nt.Civil
variable [MLen]
theorem told_in (P : List (List UInt8)) (b : Bool) : -604800 ≤ (Amount.told P b).1 ∧ (Amount.told P b).1 ≤ 604800 := by
  unfold Amount.told
  split
  · decide
  · split
    · decide
    · rename_i h
      rw [Bool.or_eq_true, decide_eq_true_eq] at h
      have : Amount.sumK P P.length < 604800 := by
        have := fun q => h (.inr q)
        omega
      simp only
      split <;> omega
theorem am_in (s : List UInt8) : -604800 ≤ rdI s ∧ rdI s ≤ 604800 := by
  unfold rdI Amount.read
  split
  · decide
  · exact told_in _ _
theorem nm_len (l : List UInt8) : (nmL l).length ≤ l.length := by
  unfold nmL nmP
  have h1 := cp_len l [60]
  split
  · have h2 := tl_len (cpTp l [60]) alns
    have h3 := cp_len (tlP (cpTp l [60]) alns) [62]
    split
    · exact Nat.le_trans h3 (Nat.le_trans h2 h1)
    · exact Nat.le_trans h3 (Nat.le_trans h2 h1)
  · exact Nat.le_trans (tl_len _ _) h1
theorem nma_len (l : List UInt8) : (nmA l).length ≤ l.length := by
  unfold nmA nmP
  have h1 := cp_len l [60]
  split
  · split
    · exact Nat.le_trans (tw_len _ _) h1
    · exact Nat.zero_le _
  · exact Nat.le_trans (tw_len _ _) h1
theorem ckl_len (l : List UInt8) : (ckL l).length ≤ l.length := tl_len l clks
theorem ckn_in (l : List UInt8) : -604800 ≤ ckN l ∧ ckN l ≤ 604800 := by
  unfold ckN
  split
  · decide
  · exact am_in _
theorem dyNum_le {l : List UInt8} {n : Nat} {K : Int → List UInt8 → Bool × (Int × Int × Int × Int) × List UInt8} (hl : l.length ≤ n) (h : ∀ a r, r.length ≤ n → (K a r).2.2.length ≤ n) : (dyNum l K).2.2.length ≤ n := by
  unfold dyNum
  split
  · exact h _ _ (Nat.le_trans (tl_len _ _) hl)
  · exact Nat.le_trans (tl_len _ _) hl
theorem dyDot_le {l : List UInt8} {n : Nat} {K : List UInt8 → Bool × (Int × Int × Int × Int) × List UInt8} (hl : l.length ≤ n) (h : ∀ r, r.length ≤ n → (K r).2.2.length ≤ n) : (dyDot l K).2.2.length ≤ n := by
  unfold dyDot
  split
  · exact h _ (Nat.le_trans (cp_len _ _) hl)
  · exact Nat.le_trans (cp_len _ _) hl
theorem dyEnd_le (a b c : Int) {l : List UInt8} {n : Nat} (hl : l.length ≤ n) : (dyEnd a b c l).2.2.length ≤ n := by
  have h1 := Nat.le_trans (cp_len l [47]) hl
  have h2 := Nat.le_trans (ckl_len (cpTp l [47])) h1
  unfold dyEnd
  repeat' split
  all_goals first | exact h2 | exact h1
theorem dyl_len (l : List UInt8) : (dyL l).length ≤ l.length := by
  unfold dyL dyP
  have h1 := cp_len l [44, 77]
  split
  · exact dyNum_le h1 fun a r hr => dyDot_le hr fun r hr => dyNum_le hr fun b r hr => dyDot_le hr fun r hr => dyNum_le hr fun c r hr => dyEnd_le a b c hr
  · exact h1
def cellsP (p : PxT) : List V := [.str p.1, .int .i64 p.2.1, .str p.2.2.1, .int .i64 p.2.2.2.1, .int .i64 p.2.2.2.2.1, .int .i64 p.2.2.2.2.2.1, .int .i64 p.2.2.2.2.2.2.1, .int .i64 p.2.2.2.2.2.2.2.1, .int .i64 p.2.2.2.2.2.2.2.2.1, .int .i64 p.2.2.2.2.2.2.2.2.2.1, .int .i64 p.2.2.2.2.2.2.2.2.2.2.1, .int .i64 p.2.2.2.2.2.2.2.2.2.2.2]
def outA (r : Bool × PxT × List UInt8) : V := sel r.1 (.out false (.agg (cellsP r.2.1)) [[.str r.2.2]]) (.out true guV [[.str r.2.2]])
theorem pAlS_ok (l : List UInt8) (hc : ile (slen l) 900 = true) : XOk aE 50 [.bxa 0 [.str l]] (.cho (alQ l) (.out false (.agg [.str (al0 l), .int .i64 (al1 l), .str (al2 l), .int .i64 (al3 l), .int .i64 (al4 l), .int .i64 (al5 l), .int .i64 (al6 l), .int .i64 (al7 l), .int .i64 (al8 l), .int .i64 (al9 l), .int .i64 (al10 l), .int .i64 (al11 l)]) [[.str (alL l)]]) (.out true (.iface 114 (.agg [])) [[.str (alL l)]])) := by
  have hl := len_p9 hc
  refine cho_ok pS19_ok 5 3 ?_
  show _ = some (outA (alP l))
  have L1 := nm_len l
  rw [pRA_top, sel_pos hc]
  unfold alP
  by_cases h1 : nmQ l = true
  rotate_left
  · rw [if_neg h1, sel_neg (by simpa using h1)]; rfl
  rw [if_pos h1, sel_pos h1, sel_pos (p_len9 (by omega))]
  generalize nmA l = n0 at *
  generalize nmL l = l1 at *
  unfold alP1
  have L2 := ckl_len l1
  have B1 := ckn_in l1
  by_cases h2 : ckQ l1 = true
  rotate_left
  · rw [if_neg h2, sel_neg (by simpa using h2)]; rfl
  rw [if_pos h2, sel_pos h2]
  by_cases h3 : ckS l1 = true
  rotate_left
  · rw [if_neg h3, sel_pos (bF _ h3)]; rfl
  rw [if_pos h3, sel_neg (bT _ h3)]
  generalize ckN l1 = off at *
  generalize ckL l1 = l2 at *
  unfold alP2
  have e0 : isub .i64 0 off = -off := by rw [isub64 (by omega)]; omega
  rw [e0]
  by_cases h4 : l2 = []
  · rw [if_pos h4, sel_pos (by rw [seq_iff]; exact h4)]; rfl
  have h4' : seq l2 [] = false := by cases q : seq l2 [] with | false => rfl | true => rw [seq_iff] at q; exact absurd q h4
  rw [if_neg h4, sel_neg h4', sel_pos (p_len9 (by omega))]
  have L3 := nm_len l2
  by_cases h5 : nmQ l2 = true
  rotate_left
  · rw [if_neg h5, sel_neg (by simpa using h5)]; rfl
  rw [if_pos h5, sel_pos h5, sel_pos (p_len9 (by omega))]
  generalize nmA l2 = e1 at *
  generalize nmL l2 = l3 at *
  unfold alP3
  have L4 := ckl_len l3
  have B2 := ckn_in l3
  by_cases h6 : ckQ l3 = true
  rotate_left
  · rw [if_neg h6, sel_neg (by simpa using h6)]; rfl
  rw [if_pos h6, sel_pos h6]
  have es : isub .i64 off (ckN l3) = off - ckN l3 := by rw [isub64 (by omega)]
  rw [es]
  generalize ckN l3 = oth at *
  generalize ckL l3 = l4 at *
  have L5 := dyl_len l4
  have L6 := dyl_len (dyL l4)
  unfold alP4
  by_cases h7 : ckS l3 = true
  · rw [if_pos h7, sel_pos h7, sel_pos (p_len9 (by omega : l4.length ≤ 900)), sel_pos (p_len9 (by omega : (dyL l4).length ≤ 900))]
    cases q1 : dyQ l4 with
    | false => rfl
    | true =>
      cases q2 : dyQ (dyL l4) with
      | false => rfl
      | true =>
        rw [if_pos rfl, if_pos rfl, sel_pos rfl, sel_pos rfl]
        by_cases h8 : dyL (dyL l4) = []
        · rw [if_pos h8, sel_neg (bT _ (by rw [seq_iff]; exact h8))]; rfl
        · rw [if_neg h8, sel_pos (bF _ (by rw [seq_iff]; exact h8))]; rfl
  · rw [if_neg h7, sel_neg (by simpa using h7), sel_pos (p_len9 (by omega : l4.length ≤ 900)), sel_pos (p_len9 (by omega : (dyL l4).length ≤ 900))]
    cases q1 : dyQ l4 with
    | false => rfl
    | true =>
      cases q2 : dyQ (dyL l4) with
      | false => rfl
      | true =>
        rw [if_pos rfl, if_pos rfl, sel_pos rfl, sel_pos rfl]
        by_cases h8 : dyL (dyL l4) = []
        · rw [if_pos h8, sel_neg (bT _ (by rw [seq_iff]; exact h8))]; rfl
        · rw [if_neg h8, sel_pos (bF _ (by rw [seq_iff]; exact h8))]; rfl
theorem pTextS_ok (n : List UInt8) (o : Int) (e : List UInt8) (v m w d c m2 w2 d2 c2 : Int) (hc : band (ile (slen n) 1000) (ile (slen e) 1000) = true) : Contract aE 19 [.agg [.str n, .int .i64 o, .str e, .int .i64 v, .int .i64 m, .int .i64 w, .int .i64 d, .int .i64 c, .int .i64 m2, .int .i64 w2, .int .i64 d2, .int .i64 c2]] (.tup [.str (ptT n o e v m w d c m2 w2 d2 c2), .int .i64 (ptE n o e v m w d c m2 w2 d2 c2)]) := pTx_ev n o e v m w d c m2 w2 d2 c2 (len_p (band_true hc).1) (len_p (band_true hc).2)
theorem pS20_ok : SOk aE pS20 := by
  unfold pS20
  refine SOk.consX (fun args r h => ?_) (SOk.cons (fun args r h => ?_) (pS19_ok))
  · unfold pAlS at h
    split at h
    · simp only [Option.some.injEq, Prod.mk.injEq] at h
      obtain ⟨hc, rfl⟩ := h
      exact pAlS_ok _ hc
    · cases h
  · unfold pTextS at h
    split at h
    · simp only [Option.some.injEq, Prod.mk.injEq] at h
      obtain ⟨hc, rfl⟩ := h
      exact pTextS_ok _ _ _ _ _ _ _ _ _ _ _ _ hc
    · cases h
theorem both_same (x : Option V) : both x x = x := by unfold both; rw [if_pos rfl]
noncomputable def rdP (q : Bool) (p : PxT) (s : List UInt8) : PxT × Int := if q = true ∧ ptE p.1 p.2.1 p.2.2.1 p.2.2.2.1 p.2.2.2.2.1 p.2.2.2.2.2.1 p.2.2.2.2.2.2.1 p.2.2.2.2.2.2.2.1 p.2.2.2.2.2.2.2.2.1 p.2.2.2.2.2.2.2.2.2.1 p.2.2.2.2.2.2.2.2.2.2.1 p.2.2.2.2.2.2.2.2.2.2.2 = 0 ∧ ptT p.1 p.2.1 p.2.2.1 p.2.2.2.1 p.2.2.2.2.1 p.2.2.2.2.2.1 p.2.2.2.2.2.2.1 p.2.2.2.2.2.2.2.1 p.2.2.2.2.2.2.2.2.1 p.2.2.2.2.2.2.2.2.2.1 p.2.2.2.2.2.2.2.2.2.2.1 p.2.2.2.2.2.2.2.2.2.2.2 = s then (p, 0) else (zPx, 4)
theorem alP4_len (n : List UInt8) (o : Int) (e : List UInt8) (v : Int) (l : List UInt8) (k : Nat) (hn : n.length ≤ k) (he : e.length ≤ k) : (alP4 n o e v l).2.1.1.length ≤ k ∧ (alP4 n o e v l).2.1.2.2.1.length ≤ k := by
  unfold alP4
  repeat' split
  all_goals first | exact ⟨hn, he⟩ | exact ⟨Nat.zero_le _, Nat.zero_le _⟩
theorem al_len (l : List UInt8) : (al0 l).length ≤ l.length ∧ (al2 l).length ≤ l.length := by
  have z : (zPx.1.length ≤ l.length ∧ zPx.2.2.1.length ≤ l.length) := ⟨Nat.zero_le _, Nat.zero_le _⟩
  show (alP l).2.1.1.length ≤ l.length ∧ (alP l).2.1.2.2.1.length ≤ l.length
  unfold alP
  have a1 := nma_len l
  have a2 := nm_len l
  split
  · unfold alP1
    split
    · split
      · unfold alP2
        have a3 := ckl_len (nmL l)
        split
        · exact ⟨a1, Nat.zero_le _⟩
        · have a4 := nma_len (ckL (nmL l))
          split
          · unfold alP3
            split
            · exact alP4_len _ _ _ _ _ _ a1 (by omega)
            · exact z
          · exact z
      · exact z
    · exact z
  · exact z
theorem pRd_ev (s : List UInt8) (hs : s.length ≤ 900) : Contract aE 21 [.str s] (.tup [.agg (cellsP (rdP (alQ s) (alP s).2.1 s).1), .int .i64 (rdP (alQ s) (alP s).2.1 s).2]) := by
  refine contract_of_body aE_ok pS20_ok 5 4 ?_
  obtain ⟨h1, h2⟩ := al_len s
  rw [pRd_top, sel_pos (p_len9 hs), sel_pos (show band (ile (slen (al0 s)) 1000) (ile (slen (al2 s)) 1000) = true from by rw [band_iff]; exact ⟨p_len (by omega), p_len (by omega)⟩)]
  simp only [both_same]
  unfold rdP
  have eT : ptT (alP s).2.1.1 (alP s).2.1.2.1 (alP s).2.1.2.2.1 (alP s).2.1.2.2.2.1 (alP s).2.1.2.2.2.2.1 (alP s).2.1.2.2.2.2.2.1 (alP s).2.1.2.2.2.2.2.2.1 (alP s).2.1.2.2.2.2.2.2.2.1 (alP s).2.1.2.2.2.2.2.2.2.2.1 (alP s).2.1.2.2.2.2.2.2.2.2.2.1 (alP s).2.1.2.2.2.2.2.2.2.2.2.2.1 (alP s).2.1.2.2.2.2.2.2.2.2.2.2.2 = ptT (al0 s) (al1 s) (al2 s) (al3 s) (al4 s) (al5 s) (al6 s) (al7 s) (al8 s) (al9 s) (al10 s) (al11 s) := rfl
  have eE : ptE (alP s).2.1.1 (alP s).2.1.2.1 (alP s).2.1.2.2.1 (alP s).2.1.2.2.2.1 (alP s).2.1.2.2.2.2.1 (alP s).2.1.2.2.2.2.2.1 (alP s).2.1.2.2.2.2.2.2.1 (alP s).2.1.2.2.2.2.2.2.2.1 (alP s).2.1.2.2.2.2.2.2.2.2.1 (alP s).2.1.2.2.2.2.2.2.2.2.2.1 (alP s).2.1.2.2.2.2.2.2.2.2.2.2.1 (alP s).2.1.2.2.2.2.2.2.2.2.2.2.2 = ptE (al0 s) (al1 s) (al2 s) (al3 s) (al4 s) (al5 s) (al6 s) (al7 s) (al8 s) (al9 s) (al10 s) (al11 s) := rfl
  rw [eT, eE]
  cases hq : alQ s with
  | false => rw [if_neg (fun h => by cases h.1)]; rfl
  | true =>
    rw [sel_pos rfl]
    by_cases he : ptE (al0 s) (al1 s) (al2 s) (al3 s) (al4 s) (al5 s) (al6 s) (al7 s) (al8 s) (al9 s) (al10 s) (al11 s) = 0
    · rw [sel_pos (ieq_t he)]
      by_cases ht : ptT (al0 s) (al1 s) (al2 s) (al3 s) (al4 s) (al5 s) (al6 s) (al7 s) (al8 s) (al9 s) (al10 s) (al11 s) = s
      · rw [sel_neg (bT _ (by rw [seq_iff]; exact ht)), if_pos ⟨rfl, he, ht⟩, he]; rfl
      · rw [sel_pos (bF _ (by rw [seq_iff]; exact ht)), if_neg (fun h => ht h.2.2)]; rfl
    · rw [sel_neg (ieq_f he), if_neg (fun h => he h.2.1)]; rfl
end Nt.Ev.YteccmgkfmeoekaaDoor.Px

set_option linter.unusedVariables false
set_option linter.unusedSimpArgs false
set_option linter.unusedSectionVars false
namespace Nt.Ev.YteccmgkfmeoekaaDoor.Px
set_option maxRecDepth 100000
open Go Go.RowKit Nt Nt.Num Go.Proofs.YteccmgkfmeoekaaDoor Nt.Ev.YteccmgkfmeoekaaDoor Nt.Civil
variable [MLen]
theorem bI {x : Int} (h : -9223372036854775808 ≤ x ∧ x ≤ 9223372036854775807) : band (ile (-9223372036854775808) x) (ile x 9223372036854775807) = true := by rw [band_iff, ile_iff, ile_iff]; exact h
def nmF (s : List UInt8) (m : Nat) (K : V → Option V) : Option V := if m = s.length then K (.tup [.str [], .str s]) else K (.tup [.str ((s.take m).drop 1), .str (s.drop (m + 1))])
end Nt.Ev.YteccmgkfmeoekaaDoor.Px

set_option linter.unusedVariables false
set_option linter.unusedSimpArgs false
set_option linter.unusedSectionVars false
namespace Nt.Ev.YteccmgkfmeoekaaDoor.Px
set_option maxRecDepth 100000
open Go Go.RowKit Nt Nt.Num Go.Proofs.YteccmgkfmeoekaaDoor Nt.Ev.YteccmgkfmeoekaaDoor Nt.Civil
variable [MLen]
theorem tdNum_t {s : List UInt8} {K : Int → List UInt8 → TdT} (h : nrW (dA s) = 0) : tdNum s K = K (nrI (dA s)) (dR s) := if_pos h
theorem tdDot_t {s : List UInt8} {K : List UInt8 → TdT} (h : s.getD 0 0 = 46) : tdDot s K = K (s.drop 1) := if_pos h
end Nt.Ev.YteccmgkfmeoekaaDoor.Px

set_option linter.unusedVariables false
set_option linter.unusedSimpArgs false
set_option linter.unusedSectionVars false
namespace Nt.Ev.YteccmgkfmeoekaaDoor.Px
set_option maxRecDepth 100000
open Go Go.RowKit Nt Nt.Num Go.Proofs.YteccmgkfmeoekaaDoor Nt.Ev.YteccmgkfmeoekaaDoor Nt.Civil
variable [MLen]
end Nt.Ev.YteccmgkfmeoekaaDoor.Px

set_option linter.unusedVariables false
set_option linter.unusedSimpArgs false
set_option linter.unusedSectionVars false
namespace Nt.Ev.YteccmgkfmeoekaaDoor.Px
set_option maxRecDepth 100000
open Go Go.RowKit Nt Nt.Num Go.Proofs.YteccmgkfmeoekaaDoor Nt.Ev.YteccmgkfmeoekaaDoor Nt.Civil
variable [MLen]
theorem told1 {p : List UInt8} {b : Bool} (hp : Amount.ok p 1 3 = true) (hs : val p * 3600 < 604800) : Amount.told [p] b = (if b then -((val p * 3600 : Nat) : Int) else ((val p * 3600 : Nat) : Int), 0) := by
  have hg : Amount.goodK [p] 1 = true := by
    show (true && Amount.ok p 1 3) = true
    rw [hp]; rfl
  have hf : Amount.fitsK [p] 1 = true := by
    show (true && (true || decide (val p ≤ 59))) = true
    simp
  have hk : Amount.sumK [p] 1 = val p * 3600 := by
    show 0 + val p * 3600 = _
    omega
  unfold Amount.told
  rw [show [p].length = 1 from rfl, hg, hf, hk, decide_eq_false (by omega : ¬ 604800 ≤ _), decide_eq_false (by omega : ¬ 3 < 1)]
  rfl
theorem d2_two (k : Nat) : d2P (k : Int) = Amount.two k := by
  unfold d2P Amount.two digit
  have e1 : (48 + (k : Int) / 10).toNat = 48 + k / 10 := by omega
  have e2 : (48 + (k : Int) % 10).toNat = 48 + k % 10 := by omega
  rw [e1, e2]
theorem cku_nat (k : Nat) : ckU (k : Int) = if k % 3600 = 0 then hourL k else posL k := by
  unfold ckU
  have e1 : (k : Int) / 3600 = ((k / 3600 : Nat) : Int) := by omega
  have e2 : (k : Int) / 60 % 60 = ((k / 60 % 60 : Nat) : Int) := by omega
  have e3 : (k : Int) % 60 = ((k % 60 : Nat) : Int) := by omega
  rw [e1, e2, e3, d2_two, d2_two]
  have eh : text ((k / 3600 : Nat) : Int) = hourL k := rfl
  rw [eh]
  by_cases h : k % 3600 = 0
  · rw [if_pos (by omega), if_pos (by omega), if_pos h]; simp
  · rw [if_neg (by omega), if_neg h, posL_eq]
    unfold tailL
    by_cases h2 : k % 60 = 0
    · rw [if_pos (by omega), if_neg (by omega)]
    · rw [if_neg (by omega), if_pos (by omega)]
theorem hour_no (k : Nat) (h : k ≤ 604799) : ∀ c ∈ hourL k, c ≠ 58 := Amount.ok_no (hour_ok k h).1
theorem told_ck (k : Nat) (h : k ≤ 604799) (b : Bool) : Amount.told (Amount.pieces (ckU (k : Int))) b = (if b then -(k : Int) else (k : Int), 0) := by
  rw [cku_nat]
  by_cases h0 : k % 3600 = 0
  · rw [if_pos h0, Amount.pieces_end _ (hour_no k h), told1 (hour_ok k h).1 (by rw [(hour_ok k h).2]; omega), (hour_ok k h).2]
    have : k / 3600 * 3600 = k := by omega
    rw [this]
  · rw [if_neg h0, posL_eq, told_pos _ k h (hour_ok k h).1 (hour_ok k h).2]
theorem cku_head (k : Nat) (h : k ≤ 604799) : ∃ c t, ckU (k : Int) = c :: t ∧ isDigit c = true := by
  have ho := (hour_ok k h).1
  unfold Amount.ok at ho
  rw [Bool.and_eq_true, Bool.and_eq_true, decide_eq_true_eq] at ho
  obtain ⟨c, t, e, _⟩ := pos_head k h
  have hd := List.all_eq_true.1 ho.2 c (by rw [e]; exact .head _)
  rw [cku_nat]
  split
  · exact ⟨c, t, e, hd⟩
  · rw [posL_eq, e]
    exact ⟨c, _, rfl, hd⟩
theorem dig_ne {c : UInt8} (h : isDigit c = true) : c ≠ 45 := fun e => by rw [e] at h; exact absurd h (by decide)
theorem rd_ck (n : Int) (h : -604799 ≤ n ∧ n ≤ 604799) : Amount.read (ckT n) = (n, 0) := by
  unfold ckT
  by_cases hn : n < 0
  · obtain ⟨k, rfl⟩ : ∃ k : Nat, n = -(k : Int) := ⟨(-n).toNat, by omega⟩
    have e : -(-(k : Int)) = (k : Int) := by omega
    obtain ⟨c, t, ec, _⟩ := cku_head k (by omega)
    rw [if_pos hn, e, read_minus (by rw [ec]; simp), told_ck k (by omega)]
    rfl
  · obtain ⟨k, rfl⟩ : ∃ k : Nat, n = (k : Int) := ⟨n.toNat, by omega⟩
    obtain ⟨c, t, ec, hd⟩ := cku_head k (by omega)
    rw [if_neg hn, ec, read_digit (dig_ne hd), ← ec, told_ck k (by omega)]
    rfl
theorem ckt_ne (n : Int) (h : -604799 ≤ n ∧ n ≤ 604799) : ckT n ≠ [] ∧ ckT n ≠ [45] := by
  unfold ckT
  split
  · obtain ⟨k, hk⟩ : ∃ k : Nat, -n = (k : Int) := ⟨(-n).toNat, by omega⟩
    obtain ⟨c, t, ec, _⟩ := cku_head k (by omega)
    rw [hk, ec]
    exact ⟨by simp, by simp⟩
  · obtain ⟨k, hk⟩ : ∃ k : Nat, n = (k : Int) := ⟨n.toNat, by omega⟩
    obtain ⟨c, t, ec, hd⟩ := cku_head k (by omega)
    rw [hk, ec]
    exact ⟨by simp, fun e => dig_ne hd (by simpa using congrArg (fun l : List UInt8 => l.headD 0) e)⟩
theorem cku_dc (k : Nat) (h : k ≤ 604799) : ∀ c ∈ ckU (k : Int), dcC c = true := by
  have ho := (hour_ok k h).1
  unfold Amount.ok at ho
  rw [Bool.and_eq_true, Bool.and_eq_true, decide_eq_true_eq] at ho
  have hd : ∀ c ∈ hourL k, dcC c = true := fun c hc => by
    have : isDigit c = true := List.all_eq_true.1 ho.2 c hc
    unfold dcC; unfold isDigit at this; rw [this]; rfl
  have ht : ∀ j, j < 60 → ∀ c ∈ Amount.two j, dcC c = true := by
    have : ∀ j : Fin 60, ∀ c ∈ Amount.two j.val, dcC c = true := by decide
    exact fun j hj => this ⟨j, hj⟩
  have h58 : dcC 58 = true := by decide
  rw [cku_nat]
  split
  · exact hd
  · rw [posL_eq]
    intro c hc
    unfold tailL at hc
    simp only [List.mem_append, List.mem_cons, List.not_mem_nil, or_false] at hc
    rcases hc with (hc | hc | hc) | hc
    · exact hd c hc
    · rw [hc]; exact h58
    · exact ht _ (by omega) c hc
    · split at hc
      · simp only [List.mem_append, List.mem_cons, List.not_mem_nil, or_false] at hc
        rcases hc with hc | hc
        · rw [hc]; exact h58
        · exact ht _ (by omega) c hc
      · cases hc
def Hd (p : UInt8 → Bool) (r : List UInt8) : Prop := ∀ c t, r = c :: t → p c = false
theorem tw_stop {p : UInt8 → Bool} {a r : List UInt8} (ha : ∀ c ∈ a, p c = true) (hr : Hd p r) : (a ++ r).takeWhile p = a ∧ (a ++ r).dropWhile p = r := by
  induction a with
  | nil =>
    cases r with
    | nil => exact ⟨rfl, rfl⟩
    | cons c t =>
      have := hr c t rfl
      constructor
      · rw [List.nil_append, List.takeWhile_cons, this]; rfl
      · rw [List.nil_append, List.dropWhile_cons, this]; rfl
  | cons c a ih =>
    have h1 := ha c (.head _)
    obtain ⟨h2, h3⟩ := ih fun c hc => ha c (.tail _ hc)
    constructor
    · rw [List.cons_append, List.takeWhile_cons, h1, if_pos rfl, h2]
    · rw [List.cons_append, List.dropWhile_cons, h1, if_pos rfl, h3]
theorem u8_all {p q : UInt8 → Bool} (h : ∀ n : Fin 256, p (UInt8.ofNat n.val) = q (UInt8.ofNat n.val)) (c : UInt8) : p c = q c := by
  have := h ⟨c.toNat, c.toNat_lt⟩
  simpa using this
theorem ltrs_c (c : UInt8) : ltrs.contains c = ltrC c := u8_all (p := fun c => ltrs.contains c) (q := ltrC) (by decide +kernel) c
theorem alns_c (c : UInt8) : alns.contains c = namC c := u8_all (p := fun c => alns.contains c) (q := namC) (by decide +kernel) c
theorem clks_c (c : UInt8) : clks.contains c = (dcC c || c == 45) := u8_all (p := fun c => clks.contains c) (q := fun c => dcC c || c == 45) (by decide +kernel) c
theorem dgs_c (c : UInt8) : dgs.contains c = dgC c := u8_all (p := fun c => dgs.contains c) (q := dgC) (by decide +kernel) c
theorem cp_one (x : UInt8) (t : List UInt8) (y : UInt8) : cpBp (x :: t) [y] = (y == x) ∧ (x = y → cpTp (x :: t) [y] = t) := by
  have hb : cpBp (x :: t) [y] = (y == x) := by
    unfold cpBp Lib.hasPrefix
    show ((y == x) && true) = _
    rw [Bool.and_true]
  refine ⟨hb, fun e => ?_⟩
  unfold cpTp Lib.trimPrefix
  have : Lib.hasPrefix (x :: t) [y] = true := by
    have := hb
    unfold cpBp at this
    rw [this, e, beq_self_eq_true]
  rw [if_pos this]; rfl
theorem cp_no {l p : List UInt8} (h : cpBp l p = false) : cpTp l p = l := by
  unfold cpTp Lib.trimPrefix
  have : Lib.hasPrefix l p = false := h
  rw [this]; rfl
theorem cp_hd {y : UInt8} {r : List UInt8} (h : Hd (fun c => c == y) r) : cpBp r [y] = false ∧ cpTp r [y] = r := by
  have : cpBp r [y] = false := by
    cases r with
    | nil => rfl
    | cons c t =>
      have := h c t rfl
      rw [(cp_one c t y).1]
      rw [beq_eq_false_iff_ne] at this ⊢
      exact fun e => this e.symm
  exact ⟨this, cp_no this⟩
theorem getD_hd {y : UInt8} {r : List UInt8} (h : Hd (fun c => c == y) r) (hy : y ≠ 0) : r.getD 0 0 ≠ y := by
  cases r with
  | nil => exact fun e => hy e.symm
  | cons c t =>
    have := h c t rfl
    rw [beq_eq_false_iff_ne] at this
    exact this
theorem hd_of {p q : UInt8 → Bool} {r : List UInt8} (h : Hd p r) (hpq : ∀ c, p c = false → q c = false) : Hd q r := fun c t e => hpq c (h c t e)
theorem hd_cons {p : UInt8 → Bool} {c : UInt8} {t : List UInt8} (h : p c = false) : Hd p (c :: t) := fun c' t' e => by cases e; exact h
theorem hd_app {p : UInt8 → Bool} {a r : List UInt8} (ha : a ≠ []) (h : Hd p a) : Hd p (a ++ r) := by
  cases a with
  | nil => exact absurd rfl ha
  | cons c t => exact hd_cons (h c t rfl)
theorem nm_take (n r : List UInt8) (hm : mayB n = true) (hr : Hd ltrC r) : nmP (wrT n ++ r) = (true, n, r) ∧ tnP (wrT n ++ r) = (n, r) := by
  unfold mayB at hm
  rw [Bool.and_eq_true, Bool.and_eq_true, decide_eq_true_eq, decide_eq_true_eq] at hm
  obtain ⟨⟨h3, h6⟩, hall⟩ := hm
  have hal := List.all_eq_true.1 hall
  unfold wrT
  cases hl : letB n with
  | true =>
    rw [if_pos rfl]
    have hll : ∀ c ∈ n, ltrC c = true := List.all_eq_true.1 hl
    cases n with
    | nil => simp at h3
    | cons c t =>
      have hc := hll c (.head _)
      have hc60 : c ≠ 60 := fun e => by rw [e] at hc; exact absurd hc (by decide)
      have h60 : cpBp ((c :: t) ++ r) [60] = false := by
        rw [List.cons_append, (cp_one c _ 60).1, beq_eq_false_iff_ne]; exact fun e => hc60 e.symm
      constructor
      · unfold nmP
        rw [h60, if_neg (by decide), cp_no h60]
        unfold twP tlP
        have e : (fun b => ltrs.contains b) = ltrC := funext ltrs_c
        rw [e]
        obtain ⟨q1, q2⟩ := tw_stop hll hr
        rw [q1, q2]
      · unfold tnP
        have : ((c :: t) ++ r).getD 0 0 = c := rfl
        rw [this, if_neg hc60]
        obtain ⟨q1, q2⟩ := tw_stop hll hr
        rw [q1, q2]
  | false =>
    rw [if_neg (by decide)]
    have e0 : [60] ++ n ++ [62] ++ r = 60 :: (n ++ (62 :: r)) := by simp
    rw [e0]
    constructor
    · unfold nmP
      have h60 : cpBp (60 :: (n ++ (62 :: r))) [60] = true := by rw [(cp_one 60 _ 60).1]; rfl
      rw [h60, if_pos rfl, (cp_one 60 _ 60).2 rfl]
      unfold twP tlP
      have e : (fun b => alns.contains b) = namC := funext alns_c
      rw [e]
      obtain ⟨q1, q2⟩ := tw_stop (p := namC) (r := 62 :: r) hal (hd_cons (by decide))
      rw [q1, q2, (cp_one 62 r 62).1, (cp_one 62 r 62).2 rfl]
      rfl
    · unfold tnP
      have hn : ∀ c ∈ (60 :: n), (c != 62) = true := fun c hc => by
        rcases List.mem_cons.1 hc with rfl | hc
        · rfl
        · have := hal c hc
          rw [bne_iff_ne]
          intro e; rw [e] at this; exact absurd this (by decide)
      obtain ⟨q1, q2⟩ := tw_stop (p := fun c => c != 62) (a := 60 :: n) (r := 62 :: r) hn (hd_cons (by decide))
      have e1 : 60 :: (n ++ 62 :: r) = (60 :: n) ++ (62 :: r) := rfl
      rw [e1]
      have : ((60 :: n) ++ 62 :: r).getD 0 0 = 60 := rfl
      rw [this, if_pos rfl, q1, q2, if_neg (by simp)]
      rfl
theorem ckt_all (n : Int) (h : -604799 ≤ n ∧ n ≤ 604799) : ∀ c ∈ ckT n, (dcC c || c == 45) = true := by
  unfold ckT
  split
  · obtain ⟨k, hk⟩ : ∃ k : Nat, -n = (k : Int) := ⟨(-n).toNat, by omega⟩
    rw [hk]
    intro c hc
    rcases List.mem_append.1 hc with hc | hc
    · rw [List.mem_singleton.1 hc]; rfl
    · rw [cku_dc k (by omega) c hc]; rfl
  · obtain ⟨k, hk⟩ : ∃ k : Nat, n = (k : Int) := ⟨n.toNat, by omega⟩
    rw [hk]
    intro c hc
    rw [cku_dc k (by omega) c hc]; rfl
theorem ck_take (n : Int) (h : -604799 ≤ n ∧ n ≤ 604799) (r : List UInt8) (hr : Hd (fun c => dcC c || c == 45) r) : ckQ (ckT n ++ r) = true ∧ ckN (ckT n ++ r) = n ∧ ckS (ckT n ++ r) = true ∧ ckL (ckT n ++ r) = r ∧ tcB (ckT n ++ r) = true ∧ tcN (ckT n ++ r) = n ∧ tcL (ckT n ++ r) = r := by
  have e : (fun b => clks.contains b) = (fun c => dcC c || c == 45) := funext clks_c
  obtain ⟨q1, q2⟩ := tw_stop (ckt_all n h) hr
  have t1 : twP (ckT n ++ r) clks = ckT n := by unfold twP; rw [e]; exact q1
  have t2 : tlP (ckT n ++ r) clks = r := by unfold tlP; rw [e]; exact q2
  obtain ⟨n1, n2⟩ := ckt_ne n h
  have hq : seq (ckT n) [] = false := by cases q : seq (ckT n) [] with | false => rfl | true => rw [seq_iff] at q; exact absurd q n1
  have hq2 : seq (ckT n) [45] = false := by cases q : seq (ckT n) [45] with | false => rfl | true => rw [seq_iff] at q; exact absurd q n2
  have hw : rdWc (ckT n) = 0 := by unfold rdWc; rw [rd_ck n h]
  have hi : rdI (ckT n) = n := by unfold rdI; rw [rd_ck n h]
  have hW : tcW (ckT n ++ r) = ckT n ∧ tcR (ckT n ++ r) = r := by
    have hr2 : Hd dcC r := hd_of hr fun c hc => by rw [Bool.or_eq_false_iff] at hc; exact hc.1
    unfold tcW tcR ckT
    by_cases hn : n < 0
    · obtain ⟨k, hk⟩ : ∃ k : Nat, -n = (k : Int) := ⟨(-n).toNat, by omega⟩
      rw [if_pos hn, hk]
      have : (([45] ++ ckU (k : Int)) ++ r).getD 0 0 = 45 := rfl
      rw [this, if_pos rfl, if_pos rfl]
      have e2 : (([45] ++ ckU (k : Int)) ++ r).drop 1 = ckU (k : Int) ++ r := rfl
      obtain ⟨q3, q4⟩ := tw_stop (cku_dc k (by omega)) hr2
      rw [e2, q3, q4]
      exact ⟨rfl, rfl⟩
    · obtain ⟨k, hk⟩ : ∃ k : Nat, n = (k : Int) := ⟨n.toNat, by omega⟩
      rw [if_neg hn, hk]
      obtain ⟨c, t, ec, hd⟩ := cku_head k (by omega)
      have : (ckU (k : Int) ++ r).getD 0 0 = c := by rw [ec]; rfl
      rw [this, if_neg (dig_ne hd), if_neg (dig_ne hd)]
      exact tw_stop (cku_dc k (by omega)) hr2
  refine ⟨?_, ?_, ?_, t2, ?_, ?_, ?_⟩
  · unfold ckQ; rw [t1, hq, ieq_t hw]; rfl
  · unfold ckN; rw [t1, hq, if_neg (by decide), hi]
  · unfold ckS; rw [t1, hq]; rfl
  · unfold tcB; rw [hW.1, ieq_t hw, hq2]; rfl
  · have hb : tcB (ckT n ++ r) = true := by unfold tcB; rw [hW.1, ieq_t hw, hq2]; rfl
    unfold tcN; rw [hb, if_pos rfl, hW.1, hi]
  · have hb : tcB (ckT n ++ r) = true := by unfold tcB; rw [hW.1, ieq_t hw, hq2]; rfl
    unfold tcL; rw [hb, if_pos rfl, hW.2]
theorem ck_none (r : List UInt8) (hr : Hd (fun c => dcC c || c == 45) r) : ckQ r = true ∧ ckS r = false ∧ ckL r = r ∧ tcB r = false ∧ tcL r = r := by
  have e : (fun b => clks.contains b) = (fun c => dcC c || c == 45) := funext clks_c
  obtain ⟨q1, q2⟩ := tw_stop (a := []) (p := fun c => dcC c || c == 45) (fun c hc => by cases hc) hr
  rw [List.nil_append] at q1 q2
  have t1 : twP r clks = [] := by unfold twP; rw [e]; exact q1
  have t2 : tlP r clks = r := by unfold tlP; rw [e]; exact q2
  have hr2 : Hd dcC r := hd_of hr fun c hc => by rw [Bool.or_eq_false_iff] at hc; exact hc.1
  have hr3 : Hd (fun c => c == 45) r := hd_of hr fun c hc => by rw [Bool.or_eq_false_iff] at hc; exact hc.2
  have hW : tcW r = [] := by
    unfold tcW
    rw [if_neg (getD_hd hr3 (by decide))]
    have := (tw_stop (a := []) (p := dcC) (fun c hc => by cases hc) hr2).1
    rw [List.nil_append] at this
    exact this
  have hb : tcB r = false := by unfold tcB; rw [hW]; rfl
  refine ⟨?_, ?_, t2, hb, ?_⟩
  · unfold ckQ; rw [t1]; rfl
  · unfold ckS; rw [t1]; rfl
  · unfold tcL; rw [hb]; rfl
theorem tx_small : ∀ k : Fin 13, nrW (text (k.val : Int)) = 0 ∧ nrI (text (k.val : Int)) = (k.val : Int) ∧ (text (k.val : Int)).length ≤ 2 ∧ (text (k.val : Int)).all dgC = true := by decide +kernel
theorem tx_s {m : Int} (h : 0 ≤ m ∧ m ≤ 12) : nrW (text m) = 0 ∧ nrI (text m) = m ∧ (text m).length ≤ 2 ∧ ∀ c ∈ text m, dgC c = true := by
  obtain ⟨k, rfl⟩ : ∃ k : Nat, m = (k : Int) := ⟨m.toNat, by omega⟩
  obtain ⟨h1, h2, h3, h4⟩ := tx_small ⟨k, by omega⟩
  exact ⟨h1, h2, h3, List.all_eq_true.1 h4⟩
theorem num_take {m : Int} (h : 0 ≤ m ∧ m ≤ 12) (r : List UInt8) (hr : Hd dgC r) : twP (text m ++ r) dgs = text m ∧ tlP (text m ++ r) dgs = r ∧ numQ (text m) = true ∧ dA (text m ++ r) = text m ∧ dR (text m ++ r) = r := by
  obtain ⟨h1, h2, h3, h4⟩ := tx_s h
  have e : (fun b => dgs.contains b) = dgC := funext dgs_c
  obtain ⟨q1, q2⟩ := tw_stop h4 hr
  have hA : dA (text m ++ r) = text m := by
    unfold dA
    have : (text m ++ r).take 3 = text m ++ r.take (3 - (text m).length) := by
      rw [List.take_append, List.take_of_length_le (by omega : (text m).length ≤ 3)]
    rw [this]
    refine (tw_stop h4 ?_).1
    intro c t ec
    have hne : r ≠ [] := fun e => by rw [e] at ec; simp at ec
    obtain ⟨c', t', er⟩ : ∃ c' t', r = c' :: t' := by cases r with | nil => exact absurd rfl hne | cons a b => exact ⟨a, b, rfl⟩
    obtain ⟨j, hj⟩ : ∃ j, 3 - (text m).length = j + 1 := ⟨2 - (text m).length, by omega⟩
    rw [er, hj, List.take_succ_cons] at ec
    cases ec
    exact hr c t' er
  refine ⟨by unfold twP; rw [e]; exact q1, by unfold tlP; rw [e]; exact q2, ?_, hA, ?_⟩
  · unfold numQ; rw [h1, h2, ieq_t rfl, ilt_t (by omega)]; rfl
  · unfold dR; rw [hA, List.drop_left]
theorem hd44 {p : UInt8 → Bool} {r : List UInt8} (hr : r = [] ∨ ∃ t, r = 44 :: t) (h : p 44 = false) : Hd p r := by
  rcases hr with rfl | ⟨t, rfl⟩
  · intro c t e; cases e
  · exact hd_cons h
theorem day_take (m w d c : Int) (hf : fiP m w d c = true) (r : List UInt8) (hr : r = [] ∨ ∃ t, r = 44 :: t) : dyP (dyT m w d c ++ r) = (true, (m, w, d, c), r) ∧ tdP (dyT m w d c ++ r) = ((m, w, d, c), r, true) := by
  have hF := fi_in hf
  have hrd : Hd dgC r := hd44 hr (by decide)
  have hr47 : Hd (fun c => c == 47) r := hd44 hr (by decide)
  have hrc : Hd (fun c => dcC c || c == 45) r := hd44 hr (by decide)
  obtain ⟨T, hT⟩ : ∃ T, T = (if c = 7200 then ([] : List UInt8) else [47] ++ ckT c) ++ r := ⟨_, rfl⟩
  have hTd : Hd dgC T := by
    rw [hT]
    split
    · exact hrd
    · exact hd_cons (by decide)
  have e0 : dyT m w d c ++ r = [44, 77] ++ (text m ++ (46 :: (text w ++ (46 :: (text d ++ T))))) := by
    rw [hT]; unfold dyT
    simp only [List.append_assoc, List.cons_append, List.nil_append]
  rw [e0]
  obtain ⟨a1, a2, a3, a4, a5⟩ := num_take (m := m) (by omega) (46 :: (text w ++ (46 :: (text d ++ T)))) (hd_cons (by decide))
  obtain ⟨b1, b2, b3, b4, b5⟩ := num_take (m := w) (by omega) (46 :: (text d ++ T)) (hd_cons (by decide))
  obtain ⟨c1, c2, c3, c4, c5⟩ := num_take (m := d) (by omega) T hTd
  have ip : cpBp ([44, 77] ++ (text m ++ (46 :: (text w ++ (46 :: (text d ++ T)))))) [44, 77] = true := rfl
  have it : cpTp ([44, 77] ++ (text m ++ (46 :: (text w ++ (46 :: (text d ++ T)))))) [44, 77] = text m ++ (46 :: (text w ++ (46 :: (text d ++ T)))) := rfl
  have iw := (tx_s (m := m) (by omega))
  have jw := (tx_s (m := w) (by omega))
  have kw := (tx_s (m := d) (by omega))
  constructor
  · unfold dyP
    rw [ip, if_pos rfl, it, dyNum_t (by rw [a1]; exact a3), a1, a2, iw.2.1, dyDot_t (by rw [(cp_one 46 _ 46).1]; rfl), (cp_one 46 _ 46).2 rfl, dyNum_t (by rw [b1]; exact b3), b1, b2, jw.2.1, dyDot_t (by rw [(cp_one 46 _ 46).1]; rfl), (cp_one 46 _ 46).2 rfl, dyNum_t (by rw [c1]; exact c3), c1, c2, kw.2.1]
    unfold dyEnd
    rw [hT]
    by_cases h7 : c = 7200
    · rw [if_pos h7, List.nil_append, (cp_hd hr47).1, (cp_hd hr47).2, if_neg (by decide), h7]
    · obtain ⟨k1, k2, k3, k4, _, _, _⟩ := ck_take c (by omega) r hrc
      rw [if_neg h7]
      have e1 : [47] ++ ckT c ++ r = 47 :: (ckT c ++ r) := rfl
      rw [e1, (cp_one 47 _ 47).1, (cp_one 47 _ 47).2 rfl, k1, k2, k3, k4]
      rfl
  · unfold tdP
    have i2 : ([44, 77] ++ (text m ++ (46 :: (text w ++ (46 :: (text d ++ T)))))).take 2 = [44, 77] := rfl
    have i3 : ([44, 77] ++ (text m ++ (46 :: (text w ++ (46 :: (text d ++ T)))))).drop 2 = text m ++ (46 :: (text w ++ (46 :: (text d ++ T)))) := rfl
    rw [i2, if_pos rfl, i3, tdNum_t (by rw [a4]; exact iw.1), a4, a5, iw.2.1, tdDot_t rfl, List.drop_succ_cons, List.drop_zero, tdNum_t (by rw [b4]; exact jw.1), b4, b5, jw.2.1, tdDot_t rfl, List.drop_succ_cons, List.drop_zero, tdNum_t (by rw [c4]; exact kw.1), c4, c5, kw.2.1]
    unfold tdEnd
    rw [hT]
    by_cases h7 : c = 7200
    · rw [if_pos h7, List.nil_append, if_neg (getD_hd hr47 (by decide)), h7]
    · obtain ⟨_, _, _, _, k1, k2, k3⟩ := ck_take c (by omega) r hrc
      rw [if_neg h7]
      have e1 : [47] ++ ckT c ++ r = 47 :: (ckT c ++ r) := rfl
      have e2 : (47 :: (ckT c ++ r)).getD 0 0 = 47 := rfl
      rw [e1, e2, if_pos rfl, List.drop_succ_cons, List.drop_zero, k1, k2, k3]
      rfl
def pxR (p : PxT) : Bool := riP p.1 p.2.1 p.2.2.1 p.2.2.2.1 p.2.2.2.2.1 p.2.2.2.2.2.1 p.2.2.2.2.2.2.1 p.2.2.2.2.2.2.2.1 p.2.2.2.2.2.2.2.2.1 p.2.2.2.2.2.2.2.2.2.1 p.2.2.2.2.2.2.2.2.2.2.1 p.2.2.2.2.2.2.2.2.2.2.2
noncomputable def pxT (p : PxT) : List UInt8 := txP p.1 p.2.1 p.2.2.1 p.2.2.2.1 p.2.2.2.2.1 p.2.2.2.2.2.1 p.2.2.2.2.2.2.1 p.2.2.2.2.2.2.2.1 p.2.2.2.2.2.2.2.2.1 p.2.2.2.2.2.2.2.2.2.1 p.2.2.2.2.2.2.2.2.2.2.1 p.2.2.2.2.2.2.2.2.2.2.2
theorem ck_hdl (n : Int) (h : -604799 ≤ n ∧ n ≤ 604799) (r : List UInt8) : Hd ltrC (ckT n ++ r) := by
  have hc := ckt_all n h
  obtain ⟨n1, _⟩ := ckt_ne n h
  refine hd_app n1 fun c t e => ?_
  have := hc c (by rw [e]; exact .head _)
  have q : ∀ c : UInt8, ((!(dcC c || c == 45)) || (!ltrC c)) = true := fun c => by
    have := u8_all (p := fun c => ((!(dcC c || c == 45)) || (!ltrC c))) (q := fun _ => true) (by decide +kernel) c
    exact this
  have q := q c
  rw [this] at q
  simpa using q
theorem wr_hdc (n r : List UInt8) (hm : mayB n = true) : Hd (fun c => dcC c || c == 45) (wrT n ++ r) := by
  unfold mayB at hm
  rw [Bool.and_eq_true, Bool.and_eq_true, decide_eq_true_eq, decide_eq_true_eq] at hm
  obtain ⟨⟨h3, h6⟩, hall⟩ := hm
  unfold wrT
  cases hl : letB n with
  | false => rw [if_neg (by decide)]; exact hd_cons (by decide)
  | true =>
    rw [if_pos rfl]
    cases n with
    | nil => simp at h3
    | cons c t =>
      have hc : ltrC c = true := List.all_eq_true.1 hl c (.head _)
      have q : ∀ c : UInt8, ((!(dcC c || c == 45)) || (!ltrC c)) = true := fun c => u8_all (p := fun c => ((!(dcC c || c == 45)) || (!ltrC c))) (q := fun _ => true) (by decide +kernel) c
      have q := q c
      rw [hc] at q
      exact hd_cons (by simpa using q)
theorem dy_cons (m w d c : Int) : ∃ t, dyT m w d c = 44 :: t := ⟨[77] ++ text m ++ [46] ++ text w ++ [46] ++ text d ++ (if c = 7200 then [] else [47] ++ ckT c), by unfold dyT; rfl⟩
theorem dy_hd (m w d c : Int) (p : UInt8 → Bool) (h : p 44 = false) (r : List UInt8) : Hd p (dyT m w d c ++ r) := by
  obtain ⟨t, e⟩ := dy_cons m w d c
  rw [e]
  exact hd_cons h
theorem px_back (p : PxT) (h : pxR p = true) : alP (pxT p) = (true, p, []) ∧ tkP (pxT p) = (p, true) := by
  obtain ⟨n, o, e, v, m, w, d, c, m2, w2, d2, c2⟩ := p
  have h : riP n o e v m w d c m2 w2 d2 c2 = true := h
  show alP (txP n o e v m w d c m2 w2 d2 c2) = (true, (n, o, e, v, m, w, d, c, m2, w2, d2, c2), []) ∧ tkP (txP n o e v m w d c m2 w2 d2 c2) = ((n, o, e, v, m, w, d, c, m2, w2, d2, c2), true)
  have hz : Hd (fun c => dcC c || c == 45) [] := fun c t e => by cases e
  unfold riP at h
  split at h
  rotate_left
  · cases h
  rename_i h0
  obtain ⟨hn, ho1, ho2⟩ := h0
  unfold txP
  by_cases he : e = []
  · rw [if_pos he, decide_eq_true_eq] at h
    obtain ⟨rfl, rfl, rfl, rfl, rfl, rfl, rfl, rfl, rfl⟩ := h
    subst he
    rw [if_pos rfl, List.append_assoc, List.append_nil]
    have e1 : ckT (-o) = ckT (-o) ++ [] := by simp
    rw [e1]
    obtain ⟨a1, a2⟩ := nm_take n (ckT (-o) ++ []) hn (ck_hdl (-o) (by omega) [])
    obtain ⟨k1, k2, k3, k4, k5, k6, k7⟩ := ck_take (-o) (by omega) [] hz
    have eo : - -o = o := by omega
    constructor
    · unfold alP nmQ nmA nmL
      rw [a1]
      simp only [if_pos]
      unfold alP1
      rw [k1, k3, k2, k4, if_pos rfl, if_pos rfl]
      unfold alP2
      rw [if_pos rfl, eo]
    · unfold tkP tnA tnB
      rw [a2]
      simp only
      unfold tkP1
      rw [k7, k5, k6, if_neg (fun q => q.2 rfl), eo]
  · rw [if_neg he, decide_eq_true_eq] at h
    obtain ⟨hm, hv1, hv2, hv0, f1, f2, _⟩ := h
    rw [if_neg he]
    have F1 := fi_in f1
    have F2 := fi_in f2
    obtain ⟨S, hS⟩ : ∃ S, S = (if v = 3600 then ([] : List UInt8) else ckT (-o - v)) ++ (dyT m w d c ++ dyT m2 w2 d2 c2) := ⟨_, rfl⟩
    have hSl : Hd ltrC S := by
      rw [hS]
      split
      · exact dy_hd m w d c ltrC (by decide) _
      · exact ck_hdl (-o - v) (by omega) _
    obtain ⟨b1, b2⟩ := nm_take e S hm hSl
    have e0 : wrT n ++ ckT (-o) ++ (wrT e ++ S) = wrT n ++ (ckT (-o) ++ (wrT e ++ S)) := by simp only [List.append_assoc]
    rw [← hS, e0]
    obtain ⟨a1, a2⟩ := nm_take n (ckT (-o) ++ (wrT e ++ S)) hn (ck_hdl (-o) (by omega) _)
    obtain ⟨k1, k2, k3, k4, k5, k6, k7⟩ := ck_take (-o) (by omega) (wrT e ++ S) (wr_hdc e S hm)
    have eo : - -o = o := by omega
    have hne : wrT e ++ S ≠ [] := by
      intro q
      have := congrArg List.length q
      unfold wrT at this
      split at this
      · rw [List.length_append, List.length_nil] at this
        exact he (List.length_eq_zero_iff.1 (by omega))
      · simp at this
    have d1 := day_take m w d c f1 (dyT m2 w2 d2 c2) (.inr (dy_cons m2 w2 d2 c2))
    have d2' := day_take m2 w2 d2 c2 f2 [] (.inl rfl)
    rw [List.append_nil] at d2'
    have hdc : Hd (fun c => dcC c || c == 45) (dyT m w d c ++ dyT m2 w2 d2 c2) := dy_hd m w d c _ (by decide) _
    have sP : ckQ S = true ∧ (if ckS S = true then -o - ckN S else 3600) = v ∧ ckL S = dyT m w d c ++ dyT m2 w2 d2 c2 := by
      rw [hS]
      by_cases h3 : v = 3600
      · obtain ⟨q1, q2, q3, _, _⟩ := ck_none _ hdc
        rw [if_pos h3, List.nil_append, q1, q2, q3]
        exact ⟨rfl, by rw [if_neg (by decide)]; exact h3.symm, rfl⟩
      · obtain ⟨q1, q2, q3, q4, _, _, _⟩ := ck_take (-o - v) (by omega) _ hdc
        rw [if_neg h3, q1, q2, q3, q4]
        exact ⟨rfl, by rw [if_pos rfl]; omega, rfl⟩
    have sT : (if tcB S = true then -tcN S + -o else 3600) = v ∧ tcL S = dyT m w d c ++ dyT m2 w2 d2 c2 := by
      rw [hS]
      by_cases h3 : v = 3600
      · obtain ⟨_, _, _, q4, q5⟩ := ck_none _ hdc
        rw [if_pos h3, List.nil_append, q4, q5]
        exact ⟨by rw [if_neg (by decide)]; exact h3.symm, rfl⟩
      · obtain ⟨_, _, _, _, q5, q6, q7⟩ := ck_take (-o - v) (by omega) _ hdc
        rw [if_neg h3, q5, q6, q7]
        exact ⟨by rw [if_pos rfl]; omega, rfl⟩
    constructor
    · unfold alP nmQ nmA nmL
      rw [a1]
      simp only [if_pos]
      unfold alP1
      rw [k1, k3, k2, k4, if_pos rfl, if_pos rfl]
      unfold alP2
      rw [if_neg hne]
      unfold nmQ nmA nmL
      rw [b1]
      simp only [if_pos]
      unfold alP3
      rw [sP.1, sP.2.1, sP.2.2, if_pos rfl]
      unfold alP4 dyQ dyM dyW dyD dyC dyL
      rw [d1.1]
      simp only [if_pos]
      rw [d2'.1]
      simp only [if_pos, eo]
    · unfold tkP tnA tnB
      rw [a2]
      simp only
      unfold tkP1
      rw [k7, k5, k6, if_pos ⟨rfl, hne⟩]
      unfold tkP2 tnA tnB
      rw [b2]
      simp only
      rw [sT.1, sT.2]
      unfold tkP3 tdB tdM tdW tdD tdC tdL
      rw [d1.2]
      simp only
      rw [d2'.2]
      simp only [eo]
      rfl
theorem pt_iff (p : PxT) (s : List UInt8) : (ptE p.1 p.2.1 p.2.2.1 p.2.2.2.1 p.2.2.2.2.1 p.2.2.2.2.2.1 p.2.2.2.2.2.2.1 p.2.2.2.2.2.2.2.1 p.2.2.2.2.2.2.2.2.1 p.2.2.2.2.2.2.2.2.2.1 p.2.2.2.2.2.2.2.2.2.2.1 p.2.2.2.2.2.2.2.2.2.2.2 = 0 ∧ ptT p.1 p.2.1 p.2.2.1 p.2.2.2.1 p.2.2.2.2.1 p.2.2.2.2.2.1 p.2.2.2.2.2.2.1 p.2.2.2.2.2.2.2.1 p.2.2.2.2.2.2.2.2.1 p.2.2.2.2.2.2.2.2.2.1 p.2.2.2.2.2.2.2.2.2.2.1 p.2.2.2.2.2.2.2.2.2.2.2 = s) ↔ (pxR p = true ∧ pxT p = s) := by
  unfold ptE ptT
  constructor
  · rintro ⟨h1, h2⟩
    by_cases h : pxR p = true
    · have h' := h
      unfold pxR at h'
      rw [if_pos h'] at h2
      exact ⟨h, h2⟩
    · have h' := h
      unfold pxR at h'
      rw [if_neg h'] at h1
      cases h1
  · rintro ⟨h1, h2⟩
    have h' := h1
    unfold pxR at h'
    rw [if_pos h', if_pos h']
    exact ⟨rfl, h2⟩
theorem rd_back (p : PxT) (h : pxR p = true) : rdP (alQ (pxT p)) (alP (pxT p)).2.1 (pxT p) = (p, 0) := by
  unfold alQ
  rw [(px_back p h).1]
  unfold rdP
  exact if_pos ⟨rfl, (pt_iff p _).2 ⟨h, rfl⟩⟩
theorem rd_ok (s : List UInt8) : (rdP (alQ s) (alP s).2.1 s = (zPx, 4)) ∨ ∃ p, rdP (alQ s) (alP s).2.1 s = (p, 0) ∧ pxR p = true ∧ pxT p = s := by
  unfold rdP
  split
  · rename_i h
    exact .inr ⟨_, rfl, (pt_iff _ _).1 h.2⟩
  · exact .inl rfl
end Nt.Ev.YteccmgkfmeoekaaDoor.Px

set_option linter.unusedVariables false
set_option linter.unusedSimpArgs false
set_option linter.unusedSectionVars false
namespace Nt.Ev.YteccmgkfmeoekaaDoor.Px
open Go Nt.Num Go.Proofs.YteccmgkfmeoekaaDoor
variable [MLen]
open Nt.Ev.YteccmgkfmeoekaaDoor
open Nt.Civil
noncomputable def rdF (s : List UInt8) : PxT × Int := rdP (alQ s) (alP s).2.1 s
noncomputable def rz0 (s : List UInt8) : List UInt8 := (rdF s).1.1
noncomputable def rz1 (s : List UInt8) : Int := (rdF s).1.2.1
noncomputable def rz2 (s : List UInt8) : List UInt8 := (rdF s).1.2.2.1
noncomputable def rz3 (s : List UInt8) : Int := (rdF s).1.2.2.2.1
noncomputable def rz4 (s : List UInt8) : Int := (rdF s).1.2.2.2.2.1
noncomputable def rz5 (s : List UInt8) : Int := (rdF s).1.2.2.2.2.2.1
noncomputable def rz6 (s : List UInt8) : Int := (rdF s).1.2.2.2.2.2.2.1
noncomputable def rz7 (s : List UInt8) : Int := (rdF s).1.2.2.2.2.2.2.2.1
noncomputable def rz8 (s : List UInt8) : Int := (rdF s).1.2.2.2.2.2.2.2.2.1
noncomputable def rz9 (s : List UInt8) : Int := (rdF s).1.2.2.2.2.2.2.2.2.2.1
noncomputable def rz10 (s : List UInt8) : Int := (rdF s).1.2.2.2.2.2.2.2.2.2.2.1
noncomputable def rz11 (s : List UInt8) : Int := (rdF s).1.2.2.2.2.2.2.2.2.2.2.2
noncomputable def rzE (s : List UInt8) : Int := (rdF s).2
noncomputable def lRdS : FSpec := fun a => match a with | [.str s] => some (ile (slen s) 700, .tup [.agg [.str (rz0 s), .int .i64 (rz1 s), .str (rz2 s), .int .i64 (rz3 s), .int .i64 (rz4 s), .int .i64 (rz5 s), .int .i64 (rz6 s), .int .i64 (rz7 s), .int .i64 (rz8 s), .int .i64 (rz9 s), .int .i64 (rz10 s), .int .i64 (rz11 s)], .int .i64 (rzE s)]) | _ => none
noncomputable def lS0 : List (Nat × FSpec) := (21, lRdS) :: (19, pTextS) :: (41, pWkS) :: (20, pRiS) :: []
noncomputable def lLvS : FSpec := fun a => match a with | [] => some (true, .bool true) | _ => none
noncomputable def lS1 : List (Nat × FSpec) := (18, lLvS) :: lS0
set_option maxRecDepth 100000 in
theorem lBk_top (F : Nat) (s : List UInt8) (n : List UInt8) (o : Int) (e : List UInt8) (v : Int) (m : Int) (w : Int) (d : Int) (c : Int) (m2 : Int) (w2 : Int) (d2 : Int) (c2 : Int) (K : V → Option V) :
 evBd aE (evFn aE lS1 F 3) F 5 [(V.str s), (V.agg [(V.str n), (V.int .i64 o), (V.str e), (V.int .i64 v), (V.int .i64 m), (V.int .i64 w), (V.int .i64 d), (V.int .i64 c), (V.int .i64 m2), (V.int .i64 w2), (V.int .i64 d2), (V.int .i64 c2)])] K =
 sel (ilt 300 (slen s))
 (K (V.bool true))
 (sel (ilt 300 (iadd .i64 (slen n) (slen e)))
 (K (V.bool true))
 (sel (band (ile (slen n) 1000) (ile (slen e) 1000))
 (sel (band (ile (slen n) 1000) (ile (slen e) 1000))
 (sel (bnot (beq (ieq (ptE n o e v m w d c m2 w2 d2 c2) 0) (riP n o e v m w d c m2 w2 d2 c2)))
 (K (V.bool false))
 (sel (ieq (ptE n o e v m w d c m2 w2 d2 c2) 0)
 (sel (ile (slen (ptT n o e v m w d c m2 w2 d2 c2)) 700)
 (sel (bnot (band (seq (rz0 (ptT n o e v m w d c m2 w2 d2 c2)) n) (band (ieq (rz1 (ptT n o e v m w d c m2 w2 d2 c2)) o) (band (seq (rz2 (ptT n o e v m w d c m2 w2 d2 c2)) e) (band (ieq (rz3 (ptT n o e v m w d c m2 w2 d2 c2)) v) (band (band (ieq (rz4 (ptT n o e v m w d c m2 w2 d2 c2)) m) (band (ieq (rz5 (ptT n o e v m w d c m2 w2 d2 c2)) w) (band (ieq (rz6 (ptT n o e v m w d c m2 w2 d2 c2)) d) (ieq (rz7 (ptT n o e v m w d c m2 w2 d2 c2)) c)))) (band (ieq (rz8 (ptT n o e v m w d c m2 w2 d2 c2)) m2) (band (ieq (rz9 (ptT n o e v m w d c m2 w2 d2 c2)) w2) (band (ieq (rz10 (ptT n o e v m w d c m2 w2 d2 c2)) d2) (ieq (rz11 (ptT n o e v m w d c m2 w2 d2 c2)) c2))))))))))
 (K (V.bool false))
 (sel (bnot (ieq (rzE (ptT n o e v m w d c m2 w2 d2 c2)) 0))
 (K (V.bool false))
 (sel (ile (slen s) 700)
 (sel (bnot (ieq (rzE s) 0))
 (K (V.bool (band (seq (rz0 s) []) (band (ieq (rz1 s) 0) (band (seq (rz2 s) []) (band (ieq (rz3 s) 0) (band (band (ieq (rz4 s) 0) (band (ieq (rz5 s) 0) (band (ieq (rz6 s) 0) (ieq (rz7 s) 0)))) (band (ieq (rz8 s) 0) (band (ieq (rz9 s) 0) (band (ieq (rz10 s) 0) (ieq (rz11 s) 0)))))))))))
 (sel (band (ile (slen (rz0 s)) 1000) (ile (slen (rz2 s)) 1000))
 (sel (band (ile (slen (rz0 s)) 1000) (ile (slen (rz2 s)) 1000))
 (sel (riP (rz0 s) (rz1 s) (rz2 s) (rz3 s) (rz4 s) (rz5 s) (rz6 s) (rz7 s) (rz8 s) (rz9 s) (rz10 s) (rz11 s))
 (sel (seq (ptT (rz0 s) (rz1 s) (rz2 s) (rz3 s) (rz4 s) (rz5 s) (rz6 s) (rz7 s) (rz8 s) (rz9 s) (rz10 s) (rz11 s)) s)
 (K (V.bool (ieq (ptE (rz0 s) (rz1 s) (rz2 s) (rz3 s) (rz4 s) (rz5 s) (rz6 s) (rz7 s) (rz8 s) (rz9 s) (rz10 s) (rz11 s)) 0)))
 (K (V.bool false)))
 (K (V.bool false)))
 (none))
 (none)))
 (none))))
 (none))
 (sel (ile (slen s) 700)
 (sel (bnot (ieq (rzE s) 0))
 (K (V.bool (band (seq (rz0 s) []) (band (ieq (rz1 s) 0) (band (seq (rz2 s) []) (band (ieq (rz3 s) 0) (band (band (ieq (rz4 s) 0) (band (ieq (rz5 s) 0) (band (ieq (rz6 s) 0) (ieq (rz7 s) 0)))) (band (ieq (rz8 s) 0) (band (ieq (rz9 s) 0) (band (ieq (rz10 s) 0) (ieq (rz11 s) 0)))))))))))
 (sel (band (ile (slen (rz0 s)) 1000) (ile (slen (rz2 s)) 1000))
 (sel (band (ile (slen (rz0 s)) 1000) (ile (slen (rz2 s)) 1000))
 (sel (riP (rz0 s) (rz1 s) (rz2 s) (rz3 s) (rz4 s) (rz5 s) (rz6 s) (rz7 s) (rz8 s) (rz9 s) (rz10 s) (rz11 s))
 (sel (seq (ptT (rz0 s) (rz1 s) (rz2 s) (rz3 s) (rz4 s) (rz5 s) (rz6 s) (rz7 s) (rz8 s) (rz9 s) (rz10 s) (rz11 s)) s)
 (K (V.bool (ieq (ptE (rz0 s) (rz1 s) (rz2 s) (rz3 s) (rz4 s) (rz5 s) (rz6 s) (rz7 s) (rz8 s) (rz9 s) (rz10 s) (rz11 s)) 0)))
 (K (V.bool false)))
 (K (V.bool false)))
 (none))
 (none)))
 (none))))
 (none))
 (none))) := by kernel_rfl
end Nt.Ev.YteccmgkfmeoekaaDoor.Px

set_option linter.unusedVariables false
set_option linter.unusedSimpArgs false
set_option linter.unusedSectionVars false
namespace Nt.Ev.YteccmgkfmeoekaaDoor.Px
set_option maxRecDepth 100000
open Go Go.RowKit Nt Nt.Num Go.Proofs.YteccmgkfmeoekaaDoor Nt.Ev.YteccmgkfmeoekaaDoor Nt.Civil
variable [MLen]
theorem len_p7 {s : List UInt8} (h : ile (slen s) 700 = true) : s.length ≤ 700 := by rw [ile_iff, slen_nat] at h; omega
theorem p_len7 {s : List UInt8} (h : s.length ≤ 700) : ile (slen s) 700 = true := by rw [ile_iff, slen_nat]; omega
theorem lRdS_ok (s : List UInt8) (hc : ile (slen s) 700 = true) : Contract aE 21 [.str s] (.tup [.agg [.str (rz0 s), .int .i64 (rz1 s), .str (rz2 s), .int .i64 (rz3 s), .int .i64 (rz4 s), .int .i64 (rz5 s), .int .i64 (rz6 s), .int .i64 (rz7 s), .int .i64 (rz8 s), .int .i64 (rz9 s), .int .i64 (rz10 s), .int .i64 (rz11 s)], .int .i64 (rzE s)]) := pRd_ev s (by have := len_p7 hc; omega)
theorem lS0_ok : SOk aE lS0 := by
  unfold lS0
  refine SOk.cons (fun args r h => ?_) (SOk.cons (fun args r h => ?_) (SOk.cons (fun args r h => ?_) (SOk.cons (fun args r h => ?_) (SOk.nil))))
  · unfold lRdS at h
    split at h
    · simp only [Option.some.injEq, Prod.mk.injEq] at h
      obtain ⟨hc, rfl⟩ := h
      exact lRdS_ok _ hc
    · cases h
  · unfold pTextS at h
    split at h
    · simp only [Option.some.injEq, Prod.mk.injEq] at h
      obtain ⟨hc, rfl⟩ := h
      exact pTextS_ok _ _ _ _ _ _ _ _ _ _ _ _ hc
    · cases h
  · unfold pWkS at h
    split at h
    · simp only [Option.some.injEq, Prod.mk.injEq] at h
      obtain ⟨hc, rfl⟩ := h
      exact pWkS_ok _ _ _ _ rfl
    · cases h
  · unfold pRiS at h
    split at h
    · simp only [Option.some.injEq, Prod.mk.injEq] at h
      obtain ⟨hc, rfl⟩ := h
      exact pRiS_ok _ _ _ _ _ _ _ _ _ _ _ _ hc
    · cases h
set_option maxHeartbeats 2000000 in
theorem lLvS_ok (hc : true = true) : Contract aE 18 [] (.bool true) := by
  refine contract_of_body aE_ok lS0_ok 5 3 ?_
  kernel_rfl
theorem lS1_ok : SOk aE lS1 := by
  unfold lS1
  refine SOk.cons (fun args r h => ?_) (lS0_ok)
  · unfold lLvS at h
    split at h
    · simp only [Option.some.injEq, Prod.mk.injEq] at h
      obtain ⟨hc, rfl⟩ := h
      exact lLvS_ok  rfl
    · cases h
theorem seqR (a : List UInt8) : seq a a = true := by rw [seq_iff]
theorem ieqR (a : Int) : ieq a a = true := ieq_t rfl
theorem beqR (a : Bool) : beq a a = true := by cases a <;> rfl
theorem bTT : band true true = true := rfl
theorem sTr {α : Type} (a b : α) : sel true a b = a := rfl
theorem pt_len (n : List UInt8) (o : Int) (e : List UInt8) (v m w d c m2 w2 d2 c2 : Int) : (ptT n o e v m w d c m2 w2 d2 c2).length ≤ 700 := by
  unfold ptT
  split
  · rename_i h
    obtain ⟨h1, h2, h3⟩ := ri_in h
    have w1 := wr_len n
    have c1 := ckt_len (-o) (by omega)
    unfold txP
    split
    · simp only [List.length_append, List.length_nil]; omega
    · rename_i hE
      obtain ⟨k1, k2, k3, k4, k5⟩ := h3 hE
      have wl2 := wr_len e
      have y1 := dy_len m w d c k4
      have y2 := dy_len m2 w2 d2 c2 k5
      have cl2 := ckt_len (-o - v) (by omega)
      have : (if v = 3600 then ([] : List UInt8) else ckT (-o - v)).length ≤ 51 := by
        split
        · simp
        · exact cl2
      simp only [List.length_append]; omega
  · simp
theorem px_tail (s : List UInt8) (hs : s.length ≤ 300) : (sel (ile (slen s) 700)
                  (sel (bnot (ieq (rzE s) 0))
                    (some (V.bool (band (seq (rz0 s) []) (band (ieq (rz1 s) 0) (band (seq (rz2 s) []) (band (ieq (rz3 s) 0) (band (band (ieq (rz4 s) 0) (band (ieq (rz5 s) 0) (band (ieq (rz6 s) 0) (ieq (rz7 s) 0)))) (band (ieq (rz8 s) 0) (band (ieq (rz9 s) 0) (band (ieq (rz10 s) 0) (ieq (rz11 s) 0)))))))))))
                    (sel (band (ile (slen (rz0 s)) 1000) (ile (slen (rz2 s)) 1000))
                      (sel (band (ile (slen (rz0 s)) 1000) (ile (slen (rz2 s)) 1000))
                        (sel (riP (rz0 s) (rz1 s) (rz2 s) (rz3 s) (rz4 s) (rz5 s) (rz6 s) (rz7 s) (rz8 s) (rz9 s) (rz10 s) (rz11 s))
                          (sel (seq (ptT (rz0 s) (rz1 s) (rz2 s) (rz3 s) (rz4 s) (rz5 s) (rz6 s) (rz7 s) (rz8 s) (rz9 s) (rz10 s) (rz11 s)) s)
                            (some (V.bool (ieq (ptE (rz0 s) (rz1 s) (rz2 s) (rz3 s) (rz4 s) (rz5 s) (rz6 s) (rz7 s) (rz8 s) (rz9 s) (rz10 s) (rz11 s)) 0)))
                            (some (V.bool false)))
                          (some (V.bool false)))
                        (none))
                      (none)))
                  (none)) = some (.bool true) := by
  rw [sel_pos (p_len7 (by omega))]
  rcases rd_ok s with h | ⟨p, h, h1, h2⟩
  · have h : rdF s = (zPx, 4) := h
    unfold rzE rz0 rz1 rz2 rz3 rz4 rz5 rz6 rz7 rz8 rz9 rz10 rz11
    rw [h]
    rfl
  · have h : rdF s = (p, 0) := h
    have hl := al_len s
    have h3 := (pt_iff p s).2 ⟨h1, h2⟩
    have h1x := h1
    unfold pxR at h1x
    have l0 : p.1.length ≤ 1000 ∧ p.2.2.1.length ≤ 1000 := by
      obtain ⟨a1, a2, a3⟩ := ri_in h1
      refine ⟨by omega, ?_⟩
      by_cases q : p.2.2.1 = []
      · rw [q]; simp
      · have := (a3 q).1; omega
    unfold rzE rz0 rz1 rz2 rz3 rz4 rz5 rz6 rz7 rz8 rz9 rz10 rz11
    rw [h]
    simp only
    rw [sel_neg (by rfl), sel_pos (by rw [band_iff]; exact ⟨p_len l0.1, p_len l0.2⟩), sel_pos (by rw [band_iff]; exact ⟨p_len l0.1, p_len l0.2⟩), sel_pos h1x, sel_pos (by rw [seq_iff]; exact h3.2), h3.1]
    rfl
theorem px_B (s n : List UInt8) (o : Int) (e : List UInt8) (v m w d c m2 w2 d2 c2 : Int) (hn : n.length ≤ 1152921504606846976) (he : e.length ≤ 1152921504606846976) : Contract aE 5 [.str s, .agg [.str n, .int .i64 o, .str e, .int .i64 v, .int .i64 m, .int .i64 w, .int .i64 d, .int .i64 c, .int .i64 m2, .int .i64 w2, .int .i64 d2, .int .i64 c2]] (.bool true) := by
  refine contract_of_body aE_ok lS1_ok 5 3 ?_
  rw [lBk_top]
  by_cases h1 : (300 : Int) < slen s
  · rw [sel_pos (ilt_t h1)]
  rw [sel_neg (ilt_f (by omega)), iadd64 (by rw [slen_nat, slen_nat]; omega)]
  by_cases h2 : (300 : Int) < slen n + slen e
  · rw [sel_pos (ilt_t h2)]
  rw [slen_nat] at h1
  rw [slen_nat, slen_nat] at h2
  have c2' : band (ile (slen n) 1000) (ile (slen e) 1000) = true := by rw [band_iff]; exact ⟨p_len (by omega), p_len (by omega)⟩
  have tl := px_tail s (by omega)
  rw [sel_neg (ilt_f (by rw [slen_nat, slen_nat]; omega)), c2', sel_pos rfl, sel_pos rfl, tl, sel_pos (p_len7 (pt_len n o e v m w d c m2 w2 d2 c2))]
  cases hr : riP n o e v m w d c m2 w2 d2 c2 with
  | false =>
    have hE : ptE n o e v m w d c m2 w2 d2 c2 = 4 := by unfold ptE; rw [hr]; rfl
    rw [hE]; rfl
  | true =>
    have hE : ptE n o e v m w d c m2 w2 d2 c2 = 0 := by unfold ptE; rw [hr]; rfl
    have hT : ptT n o e v m w d c m2 w2 d2 c2 = txP n o e v m w d c m2 w2 d2 c2 := by unfold ptT; rw [hr]; rfl
    have hb : rdF (txP n o e v m w d c m2 w2 d2 c2) = ((n, o, e, v, m, w, d, c, m2, w2, d2, c2), 0) := rd_back (n, o, e, v, m, w, d, c, m2, w2, d2, c2) hr
    rw [hE, hT]
    have z0 : rz0 (txP n o e v m w d c m2 w2 d2 c2) = n := by unfold rz0; rw [hb]
    have z1 : rz1 (txP n o e v m w d c m2 w2 d2 c2) = o := by unfold rz1; rw [hb]
    have z2 : rz2 (txP n o e v m w d c m2 w2 d2 c2) = e := by unfold rz2; rw [hb]
    have z3 : rz3 (txP n o e v m w d c m2 w2 d2 c2) = v := by unfold rz3; rw [hb]
    have z4 : rz4 (txP n o e v m w d c m2 w2 d2 c2) = m := by unfold rz4; rw [hb]
    have z5 : rz5 (txP n o e v m w d c m2 w2 d2 c2) = w := by unfold rz5; rw [hb]
    have z6 : rz6 (txP n o e v m w d c m2 w2 d2 c2) = d := by unfold rz6; rw [hb]
    have z7 : rz7 (txP n o e v m w d c m2 w2 d2 c2) = c := by unfold rz7; rw [hb]
    have z8 : rz8 (txP n o e v m w d c m2 w2 d2 c2) = m2 := by unfold rz8; rw [hb]
    have z9 : rz9 (txP n o e v m w d c m2 w2 d2 c2) = w2 := by unfold rz9; rw [hb]
    have z10 : rz10 (txP n o e v m w d c m2 w2 d2 c2) = d2 := by unfold rz10; rw [hb]
    have z11 : rz11 (txP n o e v m w d c m2 w2 d2 c2) = c2 := by unfold rz11; rw [hb]
    have zE : rzE (txP n o e v m w d c m2 w2 d2 c2) = 0 := by unfold rzE; rw [hb]
    rw [z0, z1, z2, z3, z4, z5, z6, z7, z8, z9, z10, z11, zE]
    simp only [seqR, ieqR, beqR, bTT, sTr]
    rfl
end Nt.Ev.YteccmgkfmeoekaaDoor.Px
