/-
  What holds for good: how it is read by the program. What holds for good: all that the program reads; how the document writes it. What holds for good: how the document writes it, and takes names and clocks' numbers. What holds for good: what the document reads. What holds for good: all that the document reads. What holds for good: what is written is read as it is, by both readers; plain law. PosixLaw: equations of functions, as the evaluator prints them. What holds for good: the two statements.
-/
import Derived.Test.YteccmgkfmeoekaaGreatDoorMXB
import Derived.Shelf.Strings.SlTrimAscii
import Derived.Test.YteccmgkfmeoekaaGreatDoorMF
set_option linter.unusedVariables false
set_option linter.unusedSimpArgs false
set_option linter.unusedSectionVars false
namespace Nt.Ev.YteccmgkfmeoekaaGreatDoor.Px
set_option maxRecDepth 100000
open Go Go.RowKit Nt Nt.Num Go.Proofs.YteccmgkfmeoekaaGreatDoor Nt.Ev.YteccmgkfmeoekaaGreatDoor Nt.Civil
variable [MLen]
theorem pTlS_ok (s c : List UInt8) (hc : band (ile (slen s) 1000) (band (ile (slen c) 1000) (asciiBc c)) = true) : Contract aE 153 [.str s, .str c] (.str (tlP s c)) := by
  obtain ⟨h1, h2⟩ := band_true hc
  obtain ⟨h2, h3⟩ := band_true h2
  have h2 := len_p h2
  refine contract_old fun G w vs hG hg hp => ?_
  obtain ⟨x, y, rfl, hx, hy⟩ := PW_two hp
  unfold rep at hx hy
  subst hx; subst hy
  have sz : (⟨c.toArray⟩ : ByteArray).size = c.length := by simp [ByteArray.size]
  refine (Go.Proofs.Any.strings_TrimLeft_laid Go.Proofs.Tryz.lays161 (by kernel_rfl) ⟨s.toArray⟩ ⟨c.toArray⟩ w (by rw [sz]; omega) (fun j b hb => ?_)).mono ?_
  · have h3 : (c.all fun c => decide (c.toNat < 128)) = true := h3
    exact of_decide_eq_true (List.all_eq_true.1 h3 b (List.mem_of_getElem? (by simpa using hb)))
  · rintro e w' ⟨rfl, hb⟩
    exact ⟨_, rfl, hb, res_str _⟩
theorem pCpS_ok (s p : List UInt8) (hc : ile (slen s) 1000 = true) : Contract aE 157 [.str s, .str p] (.tup [.str (cpTp s p), .bool (cpBp s p)]) := by
  refine contract_old fun G w vs hG hg hp => ?_
  obtain ⟨x, y, rfl, hx, hy⟩ := PW_two hp
  unfold rep at hx hy
  subst hx; subst hy
  refine (Go.Proofs.Tryz.strings_CutPrefix ⟨s.toArray⟩ ⟨p.toArray⟩ w).mono ?_
  rintro e w' ⟨rfl, rfl⟩
  exact ⟨_, rfl, Below.refl _ _, res_two (same_str _) (same_bool _)⟩
theorem pS16_ok : SOk aE pS16 := by
  unfold pS16
  refine SOk.cons (fun args r h => ?_) (SOk.cons (fun args r h => ?_) (pS12_ok))
  · unfold pTlS at h
    split at h
    · simp only [Option.some.injEq, Prod.mk.injEq] at h
      obtain ⟨hc, rfl⟩ := h
      exact pTlS_ok _ _ hc
    · cases h
  · unfold pCpS at h
    split at h
    · simp only [Option.some.injEq, Prod.mk.injEq] at h
      obtain ⟨hc, rfl⟩ := h
      exact pCpS_ok _ _ hc
    · cases h
theorem tl_len (l c : List UInt8) : (tlP l c).length ≤ l.length := (List.dropWhile_suffix (l := l) fun b => c.contains b).sublist.length_le
theorem tw_len (l c : List UInt8) : (twP l c).length ≤ l.length := (List.takeWhile_sublist (l := l) fun b => c.contains b).length_le
theorem cp_len (l c : List UInt8) : (cpTp l c).length ≤ l.length := by
  unfold cpTp Lib.trimPrefix
  split
  · rw [List.length_drop]; omega
  · exact Nat.le_refl _
theorem tw_tl (l c : List UInt8) : twP l c ++ tlP l c = l := List.takeWhile_append_dropWhile
theorem pRnS_ok (l c : List UInt8) (hc : band (ile (slen l) 1000) (band (ile (slen c) 1000) (asciiBc c)) = true) : XOk aE 127 [.bxa 0 [.str l], .str c] (.out false (.str (twP l c)) [[.str (tlP l c)]]) := by
  refine XOk.out (xc_of_body aE_ok pS16_ok 5 2 ?_)
  have h1 := tl_len l c
  have hl := len_p (band_true hc).1
  have e : isub .i64 (slen l) (slen (tlP l c)) = ((twP l c).length : Int) := by
    have := congrArg List.length (tw_tl l c)
    rw [List.length_append] at this
    rw [slen_nat, slen_nat, isub64 (by omega)]; omega
  have h2 := tw_len l c
  have hb : band (ile 0 ((twP l c).length : Int)) (ile ((twP l c).length : Int) (slen l)) = true := by rw [band_iff, ile_iff, ile_iff, slen_nat]; omega
  have e1 : ssub l 0 ((twP l c).length : Int) = twP l c := by
    have q : ssub l ((0 : Nat) : Int) ((twP l c).length : Int) = (l.drop 0).take ((twP l c).length - 0) := ssub_nat l 0 _
    have q2 : ssub l 0 ((twP l c).length : Int) = ssub l ((0 : Nat) : Int) ((twP l c).length : Int) := rfl
    rw [q2, q, List.drop_zero, Nat.sub_zero]
    have h := congrArg (List.take (twP l c).length) (tw_tl l c)
    rw [List.take_left] at h
    exact h.symm
  have e2 : ssub l ((twP l c).length : Int) (slen l) = tlP l c := by
    rw [slen_nat, ssub_nat]
    have h := congrArg (List.drop (twP l c).length) (tw_tl l c)
    rw [List.drop_left] at h
    rw [← h]
    exact List.take_of_length_le (by have := congrArg List.length (tw_tl l c); rw [List.length_append] at this; omega)
  rw [pRn_top, sel_pos hc, e, sel_pos hb, sel_pos hb, e1, e2]
theorem pSgS_ok (l c : List UInt8) (hc : ile (slen l) 1000 = true) : XOk aE 126 [.bxa 0 [.str l], .str c] (.out false (.bool (cpBp l c)) [[.str (cpTp l c)]]) := by
  refine XOk.out (xc_of_body aE_ok pS16_ok 5 2 ?_)
  rw [pSg_top, sel_pos hc]
theorem pS17_ok : SOk aE pS17 := by
  unfold pS17
  refine SOk.consX (fun args r h => ?_) (SOk.consX (fun args r h => ?_) (pS16_ok))
  · unfold pRnS at h
    split at h
    · simp only [Option.some.injEq, Prod.mk.injEq] at h
      obtain ⟨hc, rfl⟩ := h
      exact pRnS_ok _ _ hc
    · cases h
  · unfold pSgS at h
    split at h
    · simp only [Option.some.injEq, Prod.mk.injEq] at h
      obtain ⟨hc, rfl⟩ := h
      exact pSgS_ok _ _ hc
    · cases h
def guV : V := .iface 86 (.agg [])
theorem asc_run {l c : List UInt8} (h : l.length ≤ 1000) (hc : c.length ≤ 1000) (ha : asciiBc c = true) : band (ile (slen l) 1000) (band (ile (slen c) 1000) (asciiBc c)) = true := by rw [ha, p_len h, p_len hc]; rfl
theorem cho_ok {f : Nat} {args : List V} {q : Bool} {x : V} {l : List UInt8} {S : List (Nat × FSpec)} (hS : SOk aE S) (fuel d : Nat) (h : evBd aE (evFn aE S fuel d) fuel f args some = some (sel q (.out false x [[.str l]]) (.out true guV [[.str l]]))) : XOk aE f args (.cho q (.out false x [[.str l]]) (.out true guV [[.str l]])) := by
  refine XOk.cho (fun hq => ?_) (fun hq => ?_)
  · subst hq; exact XOk.out (xc_of_body aE_ok hS fuel d h)
  · subst hq; exact XOk.out (xc_of_body aE_ok hS fuel d h)
theorem bT (b : Bool) (h : b = true) : bnot b = false := by rw [h]; rfl
theorem bF (b : Bool) (h : ¬ b = true) : bnot b = true := by rw [bnot_iff]; exact h
theorem pNmS2_ok (l : List UInt8) (hc : ile (slen l) 900 = true) : XOk aE 85 [.bxa 0 [.str l]] (.cho (nmQ l) (.out false (.str (nmA l)) [[.str (nmL l)]]) (.out true (.iface 86 (.agg [])) [[.str (nmL l)]])) := by
  have hl := len_p9 hc
  refine cho_ok pS17_ok 5 3 ?_
  have h1 := cp_len l [60]
  have h2 := tl_len (cpTp l [60]) alns
  rw [pRN_top, sel_pos (p_len (by omega))]
  unfold nmQ nmA nmL nmP
  by_cases h : cpBp l [60] = true
  · rw [sel_neg (bT _ h), if_pos h, sel_pos (asc_run (by omega) (by decide) (by decide)), sel_pos (p_len (Nat.le_trans (tl_len _ _) (by omega)))]
    by_cases h3 : cpBp (tlP (cpTp l [60]) alns) [62] = true
    · rw [sel_neg (bT _ h3), if_pos h3]; rfl
    · rw [sel_pos (bF _ h3), if_neg h3]; rfl
  · rw [sel_pos (bF _ h), if_neg h, sel_pos (asc_run (by omega) (by decide) (by decide))]; rfl
theorem pCkS_ok (l : List UInt8) (hc : ile (slen l) 900 = true) : XOk aE 86 [.bxa 0 [.str l]] (.cho (ckQ l) (.out false (.tup [.int .i64 (ckN l), .bool (ckS l)]) [[.str (ckL l)]]) (.out true (.iface 86 (.agg [])) [[.str (ckL l)]])) := by
  have hl := len_p9 hc
  refine cho_ok pS17_ok 5 3 ?_
  have h1 := tw_len l clks
  rw [pRC_top, sel_pos (asc_run (by omega) (by decide) (by decide)), sel_pos (show ile (slen (twP l clks)) 1000 = true from p_len (by omega))]
  unfold ckQ ckN ckS ckL
  cases h2 : seq (twP l clks) [] with
  | true => rfl
  | false =>
    cases h3 : ieq (rdWc (twP l clks)) 0 with
    | true => rfl
    | false => rfl
theorem pS18_ok : SOk aE pS18 := by
  unfold pS18
  refine SOk.consX (fun args r h => ?_) (SOk.consX (fun args r h => ?_) (pS17_ok))
  · unfold pNmS2 at h
    split at h
    · simp only [Option.some.injEq, Prod.mk.injEq] at h
      obtain ⟨hc, rfl⟩ := h
      exact pNmS2_ok _ hc
    · cases h
  · unfold pCkS at h
    split at h
    · simp only [Option.some.injEq, Prod.mk.injEq] at h
      obtain ⟨hc, rfl⟩ := h
      exact pCkS_ok _ hc
    · cases h
theorem num_sel {α : Type} (a : List UInt8) (p n : α) : sel (ieq (nrW a) 0) (sel (bnot (ilt (nrI a) 100)) p n) p = sel (numQ a) n p := by
  unfold numQ
  cases ieq (nrW a) 0 <;> cases ilt (nrI a) 100 <;> rfl
theorem dyNum_t {l : List UInt8} {K : Int → List UInt8 → Bool × (Int × Int × Int × Int) × List UInt8} (h : numQ (twP l dgs) = true) : dyNum l K = K (nrI (twP l dgs)) (tlP l dgs) := if_pos h
theorem dyNum_f {l : List UInt8} {K : Int → List UInt8 → Bool × (Int × Int × Int × Int) × List UInt8} (h : ¬ numQ (twP l dgs) = true) : dyNum l K = (false, (0, 0, 0, 0), tlP l dgs) := if_neg h
theorem dyDot_t {l : List UInt8} {K : List UInt8 → Bool × (Int × Int × Int × Int) × List UInt8} (h : cpBp l [46] = true) : dyDot l K = K (cpTp l [46]) := if_pos h
theorem dyDot_f {l : List UInt8} {K : List UInt8 → Bool × (Int × Int × Int × Int) × List UInt8} (h : ¬ cpBp l [46] = true) : dyDot l K = (false, (0, 0, 0, 0), cpTp l [46]) := if_neg h
def outD (r : Bool × (Int × Int × Int × Int) × List UInt8) : V := sel r.1 (.out false (.agg [.int .i64 r.2.1.1, .int .i64 r.2.1.2.1, .int .i64 r.2.1.2.2.1, .int .i64 r.2.1.2.2.2]) [[.str r.2.2]]) (.out true guV [[.str r.2.2]])
theorem pDyS_ok (l : List UInt8) (hc : ile (slen l) 900 = true) : XOk aE 87 [.bxa 0 [.str l]] (.cho (dyQ l) (.out false (.agg [.int .i64 (dyM l), .int .i64 (dyW l), .int .i64 (dyD l), .int .i64 (dyC l)]) [[.str (dyL l)]]) (.out true (.iface 86 (.agg [])) [[.str (dyL l)]])) := by
  have hl := len_p9 hc
  refine cho_ok pS18_ok 6 3 ?_
  show _ = some (outD (dyP l))
  rw [pRD_u6_top, sel_pos (p_len (by omega))]
  simp only [num_sel]
  unfold dyP
  have k1 := cp_len l [44, 77]
  by_cases h0 : cpBp l [44, 77] = true
  rotate_left
  · rw [sel_pos (bF _ h0), if_neg h0]; rfl
  rw [sel_neg (bT _ h0), if_pos h0]
  generalize cpTp l [44, 77] = l1 at *
  have t1 := tw_len l1 dgs
  have t2 := tl_len l1 dgs
  rw [sel_pos (show band (ile (slen l1) 1000) (band (ile 10 1000) (asciiBc dgs)) = true from asc_run (c := dgs) (by omega) (by decide) (by decide)), sel_pos (show ile (slen (twP l1 dgs)) 1000 = true from p_len (by omega))]
  by_cases h1 : numQ (twP l1 dgs) = true
  rotate_left
  · rw [dyNum_f h1, sel_neg (by simpa using h1)]; rfl
  rw [dyNum_t h1, sel_pos h1]
  generalize nrI (twP l1 dgs) = a1 at *
  generalize tlP l1 dgs = l2 at *
  rw [sel_pos (p_len (by omega : l2.length ≤ 1000))]
  have t3 := cp_len l2 [46]
  by_cases h2 : cpBp l2 [46] = true
  rotate_left
  · rw [dyDot_f h2, sel_pos (bF _ h2)]; rfl
  rw [dyDot_t h2, sel_neg (bT _ h2)]
  generalize cpTp l2 [46] = l3 at *
  have t1 := tw_len l3 dgs
  have t2 := tl_len l3 dgs
  rw [sel_pos (show band (ile (slen l3) 1000) (band (ile 10 1000) (asciiBc dgs)) = true from asc_run (c := dgs) (by omega) (by decide) (by decide)), sel_pos (show ile (slen (twP l3 dgs)) 1000 = true from p_len (by omega))]
  by_cases h1 : numQ (twP l3 dgs) = true
  rotate_left
  · rw [dyNum_f h1, sel_neg (by simpa using h1)]; rfl
  rw [dyNum_t h1, sel_pos h1]
  generalize nrI (twP l3 dgs) = a2 at *
  generalize tlP l3 dgs = l4 at *
  rw [sel_pos (p_len (by omega : l4.length ≤ 1000))]
  have t3 := cp_len l4 [46]
  by_cases h2 : cpBp l4 [46] = true
  rotate_left
  · rw [dyDot_f h2, sel_pos (bF _ h2)]; rfl
  rw [dyDot_t h2, sel_neg (bT _ h2)]
  generalize cpTp l4 [46] = l5 at *
  have t1 := tw_len l5 dgs
  have t2 := tl_len l5 dgs
  rw [sel_pos (show band (ile (slen l5) 1000) (band (ile 10 1000) (asciiBc dgs)) = true from asc_run (c := dgs) (by omega) (by decide) (by decide)), sel_pos (show ile (slen (twP l5 dgs)) 1000 = true from p_len (by omega))]
  by_cases h1 : numQ (twP l5 dgs) = true
  rotate_left
  · rw [dyNum_f h1, sel_neg (by simpa using h1)]; rfl
  rw [dyNum_t h1, sel_pos h1]
  generalize nrI (twP l5 dgs) = a3 at *
  generalize tlP l5 dgs = l6 at *
  rw [sel_pos (p_len (by omega : l6.length ≤ 1000))]
  have t4 := cp_len l6 [47]
  unfold dyEnd
  by_cases h3 : cpBp l6 [47] = true
  · rw [if_pos h3, sel_pos h3, sel_pos (p_len9 (by omega : (cpTp l6 [47]).length ≤ 900))]
    cases h4 : ckQ (cpTp l6 [47]) with
    | false => rfl
    | true =>
      cases h5 : ckS (cpTp l6 [47]) with
      | false => rfl
      | true => rfl
  · rw [if_neg h3, sel_neg (by simpa using h3)]; rfl
theorem pS19_ok : SOk aE pS19 := by
  unfold pS19
  refine SOk.consX (fun args r h => ?_) (pS18_ok)
  · unfold pDyS at h
    split at h
    · simp only [Option.some.injEq, Prod.mk.injEq] at h
      obtain ⟨hc, rfl⟩ := h
      exact pDyS_ok _ hc
    · cases h
end Nt.Ev.YteccmgkfmeoekaaGreatDoor.Px

set_option linter.unusedVariables false
set_option linter.unusedSimpArgs false
set_option linter.unusedSectionVars false
namespace Nt.Ev.YteccmgkfmeoekaaGreatDoor.Px
set_option maxRecDepth 100000
open Go Go.RowKit Nt Nt.Num Go.Proofs.YteccmgkfmeoekaaGreatDoor Nt.Ev.YteccmgkfmeoekaaGreatDoor Nt.Civil
variable [MLen]
theorem told_in (P : List (List UInt8)) (b : Bool) : -604800 ≤ (Amount.told P b).1 ∧ (Amount.told P b).1 ≤ 604800 := by
  unfold Amount.told
  split
  · decide
  · split
    · decide
    · rename_i h
      rw [Bool.or_eq_true, decide_eq_true_eq] at h
      have : Amount.sumK P P.length < 604800 := by
        have := fun q => h (.inr q)
        omega
      simp only
      split <;> omega
theorem am_in (s : List UInt8) : -604800 ≤ rdI s ∧ rdI s ≤ 604800 := by
  unfold rdI Amount.read
  split
  · decide
  · exact told_in _ _
theorem nm_len (l : List UInt8) : (nmL l).length ≤ l.length := by
  unfold nmL nmP
  have h1 := cp_len l [60]
  split
  · have h2 := tl_len (cpTp l [60]) alns
    have h3 := cp_len (tlP (cpTp l [60]) alns) [62]
    split
    · exact Nat.le_trans h3 (Nat.le_trans h2 h1)
    · exact Nat.le_trans h3 (Nat.le_trans h2 h1)
  · exact Nat.le_trans (tl_len _ _) h1
theorem nma_len (l : List UInt8) : (nmA l).length ≤ l.length := by
  unfold nmA nmP
  have h1 := cp_len l [60]
  split
  · split
    · exact Nat.le_trans (tw_len _ _) h1
    · exact Nat.zero_le _
  · exact Nat.le_trans (tw_len _ _) h1
theorem ckl_len (l : List UInt8) : (ckL l).length ≤ l.length := tl_len l clks
theorem ckn_in (l : List UInt8) : -604800 ≤ ckN l ∧ ckN l ≤ 604800 := by
  unfold ckN
  split
  · decide
  · exact am_in _
theorem dyNum_le {l : List UInt8} {n : Nat} {K : Int → List UInt8 → Bool × (Int × Int × Int × Int) × List UInt8} (hl : l.length ≤ n) (h : ∀ a r, r.length ≤ n → (K a r).2.2.length ≤ n) : (dyNum l K).2.2.length ≤ n := by
  unfold dyNum
  split
  · exact h _ _ (Nat.le_trans (tl_len _ _) hl)
  · exact Nat.le_trans (tl_len _ _) hl
theorem dyDot_le {l : List UInt8} {n : Nat} {K : List UInt8 → Bool × (Int × Int × Int × Int) × List UInt8} (hl : l.length ≤ n) (h : ∀ r, r.length ≤ n → (K r).2.2.length ≤ n) : (dyDot l K).2.2.length ≤ n := by
  unfold dyDot
  split
  · exact h _ (Nat.le_trans (cp_len _ _) hl)
  · exact Nat.le_trans (cp_len _ _) hl
theorem dyEnd_le (a b c : Int) {l : List UInt8} {n : Nat} (hl : l.length ≤ n) : (dyEnd a b c l).2.2.length ≤ n := by
  have h1 := Nat.le_trans (cp_len l [47]) hl
  have h2 := Nat.le_trans (ckl_len (cpTp l [47])) h1
  unfold dyEnd
  repeat' split
  all_goals first | exact h2 | exact h1
theorem dyl_len (l : List UInt8) : (dyL l).length ≤ l.length := by
  unfold dyL dyP
  have h1 := cp_len l [44, 77]
  split
  · exact dyNum_le h1 fun a r hr => dyDot_le hr fun r hr => dyNum_le hr fun b r hr => dyDot_le hr fun r hr => dyNum_le hr fun c r hr => dyEnd_le a b c hr
  · exact h1
def cellsP (p : PxT) : List V := [.str p.1, .int .i64 p.2.1, .str p.2.2.1, .int .i64 p.2.2.2.1, .int .i64 p.2.2.2.2.1, .int .i64 p.2.2.2.2.2.1, .int .i64 p.2.2.2.2.2.2.1, .int .i64 p.2.2.2.2.2.2.2.1, .int .i64 p.2.2.2.2.2.2.2.2.1, .int .i64 p.2.2.2.2.2.2.2.2.2.1, .int .i64 p.2.2.2.2.2.2.2.2.2.2.1, .int .i64 p.2.2.2.2.2.2.2.2.2.2.2]
def outA (r : Bool × PxT × List UInt8) : V := sel r.1 (.out false (.agg (cellsP r.2.1)) [[.str r.2.2]]) (.out true guV [[.str r.2.2]])
theorem pAlS_ok (l : List UInt8) (hc : ile (slen l) 900 = true) : XOk aE 44 [.bxa 0 [.str l]] (.cho (alQ l) (.out false (.agg [.str (al0 l), .int .i64 (al1 l), .str (al2 l), .int .i64 (al3 l), .int .i64 (al4 l), .int .i64 (al5 l), .int .i64 (al6 l), .int .i64 (al7 l), .int .i64 (al8 l), .int .i64 (al9 l), .int .i64 (al10 l), .int .i64 (al11 l)]) [[.str (alL l)]]) (.out true (.iface 86 (.agg [])) [[.str (alL l)]])) := by
  have hl := len_p9 hc
  refine cho_ok pS19_ok 5 3 ?_
  show _ = some (outA (alP l))
  have L1 := nm_len l
  rw [pRA_top, sel_pos hc]
  unfold alP
  by_cases h1 : nmQ l = true
  rotate_left
  · rw [if_neg h1, sel_neg (by simpa using h1)]; rfl
  rw [if_pos h1, sel_pos h1, sel_pos (p_len9 (by omega))]
  generalize nmA l = n0 at *
  generalize nmL l = l1 at *
  unfold alP1
  have L2 := ckl_len l1
  have B1 := ckn_in l1
  by_cases h2 : ckQ l1 = true
  rotate_left
  · rw [if_neg h2, sel_neg (by simpa using h2)]; rfl
  rw [if_pos h2, sel_pos h2]
  by_cases h3 : ckS l1 = true
  rotate_left
  · rw [if_neg h3, sel_pos (bF _ h3)]; rfl
  rw [if_pos h3, sel_neg (bT _ h3)]
  generalize ckN l1 = off at *
  generalize ckL l1 = l2 at *
  unfold alP2
  have e0 : isub .i64 0 off = -off := by rw [isub64 (by omega)]; omega
  rw [e0]
  by_cases h4 : l2 = []
  · rw [if_pos h4, sel_pos (by rw [seq_iff]; exact h4)]; rfl
  have h4' : seq l2 [] = false := by cases q : seq l2 [] with | false => rfl | true => rw [seq_iff] at q; exact absurd q h4
  rw [if_neg h4, sel_neg h4', sel_pos (p_len9 (by omega))]
  have L3 := nm_len l2
  by_cases h5 : nmQ l2 = true
  rotate_left
  · rw [if_neg h5, sel_neg (by simpa using h5)]; rfl
  rw [if_pos h5, sel_pos h5, sel_pos (p_len9 (by omega))]
  generalize nmA l2 = e1 at *
  generalize nmL l2 = l3 at *
  unfold alP3
  have L4 := ckl_len l3
  have B2 := ckn_in l3
  by_cases h6 : ckQ l3 = true
  rotate_left
  · rw [if_neg h6, sel_neg (by simpa using h6)]; rfl
  rw [if_pos h6, sel_pos h6]
  have es : isub .i64 off (ckN l3) = off - ckN l3 := by rw [isub64 (by omega)]
  rw [es]
  generalize ckN l3 = oth at *
  generalize ckL l3 = l4 at *
  have L5 := dyl_len l4
  have L6 := dyl_len (dyL l4)
  unfold alP4
  by_cases h7 : ckS l3 = true
  · rw [if_pos h7, sel_pos h7, sel_pos (p_len9 (by omega : l4.length ≤ 900)), sel_pos (p_len9 (by omega : (dyL l4).length ≤ 900))]
    cases q1 : dyQ l4 with
    | false => rfl
    | true =>
      cases q2 : dyQ (dyL l4) with
      | false => rfl
      | true =>
        rw [if_pos rfl, if_pos rfl, sel_pos rfl, sel_pos rfl]
        by_cases h8 : dyL (dyL l4) = []
        · rw [if_pos h8, sel_neg (bT _ (by rw [seq_iff]; exact h8))]; rfl
        · rw [if_neg h8, sel_pos (bF _ (by rw [seq_iff]; exact h8))]; rfl
  · rw [if_neg h7, sel_neg (by simpa using h7), sel_pos (p_len9 (by omega : l4.length ≤ 900)), sel_pos (p_len9 (by omega : (dyL l4).length ≤ 900))]
    cases q1 : dyQ l4 with
    | false => rfl
    | true =>
      cases q2 : dyQ (dyL l4) with
      | false => rfl
      | true =>
        rw [if_pos rfl, if_pos rfl, sel_pos rfl, sel_pos rfl]
        by_cases h8 : dyL (dyL l4) = []
        · rw [if_pos h8, sel_neg (bT _ (by rw [seq_iff]; exact h8))]; rfl
        · rw [if_neg h8, sel_pos (bF _ (by rw [seq_iff]; exact h8))]; rfl
theorem pTextS_ok (n : List UInt8) (o : Int) (e : List UInt8) (v m w d c m2 w2 d2 c2 : Int) (hc : band (ile (slen n) 1000) (ile (slen e) 1000) = true) : Contract aE 20 [.agg [.str n, .int .i64 o, .str e, .int .i64 v, .int .i64 m, .int .i64 w, .int .i64 d, .int .i64 c, .int .i64 m2, .int .i64 w2, .int .i64 d2, .int .i64 c2]] (.tup [.str (ptT n o e v m w d c m2 w2 d2 c2), .int .i64 (ptE n o e v m w d c m2 w2 d2 c2)]) := pTx_ev n o e v m w d c m2 w2 d2 c2 (len_p (band_true hc).1) (len_p (band_true hc).2)
theorem pS20_ok : SOk aE pS20 := by
  unfold pS20
  refine SOk.consX (fun args r h => ?_) (SOk.cons (fun args r h => ?_) (pS19_ok))
  · unfold pAlS at h
    split at h
    · simp only [Option.some.injEq, Prod.mk.injEq] at h
      obtain ⟨hc, rfl⟩ := h
      exact pAlS_ok _ hc
    · cases h
  · unfold pTextS at h
    split at h
    · simp only [Option.some.injEq, Prod.mk.injEq] at h
      obtain ⟨hc, rfl⟩ := h
      exact pTextS_ok _ _ _ _ _ _ _ _ _ _ _ _ hc
    · cases h
theorem both_same (x : Option V) : both x x = x := by unfold both; rw [if_pos rfl]
noncomputable def rdP (q : Bool) (p : PxT) (s : List UInt8) : PxT × Int := if q = true ∧ ptE p.1 p.2.1 p.2.2.1 p.2.2.2.1 p.2.2.2.2.1 p.2.2.2.2.2.1 p.2.2.2.2.2.2.1 p.2.2.2.2.2.2.2.1 p.2.2.2.2.2.2.2.2.1 p.2.2.2.2.2.2.2.2.2.1 p.2.2.2.2.2.2.2.2.2.2.1 p.2.2.2.2.2.2.2.2.2.2.2 = 0 ∧ ptT p.1 p.2.1 p.2.2.1 p.2.2.2.1 p.2.2.2.2.1 p.2.2.2.2.2.1 p.2.2.2.2.2.2.1 p.2.2.2.2.2.2.2.1 p.2.2.2.2.2.2.2.2.1 p.2.2.2.2.2.2.2.2.2.1 p.2.2.2.2.2.2.2.2.2.2.1 p.2.2.2.2.2.2.2.2.2.2.2 = s then (p, 0) else (zPx, 4)
theorem alP4_len (n : List UInt8) (o : Int) (e : List UInt8) (v : Int) (l : List UInt8) (k : Nat) (hn : n.length ≤ k) (he : e.length ≤ k) : (alP4 n o e v l).2.1.1.length ≤ k ∧ (alP4 n o e v l).2.1.2.2.1.length ≤ k := by
  unfold alP4
  repeat' split
  all_goals first | exact ⟨hn, he⟩ | exact ⟨Nat.zero_le _, Nat.zero_le _⟩
theorem al_len (l : List UInt8) : (al0 l).length ≤ l.length ∧ (al2 l).length ≤ l.length := by
  have z : (zPx.1.length ≤ l.length ∧ zPx.2.2.1.length ≤ l.length) := ⟨Nat.zero_le _, Nat.zero_le _⟩
  show (alP l).2.1.1.length ≤ l.length ∧ (alP l).2.1.2.2.1.length ≤ l.length
  unfold alP
  have a1 := nma_len l
  have a2 := nm_len l
  split
  · unfold alP1
    split
    · split
      · unfold alP2
        have a3 := ckl_len (nmL l)
        split
        · exact ⟨a1, Nat.zero_le _⟩
        · have a4 := nma_len (ckL (nmL l))
          split
          · unfold alP3
            split
            · exact alP4_len _ _ _ _ _ _ a1 (by omega)
            · exact z
          · exact z
      · exact z
    · exact z
  · exact z
theorem pRd_ev (s : List UInt8) (hs : s.length ≤ 900) : Contract aE 18 [.str s] (.tup [.agg (cellsP (rdP (alQ s) (alP s).2.1 s).1), .int .i64 (rdP (alQ s) (alP s).2.1 s).2]) := by
  refine contract_of_body aE_ok pS20_ok 5 4 ?_
  obtain ⟨h1, h2⟩ := al_len s
  rw [pRd_top, sel_pos (p_len9 hs), sel_pos (show band (ile (slen (al0 s)) 1000) (ile (slen (al2 s)) 1000) = true from by rw [band_iff]; exact ⟨p_len (by omega), p_len (by omega)⟩)]
  simp only [both_same]
  unfold rdP
  have eT : ptT (alP s).2.1.1 (alP s).2.1.2.1 (alP s).2.1.2.2.1 (alP s).2.1.2.2.2.1 (alP s).2.1.2.2.2.2.1 (alP s).2.1.2.2.2.2.2.1 (alP s).2.1.2.2.2.2.2.2.1 (alP s).2.1.2.2.2.2.2.2.2.1 (alP s).2.1.2.2.2.2.2.2.2.2.1 (alP s).2.1.2.2.2.2.2.2.2.2.2.1 (alP s).2.1.2.2.2.2.2.2.2.2.2.2.1 (alP s).2.1.2.2.2.2.2.2.2.2.2.2.2 = ptT (al0 s) (al1 s) (al2 s) (al3 s) (al4 s) (al5 s) (al6 s) (al7 s) (al8 s) (al9 s) (al10 s) (al11 s) := rfl
  have eE : ptE (alP s).2.1.1 (alP s).2.1.2.1 (alP s).2.1.2.2.1 (alP s).2.1.2.2.2.1 (alP s).2.1.2.2.2.2.1 (alP s).2.1.2.2.2.2.2.1 (alP s).2.1.2.2.2.2.2.2.1 (alP s).2.1.2.2.2.2.2.2.2.1 (alP s).2.1.2.2.2.2.2.2.2.2.1 (alP s).2.1.2.2.2.2.2.2.2.2.2.1 (alP s).2.1.2.2.2.2.2.2.2.2.2.2.1 (alP s).2.1.2.2.2.2.2.2.2.2.2.2.2 = ptE (al0 s) (al1 s) (al2 s) (al3 s) (al4 s) (al5 s) (al6 s) (al7 s) (al8 s) (al9 s) (al10 s) (al11 s) := rfl
  rw [eT, eE]
  cases hq : alQ s with
  | false => rw [if_neg (fun h => by cases h.1)]; rfl
  | true =>
    rw [sel_pos rfl]
    by_cases he : ptE (al0 s) (al1 s) (al2 s) (al3 s) (al4 s) (al5 s) (al6 s) (al7 s) (al8 s) (al9 s) (al10 s) (al11 s) = 0
    · rw [sel_pos (ieq_t he)]
      by_cases ht : ptT (al0 s) (al1 s) (al2 s) (al3 s) (al4 s) (al5 s) (al6 s) (al7 s) (al8 s) (al9 s) (al10 s) (al11 s) = s
      · rw [sel_neg (bT _ (by rw [seq_iff]; exact ht)), if_pos ⟨rfl, he, ht⟩, he]; rfl
      · rw [sel_pos (bF _ (by rw [seq_iff]; exact ht)), if_neg (fun h => ht h.2.2)]; rfl
    · rw [sel_neg (ieq_f he), if_neg (fun h => he h.2.1)]; rfl
end Nt.Ev.YteccmgkfmeoekaaGreatDoor.Px

set_option linter.unusedVariables false
set_option linter.unusedSimpArgs false
set_option linter.unusedSectionVars false
namespace Nt.Ev.YteccmgkfmeoekaaGreatDoor.Px
set_option maxRecDepth 100000
open Go Go.RowKit Nt Nt.Num Go.Proofs.YteccmgkfmeoekaaGreatDoor Nt.Ev.YteccmgkfmeoekaaGreatDoor Nt.Civil
variable [MLen]
theorem okc {a b : List UInt8} (h : a.length + b.length ≤ 100000) : okCat a b = true := p_cat (by omega)
theorem bI {x : Int} (h : -9223372036854775808 ≤ x ∧ x ≤ 9223372036854775807) : band (ile (-9223372036854775808) x) (ile x 9223372036854775807) = true := by rw [band_iff, ile_iff, ile_iff]; exact h
theorem two_eq : ∀ k : Fin 60, (if k.val < 10 then [48] ++ text (k.val : Int) else text (k.val : Int)) = d2P (k.val : Int) := by decide +kernel
theorem rTwS_ok (n : Int) (hc : band (ile 0 n) (ile n 59) = true) : Contract aE 96 [.int .i64 n] (.str (d2P n)) := by
  rw [band_iff, ile_iff, ile_iff] at hc
  refine contract_of_body aE_ok pS10_ok 5 2 ?_
  obtain ⟨k, rfl⟩ : ∃ k : Nat, n = (k : Int) := ⟨n.toNat, by omega⟩
  have h := two_eq ⟨k, by omega⟩
  simp only at h
  have ht := tx_len (k : Int) (by omega)
  rw [rTw_top, sel_pos (bI (by omega)), ← h]
  by_cases h10 : k < 10
  · rw [sel_pos (ilt_t (by omega)), sel_pos (okc (by simp; omega)), if_pos h10]; rfl
  · rw [sel_neg (ilt_f (by omega)), sel_pos (bI (by omega)), if_neg h10]
theorem pS13_ok : SOk aE pS13 := by
  unfold pS13
  refine SOk.cons (fun args r h => ?_) (pS10_ok)
  · unfold rTwS at h
    split at h
    · simp only [Option.some.injEq, Prod.mk.injEq] at h
      obtain ⟨hc, rfl⟩ := h
      exact rTwS_ok _ hc
    · cases h
theorem rc_tree (p : List UInt8) (hp : p.length ≤ 1) (n : Int) (h0 : 0 ≤ n) (h1 : n ≤ 1000000) (K : V → Option V) : sel (band (ile (-9223372036854775808) (iquo .i64 n 3600)) (ile (iquo .i64 n 3600) 9223372036854775807))
        (sel (okCat p (text (iquo .i64 n 3600)))
          (sel (ilt 0 (irem n 3600))
            (sel (band (ile 0 (irem (iquo .i64 n 60) 60)) (ile (irem (iquo .i64 n 60) 60) 59))
              (sel (okCat [58] (d2P (irem (iquo .i64 n 60) 60)))
                (sel (okCat (scat p (text (iquo .i64 n 3600))) (scat [58] (d2P (irem (iquo .i64 n 60) 60))))
                  (sel (ilt 0 (irem n 60))
                    (sel (band (ile 0 (irem n 60)) (ile (irem n 60) 59))
                      (sel (okCat [58] (d2P (irem n 60)))
                        (sel (okCat (scat (scat p (text (iquo .i64 n 3600))) (scat [58] (d2P (irem (iquo .i64 n 60) 60)))) (scat [58] (d2P (irem n 60))))
                          (K (V.str (scat (scat (scat p (text (iquo .i64 n 3600))) (scat [58] (d2P (irem (iquo .i64 n 60) 60)))) (scat [58] (d2P (irem n 60))))))
                          (none))
                        (none))
                      (none))
                    (K (V.str (scat (scat p (text (iquo .i64 n 3600))) (scat [58] (d2P (irem (iquo .i64 n 60) 60)))))))
                  (none))
                (none))
              (none))
            (sel (ilt 0 (irem n 60))
              (sel (band (ile 0 (irem n 60)) (ile (irem n 60) 59))
                (sel (okCat [58] (d2P (irem n 60)))
                  (sel (okCat (scat p (text (iquo .i64 n 3600))) (scat [58] (d2P (irem n 60))))
                    (K (V.str (scat (scat p (text (iquo .i64 n 3600))) (scat [58] (d2P (irem n 60))))))
                    (none))
                  (none))
                (none))
              (K (V.str (scat p (text (iquo .i64 n 3600)))))))
          (none))
        (none) = K (.str (p ++ ckU n)) := by
  have ht := tx_len (n / 3600) (by omega)
  rw [iquo64 (a := n) (b := 3600) h0 (by omega) (by omega), iquo64 (a := n) (b := 60) h0 (by omega) (by omega), irem_pos (a := n) (b := 3600) h0, irem_pos (a := n) (b := 60) h0, irem_pos (a := n / 60) (b := 60) (by omega), sel_pos (bI (by omega)), sel_pos (okc (by omega))]
  unfold ckU
  by_cases ha : n % 3600 = 0
  · have hb : n % 60 = 0 := by omega
    rw [sel_neg (ilt_f (by omega)), sel_neg (ilt_f (by omega)), if_pos ha, if_pos hb]
    congr 2
    simp [sc]
  · rw [sel_pos (ilt_t (by omega)), if_neg ha, sel_pos (by rw [band_iff, ile_iff, ile_iff]; omega), sel_pos (okc (by simp [d2_len])), sel_pos (okc (by simp only [sc, List.length_append, d2_len, List.length_cons, List.length_nil]; omega))]
    by_cases hb : n % 60 = 0
    · rw [sel_neg (ilt_f (by omega)), if_pos hb]
      congr 2
      simp [sc]
    · rw [sel_pos (ilt_t (by omega)), if_neg hb, sel_pos (by rw [band_iff, ile_iff, ile_iff]; omega), sel_pos (okc (by simp [d2_len])), sel_pos (okc (by simp only [sc, List.length_append, d2_len, List.length_cons, List.length_nil]; omega))]
      congr 2
      simp [sc]
theorem rCkS_ok (n : Int) (hc : band (ile (-1000000) n) (ile n 1000000) = true) : Contract aE 51 [.int .i64 n] (.str (ckT n)) := by
  rw [band_iff, ile_iff, ile_iff] at hc
  refine contract_of_body aE_ok pS13_ok 5 2 ?_
  rw [rCk_top]
  unfold ckT
  by_cases h : n < 0
  · have e : isub .i64 0 n = -n := by rw [isub64 (by omega)]; omega
    rw [sel_pos (ilt_t h), if_pos h, e]
    exact rc_tree [45] (by decide) (-n) (by omega) (by omega) some
  · rw [sel_neg (ilt_f (by omega)), if_neg h]
    exact rc_tree [] (by decide) n (by omega) (by omega) some
theorem rWrS_ok (s : List UInt8) (hc : ile (slen s) 1000 = true) : Contract aE 50 [.str s] (.str (wrT s)) := by
  have hl := len_p hc
  refine contract_of_body aE_ok pS13_ok 5 2 ?_
  rw [rWr_top, sel_pos hc]
  unfold wrT
  cases letB s with
  | true => rfl
  | false => rw [sel_neg rfl, sel_pos (okc (by simp; omega)), sel_pos (okc (by rw [sc]; simp; omega))]; rfl
theorem pS14_ok : SOk aE pS14 := by
  unfold pS14
  refine SOk.cons (fun args r h => ?_) (SOk.cons (fun args r h => ?_) (pS13_ok))
  · unfold rCkS at h
    split at h
    · simp only [Option.some.injEq, Prod.mk.injEq] at h
      obtain ⟨hc, rfl⟩ := h
      exact rCkS_ok _ hc
    · cases h
  · unfold rWrS at h
    split at h
    · simp only [Option.some.injEq, Prod.mk.injEq] at h
      obtain ⟨hc, rfl⟩ := h
      exact rWrS_ok _ hc
    · cases h
theorem rDyS_ok (m w d c : Int) (hc : fiP m w d c = true) : Contract aE 52 [.agg [.int .i64 m, .int .i64 w, .int .i64 d, .int .i64 c]] (.str (dyT m w d c)) := by
  have hf := fi_in hc
  have t1 := tx_len m (by omega)
  have t2 := tx_len w (by omega)
  have t3 := tx_len d (by omega)
  have t4 := ckt_len c (by omega)
  refine contract_of_body aE_ok pS14_ok 5 2 ?_
  rw [rDy_top]
  simp only [sc]
  rw [sel_pos (bI (by omega)), sel_pos (okc (by simp; omega)), sel_pos (okc (by simp; omega)), sel_pos (bI (x := w) (by omega)), sel_pos (okc (by simp; omega)), sel_pos (okc (by simp; omega)), sel_pos (bI (x := d) (by omega)), sel_pos (okc (by simp; omega))]
  unfold dyT
  by_cases h7 : c = 7200
  · rw [sel_neg (by rw [ieq_t h7]; rfl), if_pos h7, List.append_nil]
  · rw [sel_pos (by rw [ieq_f h7]; rfl), sel_pos (by rw [band_iff, ile_iff, ile_iff]; omega), sel_pos (okc (by simp; omega)), sel_pos (okc (by simp; omega)), if_neg h7]
theorem pS15_ok : SOk aE pS15 := by
  unfold pS15
  refine SOk.cons (fun args r h => ?_) (pS14_ok)
  · unfold rDyS at h
    split at h
    · simp only [Option.some.injEq, Prod.mk.injEq] at h
      obtain ⟨hc, rfl⟩ := h
      exact rDyS_ok _ _ _ _ hc
    · cases h
theorem rTx_ev (n : List UInt8) (o : Int) (e : List UInt8) (v m w d c m2 w2 d2 c2 : Int) (hn : n.length ≤ 1000) (he : e.length ≤ 1000) : Contract aE 21 [.agg [.str n, .int .i64 o, .str e, .int .i64 v, .int .i64 m, .int .i64 w, .int .i64 d, .int .i64 c, .int .i64 m2, .int .i64 w2, .int .i64 d2, .int .i64 c2]] (.tup [.str (ptT n o e v m w d c m2 w2 d2 c2), .int .i64 (ptE n o e v m w d c m2 w2 d2 c2)]) := by
  refine contract_of_body aE_ok pS15_ok 5 2 ?_
  rw [rTx_top, sel_pos (by rw [band_iff]; exact ⟨p_len hn, p_len he⟩)]
  unfold ptT ptE
  cases h : riP n o e v m w d c m2 w2 d2 c2 with
  | false => rfl
  | true =>
    obtain ⟨h1, h2, h3⟩ := ri_in h
    have w1 := wr_len n
    have c1 := ckt_len (-o) (by omega)
    have eo : isub .i64 0 o = -o := by rw [isub64 (by omega)]; omega
    have fI : ∀ x : Int, -1000000 ≤ x → x ≤ 1000000 → band (ile (-1000000) x) (ile x 1000000) = true := fun x a b => by rw [band_iff, ile_iff, ile_iff]; exact ⟨a, b⟩
    rw [sel_neg (by rfl), if_pos rfl, if_pos rfl, eo, sel_pos (p_len hn), sel_pos (fI _ (by omega) (by omega)), sel_pos (okc (by omega))]
    simp only [sc]
    unfold txP
    by_cases hE : e = []
    · rw [sel_pos (by rw [seq_iff]; exact hE), if_pos hE, List.append_nil]
    · obtain ⟨k1, k2, k3, k4, k5⟩ := h3 hE
      have wl2 := wr_len e
      have y1 := dy_len m w d c k4
      have y2 := dy_len m2 w2 d2 c2 k5
      have cl2 := ckt_len (-o - v) (by omega)
      have hq : seq e [] = false := by cases q : seq e [] with | false => rfl | true => rw [seq_iff] at q; exact absurd q hE
      rw [sel_neg hq, if_neg hE, sel_pos (p_len he), isub64 (a := -o) (b := v) (by omega), sel_pos (okc (by simp only [List.length_append]; omega))]
      by_cases hv : v = 3600
      · rw [sel_neg (by rw [ieq_t hv]; rfl), if_pos hv, sel_pos k4, sel_pos (okc (by simp only [List.length_append]; omega)), sel_pos k5, sel_pos (okc (by simp only [List.length_append]; omega))]
        simp only [List.append_assoc, List.nil_append]
      · rw [sel_pos (by rw [ieq_f hv]; rfl), if_neg hv, sel_pos (fI _ (by omega) (by omega)), sel_pos (okc (by simp only [List.length_append]; omega)), sel_pos k4, sel_pos (okc (by simp only [List.length_append]; omega)), sel_pos k5, sel_pos (okc (by simp only [List.length_append]; omega))]
        simp only [List.append_assoc]
theorem ssub_fr (s : List UInt8) (k : Nat) : ssub s (k : Int) (slen s) = s.drop k := by
  rw [slen_nat, ssub_nat]
  exact List.take_of_length_le (by rw [List.length_drop]; omega)
theorem ssub_tk (s : List UInt8) (k : Nat) : ssub s 0 (k : Int) = s.take k := by
  have : ssub s ((0 : Nat) : Int) (k : Int) = (s.drop 0).take (k - 0) := ssub_nat s 0 k
  rw [List.drop_zero, Nat.sub_zero] at this
  exact this
theorem tw_take (s : List UInt8) (p : UInt8 → Bool) : s.take (s.takeWhile p).length = s.takeWhile p := by
  have h := congrArg (List.take (s.takeWhile p).length) (List.takeWhile_append_dropWhile (p := p) (l := s))
  rw [List.take_left] at h
  exact h.symm
theorem tw_drop (s : List UInt8) (p : UInt8 → Bool) : s.drop (s.takeWhile p).length = s.dropWhile p := by
  have h := congrArg (List.drop (s.takeWhile p).length) (List.takeWhile_append_dropWhile (p := p) (l := s))
  rw [List.drop_left] at h
  exact h.symm
theorem tw_le (s : List UInt8) (p : UInt8 → Bool) : (s.takeWhile p).length ≤ s.length := (List.takeWhile_sublist (l := s) p).length_le
theorem bn0 (s : List UInt8) (k : Nat) (h : k < s.length) : band (ile 0 (k : Int)) (ilt (k : Int) (slen s)) = true := by rw [band_iff, ile_iff, ilt_iff, slen_nat]; omega
theorem bnl (s : List UInt8) (k : Nat) (h : k ≤ s.length) : band (ile 0 (k : Int)) (ile (k : Int) (slen s)) = true := by rw [band_iff, ile_iff, ile_iff, slen_nat]; omega
def nmF (s : List UInt8) (m : Nat) (K : V → Option V) : Option V := if m = s.length then K (.tup [.str [], .str s]) else K (.tup [.str ((s.take m).drop 1), .str (s.drop (m + 1))])
theorem tNm_L0_loop (s : List UInt8) (F : Nat) (hs : s.length ≤ 1000) (h60 : s.getD 0 0 = 60) (hne : s ≠ []) (K : V → Option V) : ∀ (n k : Nat), k ≤ s.length → s.length - k < n →
    tNm_L0 F [] n s (k : Int) K = nmF s (k + ((s.drop k).takeWhile fun c => c != 62).length) K := by
  intro n
  induction n with
  | zero => intro k _ h; omega
  | succ n ih =>
    intro k hk hn
    rw [tNm_L0_succ]
    by_cases h : k < s.length
    · rw [sel_pos (ilt_t (by rw [slen_nat]; omega)), sel_pos (bn0 s k h), sat_at s k h, iadd64 (by omega), show (k : Int) + 1 = ((k + 1 : Nat) : Int) by omega, ih (k + 1) (by omega) (by omega), List.drop_eq_getElem_cons h, List.takeWhile_cons]
      have e62 : ieq ((s[k].toNat : Nat) : Int) 62 = (s[k] == 62) := Nm.u8_ieq s[k] 62
      rw [e62]
      cases hq : s[k] == 62 with
      | false =>
        rw [sel_pos (show bnot false = true from rfl)]
        have : (s[k] != 62) = true := by unfold bne; rw [hq]; rfl
        rw [if_pos this, List.length_cons]
        congr 1
        omega
      | true =>
        have h0 : k ≠ 0 := by
          intro e; subst e
          have : s[0] = 60 := by rw [← h60, List.getD_eq_getElem?_getD, List.getElem?_eq_getElem h]; rfl
          rw [this] at hq
          exact absurd hq (by decide)
        rw [sel_neg (show bnot true = false from rfl), sel_neg (ieq_f (by rw [slen_nat]; omega))]
        have : ¬ (s[k] != 62) = true := by unfold bne; rw [hq]; decide
        rw [if_neg this, List.length_nil, Nat.add_zero]
        unfold nmF
        rw [if_neg (by omega), sel_pos (by rw [band_iff, band_iff, band_iff, ile_iff, ile_iff, ile_iff, ile_iff, slen_nat]; omega), sel_pos (bnl s (k + 1) (by omega)), ssub_fr]
        congr 4
        have : ssub s ((1 : Nat) : Int) (k : Int) = (s.drop 1).take (k - 1) := ssub_nat s 1 k
        rw [List.drop_take]
        exact this
    · have hk : k = s.length := by omega
      rw [sel_neg (ilt_f (by rw [slen_nat]; omega)), sel_pos (ieq_t (by rw [slen_nat]; omega)), List.drop_of_length_le (by omega)]
      unfold nmF
      rw [if_pos (by simp; exact hk)]
theorem tNm_L1_loop (s : List UInt8) (F : Nat) (hs : s.length ≤ 1000) (K : V → Option V) : ∀ (n k : Nat), k ≤ s.length → s.length - k < n →
    tNm_L1 F [] n s (k : Int) K = K (.tup [.str (s.take (k + ((s.drop k).takeWhile ltrC).length)), .str (s.drop (k + ((s.drop k).takeWhile ltrC).length))]) := by
  intro n
  induction n with
  | zero => intro k _ h; omega
  | succ n ih =>
    intro k hk hn
    rw [tNm_L1_succ]
    by_cases h : k < s.length
    · rw [sel_pos (ilt_t (by rw [slen_nat]; omega)), iadd64 (by omega), show (k : Int) + 1 = ((k + 1 : Nat) : Int) by omega, ssub_one s k h, let_one, sel_pos (by rw [band_iff, band_iff, band_iff, ile_iff, ile_iff, ile_iff, ile_iff, slen_nat]; omega), sel_pos (show ile (slen [s[k]]) 1000 = true from rfl), ih (k + 1) (by omega) (by omega)]
      have ed : s.drop k = s[k] :: s.drop (k + 1) := List.drop_eq_getElem_cons h
      rw [ed, List.takeWhile_cons]
      cases hq : ltrC s[k] with
      | true =>
        rw [sel_pos rfl, if_pos rfl, List.length_cons]
        have : k + 1 + (List.takeWhile ltrC (List.drop (k + 1) s)).length = k + ((List.takeWhile ltrC (List.drop (k + 1) s)).length + 1) := by omega
        rw [this]
      | false =>
        rw [sel_neg rfl, sel_pos (bnl s k hk), sel_pos (bnl s k hk), if_neg (by decide), List.length_nil, Nat.add_zero, ssub_tk, ssub_fr]
    · rw [sel_neg (ilt_f (by rw [slen_nat]; omega)), sel_pos (bnl s k hk), sel_pos (bnl s k hk), ssub_tk, ssub_fr]
      have e : s.drop k = [] := List.drop_of_length_le (by omega)
      rw [e]
      simp [e]
theorem tNmS_ok (s : List UInt8) (hc : ile (slen s) 900 = true) : Contract aE 88 [.str s] (.tup [.str (tnA s), .str (tnB s)]) := by
  have hs := len_p9 hc
  refine contract_of_body aE_ok pS15_ok 1002 2 ?_
  have l1 : tNm_L1 1002 [] 1002 s 0 some = some (.tup [.str (s.takeWhile ltrC), .str (s.dropWhile ltrC)]) := by
    have := tNm_L1_loop s 1002 (by omega) some 1002 0 (by omega) (by omega)
    rw [List.drop_zero, Nat.zero_add, tw_take, tw_drop] at this
    exact this
  rw [tNm_top]
  unfold tnA tnB tnP
  by_cases hne : s = []
  · subst hne
    rw [sel_neg (by rfl)]
    exact l1
  · have hq : seq s [] = false := by cases q : seq s [] with | false => rfl | true => rw [seq_iff] at q; exact absurd q hne
    have hlen : 0 < s.length := List.length_pos_iff.2 hne
    have e0 : sat s 0 = (((s.getD 0 0).toNat : Nat) : Int) := rfl
    have e60 : ieq (((s.getD 0 0).toNat : Nat) : Int) 60 = (s.getD 0 0 == 60) := Nm.u8_ieq (s.getD 0 0) 60
    rw [hq, sel_pos (show bnot false = true from rfl), sel_pos (show band (ile 0 0) (ilt 0 (slen s)) = true from bn0 s 0 hlen), e0, e60]
    by_cases h60 : s.getD 0 0 = 60
    · rw [if_pos h60, sel_pos (by rw [beq_iff_eq]; exact h60)]
      have := tNm_L0_loop s 1002 (by omega) h60 hne some 1002 0 (by omega) (by omega)
      rw [List.drop_zero, Nat.zero_add] at this
      refine this.trans ?_
      unfold nmF
      have hd := congrArg List.length (List.takeWhile_append_dropWhile (p := fun c : UInt8 => c != 62) (l := s))
      rw [List.length_append] at hd
      by_cases hz : s.dropWhile (fun c => c != 62) = []
      · rw [if_pos hz, if_pos (by rw [hz] at hd; simpa using hd)]
      · rw [if_neg hz, if_neg (fun q => hz (List.length_eq_zero_iff.1 (by omega))), tw_take, ← List.drop_drop, tw_drop]
    · rw [if_neg h60, sel_neg (by rw [beq_eq_false_iff_ne]; exact h60)]
      exact l1
end Nt.Ev.YteccmgkfmeoekaaGreatDoor.Px

set_option linter.unusedVariables false
set_option linter.unusedSimpArgs false
set_option linter.unusedSectionVars false
namespace Nt.Ev.YteccmgkfmeoekaaGreatDoor.Px
set_option maxRecDepth 100000
open Go Go.RowKit Nt Nt.Num Go.Proofs.YteccmgkfmeoekaaGreatDoor Nt.Ev.YteccmgkfmeoekaaGreatDoor Nt.Civil
variable [MLen]
noncomputable def ckF (s : List UInt8) (m : Nat) (K : V → Option V) : Option V :=
  if rdWc (s.take m) = 0 then (if s.take m = [45] then K (.tup [.int .i64 0, .str s, .bool false]) else K (.tup [.int .i64 (rdI (s.take m)), .str (s.drop m), .bool true])) else K (.tup [.int .i64 0, .str s, .bool false])
theorem ckF_tree (s : List UInt8) (hs : s.length ≤ 1000) (m : Nat) (hm : m ≤ s.length) (K : V → Option V) : sel (band (ile 0 (m : Int)) (ile (m : Int) (slen s)))
        (sel (ile (slen (ssub s 0 (m : Int))) 1000)
          (sel (bnot (ieq (rdWc (ssub s 0 (m : Int))) 0))
            (K (V.tup [(V.int .i64 0), (V.str s), (V.bool false)]))
            (sel (band (ile 0 (m : Int)) (ile (m : Int) (slen s)))
              (sel (seq (ssub s 0 (m : Int)) [45])
                (K (V.tup [(V.int .i64 0), (V.str s), (V.bool false)]))
                (sel (band (ile 0 (m : Int)) (ile (m : Int) (slen s)))
                  (K (V.tup [(V.int .i64 (rdI (ssub s 0 (m : Int)))), (V.str (ssub s (m : Int) (slen s))), (V.bool true)]))
                  (none)))
              (none)))
          (none))
        (none) = ckF s m K := by
  rw [sel_pos (bnl s m hm), ssub_tk, ssub_fr, sel_pos (p_len (by rw [List.length_take]; omega))]
  unfold ckF
  by_cases h : rdWc (s.take m) = 0
  · rw [sel_neg (by rw [ieq_t h]; rfl), if_pos h, sel_pos (bnl s m hm)]
    by_cases h2 : s.take m = [45]
    · rw [if_pos h2, sel_pos (by rw [seq_iff]; exact h2)]
    · have hq : seq (s.take m) [45] = false := by cases q : seq (s.take m) [45] with | false => rfl | true => rw [seq_iff] at q; exact absurd q h2
      rw [if_neg h2, sel_neg hq, sel_pos (bnl s m hm)]
  · rw [if_neg h, sel_pos (by rw [ieq_f h]; rfl)]
theorem tCk_loop (s : List UInt8) (F : Nat) (hs : s.length ≤ 1000) (x4 : Bool) (K : V → Option V) : ∀ (n k : Nat), 0 < k → k ≤ s.length → s.length - k < n →
    tCk_L0 F [] n s x4 (k : Int) K = ckF s (k + ((s.drop k).takeWhile dcC).length) K := by
  intro n
  induction n with
  | zero => intro k _ _ h; omega
  | succ n ih =>
    intro k h0 hk hn
    rw [tCk_L0_succ]
    by_cases h : k < s.length
    · have e48 : ile 48 ((s[k].toNat : Nat) : Int) = decide (48 ≤ s[k].toNat) := Nm.u8_ile s[k] 48
      have e57 : ile ((s[k].toNat : Nat) : Int) 57 = decide (s[k].toNat ≤ 57) := Nm.u8_ile' s[k] 57
      have e58 : ieq ((s[k].toNat : Nat) : Int) 58 = (s[k] == 58) := Nm.u8_ieq s[k] 58
      have ek0 : ieq (k : Int) 0 = false := ieq_f (by omega)
      have ed : s.drop k = s[k] :: s.drop (k + 1) := List.drop_eq_getElem_cons h
      have nx : k + 1 + (List.takeWhile dcC (List.drop (k + 1) s)).length = k + ((List.takeWhile dcC (List.drop (k + 1) s)).length + 1) := by omega
      simp only [ckF_tree s hs k hk K]
      rw [sel_pos (ilt_t (by rw [slen_nat]; omega))]
      simp only [sat_at s k h, show band (ile 0 (k : Int)) (ilt (k : Int) (slen s)) = true from bn0 s k h, sel_pos rfl, e48, e57, e58, ek0, sel_neg rfl]
      rw [iadd64 (by omega), show (k : Int) + 1 = ((k + 1 : Nat) : Int) by omega, ih (k + 1) (by omega) (by omega) (by omega), nx, ed, List.takeWhile_cons]
      have en : dcC s[k] = ((decide (48 ≤ s[k].toNat) && decide (s[k].toNat ≤ 57)) || s[k] == 58) := rfl
      rw [en]
      generalize decide (48 ≤ s[k].toNat) = b1
      generalize decide (s[k].toNat ≤ 57) = b2
      generalize (s[k] == 58) = b3
      generalize ieq ((s[k].toNat : Nat) : Int) 45 = b4
      cases b1 <;> cases b2 <;> cases b3 <;> cases b4 <;> simp [sel]
    · simp only [ckF_tree s hs k hk K]
      have e : s.drop k = [] := List.drop_of_length_le (by omega)
      rw [sel_neg (ilt_f (by rw [slen_nat]; omega)), e]
      rfl
theorem tCk_start (s : List UInt8) (hs : s.length ≤ 1000) (K : V → Option V) : tCk_L0 1003 [] 1003 s false 0 K = ckF s (tcW s).length K := by
  by_cases hne : s = []
  · subst hne
    have := tCk_L0_succ 1003 1002 [] false ((0 : Nat) : Int) K
    refine this.trans ?_
    simp only [ckF_tree [] (by decide) 0 (by decide) K]
    rfl
  · have h : 0 < s.length := List.length_pos_iff.2 hne
    have e0 : s.getD 0 0 = s[0] := by rw [List.getD_eq_getElem?_getD, List.getElem?_eq_getElem h]; rfl
    have e48 : ile 48 ((s[0].toNat : Nat) : Int) = decide (48 ≤ s[0].toNat) := Nm.u8_ile s[0] 48
    have e57 : ile ((s[0].toNat : Nat) : Int) 57 = decide (s[0].toNat ≤ 57) := Nm.u8_ile' s[0] 57
    have e58 : ieq ((s[0].toNat : Nat) : Int) 58 = (s[0] == 58) := Nm.u8_ieq s[0] 58
    have e45 : ieq ((s[0].toNat : Nat) : Int) 45 = (s[0] == 45) := Nm.u8_ieq s[0] 45
    have ek0 : ieq ((0 : Nat) : Int) 0 = true := rfl
    have hst := tCk_L0_succ 1003 1002 s false ((0 : Nat) : Int) K
    refine hst.trans ?_
    simp only [ckF_tree s hs 0 (by omega) K]
    rw [sel_pos (ilt_t (by rw [slen_nat]; omega))]
    simp only [sat_at s 0 h, show band (ile 0 ((0 : Nat) : Int)) (ilt ((0 : Nat) : Int) (slen s)) = true from bn0 s 0 h, sel_pos rfl, e48, e57, e58, e45, ek0]
    have ed : s = s[0] :: s.drop 1 := by
      have := List.drop_eq_getElem_cons h
      rwa [List.drop_zero, Nat.zero_add] at this
    rw [iadd64 (by omega), show ((0 : Nat) : Int) + 1 = ((1 : Nat) : Int) by omega, tCk_loop s 1003 hs false K 1002 1 (by omega) (by omega) (by omega)]
    unfold tcW
    rw [e0]
    have en : dcC s[0] = ((decide (48 ≤ s[0].toNat) && decide (s[0].toNat ≤ 57)) || s[0] == 58) := rfl
    have etw : s.takeWhile dcC = if dcC s[0] = true then s[0] :: (s.drop 1).takeWhile dcC else [] := by
      conv => lhs; rw [ed]
      rw [List.takeWhile_cons]
    rw [etw, en]
    by_cases h45 : s[0] = 45
    · rw [h45]
      rw [if_pos (show ((45 : UInt8) = 45) from rfl), List.length_cons, Nat.add_comm 1]
      rfl
    · have : (s[0] == 45) = false := by rw [beq_eq_false_iff_ne]; exact h45
      rw [this, if_neg h45]
      generalize decide (48 ≤ s[0].toNat) = b1
      generalize decide (s[0].toNat ≤ 57) = b2
      generalize (s[0] == 58) = b3
      cases b1 <;> cases b2 <;> cases b3 <;> simp [sel, Nat.add_comm]
theorem tcW_take (s : List UInt8) : s.take (tcW s).length = tcW s ∧ s.drop (tcW s).length = tcR s := by
  unfold tcW tcR
  split
  · rename_i h
    cases s with
    | nil => cases h
    | cons c t =>
      have h : c = 45 := h
      subst h
      simp only [List.drop_succ_cons, List.drop_zero, List.length_cons, List.take_succ_cons]
      exact ⟨by rw [tw_take], tw_drop _ _⟩
  · exact ⟨tw_take _ _, tw_drop _ _⟩
theorem tCkS_ok (s : List UInt8) (hc : ile (slen s) 900 = true) : Contract aE 89 [.str s] (.tup [.int .i64 (tcN s), .str (tcL s), .bool (tcB s)]) := by
  have hs := len_p9 hc
  refine contract_of_body aE_ok pS15_ok 1003 2 ?_
  rw [tCk_top, tCk_start s (by omega)]
  obtain ⟨h1, h2⟩ := tcW_take s
  unfold ckF
  rw [h1, h2]
  unfold tcN tcL
  have hb : tcB s = (ieq (rdWc (tcW s)) 0 && bnot (seq (tcW s) [45])) := rfl
  by_cases h3 : rdWc (tcW s) = 0
  · rw [if_pos h3]
    by_cases h4 : tcW s = [45]
    · have : tcB s = false := by rw [hb, ieq_t h3, show seq (tcW s) [45] = true by rw [seq_iff]; exact h4]; rfl
      rw [if_pos h4, this]; rfl
    · have hq : seq (tcW s) [45] = false := by cases q : seq (tcW s) [45] with | false => rfl | true => rw [seq_iff] at q; exact absurd q h4
      have : tcB s = true := by rw [hb, ieq_t h3, hq]; rfl
      rw [if_neg h4, this]; rfl
  · have : tcB s = false := by rw [hb, ieq_f h3]; rfl
    rw [if_neg h3, this]; rfl
theorem tS0_ok : SOk aE tS0 := by
  unfold tS0
  refine SOk.cons (fun args r h => ?_) (SOk.cons (fun args r h => ?_) (pS15_ok))
  · unfold tNmS at h
    split at h
    · simp only [Option.some.injEq, Prod.mk.injEq] at h
      obtain ⟨hc, rfl⟩ := h
      exact tNmS_ok _ hc
    · cases h
  · unfold tCkS at h
    split at h
    · simp only [Option.some.injEq, Prod.mk.injEq] at h
      obtain ⟨hc, rfl⟩ := h
      exact tCkS_ok _ hc
    · cases h
def noV (s : List UInt8) : V := .tup [.agg [.int .i64 0, .int .i64 0, .int .i64 0, .int .i64 0], .str s, .bool false]
def outT (r : TdT) : V := .tup [.agg [.int .i64 r.1.1, .int .i64 r.1.2.1, .int .i64 r.1.2.2.1, .int .i64 r.1.2.2.2], .str r.2.1, .bool r.2.2]
noncomputable def dyG (F m0 : Nat) (s x3 : List UInt8) (x4 : Bool) (x5 : List V) (x6 : Int) (K : V → Option V) (m : Nat) : Option V :=
  if nrW (s.take m) = 0 then
    (if x6 < 2 then (if (s.drop m).getD 0 0 = 46 then tDy_L0 F [] m0 (s.drop (m + 1)) x3 x4 (x5 ++ [.int .i64 (nrI (s.take m))]) (x6 + 1) 0 0 0 0 K else K (noV (s.drop m)))
    else tDy_L0 F [] m0 (s.drop m) x3 x4 (x5 ++ [.int .i64 (nrI (s.take m))]) (x6 + 1) 0 0 0 0 K)
  else K (noV s)
theorem dyG_tree (F m0 : Nat) (s x3 : List UInt8) (hs : s.length ≤ 900) (x4 : Bool) (x5 : List V) (h5 : x5.length ≤ 5) (x6 : Int) (h6 : 0 ≤ x6 ∧ x6 ≤ 5) (m : Nat) (hm : m ≤ s.length) (K : V → Option V) :
      (sel (band (ile 0 (m : Int)) (ile (m : Int) (slen s)))
        (sel (ile (slen (ssub s 0 (m : Int))) 1000)
          (sel (bnot (ieq (nrW (ssub s 0 (m : Int))) 0))
            (K (V.tup [(V.agg [(V.int .i64 0), (V.int .i64 0), (V.int .i64 0), (V.int .i64 0)]), (V.str s), (V.bool false)]))
            (sel (okApp x5 [(V.int .i64 (nrI (ssub s 0 (m : Int))))])
              (sel (band (ile 0 (m : Int)) (ile (m : Int) (slen s)))
                (sel (ilt x6 2)
                  (sel (seq (ssub s (m : Int) (slen s)) [])
                    (K (V.tup [(V.agg [(V.int .i64 0), (V.int .i64 0), (V.int .i64 0), (V.int .i64 0)]), (V.str (ssub s (m : Int) (slen s))), (V.bool false)]))
                    (sel (band (ile 0 0) (ilt 0 (slen (ssub s (m : Int) (slen s)))))
                      (sel (bnot (ieq (sat (ssub s (m : Int) (slen s)) 0) 46))
                        (K (V.tup [(V.agg [(V.int .i64 0), (V.int .i64 0), (V.int .i64 0), (V.int .i64 0)]), (V.str (ssub s (m : Int) (slen s))), (V.bool false)]))
                        (sel (band (ile 0 1) (ile 1 (slen (ssub s (m : Int) (slen s)))))
                          (tDy_L0 F [] m0 (ssub (ssub s (m : Int) (slen s)) 1 (slen (ssub s (m : Int) (slen s)))) x3 x4 (lcat x5 [(V.int .i64 (nrI (ssub s 0 (m : Int))))]) (iadd .i64 x6 1) 0 0 0 0 K)
                          (none)))
                      (none)))
                  (tDy_L0 F [] m0 (ssub s (m : Int) (slen s)) x3 x4 (lcat x5 [(V.int .i64 (nrI (ssub s 0 (m : Int))))]) (iadd .i64 x6 1) 0 0 0 0 K))
                (none))
              (none)))
          (none))
        (none)) = dyG F m0 s x3 x4 x5 x6 K m := by
  rw [sel_pos (bnl s m hm), ssub_tk, ssub_fr, sel_pos (p_len (by rw [List.length_take]; omega))]
  unfold dyG
  by_cases h : nrW (s.take m) = 0
  · rw [sel_neg (by rw [ieq_t h]; rfl), if_pos h, sel_pos (by rw [okApp_iff]; simp; omega), sel_pos (bnl s m hm), iadd64 (by omega)]
    by_cases h2 : x6 < 2
    · rw [sel_pos (ilt_t h2), if_pos h2]
      by_cases h3 : s.drop m = []
      · rw [sel_pos (by rw [seq_iff]; exact h3), h3]; rfl
      · have hq : seq (s.drop m) [] = false := by cases q : seq (s.drop m) [] with | false => rfl | true => rw [seq_iff] at q; exact absurd q h3
        have hl : 0 < (s.drop m).length := List.length_pos_iff.2 h3
        have e0 : sat (s.drop m) 0 = ((((s.drop m).getD 0 0).toNat : Nat) : Int) := rfl
        have e46 : ieq ((((s.drop m).getD 0 0).toNat : Nat) : Int) 46 = ((s.drop m).getD 0 0 == 46) := Nm.u8_ieq ((s.drop m).getD 0 0) 46
        rw [sel_neg hq, sel_pos (show band (ile 0 0) (ilt 0 (slen (s.drop m))) = true from bn0 _ 0 hl), e0, e46]
        by_cases h4 : (s.drop m).getD 0 0 = 46
        · have h4' : ((s.drop m).getD 0 0 == 46) = true := by rw [beq_iff_eq]; exact h4
          have e1 : ssub (s.drop m) 1 (slen (s.drop m)) = s.drop (m + 1) := by
            have := ssub_fr (s.drop m) 1
            rw [List.drop_drop] at this
            exact this
          rw [h4', if_pos h4, sel_neg (show bnot true = false from rfl), sel_pos (show band (ile 0 1) (ile 1 (slen (s.drop m))) = true from bnl _ 1 hl), e1]
          rfl
        · have h4' : ((s.drop m).getD 0 0 == 46) = false := by rw [beq_eq_false_iff_ne]; exact h4
          rw [h4', if_neg h4, sel_pos (show bnot false = true from rfl)]
          rfl
    · rw [sel_neg (ilt_f (by omega)), if_neg h2]
      rfl
  · rw [if_neg h, sel_pos (by rw [ieq_f h]; rfl)]
    rfl
theorem tDy_L1_loop (F m0 : Nat) (s x3 : List UInt8) (hs : s.length ≤ 900) (x4 : Bool) (x5 : List V) (h5 : x5.length ≤ 5) (x6 : Int) (h6 : 0 ≤ x6 ∧ x6 ≤ 5) (K : V → Option V) : ∀ (n k : Nat), k ≤ 3 → k ≤ s.length → 3 - k < n →
    tDy_L1 F [m0] n s x3 x4 x5 x6 (k : Int) 0 0 0 0 K = dyG F m0 s x3 x4 x5 x6 K (k + (((s.drop k).take (3 - k)).takeWhile dgC).length) := by
  intro n
  induction n with
  | zero => intro k _ _ h; omega
  | succ n ih =>
    intro k h3 hk hn
    rw [tDy_L1_succ]
    simp only [dyG_tree F m0 s x3 hs x4 x5 h5 x6 h6 k hk K]
    by_cases h : k < s.length
    · have e48 : ile 48 ((s[k].toNat : Nat) : Int) = decide (48 ≤ s[k].toNat) := Nm.u8_ile s[k] 48
      have e57 : ile ((s[k].toNat : Nat) : Int) 57 = decide (s[k].toNat ≤ 57) := Nm.u8_ile' s[k] 57
      rw [sel_pos (ilt_t (by rw [slen_nat]; omega))]
      simp only [sat_at s k h, show band (ile 0 (k : Int)) (ilt (k : Int) (slen s)) = true from bn0 s k h, sel_pos rfl, e48, e57]
      by_cases hk3 : k < 3
      · rw [sel_pos (ilt_t (by omega)), iadd64 (by omega), show (k : Int) + 1 = ((k + 1 : Nat) : Int) by omega, ih (k + 1) (by omega) (by omega) (by omega)]
        have ed : s.drop k = s[k] :: s.drop (k + 1) := List.drop_eq_getElem_cons h
        have nx : k + 1 + (List.takeWhile dgC (List.take (3 - (k + 1)) (List.drop (k + 1) s))).length = k + ((List.takeWhile dgC (List.take (3 - (k + 1)) (List.drop (k + 1) s))).length + 1) := by omega
        rw [ed, show 3 - k = (3 - (k + 1)) + 1 by omega, List.take_succ_cons, List.takeWhile_cons, nx]
        have en : dgC s[k] = (decide (48 ≤ s[k].toNat) && decide (s[k].toNat ≤ 57)) := rfl
        rw [en]
        generalize decide (48 ≤ s[k].toNat) = b1
        generalize decide (s[k].toNat ≤ 57) = b2
        cases b1 <;> cases b2 <;> simp [sel]
      · have : k = 3 := by omega
        rw [sel_neg (ilt_f (by omega)), show 3 - k = 0 by omega, List.take_zero]
        generalize decide (48 ≤ s[k].toNat) = b1
        generalize decide (s[k].toNat ≤ 57) = b2
        cases b1 <;> cases b2 <;> rfl
    · have e : s.drop k = [] := List.drop_of_length_le (by omega)
      rw [sel_neg (ilt_f (by rw [slen_nat]; omega)), e]
      simp
theorem dA_len (s : List UInt8) : (dA s).length ≤ 3 ∧ (dA s).length ≤ s.length := by
  have h := tw_le (s.take 3) dgC
  rw [List.length_take] at h
  unfold dA
  omega
theorem dA_take (s : List UInt8) : s.take (dA s).length = dA s := by
  have h := tw_take (s.take 3) dgC
  rw [List.take_take] at h
  have e : min (List.takeWhile dgC (List.take 3 s)).length 3 = (dA s).length := Nat.min_eq_left (dA_len s).1
  rw [e] at h
  exact h
theorem dR_len (s : List UInt8) : (dR s).length ≤ s.length := by unfold dR; rw [List.length_drop]; omega
theorem tDy_round (F m0 : Nat) (hF : 5 ≤ F) (s x3 : List UInt8) (hs : s.length ≤ 900) (x4 : Bool) (x5 : List V) (h5 : x5.length ≤ 5) (x6 : Int) (h6 : 0 ≤ x6 ∧ x6 ≤ 2) (K : V → Option V) :
    tDy_L0 F [] (m0 + 1) s x3 x4 x5 x6 0 0 0 0 K = if nrW (dA s) = 0 then
    (if x6 < 2 then (if (dR s).getD 0 0 = 46 then tDy_L0 F [] m0 ((dR s).drop 1) x3 x4 (x5 ++ [.int .i64 (nrI (dA s))]) (x6 + 1) 0 0 0 0 K else K (noV (dR s)))
    else tDy_L0 F [] m0 (dR s) x3 x4 (x5 ++ [.int .i64 (nrI (dA s))]) (x6 + 1) 0 0 0 0 K)
  else K (noV s) := by
  rw [tDy_L0_succ, sel_pos (ilt_t (by omega))]
  have := tDy_L1_loop F m0 s x3 hs x4 x5 h5 x6 (by omega) K F 0 (by omega) (by omega) (by omega)
  refine this.trans ?_
  rw [List.drop_zero, Nat.zero_add]
  have e : (List.takeWhile dgC (List.take (3 - 0) s)).length = (dA s).length := rfl
  rw [e]
  unfold dyG
  rw [dA_take, ← List.drop_drop]
  rfl
theorem tDy_end (F m0 : Nat) (s x3 : List UInt8) (hs : s.length ≤ 900) (x4 : Bool) (m w d : Int) (K : V → Option V) :
    tDy_L0 F [] (m0 + 1) s x3 x4 [.int .i64 m, .int .i64 w, .int .i64 d] 3 0 0 0 0 K = K (outT (tdEnd m w d s)) := by
  rw [tDy_L0_succ, sel_neg (by rfl), sel_pos (by rfl), sel_pos (by rfl), sel_pos (by rfl)]
  unfold tdEnd
  by_cases h3 : s = []
  · subst h3
    rfl
  · have hq : seq s [] = false := by cases q : seq s [] with | false => rfl | true => rw [seq_iff] at q; exact absurd q h3
    have hl : 0 < s.length := List.length_pos_iff.2 h3
    have e0 : sat s 0 = (((s.getD 0 0).toNat : Nat) : Int) := rfl
    have e47 : ieq (((s.getD 0 0).toNat : Nat) : Int) 47 = (s.getD 0 0 == 47) := Nm.u8_ieq (s.getD 0 0) 47
    rw [hq, sel_pos (show bnot false = true from rfl), sel_pos (show band (ile 0 0) (ilt 0 (slen s)) = true from bn0 _ 0 hl), e0, e47]
    by_cases h4 : s.getD 0 0 = 47
    · have h4' : (s.getD 0 0 == 47) = true := by rw [beq_iff_eq]; exact h4
      have e1 : ssub s 1 (slen s) = s.drop 1 := ssub_fr s 1
      rw [h4', if_pos h4, sel_pos rfl, sel_pos (show band (ile 0 1) (ile 1 (slen s)) = true from bnl _ 1 hl), e1, sel_pos (p_len9 (by rw [List.length_drop]; omega))]
      cases h5 : tcB (s.drop 1) with
      | false => rfl
      | true => rfl
    · have h4' : (s.getD 0 0 == 47) = false := by rw [beq_eq_false_iff_ne]; exact h4
      rw [h4', if_neg h4]
      rfl
theorem tdNum_t {s : List UInt8} {K : Int → List UInt8 → TdT} (h : nrW (dA s) = 0) : tdNum s K = K (nrI (dA s)) (dR s) := if_pos h
theorem tdNum_f {s : List UInt8} {K : Int → List UInt8 → TdT} (h : ¬ nrW (dA s) = 0) : tdNum s K = tdNo s := if_neg h
theorem tdDot_t {s : List UInt8} {K : List UInt8 → TdT} (h : s.getD 0 0 = 46) : tdDot s K = K (s.drop 1) := if_pos h
theorem tdDot_f {s : List UInt8} {K : List UInt8 → TdT} (h : ¬ s.getD 0 0 = 46) : tdDot s K = tdNo s := if_neg h
theorem tDyS_ok (s : List UInt8) (hc : ile (slen s) 800 = true) : Contract aE 90 [.str s] (.tup [.agg [.int .i64 (tdM s), .int .i64 (tdW s), .int .i64 (tdD s), .int .i64 (tdC s)], .str (tdL s), .bool (tdB s)]) := by
  have hs : s.length ≤ 800 := by rw [ile_iff, slen_nat] at hc; omega
  refine contract_of_body aE_ok tS0_ok 7 2 ?_
  show _ = some (outT (tdP s))
  rw [tDy_top]
  unfold tdP
  by_cases h2 : s.length < 2
  · have : ¬ s.take 2 = [44, 77] := fun e => by
      have := congrArg List.length e
      rw [List.length_take] at this
      simp at this
      omega
    rw [sel_pos (ilt_t (by rw [slen_nat]; omega)), if_neg this]
    rfl
  · have e2 : ssub s 0 2 = s.take 2 := ssub_tk s 2
    have e3 : ssub s 2 (slen s) = s.drop 2 := ssub_fr s 2
    have hb : band (ile 0 2) (ile 2 (slen s)) = true := bnl s 2 (by omega)
    rw [sel_neg (ilt_f (by rw [slen_nat]; omega)), sel_pos hb, sel_pos hb, e2, e3]
    by_cases h3 : s.take 2 = [44, 77]
    rotate_left
    · rw [if_neg h3, sel_pos (bF _ (by rw [seq_iff]; exact h3))]
      rfl
    rw [if_pos h3, sel_neg (bT _ (by rw [seq_iff]; exact h3))]
    have l1 : (s.drop 2).length ≤ 900 := by rw [List.length_drop]; omega
    generalize s.drop 2 = s1 at *
    rw [tDy_round 7 6 (by decide) s1 [] l1 false [] (by decide) 0 (by decide)]
    by_cases q1 : nrW (dA s1) = 0
    rotate_left
    · rw [tdNum_f q1, if_neg q1]; rfl
    rw [tdNum_t q1, if_pos q1, if_pos (by decide)]
    have r1 := dR_len s1
    generalize nrI (dA s1) = a1 at *
    generalize dR s1 = s2 at *
    by_cases q2 : s2.getD 0 0 = 46
    rotate_left
    · rw [tdDot_f q2, if_neg q2]; rfl
    rw [tdDot_t q2, if_pos q2]
    have l3 : (s2.drop 1).length ≤ 900 := by rw [List.length_drop]; omega
    generalize s2.drop 1 = s3 at *
    rw [tDy_round 7 5 (by decide) s3 [] l3 false _ (by simp) (0 + 1) (by decide)]
    by_cases q3 : nrW (dA s3) = 0
    rotate_left
    · rw [tdNum_f q3, if_neg q3]; rfl
    rw [tdNum_t q3, if_pos q3, if_pos (by decide)]
    have r3 := dR_len s3
    generalize nrI (dA s3) = a2 at *
    generalize dR s3 = s4 at *
    by_cases q4 : s4.getD 0 0 = 46
    rotate_left
    · rw [tdDot_f q4, if_neg q4]; rfl
    rw [tdDot_t q4, if_pos q4]
    have l5 : (s4.drop 1).length ≤ 900 := by rw [List.length_drop]; omega
    generalize s4.drop 1 = s5 at *
    rw [tDy_round 7 4 (by decide) s5 [] l5 false _ (by simp) (0 + 1 + 1) (by decide)]
    by_cases q5 : nrW (dA s5) = 0
    rotate_left
    · rw [tdNum_f q5, if_neg q5]; rfl
    rw [tdNum_t q5, if_pos q5, if_neg (by decide)]
    have r5 := dR_len s5
    exact tDy_end 7 3 (dR s5) [] (by omega) false a1 a2 (nrI (dA s5)) some
theorem tn_len (s : List UInt8) : (tnA s).length ≤ s.length ∧ (tnB s).length ≤ s.length := by
  unfold tnA tnB tnP
  have h1 := tw_le s ltrC
  have h2 := (List.dropWhile_suffix (l := s) ltrC).sublist.length_le
  have h3 := tw_le s (fun c => c != 62)
  have h4 := (List.dropWhile_suffix (l := s) fun c => c != 62).sublist.length_le
  repeat' split
  · exact ⟨Nat.zero_le _, Nat.le_refl _⟩
  · constructor
    · show (List.drop 1 _).length ≤ _
      rw [List.length_drop]; omega
    · show (List.drop 1 _).length ≤ _
      rw [List.length_drop]; omega
  · exact ⟨h1, h2⟩
theorem tc_len (s : List UInt8) : (tcL s).length ≤ s.length := by
  unfold tcL tcR
  repeat' split
  · have := (List.dropWhile_suffix (l := s.drop 1) dcC).sublist.length_le
    rw [List.length_drop] at this
    omega
  · exact (List.dropWhile_suffix (l := s) dcC).sublist.length_le
  · exact Nat.le_refl _
theorem tc_in (s : List UInt8) : -604800 ≤ tcN s ∧ tcN s ≤ 604800 := by
  unfold tcN
  split
  · exact am_in _
  · decide
theorem td_le (s : List UInt8) : (tdL s).length ≤ s.length := by
  have nn : ∀ (s : List UInt8) (n : Nat) (K : Int → List UInt8 → TdT), s.length ≤ n → (∀ a r, r.length ≤ n → (K a r).2.1.length ≤ n) → (tdNum s K).2.1.length ≤ n := fun s n K h k => by
    unfold tdNum
    split
    · exact k _ _ (Nat.le_trans (dR_len s) h)
    · exact h
  have dd : ∀ (s : List UInt8) (n : Nat) (K : List UInt8 → TdT), s.length ≤ n → (∀ r, r.length ≤ n → (K r).2.1.length ≤ n) → (tdDot s K).2.1.length ≤ n := fun s n K h k => by
    unfold tdDot
    split
    · exact k _ (by rw [List.length_drop]; omega)
    · exact h
  have ee : ∀ (a b c : Int) (s : List UInt8) (n : Nat), s.length ≤ n → (tdEnd a b c s).2.1.length ≤ n := fun a b c s n h => by
    unfold tdEnd
    split
    · split
      · exact Nat.le_trans (tc_len _) (by rw [List.length_drop]; omega)
      · exact h
    · exact h
  unfold tdL tdP
  split
  · exact nn _ _ _ (by rw [List.length_drop]; omega) fun a r hr => dd _ _ _ hr fun r hr => nn _ _ _ hr fun b r hr => dd _ _ _ hr fun r hr => nn _ _ _ hr fun c r hr => ee _ _ _ _ _ hr
  · exact Nat.le_refl _
theorem tS1_ok : SOk aE tS1 := by
  unfold tS1
  refine SOk.cons (fun args r h => ?_) (tS0_ok)
  · unfold tDyS at h
    split at h
    · simp only [Option.some.injEq, Prod.mk.injEq] at h
      obtain ⟨hc, rfl⟩ := h
      exact tDyS_ok _ hc
    · cases h
end Nt.Ev.YteccmgkfmeoekaaGreatDoor.Px

set_option linter.unusedVariables false
set_option linter.unusedSimpArgs false
set_option linter.unusedSectionVars false
namespace Nt.Ev.YteccmgkfmeoekaaGreatDoor.Px
set_option maxRecDepth 100000
open Go Go.RowKit Nt Nt.Num Go.Proofs.YteccmgkfmeoekaaGreatDoor Nt.Ev.YteccmgkfmeoekaaGreatDoor Nt.Civil
variable [MLen]
def outK (r : PxT × Bool) : V := .tup [.agg (cellsP r.1), .bool r.2]
theorem tk3_tree (n : List UInt8) (o : Int) (e : List UInt8) (v : Int) (l : List UInt8) : (sel (tdB l)
                        (sel (tdB (tdL l))
                          (some (V.tup [(V.agg [(V.str n), (V.int .i64 o), (V.str e), (V.int .i64 v), (V.int .i64 (tdM l)), (V.int .i64 (tdW l)), (V.int .i64 (tdD l)), (V.int .i64 (tdC l)), (V.int .i64 (tdM (tdL l))), (V.int .i64 (tdW (tdL l))), (V.int .i64 (tdD (tdL l))), (V.int .i64 (tdC (tdL l)))]), (V.bool (seq (tdL (tdL l)) []))]))
                          (some (V.tup [(V.agg [(V.str n), (V.int .i64 o), (V.str e), (V.int .i64 v), (V.int .i64 (tdM l)), (V.int .i64 (tdW l)), (V.int .i64 (tdD l)), (V.int .i64 (tdC l)), (V.int .i64 (tdM (tdL l))), (V.int .i64 (tdW (tdL l))), (V.int .i64 (tdD (tdL l))), (V.int .i64 (tdC (tdL l)))]), (V.bool false)])))
                        (some (V.tup [(V.agg [(V.str n), (V.int .i64 o), (V.str e), (V.int .i64 v), (V.int .i64 (tdM l)), (V.int .i64 (tdW l)), (V.int .i64 (tdD l)), (V.int .i64 (tdC l)), (V.int .i64 (tdM (tdL l))), (V.int .i64 (tdW (tdL l))), (V.int .i64 (tdD (tdL l))), (V.int .i64 (tdC (tdL l)))]), (V.bool false)]))) = some (outK (tkP3 n o e v l)) := by
  unfold tkP3 outK
  cases tdB l with
  | false => rfl
  | true =>
    cases tdB (tdL l) with
    | false => rfl
    | true => rfl
theorem p_len8 {s : List UInt8} (h : s.length ≤ 800) : ile (slen s) 800 = true := by rw [ile_iff, slen_nat]; omega
theorem tTk_ev (s : List UInt8) (hs : s.length ≤ 700) : Contract aE 46 [.str s] (outK (tkP s)) := by
  refine contract_of_body aE_ok tS1_ok 5 2 ?_
  have k1 := (tn_len s).2
  rw [tTk_top, sel_pos (p_len9 (by omega)), sel_pos (p_len9 (by omega : (tnB s).length ≤ 900))]
  unfold tkP
  generalize tnA s = n0 at *
  generalize tnB s = s1 at *
  have k2 := tc_len s1
  have b1 := tc_in s1
  have e0 : isub .i64 0 (tcN s1) = -tcN s1 := by rw [isub64 (by omega)]; omega
  rw [e0]
  unfold tkP1
  by_cases h1 : tcB s1 = true
  rotate_left
  · rw [sel_pos (bF _ h1), if_neg (fun h => h1 h.1)]; rfl
  rw [sel_neg (bT _ h1)]
  by_cases h2 : tcL s1 = []
  · rw [sel_pos (by rw [seq_iff]; exact h2), if_neg (fun h => h.2 h2)]; rfl
  have hq : seq (tcL s1) [] = false := by cases q : seq (tcL s1) [] with | false => rfl | true => rw [seq_iff] at q; exact absurd q h2
  rw [sel_neg hq, if_pos ⟨h1, h2⟩, sel_pos (p_len9 (by omega))]
  generalize tcL s1 = s2 at *
  have k3 := (tn_len s2).2
  rw [sel_pos (p_len9 (by omega : (tnB s2).length ≤ 900))]
  unfold tkP2
  generalize tnA s2 = n1 at *
  generalize tnB s2 = s3 at *
  have k4 := tc_len s3
  have b2 := tc_in s3
  by_cases h3 : tcB s3 = true
  · have k5 := td_le (tcL s3)
    have e1 : isub .i64 0 (tcN s3) = -tcN s3 := by rw [isub64 (by omega)]; omega
    rw [sel_pos h3, if_pos h3, sel_pos (p_len8 (by omega)), sel_pos (p_len8 (by omega)), e1, iadd64 (by omega)]
    exact tk3_tree n0 (-tcN s1) n1 (-tcN s3 + tcN s1) (tcL s3)
  · have k5 := td_le s3
    have e2 : tcL s3 = s3 := by unfold tcL; rw [if_neg h3]
    rw [sel_neg (by simpa using h3), if_neg h3, sel_pos (p_len8 (by omega)), sel_pos (p_len8 (by omega)), e2]
    exact tk3_tree n0 (-tcN s1) n1 3600 s3
theorem tTkS_ok (s : List UInt8) (hc : ile (slen s) 700 = true) : Contract aE 46 [.str s] (.tup [.agg [.str (tk0 s), .int .i64 (tk1 s), .str (tk2 s), .int .i64 (tk3 s), .int .i64 (tk4 s), .int .i64 (tk5 s), .int .i64 (tk6 s), .int .i64 (tk7 s), .int .i64 (tk8 s), .int .i64 (tk9 s), .int .i64 (tk10 s), .int .i64 (tk11 s)], .bool (tkB s)]) := tTk_ev s (by rw [ile_iff, slen_nat] at hc; omega)
theorem pTextS_ok_noontideref49_Text (n : List UInt8) (o : Int) (e : List UInt8) (v m w d c m2 w2 d2 c2 : Int) (hc : band (ile (slen n) 1000) (ile (slen e) 1000) = true) : Contract aE 21 [.agg [.str n, .int .i64 o, .str e, .int .i64 v, .int .i64 m, .int .i64 w, .int .i64 d, .int .i64 c, .int .i64 m2, .int .i64 w2, .int .i64 d2, .int .i64 c2]] (.tup [.str (ptT n o e v m w d c m2 w2 d2 c2), .int .i64 (ptE n o e v m w d c m2 w2 d2 c2)]) := rTx_ev n o e v m w d c m2 w2 d2 c2 (len_p (band_true hc).1) (len_p (band_true hc).2)
theorem tS2_ok : SOk aE tS2 := by
  unfold tS2
  refine SOk.cons (fun args r h => ?_) (SOk.cons (fun args r h => ?_) (tS1_ok))
  · unfold tTkS at h
    split at h
    · simp only [Option.some.injEq, Prod.mk.injEq] at h
      obtain ⟨hc, rfl⟩ := h
      exact tTkS_ok _ hc
    · cases h
  · unfold pTextS at h
    split at h
    · simp only [Option.some.injEq, Prod.mk.injEq] at h
      obtain ⟨hc, rfl⟩ := h
      exact pTextS_ok_noontideref49_Text _ _ _ _ _ _ _ _ _ _ _ _ hc
    · cases h
theorem tk_len (s : List UInt8) : (tk0 s).length ≤ s.length ∧ (tk2 s).length ≤ s.length := by
  show (tkP s).1.1.length ≤ s.length ∧ (tkP s).1.2.2.1.length ≤ s.length
  unfold tkP tkP1
  obtain ⟨a1, a2⟩ := tn_len s
  split
  · have a3 := tc_len (tnB s)
    have a4 := (tn_len (tcL (tnB s))).1
    exact ⟨a1, by show (tnA (tcL (tnB s))).length ≤ s.length; omega⟩
  · exact ⟨a1, Nat.zero_le _⟩
theorem tRd_ev (s : List UInt8) (hs : s.length ≤ 700) : Contract aE 19 [.str s] (.tup [.agg (cellsP (rdP (tkB s) (tkP s).1 s).1), .int .i64 (rdP (tkB s) (tkP s).1 s).2]) := by
  refine contract_of_body aE_ok tS2_ok 5 2 ?_
  obtain ⟨h1, h2⟩ := tk_len s
  rw [tRd_top, sel_pos (show ile (slen s) 700 = true by rw [ile_iff, slen_nat]; omega), sel_pos (show band (ile (slen (tk0 s)) 1000) (ile (slen (tk2 s)) 1000) = true from by rw [band_iff]; exact ⟨p_len (by omega), p_len (by omega)⟩)]
  unfold rdP
  have eT : ptT (tkP s).1.1 (tkP s).1.2.1 (tkP s).1.2.2.1 (tkP s).1.2.2.2.1 (tkP s).1.2.2.2.2.1 (tkP s).1.2.2.2.2.2.1 (tkP s).1.2.2.2.2.2.2.1 (tkP s).1.2.2.2.2.2.2.2.1 (tkP s).1.2.2.2.2.2.2.2.2.1 (tkP s).1.2.2.2.2.2.2.2.2.2.1 (tkP s).1.2.2.2.2.2.2.2.2.2.2.1 (tkP s).1.2.2.2.2.2.2.2.2.2.2.2 = ptT (tk0 s) (tk1 s) (tk2 s) (tk3 s) (tk4 s) (tk5 s) (tk6 s) (tk7 s) (tk8 s) (tk9 s) (tk10 s) (tk11 s) := rfl
  have eE : ptE (tkP s).1.1 (tkP s).1.2.1 (tkP s).1.2.2.1 (tkP s).1.2.2.2.1 (tkP s).1.2.2.2.2.1 (tkP s).1.2.2.2.2.2.1 (tkP s).1.2.2.2.2.2.2.1 (tkP s).1.2.2.2.2.2.2.2.1 (tkP s).1.2.2.2.2.2.2.2.2.1 (tkP s).1.2.2.2.2.2.2.2.2.2.1 (tkP s).1.2.2.2.2.2.2.2.2.2.2.1 (tkP s).1.2.2.2.2.2.2.2.2.2.2.2 = ptE (tk0 s) (tk1 s) (tk2 s) (tk3 s) (tk4 s) (tk5 s) (tk6 s) (tk7 s) (tk8 s) (tk9 s) (tk10 s) (tk11 s) := rfl
  rw [eT, eE]
  cases hq : tkB s with
  | false => rw [if_neg (fun h => by cases h.1)]; rfl
  | true =>
    rw [sel_neg (show bnot true = false from rfl)]
    by_cases he : ptE (tk0 s) (tk1 s) (tk2 s) (tk3 s) (tk4 s) (tk5 s) (tk6 s) (tk7 s) (tk8 s) (tk9 s) (tk10 s) (tk11 s) = 0
    · rw [sel_neg (bT _ (ieq_t he))]
      by_cases ht : ptT (tk0 s) (tk1 s) (tk2 s) (tk3 s) (tk4 s) (tk5 s) (tk6 s) (tk7 s) (tk8 s) (tk9 s) (tk10 s) (tk11 s) = s
      · rw [sel_neg (bT _ (by rw [seq_iff]; exact ht)), if_pos ⟨rfl, he, ht⟩]; rfl
      · rw [sel_pos (bF _ (by rw [seq_iff]; exact ht)), if_neg (fun h => ht h.2.2)]; rfl
    · rw [sel_pos (bF _ (by rw [ieq_iff]; exact he)), if_neg (fun h => he h.2.1)]; rfl
end Nt.Ev.YteccmgkfmeoekaaGreatDoor.Px

set_option linter.unusedVariables false
set_option linter.unusedSimpArgs false
set_option linter.unusedSectionVars false
namespace Nt.Ev.YteccmgkfmeoekaaGreatDoor.Px
set_option maxRecDepth 100000
open Go Go.RowKit Nt Nt.Num Go.Proofs.YteccmgkfmeoekaaGreatDoor Nt.Ev.YteccmgkfmeoekaaGreatDoor Nt.Civil
variable [MLen]
theorem told1 {p : List UInt8} {b : Bool} (hp : Amount.ok p 1 3 = true) (hs : val p * 3600 < 604800) : Amount.told [p] b = (if b then -((val p * 3600 : Nat) : Int) else ((val p * 3600 : Nat) : Int), 0) := by
  have hg : Amount.goodK [p] 1 = true := by
    show (true && Amount.ok p 1 3) = true
    rw [hp]; rfl
  have hf : Amount.fitsK [p] 1 = true := by
    show (true && (true || decide (val p ≤ 59))) = true
    simp
  have hk : Amount.sumK [p] 1 = val p * 3600 := by
    show 0 + val p * 3600 = _
    omega
  unfold Amount.told
  rw [show [p].length = 1 from rfl, hg, hf, hk, decide_eq_false (by omega : ¬ 604800 ≤ _), decide_eq_false (by omega : ¬ 3 < 1)]
  rfl
theorem d2_two (k : Nat) : d2P (k : Int) = Amount.two k := by
  unfold d2P Amount.two digit
  have e1 : (48 + (k : Int) / 10).toNat = 48 + k / 10 := by omega
  have e2 : (48 + (k : Int) % 10).toNat = 48 + k % 10 := by omega
  rw [e1, e2]
theorem cku_nat (k : Nat) : ckU (k : Int) = if k % 3600 = 0 then hourL k else posL k := by
  unfold ckU
  have e1 : (k : Int) / 3600 = ((k / 3600 : Nat) : Int) := by omega
  have e2 : (k : Int) / 60 % 60 = ((k / 60 % 60 : Nat) : Int) := by omega
  have e3 : (k : Int) % 60 = ((k % 60 : Nat) : Int) := by omega
  rw [e1, e2, e3, d2_two, d2_two]
  have eh : text ((k / 3600 : Nat) : Int) = hourL k := rfl
  rw [eh]
  by_cases h : k % 3600 = 0
  · rw [if_pos (by omega), if_pos (by omega), if_pos h]; simp
  · rw [if_neg (by omega), if_neg h, posL_eq]
    unfold tailL
    by_cases h2 : k % 60 = 0
    · rw [if_pos (by omega), if_neg (by omega)]
    · rw [if_neg (by omega), if_pos (by omega)]
theorem hour_no (k : Nat) (h : k ≤ 604799) : ∀ c ∈ hourL k, c ≠ 58 := Amount.ok_no (hour_ok k h).1
theorem told_ck (k : Nat) (h : k ≤ 604799) (b : Bool) : Amount.told (Amount.pieces (ckU (k : Int))) b = (if b then -(k : Int) else (k : Int), 0) := by
  rw [cku_nat]
  by_cases h0 : k % 3600 = 0
  · rw [if_pos h0, Amount.pieces_end _ (hour_no k h), told1 (hour_ok k h).1 (by rw [(hour_ok k h).2]; omega), (hour_ok k h).2]
    have : k / 3600 * 3600 = k := by omega
    rw [this]
  · rw [if_neg h0, posL_eq, told_pos _ k h (hour_ok k h).1 (hour_ok k h).2]
theorem cku_head (k : Nat) (h : k ≤ 604799) : ∃ c t, ckU (k : Int) = c :: t ∧ isDigit c = true := by
  have ho := (hour_ok k h).1
  unfold Amount.ok at ho
  rw [Bool.and_eq_true, Bool.and_eq_true, decide_eq_true_eq] at ho
  obtain ⟨c, t, e, _⟩ := pos_head k h
  have hd := List.all_eq_true.1 ho.2 c (by rw [e]; exact .head _)
  rw [cku_nat]
  split
  · exact ⟨c, t, e, hd⟩
  · rw [posL_eq, e]
    exact ⟨c, _, rfl, hd⟩
theorem dig_ne {c : UInt8} (h : isDigit c = true) : c ≠ 45 := fun e => by rw [e] at h; exact absurd h (by decide)
theorem rd_ck (n : Int) (h : -604799 ≤ n ∧ n ≤ 604799) : Amount.read (ckT n) = (n, 0) := by
  unfold ckT
  by_cases hn : n < 0
  · obtain ⟨k, rfl⟩ : ∃ k : Nat, n = -(k : Int) := ⟨(-n).toNat, by omega⟩
    have e : -(-(k : Int)) = (k : Int) := by omega
    obtain ⟨c, t, ec, _⟩ := cku_head k (by omega)
    rw [if_pos hn, e, read_minus (by rw [ec]; simp), told_ck k (by omega)]
    rfl
  · obtain ⟨k, rfl⟩ : ∃ k : Nat, n = (k : Int) := ⟨n.toNat, by omega⟩
    obtain ⟨c, t, ec, hd⟩ := cku_head k (by omega)
    rw [if_neg hn, ec, read_digit (dig_ne hd), ← ec, told_ck k (by omega)]
    rfl
theorem ckt_ne (n : Int) (h : -604799 ≤ n ∧ n ≤ 604799) : ckT n ≠ [] ∧ ckT n ≠ [45] := by
  unfold ckT
  split
  · obtain ⟨k, hk⟩ : ∃ k : Nat, -n = (k : Int) := ⟨(-n).toNat, by omega⟩
    obtain ⟨c, t, ec, _⟩ := cku_head k (by omega)
    rw [hk, ec]
    exact ⟨by simp, by simp⟩
  · obtain ⟨k, hk⟩ : ∃ k : Nat, n = (k : Int) := ⟨n.toNat, by omega⟩
    obtain ⟨c, t, ec, hd⟩ := cku_head k (by omega)
    rw [hk, ec]
    exact ⟨by simp, fun e => dig_ne hd (by simpa using congrArg (fun l : List UInt8 => l.headD 0) e)⟩
theorem cku_dc (k : Nat) (h : k ≤ 604799) : ∀ c ∈ ckU (k : Int), dcC c = true := by
  have ho := (hour_ok k h).1
  unfold Amount.ok at ho
  rw [Bool.and_eq_true, Bool.and_eq_true, decide_eq_true_eq] at ho
  have hd : ∀ c ∈ hourL k, dcC c = true := fun c hc => by
    have : isDigit c = true := List.all_eq_true.1 ho.2 c hc
    unfold dcC; unfold isDigit at this; rw [this]; rfl
  have ht : ∀ j, j < 60 → ∀ c ∈ Amount.two j, dcC c = true := by
    have : ∀ j : Fin 60, ∀ c ∈ Amount.two j.val, dcC c = true := by decide
    exact fun j hj => this ⟨j, hj⟩
  have h58 : dcC 58 = true := by decide
  rw [cku_nat]
  split
  · exact hd
  · rw [posL_eq]
    intro c hc
    unfold tailL at hc
    simp only [List.mem_append, List.mem_cons, List.not_mem_nil, or_false] at hc
    rcases hc with (hc | hc | hc) | hc
    · exact hd c hc
    · rw [hc]; exact h58
    · exact ht _ (by omega) c hc
    · split at hc
      · simp only [List.mem_append, List.mem_cons, List.not_mem_nil, or_false] at hc
        rcases hc with hc | hc
        · rw [hc]; exact h58
        · exact ht _ (by omega) c hc
      · cases hc
def Hd (p : UInt8 → Bool) (r : List UInt8) : Prop := ∀ c t, r = c :: t → p c = false
theorem tw_stop {p : UInt8 → Bool} {a r : List UInt8} (ha : ∀ c ∈ a, p c = true) (hr : Hd p r) : (a ++ r).takeWhile p = a ∧ (a ++ r).dropWhile p = r := by
  induction a with
  | nil =>
    cases r with
    | nil => exact ⟨rfl, rfl⟩
    | cons c t =>
      have := hr c t rfl
      constructor
      · rw [List.nil_append, List.takeWhile_cons, this]; rfl
      · rw [List.nil_append, List.dropWhile_cons, this]; rfl
  | cons c a ih =>
    have h1 := ha c (.head _)
    obtain ⟨h2, h3⟩ := ih fun c hc => ha c (.tail _ hc)
    constructor
    · rw [List.cons_append, List.takeWhile_cons, h1, if_pos rfl, h2]
    · rw [List.cons_append, List.dropWhile_cons, h1, if_pos rfl, h3]
theorem u8_all {p q : UInt8 → Bool} (h : ∀ n : Fin 256, p (UInt8.ofNat n.val) = q (UInt8.ofNat n.val)) (c : UInt8) : p c = q c := by
  have := h ⟨c.toNat, c.toNat_lt⟩
  simpa using this
theorem ltrs_c (c : UInt8) : ltrs.contains c = ltrC c := u8_all (p := fun c => ltrs.contains c) (q := ltrC) (by decide +kernel) c
theorem alns_c (c : UInt8) : alns.contains c = namC c := u8_all (p := fun c => alns.contains c) (q := namC) (by decide +kernel) c
theorem clks_c (c : UInt8) : clks.contains c = (dcC c || c == 45) := u8_all (p := fun c => clks.contains c) (q := fun c => dcC c || c == 45) (by decide +kernel) c
theorem dgs_c (c : UInt8) : dgs.contains c = dgC c := u8_all (p := fun c => dgs.contains c) (q := dgC) (by decide +kernel) c
theorem cp_one (x : UInt8) (t : List UInt8) (y : UInt8) : cpBp (x :: t) [y] = (y == x) ∧ (x = y → cpTp (x :: t) [y] = t) := by
  have hb : cpBp (x :: t) [y] = (y == x) := by
    unfold cpBp Lib.hasPrefix
    show ((y == x) && true) = _
    rw [Bool.and_true]
  refine ⟨hb, fun e => ?_⟩
  unfold cpTp Lib.trimPrefix
  have : Lib.hasPrefix (x :: t) [y] = true := by
    have := hb
    unfold cpBp at this
    rw [this, e, beq_self_eq_true]
  rw [if_pos this]; rfl
theorem cp_no {l p : List UInt8} (h : cpBp l p = false) : cpTp l p = l := by
  unfold cpTp Lib.trimPrefix
  have : Lib.hasPrefix l p = false := h
  rw [this]; rfl
theorem cp_hd {y : UInt8} {r : List UInt8} (h : Hd (fun c => c == y) r) : cpBp r [y] = false ∧ cpTp r [y] = r := by
  have : cpBp r [y] = false := by
    cases r with
    | nil => rfl
    | cons c t =>
      have := h c t rfl
      rw [(cp_one c t y).1]
      rw [beq_eq_false_iff_ne] at this ⊢
      exact fun e => this e.symm
  exact ⟨this, cp_no this⟩
theorem getD_hd {y : UInt8} {r : List UInt8} (h : Hd (fun c => c == y) r) (hy : y ≠ 0) : r.getD 0 0 ≠ y := by
  cases r with
  | nil => exact fun e => hy e.symm
  | cons c t =>
    have := h c t rfl
    rw [beq_eq_false_iff_ne] at this
    exact this
theorem hd_of {p q : UInt8 → Bool} {r : List UInt8} (h : Hd p r) (hpq : ∀ c, p c = false → q c = false) : Hd q r := fun c t e => hpq c (h c t e)
theorem hd_cons {p : UInt8 → Bool} {c : UInt8} {t : List UInt8} (h : p c = false) : Hd p (c :: t) := fun c' t' e => by cases e; exact h
theorem hd_app {p : UInt8 → Bool} {a r : List UInt8} (ha : a ≠ []) (h : Hd p a) : Hd p (a ++ r) := by
  cases a with
  | nil => exact absurd rfl ha
  | cons c t => exact hd_cons (h c t rfl)
theorem nm_take (n r : List UInt8) (hm : mayB n = true) (hr : Hd ltrC r) : nmP (wrT n ++ r) = (true, n, r) ∧ tnP (wrT n ++ r) = (n, r) := by
  unfold mayB at hm
  rw [Bool.and_eq_true, Bool.and_eq_true, decide_eq_true_eq, decide_eq_true_eq] at hm
  obtain ⟨⟨h3, h6⟩, hall⟩ := hm
  have hal := List.all_eq_true.1 hall
  unfold wrT
  cases hl : letB n with
  | true =>
    rw [if_pos rfl]
    have hll : ∀ c ∈ n, ltrC c = true := List.all_eq_true.1 hl
    cases n with
    | nil => simp at h3
    | cons c t =>
      have hc := hll c (.head _)
      have hc60 : c ≠ 60 := fun e => by rw [e] at hc; exact absurd hc (by decide)
      have h60 : cpBp ((c :: t) ++ r) [60] = false := by
        rw [List.cons_append, (cp_one c _ 60).1, beq_eq_false_iff_ne]; exact fun e => hc60 e.symm
      constructor
      · unfold nmP
        rw [h60, if_neg (by decide), cp_no h60]
        unfold twP tlP
        have e : (fun b => ltrs.contains b) = ltrC := funext ltrs_c
        rw [e]
        obtain ⟨q1, q2⟩ := tw_stop hll hr
        rw [q1, q2]
      · unfold tnP
        have : ((c :: t) ++ r).getD 0 0 = c := rfl
        rw [this, if_neg hc60]
        obtain ⟨q1, q2⟩ := tw_stop hll hr
        rw [q1, q2]
  | false =>
    rw [if_neg (by decide)]
    have e0 : [60] ++ n ++ [62] ++ r = 60 :: (n ++ (62 :: r)) := by simp
    rw [e0]
    constructor
    · unfold nmP
      have h60 : cpBp (60 :: (n ++ (62 :: r))) [60] = true := by rw [(cp_one 60 _ 60).1]; rfl
      rw [h60, if_pos rfl, (cp_one 60 _ 60).2 rfl]
      unfold twP tlP
      have e : (fun b => alns.contains b) = namC := funext alns_c
      rw [e]
      obtain ⟨q1, q2⟩ := tw_stop (p := namC) (r := 62 :: r) hal (hd_cons (by decide))
      rw [q1, q2, (cp_one 62 r 62).1, (cp_one 62 r 62).2 rfl]
      rfl
    · unfold tnP
      have hn : ∀ c ∈ (60 :: n), (c != 62) = true := fun c hc => by
        rcases List.mem_cons.1 hc with rfl | hc
        · rfl
        · have := hal c hc
          rw [bne_iff_ne]
          intro e; rw [e] at this; exact absurd this (by decide)
      obtain ⟨q1, q2⟩ := tw_stop (p := fun c => c != 62) (a := 60 :: n) (r := 62 :: r) hn (hd_cons (by decide))
      have e1 : 60 :: (n ++ 62 :: r) = (60 :: n) ++ (62 :: r) := rfl
      rw [e1]
      have : ((60 :: n) ++ 62 :: r).getD 0 0 = 60 := rfl
      rw [this, if_pos rfl, q1, q2, if_neg (by simp)]
      rfl
theorem ckt_all (n : Int) (h : -604799 ≤ n ∧ n ≤ 604799) : ∀ c ∈ ckT n, (dcC c || c == 45) = true := by
  unfold ckT
  split
  · obtain ⟨k, hk⟩ : ∃ k : Nat, -n = (k : Int) := ⟨(-n).toNat, by omega⟩
    rw [hk]
    intro c hc
    rcases List.mem_append.1 hc with hc | hc
    · rw [List.mem_singleton.1 hc]; rfl
    · rw [cku_dc k (by omega) c hc]; rfl
  · obtain ⟨k, hk⟩ : ∃ k : Nat, n = (k : Int) := ⟨n.toNat, by omega⟩
    rw [hk]
    intro c hc
    rw [cku_dc k (by omega) c hc]; rfl
theorem ck_take (n : Int) (h : -604799 ≤ n ∧ n ≤ 604799) (r : List UInt8) (hr : Hd (fun c => dcC c || c == 45) r) : ckQ (ckT n ++ r) = true ∧ ckN (ckT n ++ r) = n ∧ ckS (ckT n ++ r) = true ∧ ckL (ckT n ++ r) = r ∧ tcB (ckT n ++ r) = true ∧ tcN (ckT n ++ r) = n ∧ tcL (ckT n ++ r) = r := by
  have e : (fun b => clks.contains b) = (fun c => dcC c || c == 45) := funext clks_c
  obtain ⟨q1, q2⟩ := tw_stop (ckt_all n h) hr
  have t1 : twP (ckT n ++ r) clks = ckT n := by unfold twP; rw [e]; exact q1
  have t2 : tlP (ckT n ++ r) clks = r := by unfold tlP; rw [e]; exact q2
  obtain ⟨n1, n2⟩ := ckt_ne n h
  have hq : seq (ckT n) [] = false := by cases q : seq (ckT n) [] with | false => rfl | true => rw [seq_iff] at q; exact absurd q n1
  have hq2 : seq (ckT n) [45] = false := by cases q : seq (ckT n) [45] with | false => rfl | true => rw [seq_iff] at q; exact absurd q n2
  have hw : rdWc (ckT n) = 0 := by unfold rdWc; rw [rd_ck n h]
  have hi : rdI (ckT n) = n := by unfold rdI; rw [rd_ck n h]
  have hW : tcW (ckT n ++ r) = ckT n ∧ tcR (ckT n ++ r) = r := by
    have hr2 : Hd dcC r := hd_of hr fun c hc => by rw [Bool.or_eq_false_iff] at hc; exact hc.1
    unfold tcW tcR ckT
    by_cases hn : n < 0
    · obtain ⟨k, hk⟩ : ∃ k : Nat, -n = (k : Int) := ⟨(-n).toNat, by omega⟩
      rw [if_pos hn, hk]
      have : (([45] ++ ckU (k : Int)) ++ r).getD 0 0 = 45 := rfl
      rw [this, if_pos rfl, if_pos rfl]
      have e2 : (([45] ++ ckU (k : Int)) ++ r).drop 1 = ckU (k : Int) ++ r := rfl
      obtain ⟨q3, q4⟩ := tw_stop (cku_dc k (by omega)) hr2
      rw [e2, q3, q4]
      exact ⟨rfl, rfl⟩
    · obtain ⟨k, hk⟩ : ∃ k : Nat, n = (k : Int) := ⟨n.toNat, by omega⟩
      rw [if_neg hn, hk]
      obtain ⟨c, t, ec, hd⟩ := cku_head k (by omega)
      have : (ckU (k : Int) ++ r).getD 0 0 = c := by rw [ec]; rfl
      rw [this, if_neg (dig_ne hd), if_neg (dig_ne hd)]
      exact tw_stop (cku_dc k (by omega)) hr2
  refine ⟨?_, ?_, ?_, t2, ?_, ?_, ?_⟩
  · unfold ckQ; rw [t1, hq, ieq_t hw]; rfl
  · unfold ckN; rw [t1, hq, if_neg (by decide), hi]
  · unfold ckS; rw [t1, hq]; rfl
  · unfold tcB; rw [hW.1, ieq_t hw, hq2]; rfl
  · have hb : tcB (ckT n ++ r) = true := by unfold tcB; rw [hW.1, ieq_t hw, hq2]; rfl
    unfold tcN; rw [hb, if_pos rfl, hW.1, hi]
  · have hb : tcB (ckT n ++ r) = true := by unfold tcB; rw [hW.1, ieq_t hw, hq2]; rfl
    unfold tcL; rw [hb, if_pos rfl, hW.2]
theorem ck_none (r : List UInt8) (hr : Hd (fun c => dcC c || c == 45) r) : ckQ r = true ∧ ckS r = false ∧ ckL r = r ∧ tcB r = false ∧ tcL r = r := by
  have e : (fun b => clks.contains b) = (fun c => dcC c || c == 45) := funext clks_c
  obtain ⟨q1, q2⟩ := tw_stop (a := []) (p := fun c => dcC c || c == 45) (fun c hc => by cases hc) hr
  rw [List.nil_append] at q1 q2
  have t1 : twP r clks = [] := by unfold twP; rw [e]; exact q1
  have t2 : tlP r clks = r := by unfold tlP; rw [e]; exact q2
  have hr2 : Hd dcC r := hd_of hr fun c hc => by rw [Bool.or_eq_false_iff] at hc; exact hc.1
  have hr3 : Hd (fun c => c == 45) r := hd_of hr fun c hc => by rw [Bool.or_eq_false_iff] at hc; exact hc.2
  have hW : tcW r = [] := by
    unfold tcW
    rw [if_neg (getD_hd hr3 (by decide))]
    have := (tw_stop (a := []) (p := dcC) (fun c hc => by cases hc) hr2).1
    rw [List.nil_append] at this
    exact this
  have hb : tcB r = false := by unfold tcB; rw [hW]; rfl
  refine ⟨?_, ?_, t2, hb, ?_⟩
  · unfold ckQ; rw [t1]; rfl
  · unfold ckS; rw [t1]; rfl
  · unfold tcL; rw [hb]; rfl
theorem tx_small : ∀ k : Fin 13, nrW (text (k.val : Int)) = 0 ∧ nrI (text (k.val : Int)) = (k.val : Int) ∧ (text (k.val : Int)).length ≤ 2 ∧ (text (k.val : Int)).all dgC = true := by decide +kernel
theorem tx_s {m : Int} (h : 0 ≤ m ∧ m ≤ 12) : nrW (text m) = 0 ∧ nrI (text m) = m ∧ (text m).length ≤ 2 ∧ ∀ c ∈ text m, dgC c = true := by
  obtain ⟨k, rfl⟩ : ∃ k : Nat, m = (k : Int) := ⟨m.toNat, by omega⟩
  obtain ⟨h1, h2, h3, h4⟩ := tx_small ⟨k, by omega⟩
  exact ⟨h1, h2, h3, List.all_eq_true.1 h4⟩
theorem num_take {m : Int} (h : 0 ≤ m ∧ m ≤ 12) (r : List UInt8) (hr : Hd dgC r) : twP (text m ++ r) dgs = text m ∧ tlP (text m ++ r) dgs = r ∧ numQ (text m) = true ∧ dA (text m ++ r) = text m ∧ dR (text m ++ r) = r := by
  obtain ⟨h1, h2, h3, h4⟩ := tx_s h
  have e : (fun b => dgs.contains b) = dgC := funext dgs_c
  obtain ⟨q1, q2⟩ := tw_stop h4 hr
  have hA : dA (text m ++ r) = text m := by
    unfold dA
    have : (text m ++ r).take 3 = text m ++ r.take (3 - (text m).length) := by
      rw [List.take_append, List.take_of_length_le (by omega : (text m).length ≤ 3)]
    rw [this]
    refine (tw_stop h4 ?_).1
    intro c t ec
    have hne : r ≠ [] := fun e => by rw [e] at ec; simp at ec
    obtain ⟨c', t', er⟩ : ∃ c' t', r = c' :: t' := by cases r with | nil => exact absurd rfl hne | cons a b => exact ⟨a, b, rfl⟩
    obtain ⟨j, hj⟩ : ∃ j, 3 - (text m).length = j + 1 := ⟨2 - (text m).length, by omega⟩
    rw [er, hj, List.take_succ_cons] at ec
    cases ec
    exact hr c t' er
  refine ⟨by unfold twP; rw [e]; exact q1, by unfold tlP; rw [e]; exact q2, ?_, hA, ?_⟩
  · unfold numQ; rw [h1, h2, ieq_t rfl, ilt_t (by omega)]; rfl
  · unfold dR; rw [hA, List.drop_left]
theorem hd44 {p : UInt8 → Bool} {r : List UInt8} (hr : r = [] ∨ ∃ t, r = 44 :: t) (h : p 44 = false) : Hd p r := by
  rcases hr with rfl | ⟨t, rfl⟩
  · intro c t e; cases e
  · exact hd_cons h
theorem day_take (m w d c : Int) (hf : fiP m w d c = true) (r : List UInt8) (hr : r = [] ∨ ∃ t, r = 44 :: t) : dyP (dyT m w d c ++ r) = (true, (m, w, d, c), r) ∧ tdP (dyT m w d c ++ r) = ((m, w, d, c), r, true) := by
  have hF := fi_in hf
  have hrd : Hd dgC r := hd44 hr (by decide)
  have hr47 : Hd (fun c => c == 47) r := hd44 hr (by decide)
  have hrc : Hd (fun c => dcC c || c == 45) r := hd44 hr (by decide)
  obtain ⟨T, hT⟩ : ∃ T, T = (if c = 7200 then ([] : List UInt8) else [47] ++ ckT c) ++ r := ⟨_, rfl⟩
  have hTd : Hd dgC T := by
    rw [hT]
    split
    · exact hrd
    · exact hd_cons (by decide)
  have e0 : dyT m w d c ++ r = [44, 77] ++ (text m ++ (46 :: (text w ++ (46 :: (text d ++ T))))) := by
    rw [hT]; unfold dyT
    simp only [List.append_assoc, List.cons_append, List.nil_append]
  rw [e0]
  obtain ⟨a1, a2, a3, a4, a5⟩ := num_take (m := m) (by omega) (46 :: (text w ++ (46 :: (text d ++ T)))) (hd_cons (by decide))
  obtain ⟨b1, b2, b3, b4, b5⟩ := num_take (m := w) (by omega) (46 :: (text d ++ T)) (hd_cons (by decide))
  obtain ⟨c1, c2, c3, c4, c5⟩ := num_take (m := d) (by omega) T hTd
  have ip : cpBp ([44, 77] ++ (text m ++ (46 :: (text w ++ (46 :: (text d ++ T)))))) [44, 77] = true := rfl
  have it : cpTp ([44, 77] ++ (text m ++ (46 :: (text w ++ (46 :: (text d ++ T)))))) [44, 77] = text m ++ (46 :: (text w ++ (46 :: (text d ++ T)))) := rfl
  have iw := (tx_s (m := m) (by omega))
  have jw := (tx_s (m := w) (by omega))
  have kw := (tx_s (m := d) (by omega))
  constructor
  · unfold dyP
    rw [ip, if_pos rfl, it, dyNum_t (by rw [a1]; exact a3), a1, a2, iw.2.1, dyDot_t (by rw [(cp_one 46 _ 46).1]; rfl), (cp_one 46 _ 46).2 rfl, dyNum_t (by rw [b1]; exact b3), b1, b2, jw.2.1, dyDot_t (by rw [(cp_one 46 _ 46).1]; rfl), (cp_one 46 _ 46).2 rfl, dyNum_t (by rw [c1]; exact c3), c1, c2, kw.2.1]
    unfold dyEnd
    rw [hT]
    by_cases h7 : c = 7200
    · rw [if_pos h7, List.nil_append, (cp_hd hr47).1, (cp_hd hr47).2, if_neg (by decide), h7]
    · obtain ⟨k1, k2, k3, k4, _, _, _⟩ := ck_take c (by omega) r hrc
      rw [if_neg h7]
      have e1 : [47] ++ ckT c ++ r = 47 :: (ckT c ++ r) := rfl
      rw [e1, (cp_one 47 _ 47).1, (cp_one 47 _ 47).2 rfl, k1, k2, k3, k4]
      rfl
  · unfold tdP
    have i2 : ([44, 77] ++ (text m ++ (46 :: (text w ++ (46 :: (text d ++ T)))))).take 2 = [44, 77] := rfl
    have i3 : ([44, 77] ++ (text m ++ (46 :: (text w ++ (46 :: (text d ++ T)))))).drop 2 = text m ++ (46 :: (text w ++ (46 :: (text d ++ T)))) := rfl
    rw [i2, if_pos rfl, i3, tdNum_t (by rw [a4]; exact iw.1), a4, a5, iw.2.1, tdDot_t rfl, List.drop_succ_cons, List.drop_zero, tdNum_t (by rw [b4]; exact jw.1), b4, b5, jw.2.1, tdDot_t rfl, List.drop_succ_cons, List.drop_zero, tdNum_t (by rw [c4]; exact kw.1), c4, c5, kw.2.1]
    unfold tdEnd
    rw [hT]
    by_cases h7 : c = 7200
    · rw [if_pos h7, List.nil_append, if_neg (getD_hd hr47 (by decide)), h7]
    · obtain ⟨_, _, _, _, k1, k2, k3⟩ := ck_take c (by omega) r hrc
      rw [if_neg h7]
      have e1 : [47] ++ ckT c ++ r = 47 :: (ckT c ++ r) := rfl
      have e2 : (47 :: (ckT c ++ r)).getD 0 0 = 47 := rfl
      rw [e1, e2, if_pos rfl, List.drop_succ_cons, List.drop_zero, k1, k2, k3]
      rfl
def pxR (p : PxT) : Bool := riP p.1 p.2.1 p.2.2.1 p.2.2.2.1 p.2.2.2.2.1 p.2.2.2.2.2.1 p.2.2.2.2.2.2.1 p.2.2.2.2.2.2.2.1 p.2.2.2.2.2.2.2.2.1 p.2.2.2.2.2.2.2.2.2.1 p.2.2.2.2.2.2.2.2.2.2.1 p.2.2.2.2.2.2.2.2.2.2.2
noncomputable def pxT (p : PxT) : List UInt8 := txP p.1 p.2.1 p.2.2.1 p.2.2.2.1 p.2.2.2.2.1 p.2.2.2.2.2.1 p.2.2.2.2.2.2.1 p.2.2.2.2.2.2.2.1 p.2.2.2.2.2.2.2.2.1 p.2.2.2.2.2.2.2.2.2.1 p.2.2.2.2.2.2.2.2.2.2.1 p.2.2.2.2.2.2.2.2.2.2.2
theorem ck_hdl (n : Int) (h : -604799 ≤ n ∧ n ≤ 604799) (r : List UInt8) : Hd ltrC (ckT n ++ r) := by
  have hc := ckt_all n h
  obtain ⟨n1, _⟩ := ckt_ne n h
  refine hd_app n1 fun c t e => ?_
  have := hc c (by rw [e]; exact .head _)
  have q : ∀ c : UInt8, ((!(dcC c || c == 45)) || (!ltrC c)) = true := fun c => by
    have := u8_all (p := fun c => ((!(dcC c || c == 45)) || (!ltrC c))) (q := fun _ => true) (by decide +kernel) c
    exact this
  have q := q c
  rw [this] at q
  simpa using q
theorem wr_hdc (n r : List UInt8) (hm : mayB n = true) : Hd (fun c => dcC c || c == 45) (wrT n ++ r) := by
  unfold mayB at hm
  rw [Bool.and_eq_true, Bool.and_eq_true, decide_eq_true_eq, decide_eq_true_eq] at hm
  obtain ⟨⟨h3, h6⟩, hall⟩ := hm
  unfold wrT
  cases hl : letB n with
  | false => rw [if_neg (by decide)]; exact hd_cons (by decide)
  | true =>
    rw [if_pos rfl]
    cases n with
    | nil => simp at h3
    | cons c t =>
      have hc : ltrC c = true := List.all_eq_true.1 hl c (.head _)
      have q : ∀ c : UInt8, ((!(dcC c || c == 45)) || (!ltrC c)) = true := fun c => u8_all (p := fun c => ((!(dcC c || c == 45)) || (!ltrC c))) (q := fun _ => true) (by decide +kernel) c
      have q := q c
      rw [hc] at q
      exact hd_cons (by simpa using q)
theorem dy_cons (m w d c : Int) : ∃ t, dyT m w d c = 44 :: t := ⟨[77] ++ text m ++ [46] ++ text w ++ [46] ++ text d ++ (if c = 7200 then [] else [47] ++ ckT c), by unfold dyT; rfl⟩
theorem dy_hd (m w d c : Int) (p : UInt8 → Bool) (h : p 44 = false) (r : List UInt8) : Hd p (dyT m w d c ++ r) := by
  obtain ⟨t, e⟩ := dy_cons m w d c
  rw [e]
  exact hd_cons h
theorem px_back (p : PxT) (h : pxR p = true) : alP (pxT p) = (true, p, []) ∧ tkP (pxT p) = (p, true) := by
  obtain ⟨n, o, e, v, m, w, d, c, m2, w2, d2, c2⟩ := p
  have h : riP n o e v m w d c m2 w2 d2 c2 = true := h
  show alP (txP n o e v m w d c m2 w2 d2 c2) = (true, (n, o, e, v, m, w, d, c, m2, w2, d2, c2), []) ∧ tkP (txP n o e v m w d c m2 w2 d2 c2) = ((n, o, e, v, m, w, d, c, m2, w2, d2, c2), true)
  have hz : Hd (fun c => dcC c || c == 45) [] := fun c t e => by cases e
  unfold riP at h
  split at h
  rotate_left
  · cases h
  rename_i h0
  obtain ⟨hn, ho1, ho2⟩ := h0
  unfold txP
  by_cases he : e = []
  · rw [if_pos he, decide_eq_true_eq] at h
    obtain ⟨rfl, rfl, rfl, rfl, rfl, rfl, rfl, rfl, rfl⟩ := h
    subst he
    rw [if_pos rfl, List.append_assoc, List.append_nil]
    have e1 : ckT (-o) = ckT (-o) ++ [] := by simp
    rw [e1]
    obtain ⟨a1, a2⟩ := nm_take n (ckT (-o) ++ []) hn (ck_hdl (-o) (by omega) [])
    obtain ⟨k1, k2, k3, k4, k5, k6, k7⟩ := ck_take (-o) (by omega) [] hz
    have eo : - -o = o := by omega
    constructor
    · unfold alP nmQ nmA nmL
      rw [a1]
      simp only [if_pos]
      unfold alP1
      rw [k1, k3, k2, k4, if_pos rfl, if_pos rfl]
      unfold alP2
      rw [if_pos rfl, eo]
    · unfold tkP tnA tnB
      rw [a2]
      simp only
      unfold tkP1
      rw [k7, k5, k6, if_neg (fun q => q.2 rfl), eo]
  · rw [if_neg he, decide_eq_true_eq] at h
    obtain ⟨hm, hv1, hv2, hv0, f1, f2, _⟩ := h
    rw [if_neg he]
    have F1 := fi_in f1
    have F2 := fi_in f2
    obtain ⟨S, hS⟩ : ∃ S, S = (if v = 3600 then ([] : List UInt8) else ckT (-o - v)) ++ (dyT m w d c ++ dyT m2 w2 d2 c2) := ⟨_, rfl⟩
    have hSl : Hd ltrC S := by
      rw [hS]
      split
      · exact dy_hd m w d c ltrC (by decide) _
      · exact ck_hdl (-o - v) (by omega) _
    obtain ⟨b1, b2⟩ := nm_take e S hm hSl
    have e0 : wrT n ++ ckT (-o) ++ (wrT e ++ S) = wrT n ++ (ckT (-o) ++ (wrT e ++ S)) := by simp only [List.append_assoc]
    rw [← hS, e0]
    obtain ⟨a1, a2⟩ := nm_take n (ckT (-o) ++ (wrT e ++ S)) hn (ck_hdl (-o) (by omega) _)
    obtain ⟨k1, k2, k3, k4, k5, k6, k7⟩ := ck_take (-o) (by omega) (wrT e ++ S) (wr_hdc e S hm)
    have eo : - -o = o := by omega
    have hne : wrT e ++ S ≠ [] := by
      intro q
      have := congrArg List.length q
      unfold wrT at this
      split at this
      · rw [List.length_append, List.length_nil] at this
        exact he (List.length_eq_zero_iff.1 (by omega))
      · simp at this
    have d1 := day_take m w d c f1 (dyT m2 w2 d2 c2) (.inr (dy_cons m2 w2 d2 c2))
    have d2' := day_take m2 w2 d2 c2 f2 [] (.inl rfl)
    rw [List.append_nil] at d2'
    have hdc : Hd (fun c => dcC c || c == 45) (dyT m w d c ++ dyT m2 w2 d2 c2) := dy_hd m w d c _ (by decide) _
    have sP : ckQ S = true ∧ (if ckS S = true then -o - ckN S else 3600) = v ∧ ckL S = dyT m w d c ++ dyT m2 w2 d2 c2 := by
      rw [hS]
      by_cases h3 : v = 3600
      · obtain ⟨q1, q2, q3, _, _⟩ := ck_none _ hdc
        rw [if_pos h3, List.nil_append, q1, q2, q3]
        exact ⟨rfl, by rw [if_neg (by decide)]; exact h3.symm, rfl⟩
      · obtain ⟨q1, q2, q3, q4, _, _, _⟩ := ck_take (-o - v) (by omega) _ hdc
        rw [if_neg h3, q1, q2, q3, q4]
        exact ⟨rfl, by rw [if_pos rfl]; omega, rfl⟩
    have sT : (if tcB S = true then -tcN S + -o else 3600) = v ∧ tcL S = dyT m w d c ++ dyT m2 w2 d2 c2 := by
      rw [hS]
      by_cases h3 : v = 3600
      · obtain ⟨_, _, _, q4, q5⟩ := ck_none _ hdc
        rw [if_pos h3, List.nil_append, q4, q5]
        exact ⟨by rw [if_neg (by decide)]; exact h3.symm, rfl⟩
      · obtain ⟨_, _, _, _, q5, q6, q7⟩ := ck_take (-o - v) (by omega) _ hdc
        rw [if_neg h3, q5, q6, q7]
        exact ⟨by rw [if_pos rfl]; omega, rfl⟩
    constructor
    · unfold alP nmQ nmA nmL
      rw [a1]
      simp only [if_pos]
      unfold alP1
      rw [k1, k3, k2, k4, if_pos rfl, if_pos rfl]
      unfold alP2
      rw [if_neg hne]
      unfold nmQ nmA nmL
      rw [b1]
      simp only [if_pos]
      unfold alP3
      rw [sP.1, sP.2.1, sP.2.2, if_pos rfl]
      unfold alP4 dyQ dyM dyW dyD dyC dyL
      rw [d1.1]
      simp only [if_pos]
      rw [d2'.1]
      simp only [if_pos, eo]
    · unfold tkP tnA tnB
      rw [a2]
      simp only
      unfold tkP1
      rw [k7, k5, k6, if_pos ⟨rfl, hne⟩]
      unfold tkP2 tnA tnB
      rw [b2]
      simp only
      rw [sT.1, sT.2]
      unfold tkP3 tdB tdM tdW tdD tdC tdL
      rw [d1.2]
      simp only
      rw [d2'.2]
      simp only [eo]
      rfl
theorem pt_iff (p : PxT) (s : List UInt8) : (ptE p.1 p.2.1 p.2.2.1 p.2.2.2.1 p.2.2.2.2.1 p.2.2.2.2.2.1 p.2.2.2.2.2.2.1 p.2.2.2.2.2.2.2.1 p.2.2.2.2.2.2.2.2.1 p.2.2.2.2.2.2.2.2.2.1 p.2.2.2.2.2.2.2.2.2.2.1 p.2.2.2.2.2.2.2.2.2.2.2 = 0 ∧ ptT p.1 p.2.1 p.2.2.1 p.2.2.2.1 p.2.2.2.2.1 p.2.2.2.2.2.1 p.2.2.2.2.2.2.1 p.2.2.2.2.2.2.2.1 p.2.2.2.2.2.2.2.2.1 p.2.2.2.2.2.2.2.2.2.1 p.2.2.2.2.2.2.2.2.2.2.1 p.2.2.2.2.2.2.2.2.2.2.2 = s) ↔ (pxR p = true ∧ pxT p = s) := by
  unfold ptE ptT
  constructor
  · rintro ⟨h1, h2⟩
    by_cases h : pxR p = true
    · have h' := h
      unfold pxR at h'
      rw [if_pos h'] at h2
      exact ⟨h, h2⟩
    · have h' := h
      unfold pxR at h'
      rw [if_neg h'] at h1
      cases h1
  · rintro ⟨h1, h2⟩
    have h' := h1
    unfold pxR at h'
    rw [if_pos h', if_pos h']
    exact ⟨rfl, h2⟩
theorem rd_both (s : List UInt8) : rdP (alQ s) (alP s).2.1 s = rdP (tkB s) (tkP s).1 s := by
  by_cases h : ∃ p, pxR p = true ∧ pxT p = s
  · obtain ⟨p, h1, rfl⟩ := h
    obtain ⟨b1, b2⟩ := px_back p h1
    unfold alQ tkB
    rw [b1, b2]
  · have no : ∀ (q : Bool) (p : PxT), rdP q p s = (zPx, 4) := fun q p => by
      unfold rdP
      exact if_neg fun k => h ⟨p, (pt_iff p s).1 k.2⟩
    rw [no, no]
end Nt.Ev.YteccmgkfmeoekaaGreatDoor.Px

set_option linter.unusedVariables false
set_option linter.unusedSimpArgs false
set_option linter.unusedSectionVars false
namespace Nt.Ev.YteccmgkfmeoekaaGreatDoor.Px
open Go Nt.Num Go.Proofs.YteccmgkfmeoekaaGreatDoor
variable [MLen]
open Nt.Ev.YteccmgkfmeoekaaGreatDoor
open Nt.Civil
noncomputable def rdF (s : List UInt8) : PxT × Int := rdP (alQ s) (alP s).2.1 s
noncomputable def rz0 (s : List UInt8) : List UInt8 := (rdF s).1.1
noncomputable def rz1 (s : List UInt8) : Int := (rdF s).1.2.1
noncomputable def rz2 (s : List UInt8) : List UInt8 := (rdF s).1.2.2.1
noncomputable def rz3 (s : List UInt8) : Int := (rdF s).1.2.2.2.1
noncomputable def rz4 (s : List UInt8) : Int := (rdF s).1.2.2.2.2.1
noncomputable def rz5 (s : List UInt8) : Int := (rdF s).1.2.2.2.2.2.1
noncomputable def rz6 (s : List UInt8) : Int := (rdF s).1.2.2.2.2.2.2.1
noncomputable def rz7 (s : List UInt8) : Int := (rdF s).1.2.2.2.2.2.2.2.1
noncomputable def rz8 (s : List UInt8) : Int := (rdF s).1.2.2.2.2.2.2.2.2.1
noncomputable def rz9 (s : List UInt8) : Int := (rdF s).1.2.2.2.2.2.2.2.2.2.1
noncomputable def rz10 (s : List UInt8) : Int := (rdF s).1.2.2.2.2.2.2.2.2.2.2.1
noncomputable def rz11 (s : List UInt8) : Int := (rdF s).1.2.2.2.2.2.2.2.2.2.2.2
noncomputable def rzE (s : List UInt8) : Int := (rdF s).2
noncomputable def lRdS : FSpec := fun a => match a with | [.str s] => some (ile (slen s) 700, .tup [.agg [.str (rz0 s), .int .i64 (rz1 s), .str (rz2 s), .int .i64 (rz3 s), .int .i64 (rz4 s), .int .i64 (rz5 s), .int .i64 (rz6 s), .int .i64 (rz7 s), .int .i64 (rz8 s), .int .i64 (rz9 s), .int .i64 (rz10 s), .int .i64 (rz11 s)], .int .i64 (rzE s)]) | _ => none
noncomputable def lS0 : List (Nat × FSpec) := (18, lRdS) :: (19, lRdS) :: (20, pTextS) :: (21, pTextS) :: (22, pWkS) :: (23, pWkS) :: (24, pRiS) :: (25, pRiS) :: []
noncomputable def lLvS : FSpec := fun a => match a with | [] => some (true, .bool true) | _ => none
noncomputable def lS1 : List (Nat × FSpec) := (17, lLvS) :: lS0
set_option maxRecDepth 100000 in
theorem lTl_top (F : Nat) (s : List UInt8) (n : List UInt8) (o : Int) (e : List UInt8) (v : Int) (m : Int) (w : Int) (d : Int) (c : Int) (m2 : Int) (w2 : Int) (d2 : Int) (c2 : Int) (m3 : Int) (w3 : Int) (d3 : Int) (c3 : Int) (K : V → Option V) :
 evBd aE (evFn aE lS1 F 3) F 4 [(V.str s), (V.agg [(V.str n), (V.int .i64 o), (V.str e), (V.int .i64 v), (V.int .i64 m), (V.int .i64 w), (V.int .i64 d), (V.int .i64 c), (V.int .i64 m2), (V.int .i64 w2), (V.int .i64 d2), (V.int .i64 c2)]), (V.agg [(V.int .i64 m3), (V.int .i64 w3), (V.int .i64 d3), (V.int .i64 c3)])] K =
 sel (ilt 300 (slen s))
 (K (V.bool true))
 (sel (ilt 300 (iadd .i64 (slen n) (slen e)))
 (K (V.bool true))
 (sel (ile (slen s) 700)
 (sel (ile (slen s) 700)
 (sel (band (ile (slen n) 1000) (ile (slen e) 1000))
 (sel (band (ile (slen n) 1000) (ile (slen e) 1000))
 (sel (band (seq (rz0 s) (rz0 s)) (band (ieq (rz1 s) (rz1 s)) (band (seq (rz2 s) (rz2 s)) (band (ieq (rz3 s) (rz3 s)) (band (band (ieq (rz4 s) (rz4 s)) (band (ieq (rz5 s) (rz5 s)) (band (ieq (rz6 s) (rz6 s)) (ieq (rz7 s) (rz7 s))))) (band (ieq (rz8 s) (rz8 s)) (band (ieq (rz9 s) (rz9 s)) (band (ieq (rz10 s) (rz10 s)) (ieq (rz11 s) (rz11 s))))))))))
 (sel (ieq (rzE s) (rzE s))
 (sel (seq (ptT n o e v m w d c m2 w2 d2 c2) (ptT n o e v m w d c m2 w2 d2 c2))
 (sel (ieq (ptE n o e v m w d c m2 w2 d2 c2) (ptE n o e v m w d c m2 w2 d2 c2))
 (sel (band (ieq (wkK m3 w3 d3 c3) (wkK m3 w3 d3 c3)) (band (ieq (wkW m3 w3 d3 c3) (wkW m3 w3 d3 c3)) (ieq (wkD m3 w3 d3 c3) (wkD m3 w3 d3 c3))))
 (sel (ieq (wkE m3 w3 d3 c3) (wkE m3 w3 d3 c3))
 (sel (band (ile (slen n) 1000) (ile (slen e) 1000))
 (sel (band (ile (slen n) 1000) (ile (slen e) 1000))
 (sel (beq (riP n o e v m w d c m2 w2 d2 c2) (riP n o e v m w d c m2 w2 d2 c2))
 (K (V.bool true))
 (K (V.bool false)))
 (none))
 (none))
 (K (V.bool false)))
 (K (V.bool false)))
 (K (V.bool false)))
 (K (V.bool false)))
 (K (V.bool false)))
 (K (V.bool false)))
 (none))
 (none))
 (none))
 (none))) := by kernel_rfl
end Nt.Ev.YteccmgkfmeoekaaGreatDoor.Px

set_option linter.unusedVariables false
set_option linter.unusedSimpArgs false
set_option linter.unusedSectionVars false
namespace Nt.Ev.YteccmgkfmeoekaaGreatDoor.Px
set_option maxRecDepth 100000
open Go Go.RowKit Nt Nt.Num Go.Proofs.YteccmgkfmeoekaaGreatDoor Nt.Ev.YteccmgkfmeoekaaGreatDoor Nt.Civil
variable [MLen]
theorem len_p7 {s : List UInt8} (h : ile (slen s) 700 = true) : s.length ≤ 700 := by rw [ile_iff, slen_nat] at h; omega
theorem p_len7 {s : List UInt8} (h : s.length ≤ 700) : ile (slen s) 700 = true := by rw [ile_iff, slen_nat]; omega
theorem lRdS_ok (s : List UInt8) (hc : ile (slen s) 700 = true) : Contract aE 18 [.str s] (.tup [.agg [.str (rz0 s), .int .i64 (rz1 s), .str (rz2 s), .int .i64 (rz3 s), .int .i64 (rz4 s), .int .i64 (rz5 s), .int .i64 (rz6 s), .int .i64 (rz7 s), .int .i64 (rz8 s), .int .i64 (rz9 s), .int .i64 (rz10 s), .int .i64 (rz11 s)], .int .i64 (rzE s)]) := pRd_ev s (by have := len_p7 hc; omega)
theorem lRdS_ok_noontideref49_Read (s : List UInt8) (hc : ile (slen s) 700 = true) : Contract aE 19 [.str s] (.tup [.agg [.str (rz0 s), .int .i64 (rz1 s), .str (rz2 s), .int .i64 (rz3 s), .int .i64 (rz4 s), .int .i64 (rz5 s), .int .i64 (rz6 s), .int .i64 (rz7 s), .int .i64 (rz8 s), .int .i64 (rz9 s), .int .i64 (rz10 s), .int .i64 (rz11 s)], .int .i64 (rzE s)]) := by
  have h := tRd_ev s (len_p7 hc)
  rw [← rd_both s] at h
  exact h
theorem lS0_ok : SOk aE lS0 := by
  unfold lS0
  refine SOk.cons (fun args r h => ?_) (SOk.cons (fun args r h => ?_) (SOk.cons (fun args r h => ?_) (SOk.cons (fun args r h => ?_) (SOk.cons (fun args r h => ?_) (SOk.cons (fun args r h => ?_) (SOk.cons (fun args r h => ?_) (SOk.cons (fun args r h => ?_) (SOk.nil))))))))
  · unfold lRdS at h
    split at h
    · simp only [Option.some.injEq, Prod.mk.injEq] at h
      obtain ⟨hc, rfl⟩ := h
      exact lRdS_ok _ hc
    · cases h
  · unfold lRdS at h
    split at h
    · simp only [Option.some.injEq, Prod.mk.injEq] at h
      obtain ⟨hc, rfl⟩ := h
      exact lRdS_ok_noontideref49_Read _ hc
    · cases h
  · unfold pTextS at h
    split at h
    · simp only [Option.some.injEq, Prod.mk.injEq] at h
      obtain ⟨hc, rfl⟩ := h
      exact pTextS_ok _ _ _ _ _ _ _ _ _ _ _ _ hc
    · cases h
  · unfold pTextS at h
    split at h
    · simp only [Option.some.injEq, Prod.mk.injEq] at h
      obtain ⟨hc, rfl⟩ := h
      exact pTextS_ok_noontideref49_Text _ _ _ _ _ _ _ _ _ _ _ _ hc
    · cases h
  · unfold pWkS at h
    split at h
    · simp only [Option.some.injEq, Prod.mk.injEq] at h
      obtain ⟨hc, rfl⟩ := h
      exact pWkS_ok _ _ _ _ rfl
    · cases h
  · unfold pWkS at h
    split at h
    · simp only [Option.some.injEq, Prod.mk.injEq] at h
      obtain ⟨hc, rfl⟩ := h
      exact pWkS_ok_noontideref49_Week _ _ _ _ rfl
    · cases h
  · unfold pRiS at h
    split at h
    · simp only [Option.some.injEq, Prod.mk.injEq] at h
      obtain ⟨hc, rfl⟩ := h
      exact pRiS_ok _ _ _ _ _ _ _ _ _ _ _ _ hc
    · cases h
  · unfold pRiS at h
    split at h
    · simp only [Option.some.injEq, Prod.mk.injEq] at h
      obtain ⟨hc, rfl⟩ := h
      exact pRiS_ok_noontideref49_Right _ _ _ _ _ _ _ _ _ _ _ _ hc
    · cases h
set_option maxHeartbeats 2000000 in
theorem lLvS_ok (hc : true = true) : Contract aE 17 [] (.bool true) := by
  refine contract_of_body aE_ok lS0_ok 5 3 ?_
  kernel_rfl
theorem lS1_ok : SOk aE lS1 := by
  unfold lS1
  refine SOk.cons (fun args r h => ?_) (lS0_ok)
  · unfold lLvS at h
    split at h
    · simp only [Option.some.injEq, Prod.mk.injEq] at h
      obtain ⟨hc, rfl⟩ := h
      exact lLvS_ok  rfl
    · cases h
theorem seqR (a : List UInt8) : seq a a = true := by rw [seq_iff]
theorem ieqR (a : Int) : ieq a a = true := ieq_t rfl
theorem beqR (a : Bool) : beq a a = true := by cases a <;> rfl
theorem bTT : band true true = true := rfl
theorem sTr {α : Type} (a b : α) : sel true a b = a := rfl
theorem px_T (s n : List UInt8) (o : Int) (e : List UInt8) (v m w d c m2 w2 d2 c2 m3 w3 d3 c3 : Int) (hn : n.length ≤ 1152921504606846976) (he : e.length ≤ 1152921504606846976) : Contract aE 4 [.str s, .agg [.str n, .int .i64 o, .str e, .int .i64 v, .int .i64 m, .int .i64 w, .int .i64 d, .int .i64 c, .int .i64 m2, .int .i64 w2, .int .i64 d2, .int .i64 c2], .agg [.int .i64 m3, .int .i64 w3, .int .i64 d3, .int .i64 c3]] (.bool true) := by
  refine contract_of_body aE_ok lS1_ok 5 3 ?_
  rw [lTl_top]
  by_cases h1 : (300 : Int) < slen s
  · rw [sel_pos (ilt_t h1)]
  rw [sel_neg (ilt_f (by omega)), iadd64 (by rw [slen_nat, slen_nat]; omega)]
  by_cases h2 : (300 : Int) < slen n + slen e
  · rw [sel_pos (ilt_t h2)]
  rw [slen_nat] at h1
  rw [slen_nat, slen_nat] at h2
  have c1 : ile (slen s) 700 = true := p_len7 (by omega)
  have c2' : band (ile (slen n) 1000) (ile (slen e) 1000) = true := by rw [band_iff]; exact ⟨p_len (by omega), p_len (by omega)⟩
  rw [sel_neg (ilt_f (by rw [slen_nat, slen_nat]; omega)), c1, c2']
  simp only [seqR, ieqR, beqR, bTT, sTr]
end Nt.Ev.YteccmgkfmeoekaaGreatDoor.Px
