/-
  Years: the statements YearTells and YearBack.
-/
import Derived.Test.YtnchnnbggfeknaaDoorYearLawEqs
import Derived.Test.YtnchnnbggfeknaaDoorNumBackPlain
set_option linter.unusedVariables false
set_option linter.unusedSimpArgs false
namespace Nt.Ev.YtnchnnbggfeknaaDoor
open Go Nt Nt.Num Go.Proofs.YtnchnnbggfeknaaDoor

theorem yFromS_ok (s : List UInt8) (hc : ile (slen s) 1000 = true) : Contract yE 24 [.str s] (.tup [.int .i64 (yFI s), .int .i64 (yFW s)]) := yFrom_ev s (len_of hc)
theorem yFromS_ok_noontideref17_From (s : List UInt8) (hc : ile (slen s) 1000 = true) : Contract yE 25 [.str s] (.tup [.int .i64 (yFI s), .int .i64 (yFW s)]) := rFrom_ev s (len_of hc)
theorem yToS_ok (s : List UInt8) (n : Int) (hc : ile (slen s) 1000 = true) : Contract yE 26 [.str s, .int .i64 n] (.tup [.int .i64 (yTI s n), .int .i64 (yTW s n)]) := yTo_ev s n (len_of hc)
theorem yToS_ok_noontideref17_To (s : List UInt8) (n : Int) (hc : ile (slen s) 1000 = true) : Contract yE 27 [.str s, .int .i64 n] (.tup [.int .i64 (yTI s n), .int .i64 (yTW s n)]) := rTo_ev s n (len_of hc)
theorem yfTextS_ok (n : Int) (hc : true = true) : Contract yE 28 [.int .i64 n] (.tup [.str (yfT n), .int .i64 (yfW n)]) := yFromText_ev n
theorem yfTextS_ok_noontideref17_FromText (n : Int) (hc : true = true) : Contract yE 29 [.int .i64 n] (.tup [.str (yfT n), .int .i64 (yfW n)]) := rFromText_ev n
theorem ytTextS_ok (m n : Int) (hc : true = true) : Contract yE 30 [.int .i64 m, .int .i64 n] (.tup [.str (ytT m n), .int .i64 (ytW m n)]) := yToText_ev m n
theorem ytTextS_ok_noontideref17_ToText (m n : Int) (hc : true = true) : Contract yE 31 [.int .i64 m, .int .i64 n] (.tup [.str (ytT m n), .int .i64 (ytW m n)]) := rToText_ev m n
theorem ylS_ok : SOk yE ylS := by
  unfold ylS
  refine SOk.cons (fun args r h => ?_) (SOk.cons (fun args r h => ?_) (SOk.cons (fun args r h => ?_) (SOk.cons (fun args r h => ?_) (SOk.cons (fun args r h => ?_) (SOk.cons (fun args r h => ?_) (SOk.cons (fun args r h => ?_) (SOk.cons (fun args r h => ?_) (SOk.nil))))))))
  · unfold yFromS at h
    split at h
    · simp only [Option.some.injEq, Prod.mk.injEq] at h
      obtain ⟨hc, rfl⟩ := h
      exact yFromS_ok _ hc
    · cases h
  · unfold yFromS at h
    split at h
    · simp only [Option.some.injEq, Prod.mk.injEq] at h
      obtain ⟨hc, rfl⟩ := h
      exact yFromS_ok_noontideref17_From _ hc
    · cases h
  · unfold yToS at h
    split at h
    · simp only [Option.some.injEq, Prod.mk.injEq] at h
      obtain ⟨hc, rfl⟩ := h
      exact yToS_ok _ _ hc
    · cases h
  · unfold yToS at h
    split at h
    · simp only [Option.some.injEq, Prod.mk.injEq] at h
      obtain ⟨hc, rfl⟩ := h
      exact yToS_ok_noontideref17_To _ _ hc
    · cases h
  · unfold yfTextS at h
    split at h
    · simp only [Option.some.injEq, Prod.mk.injEq] at h
      obtain ⟨hc, rfl⟩ := h
      exact yfTextS_ok _ rfl
    · cases h
  · unfold yfTextS at h
    split at h
    · simp only [Option.some.injEq, Prod.mk.injEq] at h
      obtain ⟨hc, rfl⟩ := h
      exact yfTextS_ok_noontideref17_FromText _ rfl
    · cases h
  · unfold ytTextS at h
    split at h
    · simp only [Option.some.injEq, Prod.mk.injEq] at h
      obtain ⟨hc, rfl⟩ := h
      exact ytTextS_ok _ _ rfl
    · cases h
  · unfold ytTextS at h
    split at h
    · simp only [Option.some.injEq, Prod.mk.injEq] at h
      obtain ⟨hc, rfl⟩ := h
      exact ytTextS_ok_noontideref17_ToText _ _ rfl
    · cases h


set_option maxRecDepth 100000 in
theorem ylivesS_ok (hc : true = true) : Contract yE 23 [] (.bool true) := by
  refine contract_of_body yE_ok ylS_ok 5 2 ?_
  kernel_rfl
theorem ywS_ok : SOk yE ywS := by
  unfold ywS
  refine SOk.cons (fun args r h => ?_) (ylS_ok)
  · unfold ylivesS at h
    split at h
    · simp only [Option.some.injEq, Prod.mk.injEq] at h
      obtain ⟨hc, rfl⟩ := h
      exact ylivesS_ok  rfl
    · cases h


theorem ieq_refl (a : Int) : ieq a a = true := ieq_t rfl
theorem seq_refl (a : List UInt8) : seq a a = true := by rw [seq_iff]

theorem yT_ev (s : List UInt8) (m n : Int) : Contract yE 5 [.str s, .int .i64 m, .int .i64 n] (.bool true) := by
  refine contract_of_body yE_ok ywS_ok 5 2 ?_
  rw [yT_top]
  by_cases hs : 500 < s.length
  · rw [sel_pos (ilt_t (by rw [slen_nat]; omega))]
  · have h1 : ile (slen s) 1000 = true := ile_t (by rw [slen_nat]; omega)
    have h2 : ilt 500 (slen s) = false := ilt_f (by rw [slen_nat]; omega)
    simp only [h1, h2, ieq_refl, seq_refl, sel_if, if_true, Bool.false_eq_true, if_false]

theorem text_num (n : Int) : numeral (text n) = true := by
  have h := digs_all (n.natAbs + 1) n.natAbs (by omega)
  unfold text
  by_cases h0 : n < 0
  · rw [if_pos h0]; rfl
  · rw [if_neg h0, List.nil_append]
    cases e : digs n.natAbs with
    | nil => exact absurd e h.2
    | cons c l =>
      have := List.all_eq_true.1 h.1 c (by rw [e]; exact .head _)
      unfold isDigit at this
      show numC c = true
      unfold numC
      rw [this, Bool.or_true]
theorem fits_year {n : Int} (h : -32767 ≤ n ∧ n ≤ 32767) : Fits n := by unfold Fits; omega
theorem text_year (n : Int) (h : -32767 ≤ n ∧ n ≤ 32767) : yearN (text n) = (n, 0) := by
  have hr := read_text n (fits_year h)
  have h1 : nrI (text n) = n := by unfold nrI; rw [hr]
  have h2 : nrW (text n) = 0 := by unfold nrW; rw [hr]
  unfold yearN
  rw [h1, h2, if_pos rfl, if_pos h]
theorem only_mt : mtW onlyT wsY = 0 ∧ mtI onlyT wsY = 2 := by decide +kernel
theorem max_mt : mtW maxT wsY = 0 ∧ mtI maxT wsY = 1 := by decide +kernel
theorem min_mt : mtW minT wsY = 0 ∧ mtI minT wsY = 0 := by decide +kernel
theorem yfT_len (m : Int) : (yfT m).length ≤ 25 := by
  unfold yfT yFromTextP
  split
  · rename_i h
    split
    · decide
    · have := (text_len m (fits_year h)).1
      simp only; omega
  · simp
theorem ytT_len (m n : Int) : (ytT m n).length ≤ 25 := by
  unfold ytT yToTextP
  split
  · rename_i h
    split
    · simp
    · split
      · decide
      · split
        · decide
        · have := (text_len n (fits_year h)).1
          simp only; omega
  · simp
theorem yf_back (m : Int) (h : yfW m = 0) : yFI (yfT m) = m ∧ yFW (yfT m) = 0 := by
  unfold yfW yFromTextP at h
  unfold yFI yFW yfT yFromTextP
  split at h
  · rename_i hr
    rw [if_pos hr]
    by_cases h1 : m = -32767
    · rw [if_pos h1]
      unfold yFromP
      rw [if_neg (by decide), if_pos min_mt]
      exact ⟨h1.symm, rfl⟩
    · rw [if_neg h1]
      unfold yFromP
      rw [if_pos (text_num m), text_year m hr]
      exact ⟨rfl, rfl⟩
  · cases h
theorem yt_back (m n : Int) (h : ytW m n = 0) : yTI (ytT m n) m = n ∧ yTW (ytT m n) m = 0 := by
  unfold ytW yToTextP at h
  unfold yTI yTW ytT yToTextP
  split at h
  · rename_i hr
    rw [if_pos hr]
    split at h
    · cases h
    · rename_i hlt
      rw [if_neg hlt]
      by_cases h1 : n = m
      · rw [if_pos h1]
        have e : yLastP onlyT m = (m, 0) := by
          unfold yLastP
          rw [if_neg (by decide), if_pos only_mt.1, only_mt.2]; rfl
        unfold yToP
        rw [e, if_neg (by simp)]
        exact ⟨h1.symm, rfl⟩
      · rw [if_neg h1]
        by_cases h2 : n = 32767
        · rw [if_pos h2]
          have e : yLastP maxT m = (32767, 0) := by
            unfold yLastP
            rw [if_neg (by decide), if_pos max_mt.1, max_mt.2]; rfl
          unfold yToP
          rw [e, if_neg (by simp only; omega)]
          exact ⟨h2.symm, rfl⟩
        · rw [if_neg h2]
          have e : yLastP (text n) m = (n, 0) := by
            unfold yLastP
            rw [if_pos (text_num n), text_year n hr]
          unfold yToP
          rw [e, if_neg (by simp only; omega)]
          exact ⟨rfl, rfl⟩
  · cases h
theorem yto_err (s : List UInt8) (m : Int) : (yTW s m ≠ 0 → yTI s m = 0) ∧ (yTW s m = 0 → m ≤ yTI s m) := by
  unfold yTW yTI yToP
  have hl : (yLastP s m).2 ≠ 0 → (yLastP s m).1 = 0 := by
    unfold yLastP yearN
    (repeat' split) <;> simp
  split
  · rename_i h
    exact ⟨fun _ => rfl, fun h => by cases h⟩
  · rename_i h
    exact ⟨hl, fun h2 => by omega⟩

theorem yB_ev (s : List UInt8) (m n : Int) : Contract yE 6 [.str s, .int .i64 m, .int .i64 n] (.bool true) := by
  refine contract_of_body yE_ok ywS_ok 5 2 ?_
  rw [yB_top]
  by_cases hs : 500 < s.length
  · rw [sel_pos (ilt_t (by rw [slen_nat]; omega))]
  · have h1 : ile (slen s) 1000 = true := ile_t (by rw [slen_nat]; omega)
    have h2 : ilt 500 (slen s) = false := ilt_f (by rw [slen_nat]; omega)
    have h3 : ile (slen (yfT m)) 1000 = true := ile_t (by have := yfT_len m; rw [slen_nat]; omega)
    have h4 : ile (slen (ytT m n)) 1000 = true := ile_t (by have := ytT_len m n; rw [slen_nat]; omega)
    have h5 := yf_back m
    have h6 := yt_back m n
    have h7 := yto_err s m
    simp only [h1, h2, h3, h4, sel_if, if_true, Bool.false_eq_true, if_false, ieq_iff, bnot_iff, ile_iff]
    generalize yTW s m = a at *
    generalize yTI s m = b at *
    generalize yFI (yfT m) = c at *
    generalize yFW (yfT m) = d at *
    generalize yTI (ytT m n) m = e at *
    generalize yTW (ytT m n) m = f at *
    repeat' split
    all_goals first | rfl | (exfalso; omega) | (rw [ile_t (by omega)])
end Nt.Ev.YtnchnnbggfeknaaDoor
