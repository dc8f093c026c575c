/-
  Amounts: the statement AmountTells, and lives.
-/
import Derived.Test.YtefkdjikbdgidaaDoorAmountLawEqs
set_option linter.unusedVariables false
set_option linter.unusedSimpArgs false
set_option linter.unusedSectionVars false
namespace Nt.Ev.YtefkdjikbdgidaaDoor
open Go Nt.Num Go.Proofs.YtefkdjikbdgidaaDoor
variable [MLen]

theorem fitsI_iff (m : Int) : fitsI m = true ↔ Fits m := by
  unfold fitsI Fits
  rw [band_iff, ile_iff, ile_iff]

theorem lS_ok : SOk aE lS := by
  unfold lS
  refine SOk.cons (fun args r h => ?_) (SOk.cons (fun args r h => ?_) (SOk.cons (fun args r h => ?_) (SOk.cons (fun args r h => ?_) (SOk.cons (fun args r h => ?_) SOk.nil))))
  · unfold readFS at h
    split at h
    · simp only [Option.some.injEq, Prod.mk.injEq] at h
      obtain ⟨hc, rfl⟩ := h
      rw [ile_iff, slen_nat] at hc
      exact aread_ev _ (by omega)
    · cases h
  · unfold readFS at h
    split at h
    · simp only [Option.some.injEq, Prod.mk.injEq] at h
      obtain ⟨hc, rfl⟩ := h
      rw [ile_iff, slen_nat] at hc
      exact rread_ev _ (by omega)
    · cases h
  · unfold textFS at h
    split at h
    · simp only [Option.some.injEq, Prod.mk.injEq] at h
      obtain ⟨hc, rfl⟩ := h
      have hf := (fitsI_iff _).1 hc
      exact atext_ev _ hf.1 hf.2
    · cases h
  · unfold textFS at h
    split at h
    · simp only [Option.some.injEq, Prod.mk.injEq] at h
      obtain ⟨hc, rfl⟩ := h
      have hf := (fitsI_iff _).1 hc
      exact rtext_ev _ hf.1 hf.2
    · cases h
  · unfold textS at h
    split at h
    · simp only [Option.some.injEq, Prod.mk.injEq] at h
      obtain ⟨hc, rfl⟩ := h
      exact Contract.env (E := nE) rfl (fun n v h => by cases h) (nText_ev _ ((fitsI_iff _).1 hc))
    · cases h

set_option maxRecDepth 100000 in
theorem lives_ev : Contract aE 23 [] (.bool true) := by
  refine contract_of_body aE_ok lS_ok 5 2 ?_
  kernel_rfl

theorem wS_ok : SOk aE wS := by
  unfold wS
  refine SOk.cons (fun args r h => ?_) lS_ok
  unfold livesS at h
  split at h
  · simp only [Option.some.injEq, Prod.mk.injEq] at h
    obtain ⟨hc, rfl⟩ := h
    exact lives_ev
  · cases h

theorem ieq_refl (a : Int) : ieq a a = true := ieq_t rfl
theorem seq_refl (a : List UInt8) : seq a a = true := by rw [seq_iff]

theorem amT_ev (s : List UInt8) (n : Int) (h : Fits n) : Contract aE 5 [.str s, .int .i64 n] (.bool true) := by
  refine contract_of_body aE_ok wS_ok 5 2 ?_
  rw [amT_top]
  by_cases hs : 500 < s.length
  · rw [sel_pos (ilt_t (by rw [slen_nat]; omega))]
  · have hf : band (ile (-9223372036854775808) n) (ile n 9223372036854775807) = true := (fitsI_iff n).2 h
    rw [sel_neg (ilt_f (by rw [slen_nat]; omega)), sel_pos (ile_t (by rw [slen_nat]; omega)), sel_pos (ile_t (by rw [slen_nat]; omega)), sel_pos hf, sel_pos hf, sel_pos (ieq_refl _), sel_pos (ieq_refl _), sel_pos (seq_refl _), sel_pos (ieq_refl _)]
end Nt.Ev.YtefkdjikbdgidaaDoor
