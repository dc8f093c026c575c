/-
  The reference's Mul: a product, if it fits.
-/
import Derived.Test.YtefkdjikbdgidaaDoorNumMul
set_option linter.unusedVariables false
set_option linter.unusedSimpArgs false
namespace Go.Proofs.YtefkdjikbdgidaaDoor
open Go.RowKit Nt Nt.Num

set_option maxHeartbeats 1000000 in
theorem r_mul (a b : Int) (w : World) (ha : Fits a) (hb : Fits b) :
    Calls Tryd.prog 35 #[.int .i64 a, .int .i64 b] w fun e w' => e = .returned (.tuple #[.int .i64 (told (a * b)).1, .int .i64 (told (a * b)).2]) ∧ w' = w := by
  have ha' := ha
  have hb' := hb
  obtain ⟨a1, a2⟩ := ha
  obtain ⟨b1, b2⟩ := hb
  by_cases z : a = 0
  · subst z
    go_enter Tryd.func35, Tryd.ntmps35
    go_wp2
    go_ret2
    exact ⟨by rw [show told (0 * b) = (0, 0) by rw [Int.zero_mul]; rfl]; rfl, rfl⟩
  · have za : (a == 0) = false := by simp [z]
    by_cases z2 : b = 0
    · subst z2
      go_enter Tryd.func35, Tryd.ntmps35
      go_wp2
      go_ret2
      exact ⟨by rw [show told (a * 0) = (0, 0) by rw [Int.mul_zero]; rfl]; rfl, rfl⟩
    · have zb : (b == 0) = false := by simp [z2]
      by_cases m1 : a = -1 ∧ b = -9223372036854775808
      · obtain ⟨rfl, rfl⟩ := m1
        go_enter Tryd.func35, Tryd.ntmps35
        go_wp2
        go_ret2
        exact ⟨rfl, rfl⟩
      · by_cases m2 : b = -1 ∧ a = -9223372036854775808
        · obtain ⟨rfl, rfl⟩ := m2
          go_enter Tryd.func35, Tryd.ntmps35
          go_wp2
          go_ret2
          exact ⟨rfl, rfl⟩
        · have c1 : (a == -1) = false ∨ ((a == -1) = true ∧ (b == -9223372036854775808) = false) := by simp only [beq_eq_false_iff_ne, beq_iff_eq]; omega
          have c2 : (b == -1) = false ∨ ((b == -1) = true ∧ (a == -9223372036854775808) = false) := by simp only [beq_eq_false_iff_ne, beq_iff_eq]; omega
          by_cases hf : Fits (a * b)
          · have H := Lib.hid (told_yes hf)
            have e : (a * b).tdiv b = a := Int.mul_tdiv_cancel a z2
            obtain ⟨f1, f2⟩ := hf
            clear z m1 m2
            rcases c1 with c1 | ⟨c1, c3⟩ <;> rcases c2 with c2 | ⟨c2, c4⟩
            all_goals
              go_enter Tryd.func35, Tryd.ntmps35
              go_wp2
              go_ret2
              exact ⟨by rw [H.out]; rfl, rfl⟩
          · have H := Lib.hid (told_no hf)
            have hl : ((wrap64 (a * b)).tdiv b != a) = true := by simpa using mul_lost a b ha' hb' z2 hf
            have hq := quo_wrap a b ha' hb' z2 hf m2
            clear z m1 m2 hf
            rcases c1 with c1 | ⟨c1, c3⟩ <;> rcases c2 with c2 | ⟨c2, c4⟩
            all_goals
              go_enter Tryd.func35, Tryd.ntmps35
              go_wp2
              go_ret2
              exact ⟨by rw [H.out]; rfl, rfl⟩
end Go.Proofs.YtefkdjikbdgidaaDoor
