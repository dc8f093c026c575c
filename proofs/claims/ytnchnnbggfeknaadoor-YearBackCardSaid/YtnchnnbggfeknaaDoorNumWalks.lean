/-
  num and its reference, function by function: sums, products, what is left, quotients.
-/
import Derived.Test.YtnchnnbggfeknaaDoorProg
import Derived.Test.YtnchnnbggfeknaaDoorNumPlain
set_option linter.unusedVariables false
set_option linter.unusedSimpArgs false
namespace Go.Proofs.YtnchnnbggfeknaaDoor
open Go.RowKit Nt Nt.Num

set_option maxHeartbeats 400000 in
theorem n_add (a b : Int) (w : World) (ha : Fits a) (hb : Fits b) :
    Calls Tryd.prog 155 #[.int .i64 a, .int .i64 b] w fun e w' => e = .returned (.tuple #[.int .i64 (told (a + b)).1, .int .i64 (told (a + b)).2]) ∧ w' = w := by
  obtain ⟨a1, a2⟩ := ha
  obtain ⟨b1, b2⟩ := hb
  by_cases hf : Fits (a + b)
  · have H := Lib.hid (told_yes hf)
    obtain ⟨f1, f2⟩ := hf
    by_cases sa : a < 0 <;> by_cases sb : b < 0
    · have d : decide (a + b < 0) = true := decide_eq_true (by omega)
      go_enter Tryd.func155, Tryd.ntmps155
      go_wp2
      go_ret2
      exact ⟨by rw [H.out]; rfl, rfl⟩
    · have d : decide (b < 0) = false := decide_eq_false sb
      go_enter Tryd.func155, Tryd.ntmps155
      go_wp2
      go_ret2
      exact ⟨by rw [H.out]; rfl, rfl⟩
    · have d : decide (a < 0) = false := decide_eq_false sa
      go_enter Tryd.func155, Tryd.ntmps155
      go_wp2
      go_ret2
      exact ⟨by rw [H.out]; rfl, rfl⟩
    · have d1 : decide (a < 0) = false := decide_eq_false sa
      have d2 : decide (b < 0) = false := decide_eq_false sb
      have d : decide (a + b < 0) = false := decide_eq_false (by omega)
      go_enter Tryd.func155, Tryd.ntmps155
      go_wp2
      go_ret2
      exact ⟨by rw [H.out]; rfl, rfl⟩
  · have H := Lib.hid (told_no hf)
    by_cases sa : a < 0
    · have hw : 0 ≤ wrap64 (a + b) := wrap_under (by unfold Fits at hf; omega) (by omega)
      have d : decide (wrap64 (a + b) < 0) = false := decide_eq_false (by omega)
      have sb : b < 0 := by unfold Fits at hf; omega
      clear hf
      go_enter Tryd.func155, Tryd.ntmps155
      go_wp2
      go_ret2
      exact ⟨by rw [H.out]; rfl, rfl⟩
    · have hw : wrap64 (a + b) < 0 := wrap_over (by unfold Fits at hf; omega) (by omega)
      have d : decide (wrap64 (a + b) < 0) = true := decide_eq_true hw
      have sb : 0 ≤ b := by unfold Fits at hf; omega
      have d1 : decide (a < 0) = false := decide_eq_false sa
      have d2 : decide (b < 0) = false := decide_eq_false (by omega)
      clear hf
      go_enter Tryd.func155, Tryd.ntmps155
      go_wp2
      go_ret2
      exact ⟨by rw [H.out]; rfl, rfl⟩
end Go.Proofs.YtnchnnbggfeknaaDoor
