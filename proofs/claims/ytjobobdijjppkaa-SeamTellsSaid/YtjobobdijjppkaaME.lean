/-
  num and its reference, function by function: sums, products, what is left, quotients.
-/
import Derived.Test.YtjobobdijjppkaaProg
import Derived.Test.YtjobobdijjppkaaMC
set_option linter.unusedVariables false
set_option linter.unusedSimpArgs false
namespace Go.Proofs.Ytjobobdijjppkaa
open Go.RowKit Nt Nt.Num
set_option maxHeartbeats 400000 in
theorem n_add (a b : Int) (w : World) (ha : Fits a) (hb : Fits b) :
    Calls Try.prog 46 #[.int .i64 a, .int .i64 b] w fun e w' => e = .returned (.tuple #[.int .i64 (told (a + b)).1, .int .i64 (told (a + b)).2]) ∧ w' = w := by
  obtain ⟨a1, a2⟩ := ha
  obtain ⟨b1, b2⟩ := hb
  by_cases hf : Fits (a + b)
  · have H := Lib.hid (told_yes hf)
    obtain ⟨f1, f2⟩ := hf
    by_cases sa : a < 0 <;> by_cases sb : b < 0
    · have d : decide (a + b < 0) = true := decide_eq_true (by omega)
      go_enter Try.func46, Try.ntmps46
      go_wp2
      go_ret2
      exact ⟨by rw [H.out]; rfl, rfl⟩
    · have d : decide (b < 0) = false := decide_eq_false sb
      go_enter Try.func46, Try.ntmps46
      go_wp2
      go_ret2
      exact ⟨by rw [H.out]; rfl, rfl⟩
    · have d : decide (a < 0) = false := decide_eq_false sa
      go_enter Try.func46, Try.ntmps46
      go_wp2
      go_ret2
      exact ⟨by rw [H.out]; rfl, rfl⟩
    · have d1 : decide (a < 0) = false := decide_eq_false sa
      have d2 : decide (b < 0) = false := decide_eq_false sb
      have d : decide (a + b < 0) = false := decide_eq_false (by omega)
      go_enter Try.func46, Try.ntmps46
      go_wp2
      go_ret2
      exact ⟨by rw [H.out]; rfl, rfl⟩
  · have H := Lib.hid (told_no hf)
    by_cases sa : a < 0
    · have hw : 0 ≤ wrap64 (a + b) := wrap_under (by unfold Fits at hf; omega) (by omega)
      have d : decide (wrap64 (a + b) < 0) = false := decide_eq_false (by omega)
      have sb : b < 0 := by unfold Fits at hf; omega
      clear hf
      go_enter Try.func46, Try.ntmps46
      go_wp2
      go_ret2
      exact ⟨by rw [H.out]; rfl, rfl⟩
    · have hw : wrap64 (a + b) < 0 := wrap_over (by unfold Fits at hf; omega) (by omega)
      have d : decide (wrap64 (a + b) < 0) = true := decide_eq_true hw
      have sb : 0 ≤ b := by unfold Fits at hf; omega
      have d1 : decide (a < 0) = false := decide_eq_false sa
      have d2 : decide (b < 0) = false := decide_eq_false (by omega)
      clear hf
      go_enter Try.func46, Try.ntmps46
      go_wp2
      go_ret2
      exact ⟨by rw [H.out]; rfl, rfl⟩
set_option maxHeartbeats 400000 in
theorem n_sub (a b : Int) (w : World) (ha : Fits a) (hb : Fits b) :
    Calls Try.prog 61 #[.int .i64 a, .int .i64 b] w fun e w' => e = .returned (.tuple #[.int .i64 (told (a - b)).1, .int .i64 (told (a - b)).2]) ∧ w' = w := by
  obtain ⟨a1, a2⟩ := ha
  obtain ⟨b1, b2⟩ := hb
  by_cases hf : Fits (a - b)
  · have H := Lib.hid (told_yes hf)
    obtain ⟨f1, f2⟩ := hf
    by_cases sa : a < 0 <;> by_cases sb : b < 0
    · go_enter Try.func61, Try.ntmps61
      go_wp2
      go_ret2
      exact ⟨by rw [H.out]; rfl, rfl⟩
    · have d : decide (b < 0) = false := decide_eq_false sb
      have d2 : decide (a - b < 0) = true := decide_eq_true (by omega)
      go_enter Try.func61, Try.ntmps61
      go_wp2
      go_ret2
      exact ⟨by rw [H.out]; rfl, rfl⟩
    · have d : decide (a < 0) = false := decide_eq_false sa
      have d2 : decide (a - b < 0) = false := decide_eq_false (by omega)
      go_enter Try.func61, Try.ntmps61
      go_wp2
      go_ret2
      exact ⟨by rw [H.out]; rfl, rfl⟩
    · have d1 : decide (a < 0) = false := decide_eq_false sa
      have d2 : decide (b < 0) = false := decide_eq_false sb
      go_enter Try.func61, Try.ntmps61
      go_wp2
      go_ret2
      exact ⟨by rw [H.out]; rfl, rfl⟩
  · have H := Lib.hid (told_no hf)
    by_cases sa : a < 0
    · have hw : 0 ≤ wrap64 (a - b) := wrap_under (by unfold Fits at hf; omega) (by omega)
      have d : decide (wrap64 (a - b) < 0) = false := decide_eq_false (by omega)
      have sb : 0 ≤ b := by unfold Fits at hf; omega
      have d2 : decide (b < 0) = false := decide_eq_false (by omega)
      clear hf
      go_enter Try.func61, Try.ntmps61
      go_wp2
      go_ret2
      exact ⟨by rw [H.out]; rfl, rfl⟩
    · have hw : wrap64 (a - b) < 0 := wrap_over (by unfold Fits at hf; omega) (by omega)
      have d : decide (wrap64 (a - b) < 0) = true := decide_eq_true hw
      have sb : b < 0 := by unfold Fits at hf; omega
      have d1 : decide (a < 0) = false := decide_eq_false sa
      clear hf
      go_enter Try.func61, Try.ntmps61
      go_wp2
      go_ret2
      exact ⟨by rw [H.out]; rfl, rfl⟩
set_option maxHeartbeats 400000 in
theorem r_add (a b : Int) (w : World) (ha : Fits a) (hb : Fits b) :
    Calls Try.prog 48 #[.int .i64 a, .int .i64 b] w fun e w' => e = .returned (.tuple #[.int .i64 (told (a + b)).1, .int .i64 (told (a + b)).2]) ∧ w' = w := by
  obtain ⟨a1, a2⟩ := ha
  obtain ⟨b1, b2⟩ := hb
  by_cases hp : 0 < b
  · by_cases h : 9223372036854775807 - b < a
    · have H := Lib.hid (told_no (n := a + b) (by unfold Fits; omega))
      go_enter Try.func48, Try.ntmps48
      go_wp2
      go_ret2
      exact ⟨by rw [H.out]; rfl, rfl⟩
    · have H := Lib.hid (told_yes (n := a + b) (by unfold Fits; omega))
      have d : decide (b < 0) = false := decide_eq_false (by omega)
      have d2 : decide (9223372036854775807 - b < a) = false := decide_eq_false h
      go_enter Try.func48, Try.ntmps48
      go_wp2
      go_ret2
      exact ⟨by rw [H.out]; rfl, rfl⟩
  · have d1 : decide (0 < b) = false := decide_eq_false hp
    by_cases hn : b < 0
    · by_cases h : a < -9223372036854775808 - b
      · have H := Lib.hid (told_no (n := a + b) (by unfold Fits; omega))
        go_enter Try.func48, Try.ntmps48
        go_wp2
        go_ret2
        exact ⟨by rw [H.out]; rfl, rfl⟩
      · have H := Lib.hid (told_yes (n := a + b) (by unfold Fits; omega))
        have d2 : decide (a < -9223372036854775808 - b) = false := decide_eq_false h
        go_enter Try.func48, Try.ntmps48
        go_wp2
        go_ret2
        exact ⟨by rw [H.out]; rfl, rfl⟩
    · have H := Lib.hid (told_yes (n := a + b) (by unfold Fits; omega))
      have d2 : decide (b < 0) = false := decide_eq_false hn
      go_enter Try.func48, Try.ntmps48
      go_wp2
      go_ret2
      exact ⟨by rw [H.out]; rfl, rfl⟩
set_option maxHeartbeats 400000 in
theorem r_sub (a b : Int) (w : World) (ha : Fits a) (hb : Fits b) :
    Calls Try.prog 62 #[.int .i64 a, .int .i64 b] w fun e w' => e = .returned (.tuple #[.int .i64 (told (a - b)).1, .int .i64 (told (a - b)).2]) ∧ w' = w := by
  obtain ⟨a1, a2⟩ := ha
  obtain ⟨b1, b2⟩ := hb
  by_cases hn : b < 0
  · by_cases h : 9223372036854775807 + b < a
    · have H := Lib.hid (told_no (n := a - b) (by unfold Fits; omega))
      go_enter Try.func62, Try.ntmps62
      go_wp2
      go_ret2
      exact ⟨by rw [H.out]; rfl, rfl⟩
    · have H := Lib.hid (told_yes (n := a - b) (by unfold Fits; omega))
      have d : decide (0 < b) = false := decide_eq_false (by omega)
      have d2 : decide (9223372036854775807 + b < a) = false := decide_eq_false h
      go_enter Try.func62, Try.ntmps62
      go_wp2
      go_ret2
      exact ⟨by rw [H.out]; rfl, rfl⟩
  · have d1 : decide (b < 0) = false := decide_eq_false hn
    by_cases hp : 0 < b
    · by_cases h : a < -9223372036854775808 + b
      · have H := Lib.hid (told_no (n := a - b) (by unfold Fits; omega))
        go_enter Try.func62, Try.ntmps62
        go_wp2
        go_ret2
        exact ⟨by rw [H.out]; rfl, rfl⟩
      · have H := Lib.hid (told_yes (n := a - b) (by unfold Fits; omega))
        have d2 : decide (a < -9223372036854775808 + b) = false := decide_eq_false h
        go_enter Try.func62, Try.ntmps62
        go_wp2
        go_ret2
        exact ⟨by rw [H.out]; rfl, rfl⟩
    · have H := Lib.hid (told_yes (n := a - b) (by unfold Fits; omega))
      have d2 : decide (0 < b) = false := decide_eq_false hp
      go_enter Try.func62, Try.ntmps62
      go_wp2
      go_ret2
      exact ⟨by rw [H.out]; rfl, rfl⟩
end Go.Proofs.Ytjobobdijjppkaa
