/-
  num and its reference, function by function: sums, products, what is left, quotients.
-/
import Derived.Test.YtefkdjikbdgidaaDoorProg
import Derived.Test.YtefkdjikbdgidaaDoorNumPlain
set_option linter.unusedVariables false
set_option linter.unusedSimpArgs false
namespace Go.Proofs.YtefkdjikbdgidaaDoor
open Go.RowKit Nt Nt.Num

set_option maxHeartbeats 400000 in
theorem n_add (a b : Int) (w : World) (ha : Fits a) (hb : Fits b) :
    Calls Tryd.prog 30 #[.int .i64 a, .int .i64 b] w fun e w' => e = .returned (.tuple #[.int .i64 (told (a + b)).1, .int .i64 (told (a + b)).2]) ∧ w' = w := by
  obtain ⟨a1, a2⟩ := ha
  obtain ⟨b1, b2⟩ := hb
  by_cases hf : Fits (a + b)
  · have H := Lib.hid (told_yes hf)
    obtain ⟨f1, f2⟩ := hf
    by_cases sa : a < 0 <;> by_cases sb : b < 0
    · have d : decide (a + b < 0) = true := decide_eq_true (by omega)
      go_enter Tryd.func30, Tryd.ntmps30
      go_wp2
      go_ret2
      exact ⟨by rw [H.out]; rfl, rfl⟩
    · have d : decide (b < 0) = false := decide_eq_false sb
      go_enter Tryd.func30, Tryd.ntmps30
      go_wp2
      go_ret2
      exact ⟨by rw [H.out]; rfl, rfl⟩
    · have d : decide (a < 0) = false := decide_eq_false sa
      go_enter Tryd.func30, Tryd.ntmps30
      go_wp2
      go_ret2
      exact ⟨by rw [H.out]; rfl, rfl⟩
    · have d1 : decide (a < 0) = false := decide_eq_false sa
      have d2 : decide (b < 0) = false := decide_eq_false sb
      have d : decide (a + b < 0) = false := decide_eq_false (by omega)
      go_enter Tryd.func30, Tryd.ntmps30
      go_wp2
      go_ret2
      exact ⟨by rw [H.out]; rfl, rfl⟩
  · have H := Lib.hid (told_no hf)
    by_cases sa : a < 0
    · have hw : 0 ≤ wrap64 (a + b) := wrap_under (by unfold Fits at hf; omega) (by omega)
      have d : decide (wrap64 (a + b) < 0) = false := decide_eq_false (by omega)
      have sb : b < 0 := by unfold Fits at hf; omega
      clear hf
      go_enter Tryd.func30, Tryd.ntmps30
      go_wp2
      go_ret2
      exact ⟨by rw [H.out]; rfl, rfl⟩
    · have hw : wrap64 (a + b) < 0 := wrap_over (by unfold Fits at hf; omega) (by omega)
      have d : decide (wrap64 (a + b) < 0) = true := decide_eq_true hw
      have sb : 0 ≤ b := by unfold Fits at hf; omega
      have d1 : decide (a < 0) = false := decide_eq_false sa
      have d2 : decide (b < 0) = false := decide_eq_false (by omega)
      clear hf
      go_enter Tryd.func30, Tryd.ntmps30
      go_wp2
      go_ret2
      exact ⟨by rw [H.out]; rfl, rfl⟩
set_option maxHeartbeats 400000 in
theorem n_sub (a b : Int) (w : World) (ha : Fits a) (hb : Fits b) :
    Calls Tryd.prog 32 #[.int .i64 a, .int .i64 b] w fun e w' => e = .returned (.tuple #[.int .i64 (told (a - b)).1, .int .i64 (told (a - b)).2]) ∧ w' = w := by
  obtain ⟨a1, a2⟩ := ha
  obtain ⟨b1, b2⟩ := hb
  by_cases hf : Fits (a - b)
  · have H := Lib.hid (told_yes hf)
    obtain ⟨f1, f2⟩ := hf
    by_cases sa : a < 0 <;> by_cases sb : b < 0
    · go_enter Tryd.func32, Tryd.ntmps32
      go_wp2
      go_ret2
      exact ⟨by rw [H.out]; rfl, rfl⟩
    · have d : decide (b < 0) = false := decide_eq_false sb
      have d2 : decide (a - b < 0) = true := decide_eq_true (by omega)
      go_enter Tryd.func32, Tryd.ntmps32
      go_wp2
      go_ret2
      exact ⟨by rw [H.out]; rfl, rfl⟩
    · have d : decide (a < 0) = false := decide_eq_false sa
      have d2 : decide (a - b < 0) = false := decide_eq_false (by omega)
      go_enter Tryd.func32, Tryd.ntmps32
      go_wp2
      go_ret2
      exact ⟨by rw [H.out]; rfl, rfl⟩
    · have d1 : decide (a < 0) = false := decide_eq_false sa
      have d2 : decide (b < 0) = false := decide_eq_false sb
      go_enter Tryd.func32, Tryd.ntmps32
      go_wp2
      go_ret2
      exact ⟨by rw [H.out]; rfl, rfl⟩
  · have H := Lib.hid (told_no hf)
    by_cases sa : a < 0
    · have hw : 0 ≤ wrap64 (a - b) := wrap_under (by unfold Fits at hf; omega) (by omega)
      have d : decide (wrap64 (a - b) < 0) = false := decide_eq_false (by omega)
      have sb : 0 ≤ b := by unfold Fits at hf; omega
      have d2 : decide (b < 0) = false := decide_eq_false (by omega)
      clear hf
      go_enter Tryd.func32, Tryd.ntmps32
      go_wp2
      go_ret2
      exact ⟨by rw [H.out]; rfl, rfl⟩
    · have hw : wrap64 (a - b) < 0 := wrap_over (by unfold Fits at hf; omega) (by omega)
      have d : decide (wrap64 (a - b) < 0) = true := decide_eq_true hw
      have sb : b < 0 := by unfold Fits at hf; omega
      have d1 : decide (a < 0) = false := decide_eq_false sa
      clear hf
      go_enter Tryd.func32, Tryd.ntmps32
      go_wp2
      go_ret2
      exact ⟨by rw [H.out]; rfl, rfl⟩
set_option maxHeartbeats 400000 in
theorem r_add (a b : Int) (w : World) (ha : Fits a) (hb : Fits b) :
    Calls Tryd.prog 31 #[.int .i64 a, .int .i64 b] w fun e w' => e = .returned (.tuple #[.int .i64 (told (a + b)).1, .int .i64 (told (a + b)).2]) ∧ w' = w := by
  obtain ⟨a1, a2⟩ := ha
  obtain ⟨b1, b2⟩ := hb
  by_cases hp : 0 < b
  · by_cases h : 9223372036854775807 - b < a
    · have H := Lib.hid (told_no (n := a + b) (by unfold Fits; omega))
      go_enter Tryd.func31, Tryd.ntmps31
      go_wp2
      go_ret2
      exact ⟨by rw [H.out]; rfl, rfl⟩
    · have H := Lib.hid (told_yes (n := a + b) (by unfold Fits; omega))
      have d : decide (b < 0) = false := decide_eq_false (by omega)
      have d2 : decide (9223372036854775807 - b < a) = false := decide_eq_false h
      go_enter Tryd.func31, Tryd.ntmps31
      go_wp2
      go_ret2
      exact ⟨by rw [H.out]; rfl, rfl⟩
  · have d1 : decide (0 < b) = false := decide_eq_false hp
    by_cases hn : b < 0
    · by_cases h : a < -9223372036854775808 - b
      · have H := Lib.hid (told_no (n := a + b) (by unfold Fits; omega))
        go_enter Tryd.func31, Tryd.ntmps31
        go_wp2
        go_ret2
        exact ⟨by rw [H.out]; rfl, rfl⟩
      · have H := Lib.hid (told_yes (n := a + b) (by unfold Fits; omega))
        have d2 : decide (a < -9223372036854775808 - b) = false := decide_eq_false h
        go_enter Tryd.func31, Tryd.ntmps31
        go_wp2
        go_ret2
        exact ⟨by rw [H.out]; rfl, rfl⟩
    · have H := Lib.hid (told_yes (n := a + b) (by unfold Fits; omega))
      have d2 : decide (b < 0) = false := decide_eq_false hn
      go_enter Tryd.func31, Tryd.ntmps31
      go_wp2
      go_ret2
      exact ⟨by rw [H.out]; rfl, rfl⟩
set_option maxHeartbeats 400000 in
theorem r_sub (a b : Int) (w : World) (ha : Fits a) (hb : Fits b) :
    Calls Tryd.prog 33 #[.int .i64 a, .int .i64 b] w fun e w' => e = .returned (.tuple #[.int .i64 (told (a - b)).1, .int .i64 (told (a - b)).2]) ∧ w' = w := by
  obtain ⟨a1, a2⟩ := ha
  obtain ⟨b1, b2⟩ := hb
  by_cases hn : b < 0
  · by_cases h : 9223372036854775807 + b < a
    · have H := Lib.hid (told_no (n := a - b) (by unfold Fits; omega))
      go_enter Tryd.func33, Tryd.ntmps33
      go_wp2
      go_ret2
      exact ⟨by rw [H.out]; rfl, rfl⟩
    · have H := Lib.hid (told_yes (n := a - b) (by unfold Fits; omega))
      have d : decide (0 < b) = false := decide_eq_false (by omega)
      have d2 : decide (9223372036854775807 + b < a) = false := decide_eq_false h
      go_enter Tryd.func33, Tryd.ntmps33
      go_wp2
      go_ret2
      exact ⟨by rw [H.out]; rfl, rfl⟩
  · have d1 : decide (b < 0) = false := decide_eq_false hn
    by_cases hp : 0 < b
    · by_cases h : a < -9223372036854775808 + b
      · have H := Lib.hid (told_no (n := a - b) (by unfold Fits; omega))
        go_enter Tryd.func33, Tryd.ntmps33
        go_wp2
        go_ret2
        exact ⟨by rw [H.out]; rfl, rfl⟩
      · have H := Lib.hid (told_yes (n := a - b) (by unfold Fits; omega))
        have d2 : decide (a < -9223372036854775808 + b) = false := decide_eq_false h
        go_enter Tryd.func33, Tryd.ntmps33
        go_wp2
        go_ret2
        exact ⟨by rw [H.out]; rfl, rfl⟩
    · have H := Lib.hid (told_yes (n := a - b) (by unfold Fits; omega))
      have d2 : decide (0 < b) = false := decide_eq_false hp
      go_enter Tryd.func33, Tryd.ntmps33
      go_wp2
      go_ret2
      exact ⟨by rw [H.out]; rfl, rfl⟩
set_option maxHeartbeats 400000 in
theorem n_clamp (n low high : Int) (w : World) :
    Calls Tryd.prog 41 #[.int .i64 n, .int .i64 low, .int .i64 high] w fun e w' => e = .returned (.int .i64 (clamp n low high)) ∧ w' = w := by
  by_cases h1 : n < low
  · have H := Lib.hid (show clamp n low high = low by unfold clamp; rw [if_pos h1])
    go_enter Tryd.func41, Tryd.ntmps41
    go_wp2
    go_ret
    exact ⟨ret_int H.out.symm, rfl⟩
  · by_cases h2 : high < n
    · have H := Lib.hid (show clamp n low high = high by unfold clamp; rw [if_neg h1, if_pos h2])
      go_enter Tryd.func41, Tryd.ntmps41
      go_wp2
      go_ret
      exact ⟨ret_int H.out.symm, rfl⟩
    · have H := Lib.hid (show clamp n low high = n by unfold clamp; rw [if_neg h1, if_neg h2])
      go_enter Tryd.func41, Tryd.ntmps41
      go_wp2
      go_ret
      exact ⟨ret_int H.out.symm, rfl⟩
set_option maxHeartbeats 400000 in
theorem r_clamp (n low high : Int) (w : World) :
    Calls Tryd.prog 42 #[.int .i64 n, .int .i64 low, .int .i64 high] w fun e w' => e = .returned (.int .i64 (clamp n low high)) ∧ w' = w := by
  by_cases h1 : n < low
  · have H := Lib.hid (show clamp n low high = low by unfold clamp; rw [if_pos h1])
    go_enter Tryd.func42, Tryd.ntmps42
    go_wp2
    go_ret
    exact ⟨ret_int H.out.symm, rfl⟩
  · by_cases h2 : high < n
    · have H := Lib.hid (show clamp n low high = high by unfold clamp; rw [if_neg h1, if_pos h2])
      go_enter Tryd.func42, Tryd.ntmps42
      go_wp2
      go_ret
      exact ⟨ret_int H.out.symm, rfl⟩
    · have H := Lib.hid (show clamp n low high = n by unfold clamp; rw [if_neg h1, if_neg h2])
      go_enter Tryd.func42, Tryd.ntmps42
      go_wp2
      go_ret
      exact ⟨ret_int H.out.symm, rfl⟩
end Go.Proofs.YtefkdjikbdgidaaDoor
