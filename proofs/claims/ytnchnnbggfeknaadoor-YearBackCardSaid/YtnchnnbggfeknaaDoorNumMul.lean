/-
  num.Mul and its reference: a product, if it fits.
-/
import Derived.Test.YtnchnnbggfeknaaDoorShelf
import Derived.Test.YtnchnnbggfeknaaDoorNumWalks2
set_option linter.unusedVariables false
set_option linter.unusedSimpArgs false
namespace Go.Proofs.YtnchnnbggfeknaaDoor
open Go.RowKit Nt Nt.Num

theorem n_mul64 (x y hi lo : Nat) (h1 : x * y / 18446744073709551616 = hi) (h2 : x * y % 18446744073709551616 = lo) (hx : x < 18446744073709551616) (hy : y < 18446744073709551616) (w : World) :
    Calls Tryd.prog 172 #[.int .u64 x, .int .u64 y] w fun e w' => e = .returned (.tuple #[.int .u64 (hi : Int), .int .u64 (lo : Int)]) ∧ w' = w := by
  have := Tryd.bits_Mul64 x y hx hy w
  rw [h1, h2] at this
  exact this

set_option maxHeartbeats 1000000 in
theorem n_mul (a b : Int) (w : World) (ha : Fits a) (hb : Fits b) :
    Calls Tryd.prog 154 #[.int .i64 a, .int .i64 b] w fun e w' => e = .returned (.tuple #[.int .i64 (told (a * b)).1, .int .i64 (told (a * b)).2]) ∧ w' = w := by
  have ha' := ha
  have hb' := hb
  obtain ⟨a1, a2⟩ := ha
  obtain ⟨b1, b2⟩ := hb
  obtain ⟨hi, h1⟩ : ∃ hi, a.natAbs * b.natAbs / 18446744073709551616 = hi := ⟨_, rfl⟩
  obtain ⟨lo, h2⟩ : ∃ lo, a.natAbs * b.natAbs % 18446744073709551616 = lo := ⟨_, rfl⟩
  have hlo : lo < 18446744073709551616 := by omega
  have C := n_mul64 a.natAbs b.natAbs hi lo h1 h2 (by omega) (by omega)
  have hB := mul_below a b
  have hA := mul_above a b
  have hp : a.natAbs * b.natAbs = hi * 18446744073709551616 + lo := by omega
  rw [hp] at hA hB
  have HC : Hid (∀ w, Calls Tryd.prog 172 #[.int .u64 a.natAbs, .int .u64 b.natAbs] w fun e w' => e = .returned (.tuple #[.int .u64 (hi : Int), .int .u64 (lo : Int)]) ∧ w' = w) := C
  clear h1 h2 hp C
  by_cases h0 : 0 < hi
  · have H := Lib.hid (told_no (n := a * b) (by unfold Fits; by_cases hs : a < 0 ↔ b < 0; · rw [hA hs]; omega
                                                · rw [hB hs]; omega))
    clear hA hB
    go_enter Tryd.func154, Tryd.ntmps154
    go_wp2_with fail
    refine (n_far a _ ha').mono ?_
    rintro e w' ⟨rfl, rfl⟩
    go_wp2_with fail
    refine (n_far b _ hb').mono ?_
    rintro e w' ⟨rfl, rfl⟩
    go_wp2_with fail
    refine (HC.out _).mono ?_
    rintro e w' ⟨rfl, rfl⟩
    go_wp2_with fail
    go_ret2
    exact ⟨by rw [H.out]; rfl, rfl⟩
  · obtain rfl : hi = 0 := by omega
    clear h0
    simp only [Nat.zero_mul, Nat.zero_add] at hA hB
    have d64 : IntKind.u64.wrap (-(lo : Int)) = ((18446744073709551616 - lo) % 18446744073709551616 : Nat) := by rw [IntKind.wrap_u64]; omega
    obtain ⟨m, hm⟩ : ∃ m, (18446744073709551616 - lo) % 18446744073709551616 = m := ⟨_, rfl⟩
    rw [hm] at d64
    have hmb : m < 18446744073709551616 := by omega
    have m64 : lo ≤ 9223372036854775808 → IntKind.i64.wrap (m : Int) = -(lo : Int) := fun h => by rw [IntKind.wrap_i64]; omega
    have M64 : Hid (lo ≤ 9223372036854775808 → IntKind.i64.wrap (m : Int) = -(lo : Int) ∧ wrap64 (m : Int) = -(lo : Int)) := fun h => ⟨m64 h, by have := m64 h; rw [IntKind.wrap_i64] at this; unfold wrap64; exact this⟩
    clear hm m64
    by_cases sa : a < 0 <;> by_cases sb : b < 0
    · have da : decide (a < 0) = true := decide_eq_true sa
      have db : decide (b < 0) = true := decide_eq_true sb
      have hP := hA (by omega)
      clear hA hB
      by_cases hl : 9223372036854775808 < lo
      · have H := Lib.hid (told_no (n := a * b) (by unfold Fits; rw [hP]; omega))
        clear hP
        have dl : decide (9223372036854775808 < (lo : Int)) = true := decide_eq_true (by omega)
        go_enter Tryd.func154, Tryd.ntmps154
        go_wp2_with fail
        refine (n_far a _ ha').mono ?_
        rintro e w' ⟨rfl, rfl⟩
        go_wp2_with fail
        refine (n_far b _ hb').mono ?_
        rintro e w' ⟨rfl, rfl⟩
        go_wp2_with fail
        refine (HC.out _).mono ?_
        rintro e w' ⟨rfl, rfl⟩
        go_wp2_with fail
        go_ret2
        exact ⟨by rw [H.out]; rfl, rfl⟩
      · have dl : decide (9223372036854775808 < (lo : Int)) = false := decide_eq_false (by omega)
        by_cases he : lo = 9223372036854775808
        · have H := Lib.hid (told_no (n := a * b) (by unfold Fits; rw [hP]; omega))
          have dk : ((lo : Int) == 9223372036854775808) = true := by simp; omega
          clear he hP
          go_enter Tryd.func154, Tryd.ntmps154
          go_wp2_with fail
          refine (n_far a _ ha').mono ?_
          rintro e w' ⟨rfl, rfl⟩
          go_wp2_with fail
          refine (n_far b _ hb').mono ?_
          rintro e w' ⟨rfl, rfl⟩
          go_wp2_with fail
          refine (HC.out _).mono ?_
          rintro e w' ⟨rfl, rfl⟩
          go_wp2_with fail
          go_ret2
          exact ⟨by rw [H.out]; rfl, rfl⟩
        · have H := Lib.hid (told_yes (n := a * b) (by unfold Fits; rw [hP]; omega))
          rw [hP] at H
          have hq := Lib.hid hP
          have dk : ((lo : Int) == 9223372036854775808) = false := by simp; omega
          have m1 : lo ≤ 9223372036854775807 := by omega
          clear he hP
          go_enter Tryd.func154, Tryd.ntmps154
          go_wp2_with fail
          refine (n_far a _ ha').mono ?_
          rintro e w' ⟨rfl, rfl⟩
          go_wp2_with fail
          refine (n_far b _ hb').mono ?_
          rintro e w' ⟨rfl, rfl⟩
          go_wp2_with fail
          refine (HC.out _).mono ?_
          rintro e w' ⟨rfl, rfl⟩
          go_wp2_with fail
          go_ret2
          exact ⟨by rw [hq.out, H.out]; rfl, rfl⟩
    · have da : decide (a < 0) = true := decide_eq_true sa
      have db : decide (b < 0) = false := decide_eq_false sb
      have hP := hB (by omega)
      clear hA hB
      by_cases hl : 9223372036854775808 < lo
      · have H := Lib.hid (told_no (n := a * b) (by unfold Fits; rw [hP]; omega))
        clear hP
        have dl : decide (9223372036854775808 < (lo : Int)) = true := decide_eq_true (by omega)
        go_enter Tryd.func154, Tryd.ntmps154
        go_wp2_with fail
        refine (n_far a _ ha').mono ?_
        rintro e w' ⟨rfl, rfl⟩
        go_wp2_with fail
        refine (n_far b _ hb').mono ?_
        rintro e w' ⟨rfl, rfl⟩
        go_wp2_with fail
        refine (HC.out _).mono ?_
        rintro e w' ⟨rfl, rfl⟩
        go_wp2_with fail
        go_ret2
        exact ⟨by rw [H.out]; rfl, rfl⟩
      · have H := Lib.hid (told_yes (n := a * b) (by unfold Fits; rw [hP]; omega))
        rw [hP] at H
        have hq := Lib.hid hP
        obtain ⟨m1, m2⟩ := M64.out (by omega)
        clear hP
        have dl : decide (9223372036854775808 < (lo : Int)) = false := decide_eq_false (by omega)
        by_cases he : lo = 9223372036854775808
        · have dk : ((lo : Int) == 9223372036854775808) = true := by simp; omega
          clear he
          go_enter Tryd.func154, Tryd.ntmps154
          go_wp2_with fail
          refine (n_far a _ ha').mono ?_
          rintro e w' ⟨rfl, rfl⟩
          go_wp2_with fail
          refine (n_far b _ hb').mono ?_
          rintro e w' ⟨rfl, rfl⟩
          go_wp2_with fail
          refine (HC.out _).mono ?_
          rintro e w' ⟨rfl, rfl⟩
          go_wp2_with fail
          go_ret2
          exact ⟨by rw [hq.out, H.out]; rfl, rfl⟩
        · have dk : ((lo : Int) == 9223372036854775808) = false := by simp; omega
          go_enter Tryd.func154, Tryd.ntmps154
          go_wp2_with fail
          refine (n_far a _ ha').mono ?_
          rintro e w' ⟨rfl, rfl⟩
          go_wp2_with fail
          refine (n_far b _ hb').mono ?_
          rintro e w' ⟨rfl, rfl⟩
          go_wp2_with fail
          refine (HC.out _).mono ?_
          rintro e w' ⟨rfl, rfl⟩
          go_wp2_with fail
          go_ret2
          exact ⟨by rw [hq.out, H.out]; rfl, rfl⟩
    · have da : decide (a < 0) = false := decide_eq_false sa
      have db : decide (b < 0) = true := decide_eq_true sb
      have hP := hB (by omega)
      clear hA hB
      by_cases hl : 9223372036854775808 < lo
      · have H := Lib.hid (told_no (n := a * b) (by unfold Fits; rw [hP]; omega))
        clear hP
        have dl : decide (9223372036854775808 < (lo : Int)) = true := decide_eq_true (by omega)
        go_enter Tryd.func154, Tryd.ntmps154
        go_wp2_with fail
        refine (n_far a _ ha').mono ?_
        rintro e w' ⟨rfl, rfl⟩
        go_wp2_with fail
        refine (n_far b _ hb').mono ?_
        rintro e w' ⟨rfl, rfl⟩
        go_wp2_with fail
        refine (HC.out _).mono ?_
        rintro e w' ⟨rfl, rfl⟩
        go_wp2_with fail
        go_ret2
        exact ⟨by rw [H.out]; rfl, rfl⟩
      · have H := Lib.hid (told_yes (n := a * b) (by unfold Fits; rw [hP]; omega))
        rw [hP] at H
        have hq := Lib.hid hP
        obtain ⟨m1, m2⟩ := M64.out (by omega)
        clear hP
        have dl : decide (9223372036854775808 < (lo : Int)) = false := decide_eq_false (by omega)
        by_cases he : lo = 9223372036854775808
        · have dk : ((lo : Int) == 9223372036854775808) = true := by simp; omega
          clear he
          go_enter Tryd.func154, Tryd.ntmps154
          go_wp2_with fail
          refine (n_far a _ ha').mono ?_
          rintro e w' ⟨rfl, rfl⟩
          go_wp2_with fail
          refine (n_far b _ hb').mono ?_
          rintro e w' ⟨rfl, rfl⟩
          go_wp2_with fail
          refine (HC.out _).mono ?_
          rintro e w' ⟨rfl, rfl⟩
          go_wp2_with fail
          go_ret2
          exact ⟨by rw [hq.out, H.out]; rfl, rfl⟩
        · have dk : ((lo : Int) == 9223372036854775808) = false := by simp; omega
          go_enter Tryd.func154, Tryd.ntmps154
          go_wp2_with fail
          refine (n_far a _ ha').mono ?_
          rintro e w' ⟨rfl, rfl⟩
          go_wp2_with fail
          refine (n_far b _ hb').mono ?_
          rintro e w' ⟨rfl, rfl⟩
          go_wp2_with fail
          refine (HC.out _).mono ?_
          rintro e w' ⟨rfl, rfl⟩
          go_wp2_with fail
          go_ret2
          exact ⟨by rw [hq.out, H.out]; rfl, rfl⟩
    · have da : decide (a < 0) = false := decide_eq_false sa
      have db : decide (b < 0) = false := decide_eq_false sb
      have hP := hA (by omega)
      clear hA hB
      by_cases hl : 9223372036854775808 < lo
      · have H := Lib.hid (told_no (n := a * b) (by unfold Fits; rw [hP]; omega))
        clear hP
        have dl : decide (9223372036854775808 < (lo : Int)) = true := decide_eq_true (by omega)
        go_enter Tryd.func154, Tryd.ntmps154
        go_wp2_with fail
        refine (n_far a _ ha').mono ?_
        rintro e w' ⟨rfl, rfl⟩
        go_wp2_with fail
        refine (n_far b _ hb').mono ?_
        rintro e w' ⟨rfl, rfl⟩
        go_wp2_with fail
        refine (HC.out _).mono ?_
        rintro e w' ⟨rfl, rfl⟩
        go_wp2_with fail
        go_ret2
        exact ⟨by rw [H.out]; rfl, rfl⟩
      · have dl : decide (9223372036854775808 < (lo : Int)) = false := decide_eq_false (by omega)
        by_cases he : lo = 9223372036854775808
        · have H := Lib.hid (told_no (n := a * b) (by unfold Fits; rw [hP]; omega))
          have dk : ((lo : Int) == 9223372036854775808) = true := by simp; omega
          clear he hP
          go_enter Tryd.func154, Tryd.ntmps154
          go_wp2_with fail
          refine (n_far a _ ha').mono ?_
          rintro e w' ⟨rfl, rfl⟩
          go_wp2_with fail
          refine (n_far b _ hb').mono ?_
          rintro e w' ⟨rfl, rfl⟩
          go_wp2_with fail
          refine (HC.out _).mono ?_
          rintro e w' ⟨rfl, rfl⟩
          go_wp2_with fail
          go_ret2
          exact ⟨by rw [H.out]; rfl, rfl⟩
        · have H := Lib.hid (told_yes (n := a * b) (by unfold Fits; rw [hP]; omega))
          rw [hP] at H
          have hq := Lib.hid hP
          have dk : ((lo : Int) == 9223372036854775808) = false := by simp; omega
          have m1 : lo ≤ 9223372036854775807 := by omega
          clear he hP
          go_enter Tryd.func154, Tryd.ntmps154
          go_wp2_with fail
          refine (n_far a _ ha').mono ?_
          rintro e w' ⟨rfl, rfl⟩
          go_wp2_with fail
          refine (n_far b _ hb').mono ?_
          rintro e w' ⟨rfl, rfl⟩
          go_wp2_with fail
          refine (HC.out _).mono ?_
          rintro e w' ⟨rfl, rfl⟩
          go_wp2_with fail
          go_ret2
          exact ⟨by rw [hq.out, H.out]; rfl, rfl⟩
end Go.Proofs.YtnchnnbggfeknaaDoor
