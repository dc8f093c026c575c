/-
  words.begins, words.Same and the reference's own: each tells what the plain law says. words.Match: it tells what the plain law says. The reference's Match: it tells what the plain law says. num and its reference, function by function: sums, products, what is left, quotients. num and its reference, function by function: sums, products, what is left, quotients, the rest. num.Mul and its reference: a product, if it fits. num.cut: a text's sign and digits. '[]byte(s)': a new row of the string's bytes. num.Read: the number of a text. The reference's Digits and Read. The reference's Read: the number of a text. The reference's Read of a text with a - ahead. Contracts of num.Read, of words.Match, and of the reference's, for the evaluator.
-/
import Derived.Test.YteccmgkfmeoekaaDoorProg
import Derived.Test.YteccmgkfmeoekaaDoorMC
import Derived.Test.YteccmgkfmeoekaaDoorMS
import Derived.Laws.IdiomStrings
namespace Go.Proofs.YteccmgkfmeoekaaDoor
open Go.RowKit Nt Nt.Words
end Go.Proofs.YteccmgkfmeoekaaDoor

namespace Go.Proofs.YteccmgkfmeoekaaDoor
open Go.RowKit Nt Nt.Words
end Go.Proofs.YteccmgkfmeoekaaDoor

namespace Go.Proofs.YteccmgkfmeoekaaDoor
open Go.RowKit Nt Nt.Words
end Go.Proofs.YteccmgkfmeoekaaDoor

set_option linter.unusedVariables false
set_option linter.unusedSimpArgs false
namespace Go.Proofs.YteccmgkfmeoekaaDoor
open Go.RowKit Nt Nt.Num
set_option maxHeartbeats 400000 in
theorem n_add (a b : Int) (w : World) (ha : Fits a) (hb : Fits b) :
    Calls Tryd.prog 145 #[.int .i64 a, .int .i64 b] w fun e w' => e = .returned (.tuple #[.int .i64 (told (a + b)).1, .int .i64 (told (a + b)).2]) ∧ w' = w := by
  obtain ⟨a1, a2⟩ := ha
  obtain ⟨b1, b2⟩ := hb
  by_cases hf : Fits (a + b)
  · have H := Lib.hid (told_yes hf)
    obtain ⟨f1, f2⟩ := hf
    by_cases sa : a < 0 <;> by_cases sb : b < 0
    · have d : decide (a + b < 0) = true := decide_eq_true (by omega)
      go_enter Tryd.func145, Tryd.ntmps145
      go_wp2
      go_ret2
      exact ⟨by rw [H.out]; rfl, rfl⟩
    · have d : decide (b < 0) = false := decide_eq_false sb
      go_enter Tryd.func145, Tryd.ntmps145
      go_wp2
      go_ret2
      exact ⟨by rw [H.out]; rfl, rfl⟩
    · have d : decide (a < 0) = false := decide_eq_false sa
      go_enter Tryd.func145, Tryd.ntmps145
      go_wp2
      go_ret2
      exact ⟨by rw [H.out]; rfl, rfl⟩
    · have d1 : decide (a < 0) = false := decide_eq_false sa
      have d2 : decide (b < 0) = false := decide_eq_false sb
      have d : decide (a + b < 0) = false := decide_eq_false (by omega)
      go_enter Tryd.func145, Tryd.ntmps145
      go_wp2
      go_ret2
      exact ⟨by rw [H.out]; rfl, rfl⟩
  · have H := Lib.hid (told_no hf)
    by_cases sa : a < 0
    · have hw : 0 ≤ wrap64 (a + b) := wrap_under (by unfold Fits at hf; omega) (by omega)
      have d : decide (wrap64 (a + b) < 0) = false := decide_eq_false (by omega)
      have sb : b < 0 := by unfold Fits at hf; omega
      clear hf
      go_enter Tryd.func145, Tryd.ntmps145
      go_wp2
      go_ret2
      exact ⟨by rw [H.out]; rfl, rfl⟩
    · have hw : wrap64 (a + b) < 0 := wrap_over (by unfold Fits at hf; omega) (by omega)
      have d : decide (wrap64 (a + b) < 0) = true := decide_eq_true hw
      have sb : 0 ≤ b := by unfold Fits at hf; omega
      have d1 : decide (a < 0) = false := decide_eq_false sa
      have d2 : decide (b < 0) = false := decide_eq_false (by omega)
      clear hf
      go_enter Tryd.func145, Tryd.ntmps145
      go_wp2
      go_ret2
      exact ⟨by rw [H.out]; rfl, rfl⟩
end Go.Proofs.YteccmgkfmeoekaaDoor

set_option linter.unusedVariables false
set_option linter.unusedSimpArgs false
namespace Go.Proofs.YteccmgkfmeoekaaDoor
open Go.RowKit Nt Nt.Num
set_option maxHeartbeats 400000 in
theorem n_far (n : Int) (w : World) (ha : Fits n) :
    Calls Tryd.prog 114 #[.int .i64 n] w fun e w' => e = .returned (.int .u64 (n.natAbs : Int)) ∧ w' = w := by
  obtain ⟨a1, a2⟩ := ha
  by_cases s : n < 0
  · have h : IntKind.u64.wrap n = n + 18446744073709551616 := by rw [IntKind.wrap_u64]; omega
    have h2 : IntKind.u64.wrap (-(n + 18446744073709551616)) = -n := by rw [IntKind.wrap_u64]; omega
    go_enter Tryd.func114, Tryd.ntmps114
    go_wp2
    go_ret
    exact ⟨ret_int (by omega), rfl⟩
  · go_enter Tryd.func114, Tryd.ntmps114
    go_wp2
    go_ret
    exact ⟨ret_int (by omega), rfl⟩
set_option maxHeartbeats 400000 in
theorem n_div (a b : Int) (w : World) (ha : Fits a) (hb : Fits b) :
    Calls Tryd.prog 101 #[.int .i64 a, .int .i64 b] w fun e w' => e = .returned (.tuple #[.int .i64 (divs a b).1, .int .i64 (divs a b).2.1, .int .i64 (divs a b).2.2]) ∧ ∃ n, w' = w.drewN n := by
  obtain ⟨a1, a2⟩ := ha
  obtain ⟨b1, b2⟩ := hb
  by_cases h0 : b = 0
  · subst h0
    go_enter Tryd.func101, Tryd.ntmps101
    go_wp2
    go_ret3
    exact ⟨rfl, 0, rfl⟩
  · have k0 : (b == 0) = false := by simp [h0]
    by_cases hm : a = -9223372036854775808 ∧ b = -1
    · obtain ⟨rfl, rfl⟩ := hm
      go_enter Tryd.func101, Tryd.ntmps101
      go_wp2
      go_ret3
      exact ⟨rfl, 0, rfl⟩
    · obtain ⟨q1, q2, r1, r2⟩ := div_bounds a b ⟨a1, a2⟩ ⟨b1, b2⟩ h0 hm
      have H := Lib.hid (divs_rest a b h0 hm)
      have X := Lib.hid (xor_neg (a.tmod b) b (by unfold Fits; omega) ⟨b1, b2⟩)
      have hlt := tmod_lt a b h0
      have hab : (a == -9223372036854775808) = false ∨ ((a == -9223372036854775808) = true ∧ (b == -1) = false) := by simp only [beq_eq_false_iff_ne, beq_iff_eq]; omega
      have hq : a.tdiv b - 1 < -9223372036854775808 → a.tmod b = 0 := fun h => by
        have e : a.tdiv b = -9223372036854775808 := by omega
        have h1 := Int.mul_tdiv_add_tmod a b
        have h2 := tdiv_abs a b
        have ha' : a = -9223372036854775808 := by
          have := Int.natAbs_tdiv a b
          omega
        have h3 : (a.tdiv b).natAbs = a.natAbs / b.natAbs := Int.natAbs_tdiv a b
        have hb1 : b.natAbs = 1 := by
          by_cases h4 : b.natAbs = 1
          · exact h4
          · have : a.natAbs / b.natAbs ≤ a.natAbs / 2 := Nat.div_le_div_left (by omega) (by omega)
            omega
        omega
      clear hm h0
      by_cases hr0 : a.tmod b = 0
      · have kr : (a.tmod b != 0) = false := by simp [hr0]
        have H2 := Lib.hid (show divs a b = (a.tdiv b, a.tmod b, 0) by rw [H.out, if_neg (by simp [hr0])])
        clear hr0 H X hq
        rcases hab with ka | ⟨ka, kb⟩
        all_goals
          go_enter Tryd.func101, Tryd.ntmps101
          go_wp2
          go_quiet (fail)
          go_wp2
          go_ret3
          exact ⟨by rw [H2.out]; rfl, _, rfl⟩
      · have kr : (a.tmod b != 0) = true := by simp [hr0]
        have q3 : -9223372036854775808 ≤ a.tdiv b - 1 := by
          by_cases h : a.tdiv b - 1 < -9223372036854775808
          · exact absurd (hq h) hr0
          · omega
        by_cases hs : a.tmod b < 0 ↔ b < 0
        · have H2 := Lib.hid (show divs a b = (a.tdiv b, a.tmod b, 0) by rw [H.out, if_neg (by simp [hs])])
          have d1 : decide (bits .xor .i64 (a.tmod b) b < 0) = false := decide_eq_false (by rw [X.out]; simp [hs])
          have d2 : (!decide (a.tmod b < 0) == decide (b < 0)) = false := by by_cases h2 : b < 0 <;> simp [hs, h2]
          clear hr0 H X hq hs
          rcases hab with ka | ⟨ka, kb⟩
          all_goals
            go_enter Tryd.func101, Tryd.ntmps101
            go_wp2
            go_quiet (fail)
            go_wp2
            go_ret3
            exact ⟨by rw [H2.out]; rfl, _, rfl⟩
        · have H2 := Lib.hid (show divs a b = (a.tdiv b - 1, a.tmod b + b, 0) by rw [H.out, if_pos ⟨hr0, hs⟩])
          have d1 : decide (bits .xor .i64 (a.tmod b) b < 0) = true := decide_eq_true (by rw [X.out]; exact hs)
          have d2 : (!decide (a.tmod b < 0) == decide (b < 0)) = true := by
            by_cases h1 : a.tmod b < 0 <;> by_cases h2 : b < 0 <;> simp_all
          have r3 : -9223372036854775808 ≤ a.tmod b + b := by omega
          have r4 : a.tmod b + b ≤ 9223372036854775807 := by omega
          clear hr0 H X hq hs
          rcases hab with ka | ⟨ka, kb⟩
          all_goals
            go_enter Tryd.func101, Tryd.ntmps101
            go_wp2
            go_quiet (fail)
            go_wp2
            go_ret3
            exact ⟨by rw [H2.out]; rfl, _, rfl⟩
end Go.Proofs.YteccmgkfmeoekaaDoor

set_option linter.unusedVariables false
set_option linter.unusedSimpArgs false
namespace Go.Proofs.YteccmgkfmeoekaaDoor
open Go.RowKit Nt Nt.Num
theorem n_mul64 (x y hi lo : Nat) (h1 : x * y / 18446744073709551616 = hi) (h2 : x * y % 18446744073709551616 = lo) (hx : x < 18446744073709551616) (hy : y < 18446744073709551616) (w : World) :
    Calls Tryd.prog 162 #[.int .u64 x, .int .u64 y] w fun e w' => e = .returned (.tuple #[.int .u64 (hi : Int), .int .u64 (lo : Int)]) ∧ w' = w := by
  have := Tryd.bits_Mul64 x y hx hy w
  rw [h1, h2] at this
  exact this
set_option maxHeartbeats 1000000 in
theorem n_mul (a b : Int) (w : World) (ha : Fits a) (hb : Fits b) :
    Calls Tryd.prog 144 #[.int .i64 a, .int .i64 b] w fun e w' => e = .returned (.tuple #[.int .i64 (told (a * b)).1, .int .i64 (told (a * b)).2]) ∧ w' = w := by
  have ha' := ha
  have hb' := hb
  obtain ⟨a1, a2⟩ := ha
  obtain ⟨b1, b2⟩ := hb
  obtain ⟨hi, h1⟩ : ∃ hi, a.natAbs * b.natAbs / 18446744073709551616 = hi := ⟨_, rfl⟩
  obtain ⟨lo, h2⟩ : ∃ lo, a.natAbs * b.natAbs % 18446744073709551616 = lo := ⟨_, rfl⟩
  have hlo : lo < 18446744073709551616 := by omega
  have C := n_mul64 a.natAbs b.natAbs hi lo h1 h2 (by omega) (by omega)
  have hB := mul_below a b
  have hA := mul_above a b
  have hp : a.natAbs * b.natAbs = hi * 18446744073709551616 + lo := by omega
  rw [hp] at hA hB
  have HC : Hid (∀ w, Calls Tryd.prog 162 #[.int .u64 a.natAbs, .int .u64 b.natAbs] w fun e w' => e = .returned (.tuple #[.int .u64 (hi : Int), .int .u64 (lo : Int)]) ∧ w' = w) := C
  clear h1 h2 hp C
  by_cases h0 : 0 < hi
  · have H := Lib.hid (told_no (n := a * b) (by unfold Fits; by_cases hs : a < 0 ↔ b < 0; · rw [hA hs]; omega
                                                · rw [hB hs]; omega))
    clear hA hB
    go_enter Tryd.func144, Tryd.ntmps144
    go_wp2_with fail
    refine (n_far a _ ha').mono ?_
    rintro e w' ⟨rfl, rfl⟩
    go_wp2_with fail
    refine (n_far b _ hb').mono ?_
    rintro e w' ⟨rfl, rfl⟩
    go_wp2_with fail
    refine (HC.out _).mono ?_
    rintro e w' ⟨rfl, rfl⟩
    go_wp2_with fail
    go_ret2
    exact ⟨by rw [H.out]; rfl, rfl⟩
  · obtain rfl : hi = 0 := by omega
    clear h0
    simp only [Nat.zero_mul, Nat.zero_add] at hA hB
    have d64 : IntKind.u64.wrap (-(lo : Int)) = ((18446744073709551616 - lo) % 18446744073709551616 : Nat) := by rw [IntKind.wrap_u64]; omega
    obtain ⟨m, hm⟩ : ∃ m, (18446744073709551616 - lo) % 18446744073709551616 = m := ⟨_, rfl⟩
    rw [hm] at d64
    have hmb : m < 18446744073709551616 := by omega
    have m64 : lo ≤ 9223372036854775808 → IntKind.i64.wrap (m : Int) = -(lo : Int) := fun h => by rw [IntKind.wrap_i64]; omega
    have M64 : Hid (lo ≤ 9223372036854775808 → IntKind.i64.wrap (m : Int) = -(lo : Int) ∧ wrap64 (m : Int) = -(lo : Int)) := fun h => ⟨m64 h, by have := m64 h; rw [IntKind.wrap_i64] at this; unfold wrap64; exact this⟩
    clear hm m64
    by_cases sa : a < 0 <;> by_cases sb : b < 0
    · have da : decide (a < 0) = true := decide_eq_true sa
      have db : decide (b < 0) = true := decide_eq_true sb
      have hP := hA (by omega)
      clear hA hB
      by_cases hl : 9223372036854775808 < lo
      · have H := Lib.hid (told_no (n := a * b) (by unfold Fits; rw [hP]; omega))
        clear hP
        have dl : decide (9223372036854775808 < (lo : Int)) = true := decide_eq_true (by omega)
        go_enter Tryd.func144, Tryd.ntmps144
        go_wp2_with fail
        refine (n_far a _ ha').mono ?_
        rintro e w' ⟨rfl, rfl⟩
        go_wp2_with fail
        refine (n_far b _ hb').mono ?_
        rintro e w' ⟨rfl, rfl⟩
        go_wp2_with fail
        refine (HC.out _).mono ?_
        rintro e w' ⟨rfl, rfl⟩
        go_wp2_with fail
        go_ret2
        exact ⟨by rw [H.out]; rfl, rfl⟩
      · have dl : decide (9223372036854775808 < (lo : Int)) = false := decide_eq_false (by omega)
        by_cases he : lo = 9223372036854775808
        · have H := Lib.hid (told_no (n := a * b) (by unfold Fits; rw [hP]; omega))
          have dk : ((lo : Int) == 9223372036854775808) = true := by simp; omega
          clear he hP
          go_enter Tryd.func144, Tryd.ntmps144
          go_wp2_with fail
          refine (n_far a _ ha').mono ?_
          rintro e w' ⟨rfl, rfl⟩
          go_wp2_with fail
          refine (n_far b _ hb').mono ?_
          rintro e w' ⟨rfl, rfl⟩
          go_wp2_with fail
          refine (HC.out _).mono ?_
          rintro e w' ⟨rfl, rfl⟩
          go_wp2_with fail
          go_ret2
          exact ⟨by rw [H.out]; rfl, rfl⟩
        · have H := Lib.hid (told_yes (n := a * b) (by unfold Fits; rw [hP]; omega))
          rw [hP] at H
          have hq := Lib.hid hP
          have dk : ((lo : Int) == 9223372036854775808) = false := by simp; omega
          have m1 : lo ≤ 9223372036854775807 := by omega
          clear he hP
          go_enter Tryd.func144, Tryd.ntmps144
          go_wp2_with fail
          refine (n_far a _ ha').mono ?_
          rintro e w' ⟨rfl, rfl⟩
          go_wp2_with fail
          refine (n_far b _ hb').mono ?_
          rintro e w' ⟨rfl, rfl⟩
          go_wp2_with fail
          refine (HC.out _).mono ?_
          rintro e w' ⟨rfl, rfl⟩
          go_wp2_with fail
          go_ret2
          exact ⟨by rw [hq.out, H.out]; rfl, rfl⟩
    · have da : decide (a < 0) = true := decide_eq_true sa
      have db : decide (b < 0) = false := decide_eq_false sb
      have hP := hB (by omega)
      clear hA hB
      by_cases hl : 9223372036854775808 < lo
      · have H := Lib.hid (told_no (n := a * b) (by unfold Fits; rw [hP]; omega))
        clear hP
        have dl : decide (9223372036854775808 < (lo : Int)) = true := decide_eq_true (by omega)
        go_enter Tryd.func144, Tryd.ntmps144
        go_wp2_with fail
        refine (n_far a _ ha').mono ?_
        rintro e w' ⟨rfl, rfl⟩
        go_wp2_with fail
        refine (n_far b _ hb').mono ?_
        rintro e w' ⟨rfl, rfl⟩
        go_wp2_with fail
        refine (HC.out _).mono ?_
        rintro e w' ⟨rfl, rfl⟩
        go_wp2_with fail
        go_ret2
        exact ⟨by rw [H.out]; rfl, rfl⟩
      · have H := Lib.hid (told_yes (n := a * b) (by unfold Fits; rw [hP]; omega))
        rw [hP] at H
        have hq := Lib.hid hP
        obtain ⟨m1, m2⟩ := M64.out (by omega)
        clear hP
        have dl : decide (9223372036854775808 < (lo : Int)) = false := decide_eq_false (by omega)
        by_cases he : lo = 9223372036854775808
        · have dk : ((lo : Int) == 9223372036854775808) = true := by simp; omega
          clear he
          go_enter Tryd.func144, Tryd.ntmps144
          go_wp2_with fail
          refine (n_far a _ ha').mono ?_
          rintro e w' ⟨rfl, rfl⟩
          go_wp2_with fail
          refine (n_far b _ hb').mono ?_
          rintro e w' ⟨rfl, rfl⟩
          go_wp2_with fail
          refine (HC.out _).mono ?_
          rintro e w' ⟨rfl, rfl⟩
          go_wp2_with fail
          go_ret2
          exact ⟨by rw [hq.out, H.out]; rfl, rfl⟩
        · have dk : ((lo : Int) == 9223372036854775808) = false := by simp; omega
          go_enter Tryd.func144, Tryd.ntmps144
          go_wp2_with fail
          refine (n_far a _ ha').mono ?_
          rintro e w' ⟨rfl, rfl⟩
          go_wp2_with fail
          refine (n_far b _ hb').mono ?_
          rintro e w' ⟨rfl, rfl⟩
          go_wp2_with fail
          refine (HC.out _).mono ?_
          rintro e w' ⟨rfl, rfl⟩
          go_wp2_with fail
          go_ret2
          exact ⟨by rw [hq.out, H.out]; rfl, rfl⟩
    · have da : decide (a < 0) = false := decide_eq_false sa
      have db : decide (b < 0) = true := decide_eq_true sb
      have hP := hB (by omega)
      clear hA hB
      by_cases hl : 9223372036854775808 < lo
      · have H := Lib.hid (told_no (n := a * b) (by unfold Fits; rw [hP]; omega))
        clear hP
        have dl : decide (9223372036854775808 < (lo : Int)) = true := decide_eq_true (by omega)
        go_enter Tryd.func144, Tryd.ntmps144
        go_wp2_with fail
        refine (n_far a _ ha').mono ?_
        rintro e w' ⟨rfl, rfl⟩
        go_wp2_with fail
        refine (n_far b _ hb').mono ?_
        rintro e w' ⟨rfl, rfl⟩
        go_wp2_with fail
        refine (HC.out _).mono ?_
        rintro e w' ⟨rfl, rfl⟩
        go_wp2_with fail
        go_ret2
        exact ⟨by rw [H.out]; rfl, rfl⟩
      · have H := Lib.hid (told_yes (n := a * b) (by unfold Fits; rw [hP]; omega))
        rw [hP] at H
        have hq := Lib.hid hP
        obtain ⟨m1, m2⟩ := M64.out (by omega)
        clear hP
        have dl : decide (9223372036854775808 < (lo : Int)) = false := decide_eq_false (by omega)
        by_cases he : lo = 9223372036854775808
        · have dk : ((lo : Int) == 9223372036854775808) = true := by simp; omega
          clear he
          go_enter Tryd.func144, Tryd.ntmps144
          go_wp2_with fail
          refine (n_far a _ ha').mono ?_
          rintro e w' ⟨rfl, rfl⟩
          go_wp2_with fail
          refine (n_far b _ hb').mono ?_
          rintro e w' ⟨rfl, rfl⟩
          go_wp2_with fail
          refine (HC.out _).mono ?_
          rintro e w' ⟨rfl, rfl⟩
          go_wp2_with fail
          go_ret2
          exact ⟨by rw [hq.out, H.out]; rfl, rfl⟩
        · have dk : ((lo : Int) == 9223372036854775808) = false := by simp; omega
          go_enter Tryd.func144, Tryd.ntmps144
          go_wp2_with fail
          refine (n_far a _ ha').mono ?_
          rintro e w' ⟨rfl, rfl⟩
          go_wp2_with fail
          refine (n_far b _ hb').mono ?_
          rintro e w' ⟨rfl, rfl⟩
          go_wp2_with fail
          refine (HC.out _).mono ?_
          rintro e w' ⟨rfl, rfl⟩
          go_wp2_with fail
          go_ret2
          exact ⟨by rw [hq.out, H.out]; rfl, rfl⟩
    · have da : decide (a < 0) = false := decide_eq_false sa
      have db : decide (b < 0) = false := decide_eq_false sb
      have hP := hA (by omega)
      clear hA hB
      by_cases hl : 9223372036854775808 < lo
      · have H := Lib.hid (told_no (n := a * b) (by unfold Fits; rw [hP]; omega))
        clear hP
        have dl : decide (9223372036854775808 < (lo : Int)) = true := decide_eq_true (by omega)
        go_enter Tryd.func144, Tryd.ntmps144
        go_wp2_with fail
        refine (n_far a _ ha').mono ?_
        rintro e w' ⟨rfl, rfl⟩
        go_wp2_with fail
        refine (n_far b _ hb').mono ?_
        rintro e w' ⟨rfl, rfl⟩
        go_wp2_with fail
        refine (HC.out _).mono ?_
        rintro e w' ⟨rfl, rfl⟩
        go_wp2_with fail
        go_ret2
        exact ⟨by rw [H.out]; rfl, rfl⟩
      · have dl : decide (9223372036854775808 < (lo : Int)) = false := decide_eq_false (by omega)
        by_cases he : lo = 9223372036854775808
        · have H := Lib.hid (told_no (n := a * b) (by unfold Fits; rw [hP]; omega))
          have dk : ((lo : Int) == 9223372036854775808) = true := by simp; omega
          clear he hP
          go_enter Tryd.func144, Tryd.ntmps144
          go_wp2_with fail
          refine (n_far a _ ha').mono ?_
          rintro e w' ⟨rfl, rfl⟩
          go_wp2_with fail
          refine (n_far b _ hb').mono ?_
          rintro e w' ⟨rfl, rfl⟩
          go_wp2_with fail
          refine (HC.out _).mono ?_
          rintro e w' ⟨rfl, rfl⟩
          go_wp2_with fail
          go_ret2
          exact ⟨by rw [H.out]; rfl, rfl⟩
        · have H := Lib.hid (told_yes (n := a * b) (by unfold Fits; rw [hP]; omega))
          rw [hP] at H
          have hq := Lib.hid hP
          have dk : ((lo : Int) == 9223372036854775808) = false := by simp; omega
          have m1 : lo ≤ 9223372036854775807 := by omega
          clear he hP
          go_enter Tryd.func144, Tryd.ntmps144
          go_wp2_with fail
          refine (n_far a _ ha').mono ?_
          rintro e w' ⟨rfl, rfl⟩
          go_wp2_with fail
          refine (n_far b _ hb').mono ?_
          rintro e w' ⟨rfl, rfl⟩
          go_wp2_with fail
          refine (HC.out _).mono ?_
          rintro e w' ⟨rfl, rfl⟩
          go_wp2_with fail
          go_ret2
          exact ⟨by rw [hq.out, H.out]; rfl, rfl⟩
end Go.Proofs.YteccmgkfmeoekaaDoor

set_option linter.unusedVariables false
set_option linter.unusedSimpArgs false
namespace Go.Proofs.YteccmgkfmeoekaaDoor
open Go.RowKit Nt Nt.Num
theorem hasPrefix_minus (l : List UInt8) : Lib.hasPrefix l [45] = minus l := by
  unfold Lib.hasPrefix minus
  cases l with
  | nil => rfl
  | cons c l =>
    simp only [List.isPrefixOf, Bool.and_true]
    rw [Bool.eq_iff_iff, beq_iff_eq, beq_iff_eq]
    exact ⟨Eq.symm, Eq.symm⟩
theorem n_cutPrefix (s : ByteArray) (w : World) :
    Calls Tryd.prog 140 #[.string s, .string ⟨#[45]⟩] w fun e w' => e = .returned (.tuple #[.string (bs (bare s.data.toList)), .bool (minus s.data.toList)]) ∧ w' = w := by
  have := Tryd.strings_CutPrefix s ⟨#[45]⟩ w
  have e1 : Lib.hasPrefix s.data.toList [45] = minus s.data.toList := hasPrefix_minus _
  have e2 : Lib.trimPrefix s.data.toList [45] = bare s.data.toList := by unfold Lib.trimPrefix bare; rw [e1]; rfl
  rw [show (⟨#[45]⟩ : ByteArray).data.toList = [45] from rfl, e1, e2] at this
  exact this
theorem n_trim (s : ByteArray) (w : World) (hs : s.size ≤ maxLen) :
    Calls Tryd.prog 125 #[.string s, .string ⟨#[48, 49, 50, 51, 52, 53, 54, 55, 56, 57]⟩] w fun e w' => e = .returned (.string (bs (Lib.trimS s.data.toList [48, 49, 50, 51, 52, 53, 54, 55, 56, 57]))) ∧ Below w.heap.size w w' :=
  Tryd.strings_Trim s ⟨#[48, 49, 50, 51, 52, 53, 54, 55, 56, 57]⟩ w (by unfold maxLen at hs; omega) (by decide) (ascii_of_all (by decide))
theorem bare_len (l : List UInt8) : (bare l).length ≤ l.length := by unfold bare; split <;> simp
set_option maxRecDepth 100000 in
set_option maxHeartbeats 1000000 in
theorem n_cut (s : ByteArray) (w : World) (hs : s.size ≤ maxLen) :
    Calls Tryd.prog 143 #[.string s] w fun e w' => e = .returned (.tuple #[.bool (minus s.data.toList), .string (bs (bare s.data.toList)), .bool (good s.data.toList)]) ∧ Below w.heap.size w w' := by
  have hgood : good s.data.toList = ((bare s.data.toList).all isDigit && !(bare s.data.toList).isEmpty && (!((bare s.data.toList).getD 0 0 == 48) || (decide ((bare s.data.toList).length = 1) && !minus s.data.toList))) := rfl
  have hlen : (bare s.data.toList).length ≤ s.size := by have := bare_len s.data.toList; simpa using this
  have C : Hid (∀ w, Calls Tryd.prog 140 #[.string s, .string ⟨#[45]⟩] w fun e w' => e = .returned (.tuple #[.string (bs (bare s.data.toList)), .bool (minus s.data.toList)]) ∧ w' = w) := n_cutPrefix s
  generalize good s.data.toList = G at *
  generalize minus s.data.toList = M at *
  obtain ⟨D, hD⟩ : ∃ D, D = bs (bare s.data.toList) := ⟨_, rfl⟩
  have hDl : D.data.toList = bare s.data.toList := by rw [hD]; rfl
  rw [← hD] at C
  rw [← hDl] at hgood hlen
  have hDs : D.size ≤ s.size := by simpa using hlen
  have hDm : D.size ≤ maxLen := by omega
  have HD := Lib.hid hD
  have T : Hid (∀ w, Calls Tryd.prog 125 #[.string D, .string ⟨#[48, 49, 50, 51, 52, 53, 54, 55, 56, 57]⟩] w fun e w' => e = .returned (.string (bs (Lib.trimS D.data.toList [48, 49, 50, 51, 52, 53, 54, 55, 56, 57]))) ∧ Below w.heap.size w w') := fun w => n_trim D w hDm
  have htr := trim_digits D.data.toList
  have hts : (bs (Lib.trimS D.data.toList [48, 49, 50, 51, 52, 53, 54, 55, 56, 57])).size = (Lib.trimS D.data.toList [48, 49, 50, 51, 52, 53, 54, 55, 56, 57]).length := bs_size _
  obtain ⟨Z, hZ⟩ : ∃ Z, Z = bs (Lib.trimS D.data.toList [48, 49, 50, 51, 52, 53, 54, 55, 56, 57]) := ⟨_, rfl⟩
  rw [← hZ] at T hts
  rw [← List.length_eq_zero_iff, ← hts] at htr
  have HGx := Lib.hid hgood
  have htr' := Lib.hid htr
  unfold maxLen at hs hDm
  rw [show bs (bare s.data.toList) = D from hD.symm]
  clear hD hDl hlen hgood htr hts hZ
  by_cases h0 : D.size = 0
  · have he := isEmpty_yes D h0
    have hG : Hid (G = false) := by
      have : D.data.toList = [] := by rw [← List.length_eq_zero_iff]; simpa using h0
      rw [HGx.out, this]; rfl
    clear h0
    go_enter Tryd.func143, Tryd.ntmps143
    go_wp2_with fail
    refine (C.out _).mono ?_
    rintro e w' ⟨rfl, rfl⟩
    go_wp2_with fail
    go_ret3
    exact ⟨by rw [hG.out]; rfl, Below.refl _ _⟩
  · have he := isEmpty_no D h0
    have hne : D.data.toList.isEmpty = false := by rw [← toList_eq]; exact he
    have hD0 : 0 < D.size := by omega
    by_cases hz : Z.size = 0
    · have hze := isEmpty_yes Z hz
      have hall := htr'.out.1 hz
      have hat : (D.data.toList.getD 0 0) = D[0] := at_get D 0 hD0
      by_cases h48 : D[0].toNat = 48
      · have k48 : ((D[0].toNat : Int) != 48) = false := by simp; omega
        have hb48 : (D.data.toList.getD 0 0 == 48) = true := by rw [hat, beq_iff_eq]; exact UInt8.toNat_inj.1 h48
        by_cases h1 : D.size = 1
        · have k1 : ((D.size : Int) == 1) = true := by simp [h1]
          have hG := Lib.hid (show G = !M by rw [HGx.out, hall, hne, hb48]; simp [h1])
          clear h48 h1 hz h0 hat hb48 hall hne
          go_enter Tryd.func143, Tryd.ntmps143
          go_wp2_with fail
          refine (C.out _).mono ?_
          rintro e w' ⟨rfl, rfl⟩
          go_wp2_with fail
          refine (T.out _).mono ?_
          rintro e w1 ⟨rfl, hB⟩
          go_wp2_with fail
          go_ret3
          exact ⟨by rw [hG.out]; rfl, hB⟩
        · have k1 : ((D.size : Int) == 1) = false := by simp; omega
          have hG := Lib.hid (show G = false by rw [HGx.out, hall, hne, hb48]; simp [h1])
          clear h48 h1 hz h0 hat hb48 hall hne
          go_enter Tryd.func143, Tryd.ntmps143
          go_wp2_with fail
          refine (C.out _).mono ?_
          rintro e w' ⟨rfl, rfl⟩
          go_wp2_with fail
          refine (T.out _).mono ?_
          rintro e w1 ⟨rfl, hB⟩
          go_wp2_with fail
          go_ret3
          exact ⟨by rw [hG.out]; rfl, hB⟩
      · have k48 : ((D[0].toNat : Int) != 48) = true := by simp; omega
        have hb48 : (D.data.toList.getD 0 0 == 48) = false := by rw [hat, beq_eq_false_iff_ne]; exact fun e => h48 (by rw [e]; rfl)
        have hG : Hid (G = true) := by rw [HGx.out, hall, hne, hb48]; rfl
        clear h48 hz h0 hat hb48 hall hne
        go_enter Tryd.func143, Tryd.ntmps143
        go_wp2_with fail
        refine (C.out _).mono ?_
        rintro e w' ⟨rfl, rfl⟩
        go_wp2_with fail
        refine (T.out _).mono ?_
        rintro e w1 ⟨rfl, hB⟩
        go_wp2_with fail
        go_ret3
        exact ⟨by rw [hG.out]; rfl, hB⟩
    · have hze := isEmpty_no Z hz
      have hG : Hid (G = false) := by
        rw [HGx.out]
        cases ha : D.data.toList.all isDigit with
        | false => rfl
        | true => exact absurd (htr'.out.2 ha) hz
      clear hz h0 hne
      go_enter Tryd.func143, Tryd.ntmps143
      go_wp2_with fail
      refine (C.out _).mono ?_
      rintro e w' ⟨rfl, rfl⟩
      go_wp2_with fail
      refine (T.out _).mono ?_
      rintro e w1 ⟨rfl, hB⟩
      go_wp2_with fail
      go_ret3
      exact ⟨by rw [hG.out]; rfl, hB⟩
end Go.Proofs.YteccmgkfmeoekaaDoor

set_option linter.unusedVariables false
set_option linter.unusedSimpArgs false
namespace Nt
open Go Go.RowKit
theorem run_bytes {P : Program} (w : World) (src dst e : TypeId) (s : ByteArray) (hs : P.underlying src = some .string) (hd : P.underlying dst = some (.slice e)) (he : P.underlying e = some (.int .u8)) :
    ∃ cap w2, (convert src dst (.string s)).run P w = .ok (.slice (some ⟨w.heap.size, 0, none⟩) s.size cap) w2 ∧ Below w.heap.size w w2 ∧ w.heap.size < w2.heap.size ∧ ∀ i (h : i < s.size), w2.cell? ⟨w.heap.size, i, none⟩ = some (.int .u8 (s[i].toNat : Int)) := by
  refine ⟨_, _, run_bytes_of_string w src dst e s hs hd he, (Below.refl _ _).drew.alloc (Nat.le_refl _) _, by simp, fun i h => ?_⟩
  have hn : (w.drew.alloc (.cells (bytesRow s (grownCap w s.size 0 e)) e ((bytesRow s (grownCap w s.size 0 e)).size, (bytesRow s (grownCap w s.size 0 e)).size + 1))).heap[w.heap.size]? = some (.cells (bytesRow s (grownCap w s.size 0 e)) e ((bytesRow s (grownCap w s.size 0 e)).size, (bytesRow s (grownCap w s.size 0 e)).size + 1)) := heap_alloc_new w.drew _
  unfold World.cell?
  simp only [hn]
  unfold bytesRow
  have h' : i < (s.data.map fun b => Value.int .u8 (b.toNat : Int)).size := by simpa using h
  simp only [Option.isSome_none, Bool.false_eq_true, if_false]
  rw [Array.getElem?_append_left h', Array.getElem?_map, Array.getElem?_eq_getElem (by simpa using h)]
  rfl
end Nt

set_option linter.unusedVariables false
set_option linter.unusedSimpArgs false
namespace Go.Proofs.YteccmgkfmeoekaaDoor
open Go.RowKit Nt Nt.Num
theorem n_mul' (a b r c : Int) (hr : told (a * b) = (r, c)) (w : World) (ha : Fits a) (hb : Fits b) :
    Calls Tryd.prog 144 #[.int .i64 a, .int .i64 b] w fun e w' => e = .returned (.tuple #[.int .i64 r, .int .i64 c]) ∧ w' = w := by
  have := n_mul a b w ha hb
  rw [hr] at this
  exact this
theorem n_add' (a b r c : Int) (hr : told (a + b) = (r, c)) (w : World) (ha : Fits a) (hb : Fits b) :
    Calls Tryd.prog 145 #[.int .i64 a, .int .i64 b] w fun e w' => e = .returned (.tuple #[.int .i64 r, .int .i64 c]) ∧ w' = w := by
  have := n_add a b w ha hb
  rw [hr] at this
  exact this
set_option maxRecDepth 100000 in
set_option maxHeartbeats 2000000 in
theorem n_read (s : ByteArray) (w : World) (hs : s.size ≤ maxLen) :
    Calls Tryd.prog 118 #[.string s] w fun e w' => e = .returned (.tuple #[.int .i64 (read s.data.toList).1, .int .i64 (read s.data.toList).2]) ∧ Below w.heap.size w w' := by
  have C := n_cut s w hs
  have hlen : (bare s.data.toList).length ≤ s.size := by have := bare_len s.data.toList; simpa using this
  have hread : read s.data.toList = if good s.data.toList then told (signed (minus s.data.toList) (val (bare s.data.toList))) else (0, 2) := rfl
  have hgood : good s.data.toList = true → (bare s.data.toList).all isDigit = true := fun h => by unfold good at h; simp only [Bool.and_eq_true] at h; exact h.1.1
  generalize read s.data.toList = R at *
  generalize good s.data.toList = G at *
  generalize minus s.data.toList = M at *
  obtain ⟨d, hd⟩ : ∃ d, d = bare s.data.toList := ⟨_, rfl⟩
  rw [← hd] at C hlen hread hgood
  clear hd
  obtain ⟨D, hD⟩ : ∃ D, D = bs d := ⟨_, rfl⟩
  rw [← hD] at C
  have hDd : D.data.toList = d := by rw [hD]; rfl
  have hDs : D.size = d.length := by rw [← hDd]; simp
  have HC := Lib.hid C
  clear C hD
  cases G with
  | false =>
    have H : Hid (R = (0, 2)) := hread
    clear hread hgood
    go_enter Tryd.func118, Tryd.ntmps118
    go_wp2_with fail
    refine HC.out.mono ?_
    rintro e w1 ⟨rfl, hB⟩
    go_wp2_with fail
    go_ret2
    exact ⟨by rw [H.out]; rfl, hB⟩
  | true =>
    have hall := Lib.hid (hgood rfl)
    have HR : Hid (R = told (signed M (val d))) := hread
    have HDs := Lib.hid hDs
    have hDl : D.size ≤ s.size := by omega
    have HDd := Lib.hid hDd
    unfold maxLen at hs
    clear hread hgood hDs hDd hlen
    go_enter Tryd.func118, Tryd.ntmps118
    go_wp2_with fail
    refine HC.out.mono ?_
    clear HC
    rintro e w1 ⟨rfl, hB⟩
    obtain ⟨cap, w2, hcv, hB2, hg2, hcell⟩ := run_bytes (P := Tryd.prog) w1 9 79 5 D Tryd.underlying9 Tryd.underlying79 Tryd.underlying5
    have hB' := hB.trans (hB2.mono hB.size)
    obtain ⟨g, hg⟩ : ∃ g, g = w1.heap.size := ⟨_, rfl⟩
    rw [← hg] at hcv hcell
    have Hcell := Lib.hid hcell
    clear hcell hg hB2 hg2 hB
    go_wp2_with fail
    go_loop [7, 24] (fun a i => ∃ k : Nat, k ≤ D.size ∧ i = .int .i64 (k : Int) ∧ a = .int .i64 (signed M (val (d.take k))) ∧ Hid (Fits (signed M (val (d.take k))))) (fun _ i => D.size - (intOf i).toNat)
    case atStart => exact ⟨0, by omega, rfl, by simp [val, signed], by show Fits _; simp [val, signed]; decide⟩
    case round =>
      obtain ⟨k, hk, rfl, rfl, hfit⟩ := hrel
      by_cases hlt : k < D.size
      · have hkd : k < d.length := by rw [← HDs.out]; exact hlt
        have hck := Hcell.out k hlt
        have hat : D[k] = d.getD k 0 := by rw [← HDd.out]; exact (at_get D k hlt).symm
        have hdig := List.all_eq_true.1 hall.out (d.getD k 0) (by rw [List.getD_eq_getElem?_getD, List.getElem?_eq_getElem hkd]; exact List.getElem_mem _)
        simp only [isDigit, Bool.and_eq_true, decide_eq_true_eq] at hdig
        have hstep := signed_step M d k hkd hall.out
        have hlost : ¬ Fits (signed M (val (d.take (k + 1)))) → ¬ Fits (signed M (val d)) := signed_lost M _ _ (val_le d (k + 1))
        rw [hat] at hck
        obtain ⟨c, hc⟩ : ∃ c : Nat, c = (d.getD k 0).toNat := ⟨_, rfl⟩
        rw [← hc] at hck hdig hstep
        obtain ⟨c1, c2⟩ := hdig
        obtain ⟨acc, hacc⟩ : ∃ acc, acc = signed M (val (d.take k)) := ⟨_, rfl⟩
        obtain ⟨nxt, hnxt⟩ : ∃ nxt, nxt = signed M (val (d.take (k + 1))) := ⟨_, rfl⟩
        have hsg : (M = false → 0 ≤ acc) ∧ (M = true → acc ≤ 0) := by rw [hacc]; unfold signed; cases M <;> simp
        rw [← hacc] at hfit hstep ⊢
        rw [← hnxt] at hstep hlost
        have HNX := Lib.hid hnxt
        have Hlost := Lib.hid hlost
        clear hat hc hacc hnxt hlost
        by_cases hm : Fits (acc * 10)
        · clear hsg
          have E1 := told_yes hm
          have M1 := Lib.hid (n_mul' acc 10 _ _ E1 w2 hfit.out (by decide))
          clear E1
          by_cases hn : Fits nxt
          · have E2 := told_yes hn
            cases M
            · have hs2 : nxt = acc * 10 + ((c : Int) - 48) := by simpa using hstep
              rw [hs2] at E2
              have A1 := Lib.hid (n_add' (acc * 10) ((c : Int) - 48) _ _ E2 w2 hm (by unfold Fits; omega))
              have HS := Lib.hid hs2
              have HN := Lib.hid hn
              clear E2 hstep hs2 hm hn
              go_wp2_with fail
              refine M1.out.mono ?_
              rintro e w' ⟨rfl, rfl⟩
              go_wp2_with fail
              refine A1.out.mono ?_
              rintro e w' ⟨rfl, rfl⟩
              go_wp2_with fail
              go_round
              case rel => exact ⟨k + 1, by omega, by go_num, by rw [← HNX.out, HS.out], by rw [← HNX.out]; exact HN.out⟩
              case measure => simp [intOf]; omega
            · have hs2 : nxt = acc * 10 + -((c : Int) - 48) := by simpa using hstep
              rw [hs2] at E2
              have A1 := Lib.hid (n_add' (acc * 10) (-((c : Int) - 48)) _ _ E2 w2 hm (by unfold Fits; omega))
              have HS := Lib.hid hs2
              have HN := Lib.hid hn
              clear E2 hstep hs2 hm hn
              go_wp2_with fail
              refine M1.out.mono ?_
              rintro e w' ⟨rfl, rfl⟩
              go_wp2_with fail
              refine A1.out.mono ?_
              rintro e w' ⟨rfl, rfl⟩
              go_wp2_with fail
              go_round
              case rel => exact ⟨k + 1, by omega, by go_num, by rw [← HNX.out, HS.out], by rw [← HNX.out]; exact HN.out⟩
              case measure => simp [intOf]; omega
          · have E2 := told_no hn
            have HF := Lib.hid (told_no (Hlost.out hn))
            cases M
            · have hs2 : nxt = acc * 10 + ((c : Int) - 48) := by simpa using hstep
              rw [hs2] at E2
              have A1 := Lib.hid (n_add' (acc * 10) ((c : Int) - 48) _ _ E2 w2 hm (by unfold Fits; omega))
              clear E2 hstep hs2 hm hn
              go_wp2_with fail
              refine M1.out.mono ?_
              rintro e w' ⟨rfl, rfl⟩
              go_wp2_with fail
              refine A1.out.mono ?_
              rintro e w' ⟨rfl, rfl⟩
              go_wp2_with fail
              go_ret2
              exact ⟨by rw [HR.out, HF.out]; rfl, hB'⟩
            · have hs2 : nxt = acc * 10 + -((c : Int) - 48) := by simpa using hstep
              rw [hs2] at E2
              have A1 := Lib.hid (n_add' (acc * 10) (-((c : Int) - 48)) _ _ E2 w2 hm (by unfold Fits; omega))
              clear E2 hstep hs2 hm hn
              go_wp2_with fail
              refine M1.out.mono ?_
              rintro e w' ⟨rfl, rfl⟩
              go_wp2_with fail
              refine A1.out.mono ?_
              rintro e w' ⟨rfl, rfl⟩
              go_wp2_with fail
              go_ret2
              exact ⟨by rw [HR.out, HF.out]; rfl, hB'⟩
        · have M1 := Lib.hid (n_mul' acc 10 _ _ (told_no hm) w2 hfit.out (by decide))
          have hn : ¬ Fits nxt := by
            have hf := hfit.out
            intro hn
            apply hm
            unfold Fits at hn hf ⊢
            cases M
            · have h1 := hsg.1 rfl
              have h2 : nxt = acc * 10 + ((c : Int) - 48) := by simpa using hstep
              omega
            · have h1 := hsg.2 rfl
              have h2 : nxt = acc * 10 + -((c : Int) - 48) := by simpa using hstep
              omega
          have HF := Lib.hid (told_no (Hlost.out hn))
          clear hstep hm hn hsg
          cases M
          · have A1 := Lib.hid (n_add' 0 ((c : Int) - 48) _ _ (told_yes (by unfold Fits; omega)) w2 (by decide) (by unfold Fits; omega))
            go_wp2_with fail
            refine M1.out.mono ?_
            rintro e w' ⟨rfl, rfl⟩
            go_wp2_with fail
            refine A1.out.mono ?_
            rintro e w' ⟨rfl, rfl⟩
            go_wp2_with fail
            go_ret2
            exact ⟨by rw [HR.out, HF.out]; rfl, hB'⟩
          · have A1 := Lib.hid (n_add' 0 (-((c : Int) - 48)) _ _ (told_yes (by unfold Fits; omega)) w2 (by decide) (by unfold Fits; omega))
            go_wp2_with fail
            refine M1.out.mono ?_
            rintro e w' ⟨rfl, rfl⟩
            go_wp2_with fail
            refine A1.out.mono ?_
            rintro e w' ⟨rfl, rfl⟩
            go_wp2_with fail
            go_ret2
            exact ⟨by rw [HR.out, HF.out]; rfl, hB'⟩
      · obtain rfl : k = D.size := by omega
        have hfull : signed M (val (d.take D.size)) = signed M (val d) := by rw [HDs.out, List.take_length]
        rw [hfull] at hfit ⊢
        have HF := Lib.hid (told_yes hfit.out)
        clear hfull
        go_wp2_with fail
        go_ret2
        exact ⟨by rw [HR.out, HF.out]; rfl, hB'⟩
end Go.Proofs.YteccmgkfmeoekaaDoor

set_option linter.unusedVariables false
set_option linter.unusedSimpArgs false
namespace Go.Proofs.YteccmgkfmeoekaaDoor
open Go.RowKit Nt Nt.Num
end Go.Proofs.YteccmgkfmeoekaaDoor

set_option linter.unusedVariables false
set_option linter.unusedSimpArgs false
namespace Go.Proofs.YteccmgkfmeoekaaDoor
open Go.RowKit Nt Nt.Num
end Go.Proofs.YteccmgkfmeoekaaDoor

set_option linter.unusedVariables false
set_option linter.unusedSimpArgs false
namespace Go.Proofs.YteccmgkfmeoekaaDoor
open Go.RowKit Nt Nt.Num
end Go.Proofs.YteccmgkfmeoekaaDoor

set_option linter.unusedVariables false
set_option linter.unusedSimpArgs false
namespace Nt.Ev.YteccmgkfmeoekaaDoor
open Go Go.RowKit Nt Nt.Num Go.Proofs.YteccmgkfmeoekaaDoor
def nrI (s : List UInt8) : Int := (Num.read s).1
def nrW (s : List UInt8) : Int := (Num.read s).2
theorem ba_size (s : List UInt8) : (⟨s.toArray⟩ : ByteArray).size = s.length := by simp [ByteArray.size]
theorem ba_max {s : List UInt8} (h : s.length ≤ 1000) : (⟨s.toArray⟩ : ByteArray).size ≤ maxLen := by rw [ba_size]; unfold maxLen; omega
theorem nRead_c (s : List UInt8) (h : s.length ≤ 1000) : Contract nE 118 [.str s] (.tup [.int .i64 (nrI s), .int .i64 (nrW s)]) := by
  refine contract_old fun G w vs hG hg hp => ?_
  obtain ⟨x, rfl, hx⟩ := PW_one hp
  unfold rep at hx
  subst hx
  refine (n_read ⟨s.toArray⟩ w (ba_max h)).mono ?_
  rintro e w' ⟨rfl, hb⟩
  exact ⟨_, rfl, hb, res_two (same_int _ _) (same_int _ _)⟩
def idxB (s : List UInt8) (c : Int) : Int := Lib.indexByte s c.toNat.toUInt8
theorem idx_c (s : List UInt8) (c : Int) : Contract nE 58 [.str s, .int .u8 c] (.int .i64 (idxB s c)) := by
  refine contract_old fun G w vs hG hg hp => ?_
  obtain ⟨x, y, rfl, hx, hy⟩ := PW_two hp
  unfold rep at hx hy
  subst hx; subst hy
  refine (Go.Proofs.Tryd.strings_IndexByte ⟨s.toArray⟩ c w).mono ?_
  rintro e w' ⟨rfl, rfl⟩
  exact ⟨_, rfl, Below.refl _ _, res_int _ _⟩
end Nt.Ev.YteccmgkfmeoekaaDoor
