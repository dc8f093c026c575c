/-
  words.begins, words.Same and the reference's own: each tells what the plain law says. words.Match: it tells what the plain law says. The reference's Match: it tells what the plain law says. num and its reference, function by function: sums, products, what is left, quotients. num and its reference, function by function: sums, products, what is left, quotients, the rest. num.Mul and its reference: a product, if it fits. num.cut: a text's sign and digits. '[]byte(s)': a new row of the string's bytes. num.Read: the number of a text. The reference's Digits and Read. The reference's Read: the number of a text. The reference's Read of a text with a - ahead. Contracts of num.Read, of words.Match, and of the reference's, for the evaluator.
-/
import Derived.Test.YteccmgkfmeoekaaGreatDoorProg
import Derived.Test.YteccmgkfmeoekaaGreatDoorMC
import Derived.Test.YteccmgkfmeoekaaGreatDoorMS
import Derived.Laws.IdiomStrings
namespace Go.Proofs.YteccmgkfmeoekaaGreatDoor
open Go.RowKit Nt Nt.Words
end Go.Proofs.YteccmgkfmeoekaaGreatDoor

namespace Go.Proofs.YteccmgkfmeoekaaGreatDoor
open Go.RowKit Nt Nt.Words
end Go.Proofs.YteccmgkfmeoekaaGreatDoor

namespace Go.Proofs.YteccmgkfmeoekaaGreatDoor
open Go.RowKit Nt Nt.Words
end Go.Proofs.YteccmgkfmeoekaaGreatDoor

set_option linter.unusedVariables false
set_option linter.unusedSimpArgs false
namespace Go.Proofs.YteccmgkfmeoekaaGreatDoor
open Go.RowKit Nt Nt.Num
set_option maxHeartbeats 400000 in
theorem n_add (a b : Int) (w : World) (ha : Fits a) (hb : Fits b) :
    Calls Tryz.prog 164 #[.int .i64 a, .int .i64 b] w fun e w' => e = .returned (.tuple #[.int .i64 (told (a + b)).1, .int .i64 (told (a + b)).2]) ∧ w' = w := by
  obtain ⟨a1, a2⟩ := ha
  obtain ⟨b1, b2⟩ := hb
  by_cases hf : Fits (a + b)
  · have H := Lib.hid (told_yes hf)
    obtain ⟨f1, f2⟩ := hf
    by_cases sa : a < 0 <;> by_cases sb : b < 0
    · have d : decide (a + b < 0) = true := decide_eq_true (by omega)
      go_enter Tryz.func164, Tryz.ntmps164
      go_wp2
      go_ret2
      exact ⟨by rw [H.out]; rfl, rfl⟩
    · have d : decide (b < 0) = false := decide_eq_false sb
      go_enter Tryz.func164, Tryz.ntmps164
      go_wp2
      go_ret2
      exact ⟨by rw [H.out]; rfl, rfl⟩
    · have d : decide (a < 0) = false := decide_eq_false sa
      go_enter Tryz.func164, Tryz.ntmps164
      go_wp2
      go_ret2
      exact ⟨by rw [H.out]; rfl, rfl⟩
    · have d1 : decide (a < 0) = false := decide_eq_false sa
      have d2 : decide (b < 0) = false := decide_eq_false sb
      have d : decide (a + b < 0) = false := decide_eq_false (by omega)
      go_enter Tryz.func164, Tryz.ntmps164
      go_wp2
      go_ret2
      exact ⟨by rw [H.out]; rfl, rfl⟩
  · have H := Lib.hid (told_no hf)
    by_cases sa : a < 0
    · have hw : 0 ≤ wrap64 (a + b) := wrap_under (by unfold Fits at hf; omega) (by omega)
      have d : decide (wrap64 (a + b) < 0) = false := decide_eq_false (by omega)
      have sb : b < 0 := by unfold Fits at hf; omega
      clear hf
      go_enter Tryz.func164, Tryz.ntmps164
      go_wp2
      go_ret2
      exact ⟨by rw [H.out]; rfl, rfl⟩
    · have hw : wrap64 (a + b) < 0 := wrap_over (by unfold Fits at hf; omega) (by omega)
      have d : decide (wrap64 (a + b) < 0) = true := decide_eq_true hw
      have sb : 0 ≤ b := by unfold Fits at hf; omega
      have d1 : decide (a < 0) = false := decide_eq_false sa
      have d2 : decide (b < 0) = false := decide_eq_false (by omega)
      clear hf
      go_enter Tryz.func164, Tryz.ntmps164
      go_wp2
      go_ret2
      exact ⟨by rw [H.out]; rfl, rfl⟩
end Go.Proofs.YteccmgkfmeoekaaGreatDoor

set_option linter.unusedVariables false
set_option linter.unusedSimpArgs false
namespace Go.Proofs.YteccmgkfmeoekaaGreatDoor
open Go.RowKit Nt Nt.Num
set_option maxHeartbeats 400000 in
theorem n_far (n : Int) (w : World) (ha : Fits n) :
    Calls Tryz.prog 132 #[.int .i64 n] w fun e w' => e = .returned (.int .u64 (n.natAbs : Int)) ∧ w' = w := by
  obtain ⟨a1, a2⟩ := ha
  by_cases s : n < 0
  · have h : IntKind.u64.wrap n = n + 18446744073709551616 := by rw [IntKind.wrap_u64]; omega
    have h2 : IntKind.u64.wrap (-(n + 18446744073709551616)) = -n := by rw [IntKind.wrap_u64]; omega
    go_enter Tryz.func132, Tryz.ntmps132
    go_wp2
    go_ret
    exact ⟨ret_int (by omega), rfl⟩
  · go_enter Tryz.func132, Tryz.ntmps132
    go_wp2
    go_ret
    exact ⟨ret_int (by omega), rfl⟩
set_option maxHeartbeats 400000 in
theorem r_div (a b : Int) (w : World) (ha : Fits a) (hb : Fits b) :
    Calls Tryz.prog 109 #[.int .i64 a, .int .i64 b] w fun e w' => e = .returned (.tuple #[.int .i64 (divs a b).1, .int .i64 (divs a b).2.1, .int .i64 (divs a b).2.2]) ∧ w' = w := by
  obtain ⟨a1, a2⟩ := ha
  obtain ⟨b1, b2⟩ := hb
  by_cases h0 : b = 0
  · subst h0
    go_enter Tryz.func109, Tryz.ntmps109
    go_wp2
    go_ret3
    exact ⟨rfl, rfl⟩
  · have k0 : (b == 0) = false := by simp [h0]
    by_cases hm : a = -9223372036854775808 ∧ b = -1
    · obtain ⟨rfl, rfl⟩ := hm
      go_enter Tryz.func109, Tryz.ntmps109
      go_wp2
      go_ret3
      exact ⟨rfl, rfl⟩
    · obtain ⟨q1, q2, r1, r2⟩ := div_bounds a b ⟨a1, a2⟩ ⟨b1, b2⟩ h0 hm
      have H := Lib.hid (divs_rest a b h0 hm)
      have X := Lib.hid (xor_neg (a.tmod b) b (by unfold Fits; omega) ⟨b1, b2⟩)
      have hlt := tmod_lt a b h0
      have hab : (a == -9223372036854775808) = false ∨ ((a == -9223372036854775808) = true ∧ (b == -1) = false) := by simp only [beq_eq_false_iff_ne, beq_iff_eq]; omega
      have hq : a.tdiv b - 1 < -9223372036854775808 → a.tmod b = 0 := fun h => by
        have e : a.tdiv b = -9223372036854775808 := by omega
        have h1 := Int.mul_tdiv_add_tmod a b
        have h2 := tdiv_abs a b
        have ha' : a = -9223372036854775808 := by
          have := Int.natAbs_tdiv a b
          omega
        have h3 : (a.tdiv b).natAbs = a.natAbs / b.natAbs := Int.natAbs_tdiv a b
        have hb1 : b.natAbs = 1 := by
          by_cases h4 : b.natAbs = 1
          · exact h4
          · have : a.natAbs / b.natAbs ≤ a.natAbs / 2 := Nat.div_le_div_left (by omega) (by omega)
            omega
        omega
      clear hm h0
      by_cases hr0 : a.tmod b = 0
      · have kr : (a.tmod b != 0) = false := by simp [hr0]
        have H2 := Lib.hid (show divs a b = (a.tdiv b, a.tmod b, 0) by rw [H.out, if_neg (by simp [hr0])])
        clear hr0 H X hq
        rcases hab with ka | ⟨ka, kb⟩
        all_goals
          go_enter Tryz.func109, Tryz.ntmps109
          go_wp2
          go_ret3
          exact ⟨by rw [H2.out]; rfl, rfl⟩
      · have kr : (a.tmod b != 0) = true := by simp [hr0]
        have q3 : -9223372036854775808 ≤ a.tdiv b - 1 := by
          by_cases h : a.tdiv b - 1 < -9223372036854775808
          · exact absurd (hq h) hr0
          · omega
        by_cases hs : a.tmod b < 0 ↔ b < 0
        · have H2 := Lib.hid (show divs a b = (a.tdiv b, a.tmod b, 0) by rw [H.out, if_neg (by simp [hs])])
          have d1 : decide (bits .xor .i64 (a.tmod b) b < 0) = false := decide_eq_false (by rw [X.out]; simp [hs])
          have d2 : (!decide (a.tmod b < 0) == decide (b < 0)) = false := by by_cases h2 : b < 0 <;> simp [hs, h2]
          clear hr0 H X hq hs
          rcases hab with ka | ⟨ka, kb⟩
          all_goals
            go_enter Tryz.func109, Tryz.ntmps109
            go_wp2
            go_ret3
            exact ⟨by rw [H2.out]; rfl, rfl⟩
        · have H2 := Lib.hid (show divs a b = (a.tdiv b - 1, a.tmod b + b, 0) by rw [H.out, if_pos ⟨hr0, hs⟩])
          have d1 : decide (bits .xor .i64 (a.tmod b) b < 0) = true := decide_eq_true (by rw [X.out]; exact hs)
          have d2 : (!decide (a.tmod b < 0) == decide (b < 0)) = true := by
            by_cases h1 : a.tmod b < 0 <;> by_cases h2 : b < 0 <;> simp_all
          have r3 : -9223372036854775808 ≤ a.tmod b + b := by omega
          have r4 : a.tmod b + b ≤ 9223372036854775807 := by omega
          clear hr0 H X hq hs
          rcases hab with ka | ⟨ka, kb⟩
          all_goals
            go_enter Tryz.func109, Tryz.ntmps109
            go_wp2
            go_ret3
            exact ⟨by rw [H2.out]; rfl, rfl⟩
set_option maxHeartbeats 400000 in
theorem n_div (a b : Int) (w : World) (ha : Fits a) (hb : Fits b) :
    Calls Tryz.prog 102 #[.int .i64 a, .int .i64 b] w fun e w' => e = .returned (.tuple #[.int .i64 (divs a b).1, .int .i64 (divs a b).2.1, .int .i64 (divs a b).2.2]) ∧ ∃ n, w' = w.drewN n := by
  obtain ⟨a1, a2⟩ := ha
  obtain ⟨b1, b2⟩ := hb
  by_cases h0 : b = 0
  · subst h0
    go_enter Tryz.func102, Tryz.ntmps102
    go_wp2
    go_ret3
    exact ⟨rfl, 0, rfl⟩
  · have k0 : (b == 0) = false := by simp [h0]
    by_cases hm : a = -9223372036854775808 ∧ b = -1
    · obtain ⟨rfl, rfl⟩ := hm
      go_enter Tryz.func102, Tryz.ntmps102
      go_wp2
      go_ret3
      exact ⟨rfl, 0, rfl⟩
    · obtain ⟨q1, q2, r1, r2⟩ := div_bounds a b ⟨a1, a2⟩ ⟨b1, b2⟩ h0 hm
      have H := Lib.hid (divs_rest a b h0 hm)
      have X := Lib.hid (xor_neg (a.tmod b) b (by unfold Fits; omega) ⟨b1, b2⟩)
      have hlt := tmod_lt a b h0
      have hab : (a == -9223372036854775808) = false ∨ ((a == -9223372036854775808) = true ∧ (b == -1) = false) := by simp only [beq_eq_false_iff_ne, beq_iff_eq]; omega
      have hq : a.tdiv b - 1 < -9223372036854775808 → a.tmod b = 0 := fun h => by
        have e : a.tdiv b = -9223372036854775808 := by omega
        have h1 := Int.mul_tdiv_add_tmod a b
        have h2 := tdiv_abs a b
        have ha' : a = -9223372036854775808 := by
          have := Int.natAbs_tdiv a b
          omega
        have h3 : (a.tdiv b).natAbs = a.natAbs / b.natAbs := Int.natAbs_tdiv a b
        have hb1 : b.natAbs = 1 := by
          by_cases h4 : b.natAbs = 1
          · exact h4
          · have : a.natAbs / b.natAbs ≤ a.natAbs / 2 := Nat.div_le_div_left (by omega) (by omega)
            omega
        omega
      clear hm h0
      by_cases hr0 : a.tmod b = 0
      · have kr : (a.tmod b != 0) = false := by simp [hr0]
        have H2 := Lib.hid (show divs a b = (a.tdiv b, a.tmod b, 0) by rw [H.out, if_neg (by simp [hr0])])
        clear hr0 H X hq
        rcases hab with ka | ⟨ka, kb⟩
        all_goals
          go_enter Tryz.func102, Tryz.ntmps102
          go_wp2
          go_quiet (fail)
          go_wp2
          go_ret3
          exact ⟨by rw [H2.out]; rfl, _, rfl⟩
      · have kr : (a.tmod b != 0) = true := by simp [hr0]
        have q3 : -9223372036854775808 ≤ a.tdiv b - 1 := by
          by_cases h : a.tdiv b - 1 < -9223372036854775808
          · exact absurd (hq h) hr0
          · omega
        by_cases hs : a.tmod b < 0 ↔ b < 0
        · have H2 := Lib.hid (show divs a b = (a.tdiv b, a.tmod b, 0) by rw [H.out, if_neg (by simp [hs])])
          have d1 : decide (bits .xor .i64 (a.tmod b) b < 0) = false := decide_eq_false (by rw [X.out]; simp [hs])
          have d2 : (!decide (a.tmod b < 0) == decide (b < 0)) = false := by by_cases h2 : b < 0 <;> simp [hs, h2]
          clear hr0 H X hq hs
          rcases hab with ka | ⟨ka, kb⟩
          all_goals
            go_enter Tryz.func102, Tryz.ntmps102
            go_wp2
            go_quiet (fail)
            go_wp2
            go_ret3
            exact ⟨by rw [H2.out]; rfl, _, rfl⟩
        · have H2 := Lib.hid (show divs a b = (a.tdiv b - 1, a.tmod b + b, 0) by rw [H.out, if_pos ⟨hr0, hs⟩])
          have d1 : decide (bits .xor .i64 (a.tmod b) b < 0) = true := decide_eq_true (by rw [X.out]; exact hs)
          have d2 : (!decide (a.tmod b < 0) == decide (b < 0)) = true := by
            by_cases h1 : a.tmod b < 0 <;> by_cases h2 : b < 0 <;> simp_all
          have r3 : -9223372036854775808 ≤ a.tmod b + b := by omega
          have r4 : a.tmod b + b ≤ 9223372036854775807 := by omega
          clear hr0 H X hq hs
          rcases hab with ka | ⟨ka, kb⟩
          all_goals
            go_enter Tryz.func102, Tryz.ntmps102
            go_wp2
            go_quiet (fail)
            go_wp2
            go_ret3
            exact ⟨by rw [H2.out]; rfl, _, rfl⟩
end Go.Proofs.YteccmgkfmeoekaaGreatDoor

set_option linter.unusedVariables false
set_option linter.unusedSimpArgs false
namespace Go.Proofs.YteccmgkfmeoekaaGreatDoor
open Go.RowKit Nt Nt.Num
theorem n_mul64 (x y hi lo : Nat) (h1 : x * y / 18446744073709551616 = hi) (h2 : x * y % 18446744073709551616 = lo) (hx : x < 18446744073709551616) (hy : y < 18446744073709551616) (w : World) :
    Calls Tryz.prog 191 #[.int .u64 x, .int .u64 y] w fun e w' => e = .returned (.tuple #[.int .u64 (hi : Int), .int .u64 (lo : Int)]) ∧ w' = w := by
  have := Tryz.bits_Mul64 x y hx hy w
  rw [h1, h2] at this
  exact this
set_option maxHeartbeats 1000000 in
theorem n_mul (a b : Int) (w : World) (ha : Fits a) (hb : Fits b) :
    Calls Tryz.prog 163 #[.int .i64 a, .int .i64 b] w fun e w' => e = .returned (.tuple #[.int .i64 (told (a * b)).1, .int .i64 (told (a * b)).2]) ∧ w' = w := by
  have ha' := ha
  have hb' := hb
  obtain ⟨a1, a2⟩ := ha
  obtain ⟨b1, b2⟩ := hb
  obtain ⟨hi, h1⟩ : ∃ hi, a.natAbs * b.natAbs / 18446744073709551616 = hi := ⟨_, rfl⟩
  obtain ⟨lo, h2⟩ : ∃ lo, a.natAbs * b.natAbs % 18446744073709551616 = lo := ⟨_, rfl⟩
  have hlo : lo < 18446744073709551616 := by omega
  have C := n_mul64 a.natAbs b.natAbs hi lo h1 h2 (by omega) (by omega)
  have hB := mul_below a b
  have hA := mul_above a b
  have hp : a.natAbs * b.natAbs = hi * 18446744073709551616 + lo := by omega
  rw [hp] at hA hB
  have HC : Hid (∀ w, Calls Tryz.prog 191 #[.int .u64 a.natAbs, .int .u64 b.natAbs] w fun e w' => e = .returned (.tuple #[.int .u64 (hi : Int), .int .u64 (lo : Int)]) ∧ w' = w) := C
  clear h1 h2 hp C
  by_cases h0 : 0 < hi
  · have H := Lib.hid (told_no (n := a * b) (by unfold Fits; by_cases hs : a < 0 ↔ b < 0; · rw [hA hs]; omega
                                                · rw [hB hs]; omega))
    clear hA hB
    go_enter Tryz.func163, Tryz.ntmps163
    go_wp2_with fail
    refine (n_far a _ ha').mono ?_
    rintro e w' ⟨rfl, rfl⟩
    go_wp2_with fail
    refine (n_far b _ hb').mono ?_
    rintro e w' ⟨rfl, rfl⟩
    go_wp2_with fail
    refine (HC.out _).mono ?_
    rintro e w' ⟨rfl, rfl⟩
    go_wp2_with fail
    go_ret2
    exact ⟨by rw [H.out]; rfl, rfl⟩
  · obtain rfl : hi = 0 := by omega
    clear h0
    simp only [Nat.zero_mul, Nat.zero_add] at hA hB
    have d64 : IntKind.u64.wrap (-(lo : Int)) = ((18446744073709551616 - lo) % 18446744073709551616 : Nat) := by rw [IntKind.wrap_u64]; omega
    obtain ⟨m, hm⟩ : ∃ m, (18446744073709551616 - lo) % 18446744073709551616 = m := ⟨_, rfl⟩
    rw [hm] at d64
    have hmb : m < 18446744073709551616 := by omega
    have m64 : lo ≤ 9223372036854775808 → IntKind.i64.wrap (m : Int) = -(lo : Int) := fun h => by rw [IntKind.wrap_i64]; omega
    have M64 : Hid (lo ≤ 9223372036854775808 → IntKind.i64.wrap (m : Int) = -(lo : Int) ∧ wrap64 (m : Int) = -(lo : Int)) := fun h => ⟨m64 h, by have := m64 h; rw [IntKind.wrap_i64] at this; unfold wrap64; exact this⟩
    clear hm m64
    by_cases sa : a < 0 <;> by_cases sb : b < 0
    · have da : decide (a < 0) = true := decide_eq_true sa
      have db : decide (b < 0) = true := decide_eq_true sb
      have hP := hA (by omega)
      clear hA hB
      by_cases hl : 9223372036854775808 < lo
      · have H := Lib.hid (told_no (n := a * b) (by unfold Fits; rw [hP]; omega))
        clear hP
        have dl : decide (9223372036854775808 < (lo : Int)) = true := decide_eq_true (by omega)
        go_enter Tryz.func163, Tryz.ntmps163
        go_wp2_with fail
        refine (n_far a _ ha').mono ?_
        rintro e w' ⟨rfl, rfl⟩
        go_wp2_with fail
        refine (n_far b _ hb').mono ?_
        rintro e w' ⟨rfl, rfl⟩
        go_wp2_with fail
        refine (HC.out _).mono ?_
        rintro e w' ⟨rfl, rfl⟩
        go_wp2_with fail
        go_ret2
        exact ⟨by rw [H.out]; rfl, rfl⟩
      · have dl : decide (9223372036854775808 < (lo : Int)) = false := decide_eq_false (by omega)
        by_cases he : lo = 9223372036854775808
        · have H := Lib.hid (told_no (n := a * b) (by unfold Fits; rw [hP]; omega))
          have dk : ((lo : Int) == 9223372036854775808) = true := by simp; omega
          clear he hP
          go_enter Tryz.func163, Tryz.ntmps163
          go_wp2_with fail
          refine (n_far a _ ha').mono ?_
          rintro e w' ⟨rfl, rfl⟩
          go_wp2_with fail
          refine (n_far b _ hb').mono ?_
          rintro e w' ⟨rfl, rfl⟩
          go_wp2_with fail
          refine (HC.out _).mono ?_
          rintro e w' ⟨rfl, rfl⟩
          go_wp2_with fail
          go_ret2
          exact ⟨by rw [H.out]; rfl, rfl⟩
        · have H := Lib.hid (told_yes (n := a * b) (by unfold Fits; rw [hP]; omega))
          rw [hP] at H
          have hq := Lib.hid hP
          have dk : ((lo : Int) == 9223372036854775808) = false := by simp; omega
          have m1 : lo ≤ 9223372036854775807 := by omega
          clear he hP
          go_enter Tryz.func163, Tryz.ntmps163
          go_wp2_with fail
          refine (n_far a _ ha').mono ?_
          rintro e w' ⟨rfl, rfl⟩
          go_wp2_with fail
          refine (n_far b _ hb').mono ?_
          rintro e w' ⟨rfl, rfl⟩
          go_wp2_with fail
          refine (HC.out _).mono ?_
          rintro e w' ⟨rfl, rfl⟩
          go_wp2_with fail
          go_ret2
          exact ⟨by rw [hq.out, H.out]; rfl, rfl⟩
    · have da : decide (a < 0) = true := decide_eq_true sa
      have db : decide (b < 0) = false := decide_eq_false sb
      have hP := hB (by omega)
      clear hA hB
      by_cases hl : 9223372036854775808 < lo
      · have H := Lib.hid (told_no (n := a * b) (by unfold Fits; rw [hP]; omega))
        clear hP
        have dl : decide (9223372036854775808 < (lo : Int)) = true := decide_eq_true (by omega)
        go_enter Tryz.func163, Tryz.ntmps163
        go_wp2_with fail
        refine (n_far a _ ha').mono ?_
        rintro e w' ⟨rfl, rfl⟩
        go_wp2_with fail
        refine (n_far b _ hb').mono ?_
        rintro e w' ⟨rfl, rfl⟩
        go_wp2_with fail
        refine (HC.out _).mono ?_
        rintro e w' ⟨rfl, rfl⟩
        go_wp2_with fail
        go_ret2
        exact ⟨by rw [H.out]; rfl, rfl⟩
      · have H := Lib.hid (told_yes (n := a * b) (by unfold Fits; rw [hP]; omega))
        rw [hP] at H
        have hq := Lib.hid hP
        obtain ⟨m1, m2⟩ := M64.out (by omega)
        clear hP
        have dl : decide (9223372036854775808 < (lo : Int)) = false := decide_eq_false (by omega)
        by_cases he : lo = 9223372036854775808
        · have dk : ((lo : Int) == 9223372036854775808) = true := by simp; omega
          clear he
          go_enter Tryz.func163, Tryz.ntmps163
          go_wp2_with fail
          refine (n_far a _ ha').mono ?_
          rintro e w' ⟨rfl, rfl⟩
          go_wp2_with fail
          refine (n_far b _ hb').mono ?_
          rintro e w' ⟨rfl, rfl⟩
          go_wp2_with fail
          refine (HC.out _).mono ?_
          rintro e w' ⟨rfl, rfl⟩
          go_wp2_with fail
          go_ret2
          exact ⟨by rw [hq.out, H.out]; rfl, rfl⟩
        · have dk : ((lo : Int) == 9223372036854775808) = false := by simp; omega
          go_enter Tryz.func163, Tryz.ntmps163
          go_wp2_with fail
          refine (n_far a _ ha').mono ?_
          rintro e w' ⟨rfl, rfl⟩
          go_wp2_with fail
          refine (n_far b _ hb').mono ?_
          rintro e w' ⟨rfl, rfl⟩
          go_wp2_with fail
          refine (HC.out _).mono ?_
          rintro e w' ⟨rfl, rfl⟩
          go_wp2_with fail
          go_ret2
          exact ⟨by rw [hq.out, H.out]; rfl, rfl⟩
    · have da : decide (a < 0) = false := decide_eq_false sa
      have db : decide (b < 0) = true := decide_eq_true sb
      have hP := hB (by omega)
      clear hA hB
      by_cases hl : 9223372036854775808 < lo
      · have H := Lib.hid (told_no (n := a * b) (by unfold Fits; rw [hP]; omega))
        clear hP
        have dl : decide (9223372036854775808 < (lo : Int)) = true := decide_eq_true (by omega)
        go_enter Tryz.func163, Tryz.ntmps163
        go_wp2_with fail
        refine (n_far a _ ha').mono ?_
        rintro e w' ⟨rfl, rfl⟩
        go_wp2_with fail
        refine (n_far b _ hb').mono ?_
        rintro e w' ⟨rfl, rfl⟩
        go_wp2_with fail
        refine (HC.out _).mono ?_
        rintro e w' ⟨rfl, rfl⟩
        go_wp2_with fail
        go_ret2
        exact ⟨by rw [H.out]; rfl, rfl⟩
      · have H := Lib.hid (told_yes (n := a * b) (by unfold Fits; rw [hP]; omega))
        rw [hP] at H
        have hq := Lib.hid hP
        obtain ⟨m1, m2⟩ := M64.out (by omega)
        clear hP
        have dl : decide (9223372036854775808 < (lo : Int)) = false := decide_eq_false (by omega)
        by_cases he : lo = 9223372036854775808
        · have dk : ((lo : Int) == 9223372036854775808) = true := by simp; omega
          clear he
          go_enter Tryz.func163, Tryz.ntmps163
          go_wp2_with fail
          refine (n_far a _ ha').mono ?_
          rintro e w' ⟨rfl, rfl⟩
          go_wp2_with fail
          refine (n_far b _ hb').mono ?_
          rintro e w' ⟨rfl, rfl⟩
          go_wp2_with fail
          refine (HC.out _).mono ?_
          rintro e w' ⟨rfl, rfl⟩
          go_wp2_with fail
          go_ret2
          exact ⟨by rw [hq.out, H.out]; rfl, rfl⟩
        · have dk : ((lo : Int) == 9223372036854775808) = false := by simp; omega
          go_enter Tryz.func163, Tryz.ntmps163
          go_wp2_with fail
          refine (n_far a _ ha').mono ?_
          rintro e w' ⟨rfl, rfl⟩
          go_wp2_with fail
          refine (n_far b _ hb').mono ?_
          rintro e w' ⟨rfl, rfl⟩
          go_wp2_with fail
          refine (HC.out _).mono ?_
          rintro e w' ⟨rfl, rfl⟩
          go_wp2_with fail
          go_ret2
          exact ⟨by rw [hq.out, H.out]; rfl, rfl⟩
    · have da : decide (a < 0) = false := decide_eq_false sa
      have db : decide (b < 0) = false := decide_eq_false sb
      have hP := hA (by omega)
      clear hA hB
      by_cases hl : 9223372036854775808 < lo
      · have H := Lib.hid (told_no (n := a * b) (by unfold Fits; rw [hP]; omega))
        clear hP
        have dl : decide (9223372036854775808 < (lo : Int)) = true := decide_eq_true (by omega)
        go_enter Tryz.func163, Tryz.ntmps163
        go_wp2_with fail
        refine (n_far a _ ha').mono ?_
        rintro e w' ⟨rfl, rfl⟩
        go_wp2_with fail
        refine (n_far b _ hb').mono ?_
        rintro e w' ⟨rfl, rfl⟩
        go_wp2_with fail
        refine (HC.out _).mono ?_
        rintro e w' ⟨rfl, rfl⟩
        go_wp2_with fail
        go_ret2
        exact ⟨by rw [H.out]; rfl, rfl⟩
      · have dl : decide (9223372036854775808 < (lo : Int)) = false := decide_eq_false (by omega)
        by_cases he : lo = 9223372036854775808
        · have H := Lib.hid (told_no (n := a * b) (by unfold Fits; rw [hP]; omega))
          have dk : ((lo : Int) == 9223372036854775808) = true := by simp; omega
          clear he hP
          go_enter Tryz.func163, Tryz.ntmps163
          go_wp2_with fail
          refine (n_far a _ ha').mono ?_
          rintro e w' ⟨rfl, rfl⟩
          go_wp2_with fail
          refine (n_far b _ hb').mono ?_
          rintro e w' ⟨rfl, rfl⟩
          go_wp2_with fail
          refine (HC.out _).mono ?_
          rintro e w' ⟨rfl, rfl⟩
          go_wp2_with fail
          go_ret2
          exact ⟨by rw [H.out]; rfl, rfl⟩
        · have H := Lib.hid (told_yes (n := a * b) (by unfold Fits; rw [hP]; omega))
          rw [hP] at H
          have hq := Lib.hid hP
          have dk : ((lo : Int) == 9223372036854775808) = false := by simp; omega
          have m1 : lo ≤ 9223372036854775807 := by omega
          clear he hP
          go_enter Tryz.func163, Tryz.ntmps163
          go_wp2_with fail
          refine (n_far a _ ha').mono ?_
          rintro e w' ⟨rfl, rfl⟩
          go_wp2_with fail
          refine (n_far b _ hb').mono ?_
          rintro e w' ⟨rfl, rfl⟩
          go_wp2_with fail
          refine (HC.out _).mono ?_
          rintro e w' ⟨rfl, rfl⟩
          go_wp2_with fail
          go_ret2
          exact ⟨by rw [hq.out, H.out]; rfl, rfl⟩
end Go.Proofs.YteccmgkfmeoekaaGreatDoor

set_option linter.unusedVariables false
set_option linter.unusedSimpArgs false
namespace Go.Proofs.YteccmgkfmeoekaaGreatDoor
open Go.RowKit Nt Nt.Num
theorem hasPrefix_minus (l : List UInt8) : Lib.hasPrefix l [45] = minus l := by
  unfold Lib.hasPrefix minus
  cases l with
  | nil => rfl
  | cons c l =>
    simp only [List.isPrefixOf, Bool.and_true]
    rw [Bool.eq_iff_iff, beq_iff_eq, beq_iff_eq]
    exact ⟨Eq.symm, Eq.symm⟩
theorem n_cutPrefix (s : ByteArray) (w : World) :
    Calls Tryz.prog 157 #[.string s, .string ⟨#[45]⟩] w fun e w' => e = .returned (.tuple #[.string (bs (bare s.data.toList)), .bool (minus s.data.toList)]) ∧ w' = w := by
  have := Tryz.strings_CutPrefix s ⟨#[45]⟩ w
  have e1 : Lib.hasPrefix s.data.toList [45] = minus s.data.toList := hasPrefix_minus _
  have e2 : Lib.trimPrefix s.data.toList [45] = bare s.data.toList := by unfold Lib.trimPrefix bare; rw [e1]; rfl
  rw [show (⟨#[45]⟩ : ByteArray).data.toList = [45] from rfl, e1, e2] at this
  exact this
theorem n_trim (s : ByteArray) (w : World) (hs : s.size ≤ maxLen) :
    Calls Tryz.prog 156 #[.string s, .string ⟨#[48, 49, 50, 51, 52, 53, 54, 55, 56, 57]⟩] w fun e w' => e = .returned (.string (bs (Lib.trimS s.data.toList [48, 49, 50, 51, 52, 53, 54, 55, 56, 57]))) ∧ Below w.heap.size w w' :=
  Tryz.strings_Trim s ⟨#[48, 49, 50, 51, 52, 53, 54, 55, 56, 57]⟩ w (by unfold maxLen at hs; omega) (by decide) (ascii_of_all (by decide))
theorem bare_len (l : List UInt8) : (bare l).length ≤ l.length := by unfold bare; split <;> simp
set_option maxRecDepth 100000 in
set_option maxHeartbeats 1000000 in
theorem n_cut (s : ByteArray) (w : World) (hs : s.size ≤ maxLen) :
    Calls Tryz.prog 162 #[.string s] w fun e w' => e = .returned (.tuple #[.bool (minus s.data.toList), .string (bs (bare s.data.toList)), .bool (good s.data.toList)]) ∧ Below w.heap.size w w' := by
  have hgood : good s.data.toList = ((bare s.data.toList).all isDigit && !(bare s.data.toList).isEmpty && (!((bare s.data.toList).getD 0 0 == 48) || (decide ((bare s.data.toList).length = 1) && !minus s.data.toList))) := rfl
  have hlen : (bare s.data.toList).length ≤ s.size := by have := bare_len s.data.toList; simpa using this
  have C : Hid (∀ w, Calls Tryz.prog 157 #[.string s, .string ⟨#[45]⟩] w fun e w' => e = .returned (.tuple #[.string (bs (bare s.data.toList)), .bool (minus s.data.toList)]) ∧ w' = w) := n_cutPrefix s
  generalize good s.data.toList = G at *
  generalize minus s.data.toList = M at *
  obtain ⟨D, hD⟩ : ∃ D, D = bs (bare s.data.toList) := ⟨_, rfl⟩
  have hDl : D.data.toList = bare s.data.toList := by rw [hD]; rfl
  rw [← hD] at C
  rw [← hDl] at hgood hlen
  have hDs : D.size ≤ s.size := by simpa using hlen
  have hDm : D.size ≤ maxLen := by omega
  have HD := Lib.hid hD
  have T : Hid (∀ w, Calls Tryz.prog 156 #[.string D, .string ⟨#[48, 49, 50, 51, 52, 53, 54, 55, 56, 57]⟩] w fun e w' => e = .returned (.string (bs (Lib.trimS D.data.toList [48, 49, 50, 51, 52, 53, 54, 55, 56, 57]))) ∧ Below w.heap.size w w') := fun w => n_trim D w hDm
  have htr := trim_digits D.data.toList
  have hts : (bs (Lib.trimS D.data.toList [48, 49, 50, 51, 52, 53, 54, 55, 56, 57])).size = (Lib.trimS D.data.toList [48, 49, 50, 51, 52, 53, 54, 55, 56, 57]).length := bs_size _
  obtain ⟨Z, hZ⟩ : ∃ Z, Z = bs (Lib.trimS D.data.toList [48, 49, 50, 51, 52, 53, 54, 55, 56, 57]) := ⟨_, rfl⟩
  rw [← hZ] at T hts
  rw [← List.length_eq_zero_iff, ← hts] at htr
  have HGx := Lib.hid hgood
  have htr' := Lib.hid htr
  unfold maxLen at hs hDm
  rw [show bs (bare s.data.toList) = D from hD.symm]
  clear hD hDl hlen hgood htr hts hZ
  by_cases h0 : D.size = 0
  · have he := isEmpty_yes D h0
    have hG : Hid (G = false) := by
      have : D.data.toList = [] := by rw [← List.length_eq_zero_iff]; simpa using h0
      rw [HGx.out, this]; rfl
    clear h0
    go_enter Tryz.func162, Tryz.ntmps162
    go_wp2_with fail
    refine (C.out _).mono ?_
    rintro e w' ⟨rfl, rfl⟩
    go_wp2_with fail
    go_ret3
    exact ⟨by rw [hG.out]; rfl, Below.refl _ _⟩
  · have he := isEmpty_no D h0
    have hne : D.data.toList.isEmpty = false := by rw [← toList_eq]; exact he
    have hD0 : 0 < D.size := by omega
    by_cases hz : Z.size = 0
    · have hze := isEmpty_yes Z hz
      have hall := htr'.out.1 hz
      have hat : (D.data.toList.getD 0 0) = D[0] := at_get D 0 hD0
      by_cases h48 : D[0].toNat = 48
      · have k48 : ((D[0].toNat : Int) != 48) = false := by simp; omega
        have hb48 : (D.data.toList.getD 0 0 == 48) = true := by rw [hat, beq_iff_eq]; exact UInt8.toNat_inj.1 h48
        by_cases h1 : D.size = 1
        · have k1 : ((D.size : Int) == 1) = true := by simp [h1]
          have hG := Lib.hid (show G = !M by rw [HGx.out, hall, hne, hb48]; simp [h1])
          clear h48 h1 hz h0 hat hb48 hall hne
          go_enter Tryz.func162, Tryz.ntmps162
          go_wp2_with fail
          refine (C.out _).mono ?_
          rintro e w' ⟨rfl, rfl⟩
          go_wp2_with fail
          refine (T.out _).mono ?_
          rintro e w1 ⟨rfl, hB⟩
          go_wp2_with fail
          go_ret3
          exact ⟨by rw [hG.out]; rfl, hB⟩
        · have k1 : ((D.size : Int) == 1) = false := by simp; omega
          have hG := Lib.hid (show G = false by rw [HGx.out, hall, hne, hb48]; simp [h1])
          clear h48 h1 hz h0 hat hb48 hall hne
          go_enter Tryz.func162, Tryz.ntmps162
          go_wp2_with fail
          refine (C.out _).mono ?_
          rintro e w' ⟨rfl, rfl⟩
          go_wp2_with fail
          refine (T.out _).mono ?_
          rintro e w1 ⟨rfl, hB⟩
          go_wp2_with fail
          go_ret3
          exact ⟨by rw [hG.out]; rfl, hB⟩
      · have k48 : ((D[0].toNat : Int) != 48) = true := by simp; omega
        have hb48 : (D.data.toList.getD 0 0 == 48) = false := by rw [hat, beq_eq_false_iff_ne]; exact fun e => h48 (by rw [e]; rfl)
        have hG : Hid (G = true) := by rw [HGx.out, hall, hne, hb48]; rfl
        clear h48 hz h0 hat hb48 hall hne
        go_enter Tryz.func162, Tryz.ntmps162
        go_wp2_with fail
        refine (C.out _).mono ?_
        rintro e w' ⟨rfl, rfl⟩
        go_wp2_with fail
        refine (T.out _).mono ?_
        rintro e w1 ⟨rfl, hB⟩
        go_wp2_with fail
        go_ret3
        exact ⟨by rw [hG.out]; rfl, hB⟩
    · have hze := isEmpty_no Z hz
      have hG : Hid (G = false) := by
        rw [HGx.out]
        cases ha : D.data.toList.all isDigit with
        | false => rfl
        | true => exact absurd (htr'.out.2 ha) hz
      clear hz h0 hne
      go_enter Tryz.func162, Tryz.ntmps162
      go_wp2_with fail
      refine (C.out _).mono ?_
      rintro e w' ⟨rfl, rfl⟩
      go_wp2_with fail
      refine (T.out _).mono ?_
      rintro e w1 ⟨rfl, hB⟩
      go_wp2_with fail
      go_ret3
      exact ⟨by rw [hG.out]; rfl, hB⟩
end Go.Proofs.YteccmgkfmeoekaaGreatDoor

set_option linter.unusedVariables false
set_option linter.unusedSimpArgs false
namespace Nt
open Go Go.RowKit
theorem run_bytes {P : Program} (w : World) (src dst e : TypeId) (s : ByteArray) (hs : P.underlying src = some .string) (hd : P.underlying dst = some (.slice e)) (he : P.underlying e = some (.int .u8)) :
    ∃ cap w2, (convert src dst (.string s)).run P w = .ok (.slice (some ⟨w.heap.size, 0, none⟩) s.size cap) w2 ∧ Below w.heap.size w w2 ∧ w.heap.size < w2.heap.size ∧ ∀ i (h : i < s.size), w2.cell? ⟨w.heap.size, i, none⟩ = some (.int .u8 (s[i].toNat : Int)) := by
  refine ⟨_, _, run_bytes_of_string w src dst e s hs hd he, (Below.refl _ _).drew.alloc (Nat.le_refl _) _, by simp, fun i h => ?_⟩
  have hn : (w.drew.alloc (.cells (bytesRow s (grownCap w s.size 0 e)) e ((bytesRow s (grownCap w s.size 0 e)).size, (bytesRow s (grownCap w s.size 0 e)).size + 1))).heap[w.heap.size]? = some (.cells (bytesRow s (grownCap w s.size 0 e)) e ((bytesRow s (grownCap w s.size 0 e)).size, (bytesRow s (grownCap w s.size 0 e)).size + 1)) := heap_alloc_new w.drew _
  unfold World.cell?
  simp only [hn]
  unfold bytesRow
  have h' : i < (s.data.map fun b => Value.int .u8 (b.toNat : Int)).size := by simpa using h
  simp only [Option.isSome_none, Bool.false_eq_true, if_false]
  rw [Array.getElem?_append_left h', Array.getElem?_map, Array.getElem?_eq_getElem (by simpa using h)]
  rfl
end Nt

set_option linter.unusedVariables false
set_option linter.unusedSimpArgs false
namespace Go.Proofs.YteccmgkfmeoekaaGreatDoor
open Go.RowKit Nt Nt.Num
theorem n_mul' (a b r c : Int) (hr : told (a * b) = (r, c)) (w : World) (ha : Fits a) (hb : Fits b) :
    Calls Tryz.prog 163 #[.int .i64 a, .int .i64 b] w fun e w' => e = .returned (.tuple #[.int .i64 r, .int .i64 c]) ∧ w' = w := by
  have := n_mul a b w ha hb
  rw [hr] at this
  exact this
theorem n_add' (a b r c : Int) (hr : told (a + b) = (r, c)) (w : World) (ha : Fits a) (hb : Fits b) :
    Calls Tryz.prog 164 #[.int .i64 a, .int .i64 b] w fun e w' => e = .returned (.tuple #[.int .i64 r, .int .i64 c]) ∧ w' = w := by
  have := n_add a b w ha hb
  rw [hr] at this
  exact this
set_option maxRecDepth 100000 in
set_option maxHeartbeats 2000000 in
theorem n_read (s : ByteArray) (w : World) (hs : s.size ≤ maxLen) :
    Calls Tryz.prog 129 #[.string s] w fun e w' => e = .returned (.tuple #[.int .i64 (read s.data.toList).1, .int .i64 (read s.data.toList).2]) ∧ Below w.heap.size w w' := by
  have C := n_cut s w hs
  have hlen : (bare s.data.toList).length ≤ s.size := by have := bare_len s.data.toList; simpa using this
  have hread : read s.data.toList = if good s.data.toList then told (signed (minus s.data.toList) (val (bare s.data.toList))) else (0, 2) := rfl
  have hgood : good s.data.toList = true → (bare s.data.toList).all isDigit = true := fun h => by unfold good at h; simp only [Bool.and_eq_true] at h; exact h.1.1
  generalize read s.data.toList = R at *
  generalize good s.data.toList = G at *
  generalize minus s.data.toList = M at *
  obtain ⟨d, hd⟩ : ∃ d, d = bare s.data.toList := ⟨_, rfl⟩
  rw [← hd] at C hlen hread hgood
  clear hd
  obtain ⟨D, hD⟩ : ∃ D, D = bs d := ⟨_, rfl⟩
  rw [← hD] at C
  have hDd : D.data.toList = d := by rw [hD]; rfl
  have hDs : D.size = d.length := by rw [← hDd]; simp
  have HC := Lib.hid C
  clear C hD
  cases G with
  | false =>
    have H : Hid (R = (0, 2)) := hread
    clear hread hgood
    go_enter Tryz.func129, Tryz.ntmps129
    go_wp2_with fail
    refine HC.out.mono ?_
    rintro e w1 ⟨rfl, hB⟩
    go_wp2_with fail
    go_ret2
    exact ⟨by rw [H.out]; rfl, hB⟩
  | true =>
    have hall := Lib.hid (hgood rfl)
    have HR : Hid (R = told (signed M (val d))) := hread
    have HDs := Lib.hid hDs
    have hDl : D.size ≤ s.size := by omega
    have HDd := Lib.hid hDd
    unfold maxLen at hs
    clear hread hgood hDs hDd hlen
    go_enter Tryz.func129, Tryz.ntmps129
    go_wp2_with fail
    refine HC.out.mono ?_
    clear HC
    rintro e w1 ⟨rfl, hB⟩
    obtain ⟨cap, w2, hcv, hB2, hg2, hcell⟩ := run_bytes (P := Tryz.prog) w1 9 59 5 D Tryz.underlying9 Tryz.underlying59 Tryz.underlying5
    have hB' := hB.trans (hB2.mono hB.size)
    obtain ⟨g, hg⟩ : ∃ g, g = w1.heap.size := ⟨_, rfl⟩
    rw [← hg] at hcv hcell
    have Hcell := Lib.hid hcell
    clear hcell hg hB2 hg2 hB
    go_wp2_with fail
    go_loop [7, 24] (fun a i => ∃ k : Nat, k ≤ D.size ∧ i = .int .i64 (k : Int) ∧ a = .int .i64 (signed M (val (d.take k))) ∧ Hid (Fits (signed M (val (d.take k))))) (fun _ i => D.size - (intOf i).toNat)
    case atStart => exact ⟨0, by omega, rfl, by simp [val, signed], by show Fits _; simp [val, signed]; decide⟩
    case round =>
      obtain ⟨k, hk, rfl, rfl, hfit⟩ := hrel
      by_cases hlt : k < D.size
      · have hkd : k < d.length := by rw [← HDs.out]; exact hlt
        have hck := Hcell.out k hlt
        have hat : D[k] = d.getD k 0 := by rw [← HDd.out]; exact (at_get D k hlt).symm
        have hdig := List.all_eq_true.1 hall.out (d.getD k 0) (by rw [List.getD_eq_getElem?_getD, List.getElem?_eq_getElem hkd]; exact List.getElem_mem _)
        simp only [isDigit, Bool.and_eq_true, decide_eq_true_eq] at hdig
        have hstep := signed_step M d k hkd hall.out
        have hlost : ¬ Fits (signed M (val (d.take (k + 1)))) → ¬ Fits (signed M (val d)) := signed_lost M _ _ (val_le d (k + 1))
        rw [hat] at hck
        obtain ⟨c, hc⟩ : ∃ c : Nat, c = (d.getD k 0).toNat := ⟨_, rfl⟩
        rw [← hc] at hck hdig hstep
        obtain ⟨c1, c2⟩ := hdig
        obtain ⟨acc, hacc⟩ : ∃ acc, acc = signed M (val (d.take k)) := ⟨_, rfl⟩
        obtain ⟨nxt, hnxt⟩ : ∃ nxt, nxt = signed M (val (d.take (k + 1))) := ⟨_, rfl⟩
        have hsg : (M = false → 0 ≤ acc) ∧ (M = true → acc ≤ 0) := by rw [hacc]; unfold signed; cases M <;> simp
        rw [← hacc] at hfit hstep ⊢
        rw [← hnxt] at hstep hlost
        have HNX := Lib.hid hnxt
        have Hlost := Lib.hid hlost
        clear hat hc hacc hnxt hlost
        by_cases hm : Fits (acc * 10)
        · clear hsg
          have E1 := told_yes hm
          have M1 := Lib.hid (n_mul' acc 10 _ _ E1 w2 hfit.out (by decide))
          clear E1
          by_cases hn : Fits nxt
          · have E2 := told_yes hn
            cases M
            · have hs2 : nxt = acc * 10 + ((c : Int) - 48) := by simpa using hstep
              rw [hs2] at E2
              have A1 := Lib.hid (n_add' (acc * 10) ((c : Int) - 48) _ _ E2 w2 hm (by unfold Fits; omega))
              have HS := Lib.hid hs2
              have HN := Lib.hid hn
              clear E2 hstep hs2 hm hn
              go_wp2_with fail
              refine M1.out.mono ?_
              rintro e w' ⟨rfl, rfl⟩
              go_wp2_with fail
              refine A1.out.mono ?_
              rintro e w' ⟨rfl, rfl⟩
              go_wp2_with fail
              go_round
              case rel => exact ⟨k + 1, by omega, by go_num, by rw [← HNX.out, HS.out], by rw [← HNX.out]; exact HN.out⟩
              case measure => simp [intOf]; omega
            · have hs2 : nxt = acc * 10 + -((c : Int) - 48) := by simpa using hstep
              rw [hs2] at E2
              have A1 := Lib.hid (n_add' (acc * 10) (-((c : Int) - 48)) _ _ E2 w2 hm (by unfold Fits; omega))
              have HS := Lib.hid hs2
              have HN := Lib.hid hn
              clear E2 hstep hs2 hm hn
              go_wp2_with fail
              refine M1.out.mono ?_
              rintro e w' ⟨rfl, rfl⟩
              go_wp2_with fail
              refine A1.out.mono ?_
              rintro e w' ⟨rfl, rfl⟩
              go_wp2_with fail
              go_round
              case rel => exact ⟨k + 1, by omega, by go_num, by rw [← HNX.out, HS.out], by rw [← HNX.out]; exact HN.out⟩
              case measure => simp [intOf]; omega
          · have E2 := told_no hn
            have HF := Lib.hid (told_no (Hlost.out hn))
            cases M
            · have hs2 : nxt = acc * 10 + ((c : Int) - 48) := by simpa using hstep
              rw [hs2] at E2
              have A1 := Lib.hid (n_add' (acc * 10) ((c : Int) - 48) _ _ E2 w2 hm (by unfold Fits; omega))
              clear E2 hstep hs2 hm hn
              go_wp2_with fail
              refine M1.out.mono ?_
              rintro e w' ⟨rfl, rfl⟩
              go_wp2_with fail
              refine A1.out.mono ?_
              rintro e w' ⟨rfl, rfl⟩
              go_wp2_with fail
              go_ret2
              exact ⟨by rw [HR.out, HF.out]; rfl, hB'⟩
            · have hs2 : nxt = acc * 10 + -((c : Int) - 48) := by simpa using hstep
              rw [hs2] at E2
              have A1 := Lib.hid (n_add' (acc * 10) (-((c : Int) - 48)) _ _ E2 w2 hm (by unfold Fits; omega))
              clear E2 hstep hs2 hm hn
              go_wp2_with fail
              refine M1.out.mono ?_
              rintro e w' ⟨rfl, rfl⟩
              go_wp2_with fail
              refine A1.out.mono ?_
              rintro e w' ⟨rfl, rfl⟩
              go_wp2_with fail
              go_ret2
              exact ⟨by rw [HR.out, HF.out]; rfl, hB'⟩
        · have M1 := Lib.hid (n_mul' acc 10 _ _ (told_no hm) w2 hfit.out (by decide))
          have hn : ¬ Fits nxt := by
            have hf := hfit.out
            intro hn
            apply hm
            unfold Fits at hn hf ⊢
            cases M
            · have h1 := hsg.1 rfl
              have h2 : nxt = acc * 10 + ((c : Int) - 48) := by simpa using hstep
              omega
            · have h1 := hsg.2 rfl
              have h2 : nxt = acc * 10 + -((c : Int) - 48) := by simpa using hstep
              omega
          have HF := Lib.hid (told_no (Hlost.out hn))
          clear hstep hm hn hsg
          cases M
          · have A1 := Lib.hid (n_add' 0 ((c : Int) - 48) _ _ (told_yes (by unfold Fits; omega)) w2 (by decide) (by unfold Fits; omega))
            go_wp2_with fail
            refine M1.out.mono ?_
            rintro e w' ⟨rfl, rfl⟩
            go_wp2_with fail
            refine A1.out.mono ?_
            rintro e w' ⟨rfl, rfl⟩
            go_wp2_with fail
            go_ret2
            exact ⟨by rw [HR.out, HF.out]; rfl, hB'⟩
          · have A1 := Lib.hid (n_add' 0 (-((c : Int) - 48)) _ _ (told_yes (by unfold Fits; omega)) w2 (by decide) (by unfold Fits; omega))
            go_wp2_with fail
            refine M1.out.mono ?_
            rintro e w' ⟨rfl, rfl⟩
            go_wp2_with fail
            refine A1.out.mono ?_
            rintro e w' ⟨rfl, rfl⟩
            go_wp2_with fail
            go_ret2
            exact ⟨by rw [HR.out, HF.out]; rfl, hB'⟩
      · obtain rfl : k = D.size := by omega
        have hfull : signed M (val (d.take D.size)) = signed M (val d) := by rw [HDs.out, List.take_length]
        rw [hfull] at hfit ⊢
        have HF := Lib.hid (told_yes hfit.out)
        clear hfull
        go_wp2_with fail
        go_ret2
        exact ⟨by rw [HR.out, HF.out]; rfl, hB'⟩
end Go.Proofs.YteccmgkfmeoekaaGreatDoor

set_option linter.unusedVariables false
set_option linter.unusedSimpArgs false
namespace Go.Proofs.YteccmgkfmeoekaaGreatDoor
open Go.RowKit Nt Nt.Num
def digsOnly (l : List UInt8) : Bool := l.all isDigit && !l.isEmpty
set_option maxHeartbeats 1000000 in
theorem r_Digits (s : ByteArray) (w : World) (hs : s.size ≤ maxLen) :
    Calls Tryz.prog 122 #[.string s] w fun e w' => e = .returned (.bool (digsOnly s.data.toList)) ∧ w' = w := by
  unfold maxLen at hs
  have hsl : s.data.toList.length = s.size := by simp
  have HSL := Lib.hid hsl
  clear hsl
  go_enter Tryz.func122, Tryz.ntmps122
  go_wp2_with fail
  go_loop [3] (fun i => ∃ k : Nat, k ≤ s.size ∧ i = .int .i64 (k : Int) ∧ Hid (∀ j, j < k → isDigit (at_ s j) = true)) (fun i => s.size - (intOf i).toNat)
  case atStart => exact ⟨0, by omega, rfl, fun j hj => by omega⟩
  case round =>
    obtain ⟨k, hk, rfl, hall⟩ := hrel
    by_cases hlt : k < s.size
    · have hat := Lib.hid (at_get s k hlt)
      by_cases h48 : s[k].toNat < 48
      · have H : Hid (digsOnly s.data.toList = false) := by
          have : isDigit (at_ s k) = false := by rw [hat.out]; unfold isDigit; simp; omega
          show _ = _
          unfold digsOnly
          rw [Bool.and_eq_false_iff]
          left
          rw [List.all_eq_false]
          exact ⟨_, List.getElem_mem (by rw [HSL.out]; exact hlt), by
            unfold at_ at this
            rw [List.getD_eq_getElem?_getD, List.getElem?_eq_getElem (by rw [HSL.out]; exact hlt)] at this
            simpa using this⟩
        go_wp2_with fail
        go_ret
        exact ⟨ret_bool H.out.symm, rfl⟩
      · by_cases h57 : 57 < s[k].toNat
        · have d48 : decide ((s[k].toNat : Int) < 48) = false := decide_eq_false (by omega)
          have d57 : decide (57 < (s[k].toNat : Int)) = true := decide_eq_true (by omega)
          have H : Hid (digsOnly s.data.toList = false) := by
            have : isDigit (at_ s k) = false := by rw [hat.out]; unfold isDigit; simp; omega
            show _ = _
            unfold digsOnly
            rw [Bool.and_eq_false_iff]
            left
            rw [List.all_eq_false]
            exact ⟨_, List.getElem_mem (by rw [HSL.out]; exact hlt), by
              unfold at_ at this
              rw [List.getD_eq_getElem?_getD, List.getElem?_eq_getElem (by rw [HSL.out]; exact hlt)] at this
              simpa using this⟩
          go_wp2_with fail
          go_ret
          exact ⟨ret_bool H.out.symm, rfl⟩
        · have d48 : decide ((s[k].toNat : Int) < 48) = false := decide_eq_false (by omega)
          have d57 : decide (57 < (s[k].toNat : Int)) = false := decide_eq_false (by omega)
          have hd : Hid (isDigit (at_ s k) = true) := by show _ = _; rw [hat.out]; unfold isDigit; simp; omega
          go_wp2_with fail
          go_round
          case rel =>
            refine ⟨k + 1, by omega, by go_num, fun j hj => ?_⟩
            by_cases h : j = k
            · rw [h]; exact hd.out
            · exact hall.out j (by omega)
          case measure => simp [intOf]; omega
    · obtain rfl : k = s.size := by omega
      have hA : s.data.toList.all isDigit = true := by
        rw [List.all_eq_true]
        intro x hx
        obtain ⟨i, hi, e⟩ := List.getElem_of_mem hx
        have := hall.out i (by rw [HSL.out] at hi; exact hi)
        unfold at_ at this
        rw [List.getD_eq_getElem?_getD, List.getElem?_eq_getElem hi] at this
        rw [← e]; simpa using this
      have H : Hid (digsOnly s.data.toList = !s.toList.isEmpty) := by
        show _ = _
        unfold digsOnly
        rw [hA, toList_eq]; rfl
      clear hA
      go_wp2_with fail
      go_ret
      exact ⟨ret_bool H.out.symm, rfl⟩
end Go.Proofs.YteccmgkfmeoekaaGreatDoor

set_option linter.unusedVariables false
set_option linter.unusedSimpArgs false
namespace Go.Proofs.YteccmgkfmeoekaaGreatDoor
open Go.RowKit Nt Nt.Num
set_option maxRecDepth 100000 in
set_option maxHeartbeats 4000000 in
theorem r_read_no (s : ByteArray) (w : World) (hs : s.size ≤ maxLen) (hM : minus s.data.toList = false) :
    Calls Tryz.prog 131 #[.string s] w fun e w' => e = .returned (.tuple #[.int .i64 (read s.data.toList).1, .int .i64 (read s.data.toList).2]) ∧ w' = w := by
  have hs' := hs
  have hgood0 : good s.data.toList = ((bare s.data.toList).all isDigit && !(bare s.data.toList).isEmpty && (!((bare s.data.toList).getD 0 0 == 48) || (decide ((bare s.data.toList).length = 1) && !minus s.data.toList))) := rfl
  have hread : read s.data.toList = if good s.data.toList then told (signed (minus s.data.toList) (val (bare s.data.toList))) else (0, 2) := rfl
  have hgood := hgood0
  rw [hM] at hread hgood
  clear hgood0
  have hb : bare s.data.toList = s.data.toList := by unfold bare; rw [hM]; rfl
  rw [hb] at hread hgood
  generalize hGe : good s.data.toList = G at hread hgood
  have hgood0 : G = good s.data.toList := hGe.symm
  clear hGe
  generalize read s.data.toList = R at *
  obtain ⟨d, hd⟩ : ∃ d, d = s.data.toList := ⟨_, rfl⟩
  rw [← hd] at hread hgood
  have hDd : s.data.toList = d := hd.symm
  have hDs : s.size = d.length := by rw [hd]; simp
  have hDig : Hid (∀ w, Calls Tryz.prog 122 #[.string s] w fun e w' => e = .returned (.bool (digsOnly d)) ∧ w' = w) := fun w => by rw [hd]; exact r_Digits s w hs'
  unfold maxLen at hs
  have hminus : s.size = 0 ∨ (0 < s.size ∧ ∀ h : 0 < s.size, ((s[0].toNat : Int) == 45) = false) := by
    by_cases h0 : s.size = 0
    · exact .inl h0
    · refine .inr ⟨by omega, fun h => ?_⟩
      have h1 : at_ s 0 = s[0] := at_get s 0 h
      unfold at_ at h1
      rw [beq_eq_false_iff_ne]
      intro h2
      have h3 : s[0] = 45 := UInt8.toNat_inj.1 (by have : s[0].toNat = 45 := by omega
                                                   rw [this]; rfl)
      rw [h3] at h1
      unfold minus at hM
      cases e : s.data.toList with
      | nil => rw [e] at h1; simp at h1
      | cons c l => rw [e] at h1 hM; simp at h1 hM; exact hM h1
  clear hM hb hd
  rcases hminus with hm | ⟨hm, hm2⟩
  · have hdg0 : digsOnly d = false := by
      have : d = [] := List.eq_nil_of_length_eq_zero (by omega)
      rw [this]; rfl
    have hG : Hid (G = false) := by
      show _ = _
      have : d = [] := List.eq_nil_of_length_eq_zero (by omega)
      rw [hgood, this]; rfl
    have H : Hid (R = (0, 2)) := by show _ = _; rw [hread, hG.out]; rfl
    have hm1 : s.size ≤ 0 := by omega
    have hDig : Hid (∀ w, Calls Tryz.prog 122 #[.string s] w fun e w' => e = .returned (.bool false) ∧ w' = w) := fun w => by have := hDig.out w; rw [hdg0] at this; exact this
    clear hread hgood hgood0 hm hDd hDs hdg0
    go_enter Tryz.func131, Tryz.ntmps131
    go_wp2_with fail
    refine (hDig.out _).mono ?_
    rintro e w' ⟨rfl, rfl⟩
    go_wp2_with fail
    go_ret2
    exact ⟨by rw [H.out]; rfl, rfl⟩
  · have hm45 := hm2 hm
    clear hm2
    obtain ⟨D, hD⟩ : ∃ D, D = s := ⟨_, rfl⟩
    subst hD
    have HDd := Lib.hid hDd
    have HDs := Lib.hid hDs
    clear hDd hDs
    by_cases hdg : digsOnly d = true
    · have hDig : Hid (∀ w, Calls Tryz.prog 122 #[.string D] w fun e w' => e = .returned (.bool true) ∧ w' = w) := fun w => by have := hDig.out w; rw [hdg] at this; exact this
      have hdg2 := hdg
      unfold digsOnly at hdg2
      rw [Bool.and_eq_true] at hdg2
      obtain ⟨hall, hne⟩ := hdg2
      have hD0 : 0 < D.size := by
        rw [HDs.out]
        cases d with
        | nil => simp at hne
        | cons a l => simp
      have hat : D[0] = d.getD 0 0 := by rw [← HDd.out]; exact (at_get D 0 hD0).symm
      by_cases h2a : 1 < D.size ∧ D[0].toNat = 48
      · have hG : Hid (G = false) := by
          show _ = _
          have e1 : (d.getD 0 0 == 48) = true := by rw [← hat, beq_iff_eq]; exact UInt8.toNat_inj.1 h2a.2
          have e2 : decide (d.length = 1) = false := decide_eq_false (by have := HDs.out; omega)
          rw [hgood, e1, e2]; simp
        have H : Hid (R = (0, 2)) := by show _ = _; rw [hread, hG.out]; rfl
        obtain ⟨k1, k2⟩ := h2a
        have k3 : ((D[0].toNat : Int) == 48) = true := by simp; omega
        clear hall hne hat hdg hread hgood k2 hgood0
        go_enter Tryz.func131, Tryz.ntmps131
        go_wp2_with fail
        refine (hDig.out _).mono ?_
        rintro e w' ⟨rfl, rfl⟩
        go_wp2_with fail
        go_ret2
        exact ⟨by rw [H.out]; rfl, rfl⟩
      · have t1 : D.size ≤ 1 ∨ (1 < D.size ∧ ((D[0].toNat : Int) == 48) = false) := by
          by_cases h1 : 1 < D.size
          · right; refine ⟨h1, ?_⟩; simp; omega
          · left; omega
        by_cases h2b : D.data.toList = [45, 48]
        · have k4 : (D.toList == [45, 48]) = true := by rw [toList_eq, h2b]; rfl
          have hG : Hid (G = false) := by show _ = _; rw [hgood0, h2b]; rfl
          have H : Hid (R = (0, 2)) := by show _ = _; rw [hread, hG.out]; rfl
          clear hall hne hat hdg hread hgood h2a h2b hgood0
          rcases t1 with t1 | ⟨t1, t2⟩
          all_goals
            go_enter Tryz.func131, Tryz.ntmps131
            go_wp2_with fail
            refine (hDig.out _).mono ?_
            rintro e w' ⟨rfl, rfl⟩
            go_wp2_with fail
            go_ret2
            exact ⟨by rw [H.out]; rfl, rfl⟩
        · have k4 : (D.toList == [45, 48]) = false := by rw [toList_eq, beq_eq_false_iff_ne]; exact h2b
          have hz : (d.getD 0 0 == 48) = true → false = false ∧ d.length = 1 := fun h => by
            have h1 : D.size = 1 := by
              have : D[0].toNat = 48 := by rw [hat]; rw [beq_iff_eq] at h; rw [h]; rfl
              omega
            refine ⟨?_, by have := HDs.out; omega⟩
            rfl
          have hG : Hid (G = true) := by
            show _ = _
            rw [hgood]
            have e3 : d.isEmpty = false := by simpa using hne
            rw [hall, e3]
            cases hz0 : (d.getD 0 0 == 48) with
            | false => rfl
            | true => obtain ⟨h1, h2⟩ := hz hz0; simp [h1, h2]
          have HR : Hid (R = told (signed false (val d))) := by show _ = _; rw [hread, hG.out]; rfl
          have Hall := Lib.hid hall
          have hnz : Hid (false = true → 1 ≤ val d) := fun hM => by
            have h0 : (d.getD 0 0 == 48) = false := by
              cases hz0 : (d.getD 0 0 == 48) with
              | false => rfl
              | true => exact absurd ((hz hz0).1.symm.trans hM) (by decide)
            have h1 := val_ge d hall h0 0 (by have := HDs.out; omega)
            have h2 := val_le d (0 + 1)
            omega
          by_cases h19 : 19 < D.size
          · have hgt : 9999999999999999999 < val d := val_great d hall (by
              cases hz0 : (d.getD 0 0 == 48) with
              | false => rfl
              | true => have := (hz hz0).2; have := HDs.out; omega) (by have := HDs.out; omega)
            have H : Hid (R = (0, 1)) := by show _ = _; rw [HR.out]; exact told_no (by unfold Fits signed; simp; omega)
            clear hall hne hat hdg hread hgood h2a h2b hz hgt hgood0
            rcases t1 with t1 | ⟨t1, t2⟩
            · omega
            · go_enter Tryz.func131, Tryz.ntmps131
              go_wp2_with fail
              refine (hDig.out _).mono ?_
              rintro e w' ⟨rfl, rfl⟩
              go_wp2_with fail
              go_ret2
              exact ⟨by rw [H.out]; rfl, rfl⟩
          · have hlt := Lib.hid (fun k => val_lt d hall k)
            clear hall hne hat hdg hread hgood h2a h2b hz hgood0
            rcases t1 with t1 | ⟨t1, t2⟩
            all_goals
              go_enter Tryz.func131, Tryz.ntmps131
              go_wp2_with fail
              refine (hDig.out _).mono ?_
              clear hDig
              rintro e w' ⟨rfl, rfl⟩
              go_wp2_with fail
              go_loop [5, 6] (fun a i => ∃ k : Nat, k ≤ D.size ∧ i = .int .i64 (k : Int) ∧ a = .int .u64 (val (d.take k) : Int)) (fun _ i => D.size - (intOf i).toNat)
              case atStart => exact ⟨0, by omega, rfl, by simp [val]⟩
              case round =>
                obtain ⟨k, hk, rfl, rfl⟩ := hrel
                by_cases hks : k < D.size
                · have hkd : k < d.length := by rw [← HDs.out]; exact hks
                  have hat : Hid (D[k].toNat = (d.getD k 0).toNat) := by show _ = _; rw [← HDd.out, ← at_get D k hks]; rfl
                  have hdig := List.all_eq_true.1 Hall.out (d.getD k 0) (by rw [List.getD_eq_getElem?_getD, List.getElem?_eq_getElem hkd]; exact List.getElem_mem _)
                  simp only [isDigit, Bool.and_eq_true, decide_eq_true_eq] at hdig
                  have hst := Lib.hid (val_take d k hkd)
                  rw [← hat.out] at hdig hst
                  obtain ⟨c1, c2⟩ := hdig
                  have hb := hlt.out k
                  have hb2 : val (d.take k) < 1000000000000000000 := Nat.lt_of_lt_of_le hb (Nat.le_trans (Nat.pow_le_pow_right (by decide) (show k ≤ 18 by omega)) (by decide))
                  obtain ⟨a, ha⟩ : ∃ a, a = val (d.take k) := ⟨_, rfl⟩
                  rw [← ha] at hb2 hst ⊢
                  clear hb ha
                  go_wp2_with fail
                  go_round
                  case rel =>
                    refine ⟨k + 1, by omega, by go_num, ?_⟩
                    rw [hst.out]
                    congr 1
                    omega
                  case measure => simp [intOf]; omega
                · obtain rfl : k = D.size := by omega
                  have hfull : val (d.take D.size) = val d := by rw [HDs.out, List.take_length]
                  have hb2 : val d < 10000000000000000000 := by
                    have h1 := hlt.out D.size
                    rw [hfull] at h1
                    exact Nat.lt_of_lt_of_le h1 (Nat.le_trans (Nat.pow_le_pow_right (by decide) (show D.size ≤ 19 by omega)) (by decide))
                  rw [hfull]
                  clear hfull hlt
                  have hnz' := hnz.out
                  obtain ⟨v, hv⟩ : ∃ v, v = val d := ⟨_, rfl⟩
                  rw [← hv] at hb2 hnz' HR ⊢
                  clear hv hnz
                  by_cases hgr : 9223372036854775807 < v
                  · have H : Hid (R = (0, 1)) := by show _ = _; rw [HR.out]; exact told_no (by unfold Fits signed; simp; omega)
                    go_wp2_with fail
                    go_ret2
                    exact ⟨by rw [H.out]; rfl, rfl⟩
                  · have H : Hid (R = ((v : Int), 0)) := by show _ = _; rw [HR.out]; exact told_yes (by unfold Fits signed; simp; omega)
                    go_wp2_with fail
                    go_ret2
                    exact ⟨by rw [H.out]; rfl, rfl⟩
    · have hdg0 : digsOnly d = false := by simpa using hdg
      have hDig : Hid (∀ w, Calls Tryz.prog 122 #[.string D] w fun e w' => e = .returned (.bool false) ∧ w' = w) := fun w => by have := hDig.out w; rw [hdg0] at this; exact this
      have hG : Hid (G = false) := by
        show _ = _
        unfold digsOnly at hdg0
        rw [hgood]
        rw [Bool.and_eq_false_iff] at hdg0 ⊢
        left
        rw [Bool.and_eq_false_iff]
        exact hdg0
      have H : Hid (R = (0, 2)) := by show _ = _; rw [hread, hG.out]; rfl
      clear hread hgood hgood0 hdg hdg0
      go_enter Tryz.func131, Tryz.ntmps131
      go_wp2_with fail
      refine (hDig.out _).mono ?_
      rintro e w' ⟨rfl, rfl⟩
      go_wp2_with fail
      go_ret2
      exact ⟨by rw [H.out]; rfl, rfl⟩
end Go.Proofs.YteccmgkfmeoekaaGreatDoor

set_option linter.unusedVariables false
set_option linter.unusedSimpArgs false
namespace Go.Proofs.YteccmgkfmeoekaaGreatDoor
open Go.RowKit Nt Nt.Num
set_option maxRecDepth 100000 in
set_option maxHeartbeats 4000000 in
theorem r_read_yes (s : ByteArray) (w : World) (hs : s.size ≤ maxLen) (hM : minus s.data.toList = true) :
    Calls Tryz.prog 131 #[.string s] w fun e w' => e = .returned (.tuple #[.int .i64 (read s.data.toList).1, .int .i64 (read s.data.toList).2]) ∧ w' = w := by
  have hs' := hs
  have hgood0 : good s.data.toList = ((bare s.data.toList).all isDigit && !(bare s.data.toList).isEmpty && (!((bare s.data.toList).getD 0 0 == 48) || (decide ((bare s.data.toList).length = 1) && !minus s.data.toList))) := rfl
  have hread : read s.data.toList = if good s.data.toList then told (signed (minus s.data.toList) (val (bare s.data.toList))) else (0, 2) := rfl
  have hgood := hgood0
  rw [hM] at hread hgood
  clear hgood0
  have hs0 : 0 < s.size := by
    unfold minus at hM
    cases e : s.data.toList with
    | nil => rw [e] at hM; simp at hM
    | cons c l => have := congrArg List.length e; simp at this; omega
  have h45 : ((s[0].toNat : Int) == 45) = true := by
    have h1 : at_ s 0 = s[0] := at_get s 0 hs0
    unfold at_ at h1
    unfold minus at hM
    cases e : s.data.toList with
    | nil => rw [e] at hM; simp at hM
    | cons c l =>
      rw [e] at h1 hM
      simp at h1 hM
      rw [← h1, hM]; rfl
  have hcons : s.data.toList = 45 :: bare s.data.toList := by
    unfold bare
    rw [hM]
    unfold minus at hM
    cases e : s.data.toList with
    | nil => rw [e] at hM; simp at hM
    | cons c l => rw [e] at hM; simp at hM; rw [hM]; simp
  have hbare : bare s.data.toList = s.data.toList.drop 1 := by unfold bare; rw [hM]; rfl
  generalize hGe : good s.data.toList = G at hread hgood
  have hgood0 : G = good s.data.toList := hGe.symm
  clear hGe
  generalize read s.data.toList = R at *
  obtain ⟨d, hd⟩ : ∃ d, d = bare s.data.toList := ⟨_, rfl⟩
  rw [← hd] at hread hgood hcons hbare
  obtain ⟨D, hD⟩ : ∃ D, D = s.extract 1 s.size := ⟨_, rfl⟩
  have hDd : D.data.toList = d := by
    rw [hD, hbare]
    simp [ByteArray.data_extract, List.extract]
    exact List.take_of_length_le (by simp)
  have hDs : D.size = d.length := by rw [← hDd]; simp
  have hsl : s.data.toList.length = s.size := by simp
  have hDlt : D.size < s.size := by
    rw [hcons] at hsl
    simp at hsl
    omega
  have hDx : Hid (s.extract 1 s.size = D) := hD.symm
  have hDig : Hid (∀ w, Calls Tryz.prog 122 #[.string D] w fun e w' => e = .returned (.bool (digsOnly d)) ∧ w' = w) := fun w => by rw [← hDd]; exact r_Digits D w (by omega)
  unfold maxLen at hs
  have Hcons := Lib.hid hcons
  clear hM hd hbare hcons hD hsl
  have HDd := Lib.hid hDd
  have HDs := Lib.hid hDs
  clear hDd hDs
  by_cases hdg : digsOnly d = true
  · have hDig : Hid (∀ w, Calls Tryz.prog 122 #[.string D] w fun e w' => e = .returned (.bool true) ∧ w' = w) := fun w => by have := hDig.out w; rw [hdg] at this; exact this
    have hdg2 := hdg
    unfold digsOnly at hdg2
    rw [Bool.and_eq_true] at hdg2
    obtain ⟨hall, hne⟩ := hdg2
    have hD0 : 0 < D.size := by
      rw [HDs.out]
      cases d with
      | nil => simp at hne
      | cons a l => simp
    have hat : D[0] = d.getD 0 0 := by rw [← HDd.out]; exact (at_get D 0 hD0).symm
    by_cases h2a : 1 < D.size ∧ D[0].toNat = 48
    · have hG : Hid (G = false) := by
        show _ = _
        have e1 : (d.getD 0 0 == 48) = true := by rw [← hat, beq_iff_eq]; exact UInt8.toNat_inj.1 h2a.2
        have e2 : decide (d.length = 1) = false := decide_eq_false (by have := HDs.out; omega)
        rw [hgood, e1, e2]; simp
      have H : Hid (R = (0, 2)) := by show _ = _; rw [hread, hG.out]; rfl
      obtain ⟨k1, k2⟩ := h2a
      have k3 : ((D[0].toNat : Int) == 48) = true := by simp; omega
      clear hall hne hat hdg hread hgood k2 hgood0
      go_enter Tryz.func131, Tryz.ntmps131
      go_wp2_with fail
      rw [hDx.out]
      refine (hDig.out _).mono ?_
      rintro e w' ⟨rfl, rfl⟩
      go_wp2_with fail
      go_ret2
      exact ⟨by rw [H.out]; rfl, rfl⟩
    · have t1 : D.size ≤ 1 ∨ (1 < D.size ∧ ((D[0].toNat : Int) == 48) = false) := by
        by_cases h1 : 1 < D.size
        · right; refine ⟨h1, ?_⟩; simp; omega
        · left; omega
      by_cases h2b : s.data.toList = [45, 48]
      · have k4 : (s.toList == [45, 48]) = true := by rw [toList_eq, h2b]; rfl
        have hG : Hid (G = false) := by show _ = _; rw [hgood0, h2b]; rfl
        have H : Hid (R = (0, 2)) := by show _ = _; rw [hread, hG.out]; rfl
        clear hall hne hat hdg hread hgood h2a h2b hgood0
        rcases t1 with t1 | ⟨t1, t2⟩
        all_goals
          go_enter Tryz.func131, Tryz.ntmps131
          go_wp2_with fail
          rw [hDx.out]
          refine (hDig.out _).mono ?_
          rintro e w' ⟨rfl, rfl⟩
          go_wp2_with fail
          go_ret2
          exact ⟨by rw [H.out]; rfl, rfl⟩
      · have k4 : (s.toList == [45, 48]) = false := by rw [toList_eq, beq_eq_false_iff_ne]; exact h2b
        have hz : (d.getD 0 0 == 48) = true → true = false ∧ d.length = 1 := fun h => by
          have h1 : D.size = 1 := by
            have : D[0].toNat = 48 := by rw [hat]; rw [beq_iff_eq] at h; rw [h]; rfl
            omega
          refine ⟨?_, by have := HDs.out; omega⟩
          exfalso
          apply h2b
          rw [Hcons.out]
          have hd1 : d.length = 1 := by have := HDs.out; omega
          match d, hd1, h with
          | [x], _, h => simp at h; rw [h]
        have hG : Hid (G = true) := by
          show _ = _
          rw [hgood]
          have e3 : d.isEmpty = false := by simpa using hne
          rw [hall, e3]
          cases hz0 : (d.getD 0 0 == 48) with
          | false => rfl
          | true => obtain ⟨h1, h2⟩ := hz hz0; simp [h1, h2]
        have HR : Hid (R = told (signed true (val d))) := by show _ = _; rw [hread, hG.out]; rfl
        have Hall := Lib.hid hall
        have hnz : Hid (true = true → 1 ≤ val d) := fun hM => by
          have h0 : (d.getD 0 0 == 48) = false := by
            cases hz0 : (d.getD 0 0 == 48) with
            | false => rfl
            | true => exact absurd ((hz hz0).1.symm.trans hM) (by decide)
          have h1 := val_ge d hall h0 0 (by have := HDs.out; omega)
          have h2 := val_le d (0 + 1)
          omega
        by_cases h19 : 19 < D.size
        · have hgt : 9999999999999999999 < val d := val_great d hall (by
            cases hz0 : (d.getD 0 0 == 48) with
            | false => rfl
            | true => have := (hz hz0).2; have := HDs.out; omega) (by have := HDs.out; omega)
          have H : Hid (R = (0, 1)) := by show _ = _; rw [HR.out]; exact told_no (by unfold Fits signed; simp; omega)
          clear hall hne hat hdg hread hgood h2a h2b hz hgt hgood0
          rcases t1 with t1 | ⟨t1, t2⟩
          · omega
          · go_enter Tryz.func131, Tryz.ntmps131
            go_wp2_with fail
            rw [hDx.out]
            refine (hDig.out _).mono ?_
            rintro e w' ⟨rfl, rfl⟩
            go_wp2_with fail
            go_ret2
            exact ⟨by rw [H.out]; rfl, rfl⟩
        · have hlt := Lib.hid (fun k => val_lt d hall k)
          clear hall hne hat hdg hread hgood h2a h2b hz hgood0
          rcases t1 with t1 | ⟨t1, t2⟩
          all_goals
            go_enter Tryz.func131, Tryz.ntmps131
            go_wp2_with fail
            rw [hDx.out]
            refine (hDig.out _).mono ?_
            clear hDig
            rintro e w' ⟨rfl, rfl⟩
            go_wp2_with fail
            go_loop [5, 6] (fun a i => ∃ k : Nat, k ≤ D.size ∧ i = .int .i64 (k : Int) ∧ a = .int .u64 (val (d.take k) : Int)) (fun _ i => D.size - (intOf i).toNat)
            case atStart => exact ⟨0, by omega, rfl, by simp [val]⟩
            case round =>
              obtain ⟨k, hk, rfl, rfl⟩ := hrel
              by_cases hks : k < D.size
              · have hkd : k < d.length := by rw [← HDs.out]; exact hks
                have hat : Hid (D[k].toNat = (d.getD k 0).toNat) := by show _ = _; rw [← HDd.out, ← at_get D k hks]; rfl
                have hdig := List.all_eq_true.1 Hall.out (d.getD k 0) (by rw [List.getD_eq_getElem?_getD, List.getElem?_eq_getElem hkd]; exact List.getElem_mem _)
                simp only [isDigit, Bool.and_eq_true, decide_eq_true_eq] at hdig
                have hst := Lib.hid (val_take d k hkd)
                rw [← hat.out] at hdig hst
                obtain ⟨c1, c2⟩ := hdig
                have hb := hlt.out k
                have hb2 : val (d.take k) < 1000000000000000000 := Nat.lt_of_lt_of_le hb (Nat.le_trans (Nat.pow_le_pow_right (by decide) (show k ≤ 18 by omega)) (by decide))
                obtain ⟨a, ha⟩ : ∃ a, a = val (d.take k) := ⟨_, rfl⟩
                rw [← ha] at hb2 hst ⊢
                clear hb ha
                go_wp2_with fail
                go_round
                case rel =>
                  refine ⟨k + 1, by omega, by go_num, ?_⟩
                  rw [hst.out]
                  congr 1
                  omega
                case measure => simp [intOf]; omega
              · obtain rfl : k = D.size := by omega
                have hfull : val (d.take D.size) = val d := by rw [HDs.out, List.take_length]
                have hb2 : val d < 10000000000000000000 := by
                  have h1 := hlt.out D.size
                  rw [hfull] at h1
                  exact Nat.lt_of_lt_of_le h1 (Nat.le_trans (Nat.pow_le_pow_right (by decide) (show D.size ≤ 19 by omega)) (by decide))
                rw [hfull]
                clear hfull hlt
                have hnz' := hnz.out
                obtain ⟨v, hv⟩ : ∃ v, v = val d := ⟨_, rfl⟩
                rw [← hv] at hb2 hnz' HR ⊢
                clear hv hnz
                have hv1 : 1 ≤ v := by simpa using hnz'
                clear hnz'
                by_cases hgr : 9223372036854775808 < v
                · have H : Hid (R = (0, 1)) := by show _ = _; rw [HR.out]; exact told_no (by unfold Fits signed; simp; omega)
                  go_wp2_with fail
                  go_ret2
                  exact ⟨by rw [H.out]; rfl, rfl⟩
                · have H : Hid (R = (-(v : Int), 0)) := by show _ = _; rw [HR.out]; exact told_yes (by unfold Fits signed; simp; omega)
                  go_wp2_with fail
                  go_ret2
                  exact ⟨by rw [H.out]; congr 3; simp; omega, rfl⟩
  · have hdg0 : digsOnly d = false := by simpa using hdg
    have hDig : Hid (∀ w, Calls Tryz.prog 122 #[.string D] w fun e w' => e = .returned (.bool false) ∧ w' = w) := fun w => by have := hDig.out w; rw [hdg0] at this; exact this
    have hG : Hid (G = false) := by
      show _ = _
      unfold digsOnly at hdg0
      rw [hgood]
      rw [Bool.and_eq_false_iff] at hdg0 ⊢
      left
      rw [Bool.and_eq_false_iff]
      exact hdg0
    have H : Hid (R = (0, 2)) := by show _ = _; rw [hread, hG.out]; rfl
    clear hread hgood hgood0 hdg hdg0
    go_enter Tryz.func131, Tryz.ntmps131
    go_wp2_with fail
    rw [hDx.out]
    refine (hDig.out _).mono ?_
    rintro e w' ⟨rfl, rfl⟩
    go_wp2_with fail
    go_ret2
    exact ⟨by rw [H.out]; rfl, rfl⟩
theorem r_read (s : ByteArray) (w : World) (hs : s.size ≤ maxLen) :
    Calls Tryz.prog 131 #[.string s] w fun e w' => e = .returned (.tuple #[.int .i64 (read s.data.toList).1, .int .i64 (read s.data.toList).2]) ∧ w' = w := by
  cases h : minus s.data.toList with
  | false => exact r_read_no s w hs h
  | true => exact r_read_yes s w hs h
end Go.Proofs.YteccmgkfmeoekaaGreatDoor

set_option linter.unusedVariables false
set_option linter.unusedSimpArgs false
namespace Nt.Ev.YteccmgkfmeoekaaGreatDoor
open Go Go.RowKit Nt Nt.Num Go.Proofs.YteccmgkfmeoekaaGreatDoor
def nrI (s : List UInt8) : Int := (Num.read s).1
def nrW (s : List UInt8) : Int := (Num.read s).2
theorem ba_size (s : List UInt8) : (⟨s.toArray⟩ : ByteArray).size = s.length := by simp [ByteArray.size]
theorem ba_max {s : List UInt8} (h : s.length ≤ 1000) : (⟨s.toArray⟩ : ByteArray).size ≤ maxLen := by rw [ba_size]; unfold maxLen; omega
theorem nRead_c (s : List UInt8) (h : s.length ≤ 1000) : Contract nE 129 [.str s] (.tup [.int .i64 (nrI s), .int .i64 (nrW s)]) := by
  refine contract_old fun G w vs hG hg hp => ?_
  obtain ⟨x, rfl, hx⟩ := PW_one hp
  unfold rep at hx
  subst hx
  refine (n_read ⟨s.toArray⟩ w (ba_max h)).mono ?_
  rintro e w' ⟨rfl, hb⟩
  exact ⟨_, rfl, hb, res_two (same_int _ _) (same_int _ _)⟩
theorem rRead_c (s : List UInt8) (h : s.length ≤ 1000) : Contract nE 131 [.str s] (.tup [.int .i64 (nrI s), .int .i64 (nrW s)]) := by
  refine contract_old fun G w vs hG hg hp => ?_
  obtain ⟨x, rfl, hx⟩ := PW_one hp
  unfold rep at hx
  subst hx
  refine (r_read ⟨s.toArray⟩ w (ba_max h)).mono ?_
  rintro e w' ⟨rfl, hb⟩
  exact ⟨_, rfl, by rw [hb]; exact Below.refl _ _, res_two (same_int _ _) (same_int _ _)⟩
def idxB (s : List UInt8) (c : Int) : Int := Lib.indexByte s c.toNat.toUInt8
theorem idx_c (s : List UInt8) (c : Int) : Contract nE 112 [.str s, .int .u8 c] (.int .i64 (idxB s c)) := by
  refine contract_old fun G w vs hG hg hp => ?_
  obtain ⟨x, y, rfl, hx, hy⟩ := PW_two hp
  unfold rep at hx hy
  subst hx; subst hy
  refine (Go.Proofs.Tryz.strings_IndexByte ⟨s.toArray⟩ c w).mono ?_
  rintro e w' ⟨rfl, rfl⟩
  exact ⟨_, rfl, Below.refl _ _, res_int _ _⟩
end Nt.Ev.YteccmgkfmeoekaaGreatDoor
