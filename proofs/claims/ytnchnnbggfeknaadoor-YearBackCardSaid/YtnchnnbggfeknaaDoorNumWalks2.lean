/-
  num and its reference, function by function: sums, products, what is left, quotients, the rest.
-/
import Derived.Test.YtnchnnbggfeknaaDoorProg
import Derived.Test.YtnchnnbggfeknaaDoorNumWalks
set_option linter.unusedVariables false
set_option linter.unusedSimpArgs false
namespace Go.Proofs.YtnchnnbggfeknaaDoor
open Go.RowKit Nt Nt.Num

set_option maxHeartbeats 400000 in
theorem n_far (n : Int) (w : World) (ha : Fits n) :
    Calls Tryd.prog 118 #[.int .i64 n] w fun e w' => e = .returned (.int .u64 (n.natAbs : Int)) ∧ w' = w := by
  obtain ⟨a1, a2⟩ := ha
  by_cases s : n < 0
  · have h : IntKind.u64.wrap n = n + 18446744073709551616 := by rw [IntKind.wrap_u64]; omega
    have h2 : IntKind.u64.wrap (-(n + 18446744073709551616)) = -n := by rw [IntKind.wrap_u64]; omega
    go_enter Tryd.func118, Tryd.ntmps118
    go_wp2
    go_ret
    exact ⟨ret_int (by omega), rfl⟩
  · go_enter Tryd.func118, Tryd.ntmps118
    go_wp2
    go_ret
    exact ⟨ret_int (by omega), rfl⟩
set_option maxHeartbeats 400000 in
theorem r_div (a b : Int) (w : World) (ha : Fits a) (hb : Fits b) :
    Calls Tryd.prog 96 #[.int .i64 a, .int .i64 b] w fun e w' => e = .returned (.tuple #[.int .i64 (divs a b).1, .int .i64 (divs a b).2.1, .int .i64 (divs a b).2.2]) ∧ w' = w := by
  obtain ⟨a1, a2⟩ := ha
  obtain ⟨b1, b2⟩ := hb
  by_cases h0 : b = 0
  · subst h0
    go_enter Tryd.func96, Tryd.ntmps96
    go_wp2
    go_ret3
    exact ⟨rfl, rfl⟩
  · have k0 : (b == 0) = false := by simp [h0]
    by_cases hm : a = -9223372036854775808 ∧ b = -1
    · obtain ⟨rfl, rfl⟩ := hm
      go_enter Tryd.func96, Tryd.ntmps96
      go_wp2
      go_ret3
      exact ⟨rfl, rfl⟩
    · obtain ⟨q1, q2, r1, r2⟩ := div_bounds a b ⟨a1, a2⟩ ⟨b1, b2⟩ h0 hm
      have H := Lib.hid (divs_rest a b h0 hm)
      have X := Lib.hid (xor_neg (a.tmod b) b (by unfold Fits; omega) ⟨b1, b2⟩)
      have hlt := tmod_lt a b h0
      have hab : (a == -9223372036854775808) = false ∨ ((a == -9223372036854775808) = true ∧ (b == -1) = false) := by simp only [beq_eq_false_iff_ne, beq_iff_eq]; omega
      have hq : a.tdiv b - 1 < -9223372036854775808 → a.tmod b = 0 := fun h => by
        have e : a.tdiv b = -9223372036854775808 := by omega
        have h1 := Int.mul_tdiv_add_tmod a b
        have h2 := tdiv_abs a b
        have ha' : a = -9223372036854775808 := by
          have := Int.natAbs_tdiv a b
          omega
        have h3 : (a.tdiv b).natAbs = a.natAbs / b.natAbs := Int.natAbs_tdiv a b
        have hb1 : b.natAbs = 1 := by
          by_cases h4 : b.natAbs = 1
          · exact h4
          · have : a.natAbs / b.natAbs ≤ a.natAbs / 2 := Nat.div_le_div_left (by omega) (by omega)
            omega
        omega
      clear hm h0
      by_cases hr0 : a.tmod b = 0
      · have kr : (a.tmod b != 0) = false := by simp [hr0]
        have H2 := Lib.hid (show divs a b = (a.tdiv b, a.tmod b, 0) by rw [H.out, if_neg (by simp [hr0])])
        clear hr0 H X hq
        rcases hab with ka | ⟨ka, kb⟩
        all_goals
          go_enter Tryd.func96, Tryd.ntmps96
          go_wp2
          go_ret3
          exact ⟨by rw [H2.out]; rfl, rfl⟩
      · have kr : (a.tmod b != 0) = true := by simp [hr0]
        have q3 : -9223372036854775808 ≤ a.tdiv b - 1 := by
          by_cases h : a.tdiv b - 1 < -9223372036854775808
          · exact absurd (hq h) hr0
          · omega
        by_cases hs : a.tmod b < 0 ↔ b < 0
        · have H2 := Lib.hid (show divs a b = (a.tdiv b, a.tmod b, 0) by rw [H.out, if_neg (by simp [hs])])
          have d1 : decide (bits .xor .i64 (a.tmod b) b < 0) = false := decide_eq_false (by rw [X.out]; simp [hs])
          have d2 : (!decide (a.tmod b < 0) == decide (b < 0)) = false := by by_cases h2 : b < 0 <;> simp [hs, h2]
          clear hr0 H X hq hs
          rcases hab with ka | ⟨ka, kb⟩
          all_goals
            go_enter Tryd.func96, Tryd.ntmps96
            go_wp2
            go_ret3
            exact ⟨by rw [H2.out]; rfl, rfl⟩
        · have H2 := Lib.hid (show divs a b = (a.tdiv b - 1, a.tmod b + b, 0) by rw [H.out, if_pos ⟨hr0, hs⟩])
          have d1 : decide (bits .xor .i64 (a.tmod b) b < 0) = true := decide_eq_true (by rw [X.out]; exact hs)
          have d2 : (!decide (a.tmod b < 0) == decide (b < 0)) = true := by
            by_cases h1 : a.tmod b < 0 <;> by_cases h2 : b < 0 <;> simp_all
          have r3 : -9223372036854775808 ≤ a.tmod b + b := by omega
          have r4 : a.tmod b + b ≤ 9223372036854775807 := by omega
          clear hr0 H X hq hs
          rcases hab with ka | ⟨ka, kb⟩
          all_goals
            go_enter Tryd.func96, Tryd.ntmps96
            go_wp2
            go_ret3
            exact ⟨by rw [H2.out]; rfl, rfl⟩
set_option maxHeartbeats 400000 in
theorem n_div (a b : Int) (w : World) (ha : Fits a) (hb : Fits b) :
    Calls Tryd.prog 95 #[.int .i64 a, .int .i64 b] w fun e w' => e = .returned (.tuple #[.int .i64 (divs a b).1, .int .i64 (divs a b).2.1, .int .i64 (divs a b).2.2]) ∧ ∃ n, w' = w.drewN n := by
  obtain ⟨a1, a2⟩ := ha
  obtain ⟨b1, b2⟩ := hb
  by_cases h0 : b = 0
  · subst h0
    go_enter Tryd.func95, Tryd.ntmps95
    go_wp2
    go_ret3
    exact ⟨rfl, 0, rfl⟩
  · have k0 : (b == 0) = false := by simp [h0]
    by_cases hm : a = -9223372036854775808 ∧ b = -1
    · obtain ⟨rfl, rfl⟩ := hm
      go_enter Tryd.func95, Tryd.ntmps95
      go_wp2
      go_ret3
      exact ⟨rfl, 0, rfl⟩
    · obtain ⟨q1, q2, r1, r2⟩ := div_bounds a b ⟨a1, a2⟩ ⟨b1, b2⟩ h0 hm
      have H := Lib.hid (divs_rest a b h0 hm)
      have X := Lib.hid (xor_neg (a.tmod b) b (by unfold Fits; omega) ⟨b1, b2⟩)
      have hlt := tmod_lt a b h0
      have hab : (a == -9223372036854775808) = false ∨ ((a == -9223372036854775808) = true ∧ (b == -1) = false) := by simp only [beq_eq_false_iff_ne, beq_iff_eq]; omega
      have hq : a.tdiv b - 1 < -9223372036854775808 → a.tmod b = 0 := fun h => by
        have e : a.tdiv b = -9223372036854775808 := by omega
        have h1 := Int.mul_tdiv_add_tmod a b
        have h2 := tdiv_abs a b
        have ha' : a = -9223372036854775808 := by
          have := Int.natAbs_tdiv a b
          omega
        have h3 : (a.tdiv b).natAbs = a.natAbs / b.natAbs := Int.natAbs_tdiv a b
        have hb1 : b.natAbs = 1 := by
          by_cases h4 : b.natAbs = 1
          · exact h4
          · have : a.natAbs / b.natAbs ≤ a.natAbs / 2 := Nat.div_le_div_left (by omega) (by omega)
            omega
        omega
      clear hm h0
      by_cases hr0 : a.tmod b = 0
      · have kr : (a.tmod b != 0) = false := by simp [hr0]
        have H2 := Lib.hid (show divs a b = (a.tdiv b, a.tmod b, 0) by rw [H.out, if_neg (by simp [hr0])])
        clear hr0 H X hq
        rcases hab with ka | ⟨ka, kb⟩
        all_goals
          go_enter Tryd.func95, Tryd.ntmps95
          go_wp2
          go_quiet (fail)
          go_wp2
          go_ret3
          exact ⟨by rw [H2.out]; rfl, _, rfl⟩
      · have kr : (a.tmod b != 0) = true := by simp [hr0]
        have q3 : -9223372036854775808 ≤ a.tdiv b - 1 := by
          by_cases h : a.tdiv b - 1 < -9223372036854775808
          · exact absurd (hq h) hr0
          · omega
        by_cases hs : a.tmod b < 0 ↔ b < 0
        · have H2 := Lib.hid (show divs a b = (a.tdiv b, a.tmod b, 0) by rw [H.out, if_neg (by simp [hs])])
          have d1 : decide (bits .xor .i64 (a.tmod b) b < 0) = false := decide_eq_false (by rw [X.out]; simp [hs])
          have d2 : (!decide (a.tmod b < 0) == decide (b < 0)) = false := by by_cases h2 : b < 0 <;> simp [hs, h2]
          clear hr0 H X hq hs
          rcases hab with ka | ⟨ka, kb⟩
          all_goals
            go_enter Tryd.func95, Tryd.ntmps95
            go_wp2
            go_quiet (fail)
            go_wp2
            go_ret3
            exact ⟨by rw [H2.out]; rfl, _, rfl⟩
        · have H2 := Lib.hid (show divs a b = (a.tdiv b - 1, a.tmod b + b, 0) by rw [H.out, if_pos ⟨hr0, hs⟩])
          have d1 : decide (bits .xor .i64 (a.tmod b) b < 0) = true := decide_eq_true (by rw [X.out]; exact hs)
          have d2 : (!decide (a.tmod b < 0) == decide (b < 0)) = true := by
            by_cases h1 : a.tmod b < 0 <;> by_cases h2 : b < 0 <;> simp_all
          have r3 : -9223372036854775808 ≤ a.tmod b + b := by omega
          have r4 : a.tmod b + b ≤ 9223372036854775807 := by omega
          clear hr0 H X hq hs
          rcases hab with ka | ⟨ka, kb⟩
          all_goals
            go_enter Tryd.func95, Tryd.ntmps95
            go_wp2
            go_quiet (fail)
            go_wp2
            go_ret3
            exact ⟨by rw [H2.out]; rfl, _, rfl⟩
end Go.Proofs.YtnchnnbggfeknaaDoor
