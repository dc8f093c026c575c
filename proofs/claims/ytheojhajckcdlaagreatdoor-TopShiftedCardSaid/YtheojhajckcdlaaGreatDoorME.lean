/-
  words.begins, words.Same and the reference's own: each tells what the plain law says. words.Match: it tells what the plain law says. The reference's Match: it tells what the plain law says. num and its reference, function by function: sums, products, what is left, quotients. num and its reference, function by function: sums, products, what is left, quotients, the rest. num.Mul and its reference: a product, if it fits. num.cut: a text's sign and digits. '[]byte(s)': a new row of the string's bytes. num.Read: the number of a text. The reference's Digits and Read. The reference's Read: the number of a text. The reference's Read of a text with a - ahead. Contracts of num.Read, of words.Match, and of the reference's, for the evaluator.
-/
import Derived.Test.YtheojhajckcdlaaGreatDoorProg
import Derived.Test.YtheojhajckcdlaaGreatDoorMC
import Derived.Test.YtheojhajckcdlaaGreatDoorMS
import Derived.Laws.IdiomStrings
set_option linter.unusedVariables false
set_option linter.unusedSimpArgs false
set_option linter.unusedSectionVars false
namespace Go.Proofs.YtheojhajckcdlaaGreatDoor
open Go.RowKit Nt Nt.Words
end Go.Proofs.YtheojhajckcdlaaGreatDoor

namespace Go.Proofs.YtheojhajckcdlaaGreatDoor
open Go.RowKit Nt Nt.Words
def iv (i : Nat) : Value := .int .i64 (i : Int)
end Go.Proofs.YtheojhajckcdlaaGreatDoor

namespace Go.Proofs.YtheojhajckcdlaaGreatDoor
open Go.RowKit Nt Nt.Words
end Go.Proofs.YtheojhajckcdlaaGreatDoor

namespace Go.Proofs.YtheojhajckcdlaaGreatDoor
open Go.RowKit Nt Nt.Num
end Go.Proofs.YtheojhajckcdlaaGreatDoor

namespace Go.Proofs.YtheojhajckcdlaaGreatDoor
open Go.RowKit Nt Nt.Num
set_option maxHeartbeats 400000 in
theorem n_div (a b : Int) (w : World) (ha : Fits a) (hb : Fits b) :
    Calls Tryz.prog 92 #[.int .i64 a, .int .i64 b] w fun e w' => e = .returned (.tuple #[.int .i64 (divs a b).1, .int .i64 (divs a b).2.1, .int .i64 (divs a b).2.2]) ∧ ∃ n, w' = w.drewN n := by
  obtain ⟨a1, a2⟩ := ha
  obtain ⟨b1, b2⟩ := hb
  by_cases h0 : b = 0
  · subst h0
    go_enter Tryz.func92, Tryz.ntmps92
    go_wp2
    go_ret3
    exact ⟨rfl, 0, rfl⟩
  · have k0 : (b == 0) = false := by simp [h0]
    by_cases hm : a = -9223372036854775808 ∧ b = -1
    · obtain ⟨rfl, rfl⟩ := hm
      go_enter Tryz.func92, Tryz.ntmps92
      go_wp2
      go_ret3
      exact ⟨rfl, 0, rfl⟩
    · obtain ⟨q1, q2, r1, r2⟩ := div_bounds a b ⟨a1, a2⟩ ⟨b1, b2⟩ h0 hm
      have H := Lib.hid (divs_rest a b h0 hm)
      have X := Lib.hid (xor_neg (a.tmod b) b (by unfold Fits; omega) ⟨b1, b2⟩)
      have hlt := tmod_lt a b h0
      have hab : (a == -9223372036854775808) = false ∨ ((a == -9223372036854775808) = true ∧ (b == -1) = false) := by simp only [beq_eq_false_iff_ne, beq_iff_eq]; omega
      have hq : a.tdiv b - 1 < -9223372036854775808 → a.tmod b = 0 := fun h => by
        have e : a.tdiv b = -9223372036854775808 := by omega
        have h1 := Int.mul_tdiv_add_tmod a b
        have h2 := tdiv_abs a b
        have ha' : a = -9223372036854775808 := by
          have := Int.natAbs_tdiv a b
          omega
        have h3 : (a.tdiv b).natAbs = a.natAbs / b.natAbs := Int.natAbs_tdiv a b
        have hb1 : b.natAbs = 1 := by
          by_cases h4 : b.natAbs = 1
          · exact h4
          · have : a.natAbs / b.natAbs ≤ a.natAbs / 2 := Nat.div_le_div_left (by omega) (by omega)
            omega
        omega
      clear hm h0
      by_cases hr0 : a.tmod b = 0
      · have kr : (a.tmod b != 0) = false := by simp [hr0]
        have H2 := Lib.hid (show divs a b = (a.tdiv b, a.tmod b, 0) by rw [H.out, if_neg (by simp [hr0])])
        clear hr0 H X hq
        rcases hab with ka | ⟨ka, kb⟩
        all_goals
          go_enter Tryz.func92, Tryz.ntmps92
          go_wp2
          go_quiet (fail)
          go_wp2
          go_ret3
          exact ⟨by rw [H2.out]; rfl, _, rfl⟩
      · have kr : (a.tmod b != 0) = true := by simp [hr0]
        have q3 : -9223372036854775808 ≤ a.tdiv b - 1 := by
          by_cases h : a.tdiv b - 1 < -9223372036854775808
          · exact absurd (hq h) hr0
          · omega
        by_cases hs : a.tmod b < 0 ↔ b < 0
        · have H2 := Lib.hid (show divs a b = (a.tdiv b, a.tmod b, 0) by rw [H.out, if_neg (by simp [hs])])
          have d1 : decide (bits .xor .i64 (a.tmod b) b < 0) = false := decide_eq_false (by rw [X.out]; simp [hs])
          have d2 : (!decide (a.tmod b < 0) == decide (b < 0)) = false := by by_cases h2 : b < 0 <;> simp [hs, h2]
          clear hr0 H X hq hs
          rcases hab with ka | ⟨ka, kb⟩
          all_goals
            go_enter Tryz.func92, Tryz.ntmps92
            go_wp2
            go_quiet (fail)
            go_wp2
            go_ret3
            exact ⟨by rw [H2.out]; rfl, _, rfl⟩
        · have H2 := Lib.hid (show divs a b = (a.tdiv b - 1, a.tmod b + b, 0) by rw [H.out, if_pos ⟨hr0, hs⟩])
          have d1 : decide (bits .xor .i64 (a.tmod b) b < 0) = true := decide_eq_true (by rw [X.out]; exact hs)
          have d2 : (!decide (a.tmod b < 0) == decide (b < 0)) = true := by
            by_cases h1 : a.tmod b < 0 <;> by_cases h2 : b < 0 <;> simp_all
          have r3 : -9223372036854775808 ≤ a.tmod b + b := by omega
          have r4 : a.tmod b + b ≤ 9223372036854775807 := by omega
          clear hr0 H X hq hs
          rcases hab with ka | ⟨ka, kb⟩
          all_goals
            go_enter Tryz.func92, Tryz.ntmps92
            go_wp2
            go_quiet (fail)
            go_wp2
            go_ret3
            exact ⟨by rw [H2.out]; rfl, _, rfl⟩
end Go.Proofs.YtheojhajckcdlaaGreatDoor

namespace Go.Proofs.YtheojhajckcdlaaGreatDoor
open Go.RowKit Nt Nt.Num
end Go.Proofs.YtheojhajckcdlaaGreatDoor

namespace Go.Proofs.YtheojhajckcdlaaGreatDoor
open Go.RowKit Nt Nt.Num
end Go.Proofs.YtheojhajckcdlaaGreatDoor

namespace Nt
open Go Go.RowKit
end Nt

namespace Go.Proofs.YtheojhajckcdlaaGreatDoor
open Go.RowKit Nt Nt.Num
end Go.Proofs.YtheojhajckcdlaaGreatDoor

namespace Go.Proofs.YtheojhajckcdlaaGreatDoor
open Go.RowKit Nt Nt.Num
end Go.Proofs.YtheojhajckcdlaaGreatDoor

namespace Go.Proofs.YtheojhajckcdlaaGreatDoor
open Go.RowKit Nt Nt.Num
end Go.Proofs.YtheojhajckcdlaaGreatDoor

namespace Go.Proofs.YtheojhajckcdlaaGreatDoor
open Go.RowKit Nt Nt.Num
end Go.Proofs.YtheojhajckcdlaaGreatDoor

namespace Nt.Ev.YtheojhajckcdlaaGreatDoor
open Go Go.RowKit Nt Nt.Num Go.Proofs.YtheojhajckcdlaaGreatDoor
def idxB (s : List UInt8) (c : Int) : Int := Lib.indexByte s c.toNat.toUInt8
theorem idx_c (s : List UInt8) (c : Int) : Contract nE 28 [.str s, .int .u8 c] (.int .i64 (idxB s c)) := by
  refine contract_old fun G w vs hG hg hp => ?_
  obtain ⟨x, y, rfl, hx, hy⟩ := PW_two hp
  unfold rep at hx hy
  subst hx; subst hy
  refine (Go.Proofs.Tryz.strings_IndexByte ⟨s.toArray⟩ c w).mono ?_
  rintro e w' ⟨rfl, rfl⟩
  exact ⟨_, rfl, Below.refl _ _, res_int _ _⟩
end Nt.Ev.YtheojhajckcdlaaGreatDoor
