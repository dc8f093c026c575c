/-
  The plain law of num: whole numbers that do not go round.
-/
import Derived.Test.YtnchnnbggfeknaaDoorBase
set_option linter.unusedVariables false
namespace Nt.Num
open Go Go.RowKit Nt

/-- A number that fits 64 bits. -/
def Fits (n : Int) : Prop := -9223372036854775808 ≤ n ∧ n ≤ 9223372036854775807
instance (n : Int) : Decidable (Fits n) := inferInstanceAs (Decidable (_ ∧ _))

/-- A result, if it fits; else why not. -/
def told (n : Int) : Int × Int := if Fits n then (n, 0) else (0, 1)

theorem told_yes {n : Int} (h : Fits n) : told n = (n, 0) := if_pos h
theorem told_no {n : Int} (h : ¬ Fits n) : told n = (0, 1) := if_neg h

/-- Division, rounded down: by Go's own quotient and rest. -/
def divs (a b : Int) : Int × Int × Int :=
  if b = 0 ∨ (a = -9223372036854775808 ∧ b = -1) then (0, 0, 1)
  else if a.tmod b ≠ 0 ∧ ¬ (a.tmod b < 0 ↔ b < 0) then (a.tdiv b - 1, a.tmod b + b, 0) else (a.tdiv b, a.tmod b, 0)

theorem divs_rest (a b : Int) (h0 : b ≠ 0) (hm : ¬ (a = -9223372036854775808 ∧ b = -1)) :
    divs a b = if a.tmod b ≠ 0 ∧ ¬ (a.tmod b < 0 ↔ b < 0) then (a.tdiv b - 1, a.tmod b + b, 0) else (a.tdiv b, a.tmod b, 0) := by
  unfold divs
  rw [if_neg (by rintro (h | h); exact h0 h; exact hm h)]

theorem tmod_lt (a b : Int) (h0 : b ≠ 0) : -(b.natAbs : Int) < a.tmod b ∧ a.tmod b < b.natAbs := by
  have h1 := Int.natAbs_tmod a b
  have h2 : (a.tmod b).natAbs < b.natAbs := by rw [h1]; exact Nat.mod_lt _ (by omega)
  omega

theorem tdiv_abs (a b : Int) : (a.tdiv b).natAbs ≤ a.natAbs := by
  rw [Int.natAbs_tdiv]
  exact Nat.div_le_self _ _

theorem div_bounds (a b : Int) (ha : Fits a) (hb : Fits b) (h0 : b ≠ 0) (hm : ¬ (a = -9223372036854775808 ∧ b = -1)) :
    -9223372036854775808 ≤ a.tdiv b ∧ a.tdiv b ≤ 9223372036854775807 ∧ -9223372036854775807 ≤ a.tmod b ∧ a.tmod b ≤ 9223372036854775807 := by
  obtain ⟨a1, a2⟩ := ha
  obtain ⟨b1, b2⟩ := hb
  have r := tmod_lt a b h0
  have q := tdiv_abs a b
  refine ⟨by omega, ?_, by omega, by omega⟩
  by_cases h1 : a = -9223372036854775808
  · have hb1 : b ≠ -1 := fun h => hm ⟨h1, h⟩
    by_cases hb2 : b = 1
    · subst hb2; rw [Int.tdiv_one]; omega
    · have h2 : (a.tdiv b).natAbs = a.natAbs / b.natAbs := Int.natAbs_tdiv a b
      have h3 : a.natAbs / b.natAbs ≤ a.natAbs / 2 := Nat.div_le_div_left (by omega) (by omega)
      omega
  · omega

theorem xor_neg (r b : Int) (hr : Fits r) (hb : Fits b) : bits .xor .i64 r b < 0 ↔ ¬ (r < 0 ↔ b < 0) := by
  have msb : ∀ x : Int, Fits x → (BitVec.ofInt 64 x).msb = decide (x < 0) := fun x hx => by
    rw [BitVec.msb_eq_toInt, BitVec.toInt_ofInt, Int.bmod_eq_of_le (by unfold Fits at hx; omega) (by unfold Fits at hx; omega)]
  have h1 : ∀ n : Nat, n < 18446744073709551616 → (IntKind.i64.wrap (n : Int) < 0 ↔ 9223372036854775808 ≤ n) := fun n hn => by rw [IntKind.wrap_i64]; omega
  have h2 : (BitVec.ofInt 64 r ^^^ BitVec.ofInt 64 b).msb = (decide (r < 0) ^^ decide (b < 0)) := by rw [BitVec.msb_xor, msb r hr, msb b hb]
  have h3 : bits .xor .i64 r b = IntKind.i64.wrap (((BitVec.ofInt 64 r ^^^ BitVec.ofInt 64 b).toNat : Nat) : Int) := rfl
  have h4 := (BitVec.ofInt 64 r ^^^ BitVec.ofInt 64 b).isLt
  rw [h3, h1 _ h4]
  have h5 := BitVec.msb_eq_decide (BitVec.ofInt 64 r ^^^ BitVec.ofInt 64 b)
  rw [h2] at h5
  have h6 : (9223372036854775808 ≤ (BitVec.ofInt 64 r ^^^ BitVec.ofInt 64 b).toNat) ↔ (decide (r < 0) ^^ decide (b < 0)) = true := by
    rw [h5, decide_eq_true_eq]
  rw [h6]
  by_cases hr0 : r < 0 <;> by_cases hb0 : b < 0 <;> simp [hr0, hb0]

def clamp (n low high : Int) : Int := if n < low then low else if high < n then high else n

theorem wrap_over {n : Int} (h : 9223372036854775807 < n) (h2 : n ≤ 18446744073709551615) : wrap64 n < 0 := by unfold wrap64; omega
theorem wrap_under {n : Int} (h : n < -9223372036854775808) (h2 : -18446744073709551616 ≤ n) : 0 ≤ wrap64 n := by unfold wrap64; omega

theorem mul_abs (a b : Int) : (a * b).natAbs = a.natAbs * b.natAbs := Int.natAbs_mul a b

theorem mul_below (a b : Int) (h : ¬ (a < 0 ↔ b < 0)) : a * b = -((a.natAbs * b.natAbs : Nat) : Int) := by
  have h1 := mul_abs a b
  have h2 : a * b ≤ 0 := by
    by_cases ha : a < 0
    · exact Int.mul_nonpos_of_nonpos_of_nonneg (by omega) (by omega)
    · exact Int.mul_nonpos_of_nonneg_of_nonpos (by omega) (by omega)
  omega

theorem mul_above (a b : Int) (h : a < 0 ↔ b < 0) : a * b = ((a.natAbs * b.natAbs : Nat) : Int) := by
  have h1 := mul_abs a b
  have h2 : 0 ≤ a * b := by
    by_cases ha : a < 0
    · exact Int.mul_nonneg_of_nonpos_of_nonpos (by omega) (by omega)
    · exact Int.mul_nonneg (by omega) (by omega)
  omega

theorem wrap_mod (n : Int) : ∃ k : Int, wrap64 n = n - k * 18446744073709551616 ∧ Fits (wrap64 n) := by
  unfold wrap64 Fits
  refine ⟨(n + 9223372036854775808) / 18446744073709551616, ?_, ?_⟩ <;> omega

/-- A product that went round is no multiple any more. -/
theorem mul_lost (a b : Int) (ha : Fits a) (hb : Fits b) (h0 : b ≠ 0) (hf : ¬ Fits (a * b)) : (wrap64 (a * b)).tdiv b ≠ a := by
  intro h
  obtain ⟨k, hk, hw⟩ := wrap_mod (a * b)
  have h1 := Int.mul_tdiv_add_tmod (wrap64 (a * b)) b
  have h2 := tmod_lt (wrap64 (a * b)) b h0
  rw [h] at h1
  have hc : b * a = a * b := Int.mul_comm b a
  rw [hc] at h1
  have hb2 : b.natAbs ≤ 9223372036854775808 := by unfold Fits at hb; omega
  have hk0 : k = 0 := by omega
  subst hk0
  rw [hk] at hw
  exact hf (by simpa using hw)

theorem quo_wrap (a b : Int) (ha : Fits a) (hb : Fits b) (h0 : b ≠ 0) (hf : ¬ Fits (a * b)) (hm : ¬ (b = -1 ∧ a = -9223372036854775808)) : wrap64 ((wrap64 (a * b)).tdiv b) = (wrap64 (a * b)).tdiv b := by
  obtain ⟨k, hk, hw⟩ := wrap_mod (a * b)
  have hx : ¬ (wrap64 (a * b) = -9223372036854775808 ∧ b = -1) := by
    rintro ⟨h1, h2⟩
    subst h2
    rw [h1] at hk
    unfold Fits at ha
    omega
  have := div_bounds (wrap64 (a * b)) b hw hb h0 hx
  generalize (wrap64 (a * b)).tdiv b = q at *
  unfold wrap64
  omega

end Nt.Num
