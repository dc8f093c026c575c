/-
  The plain law of the calendar: days, years, months. Civil: equations of functions, as the evaluator prints them. Days of the calendar: what the program's functions and the document's answer.
-/
import Derived.Test.YtpmemdamcadbgaaGreatDoorME
namespace Nt.Civil
def leapB (y : Int) : Bool := decide (y % 4 = 0 ∧ (y % 100 ≠ 0 ∨ y % 400 = 0))
def lenI (y m : Int) : Int := if m = 2 then (if leapB y = true then 29 else 28) else if m = 4 ∨ m = 6 ∨ m = 9 ∨ m = 11 then 30 else if 1 ≤ m ∧ m ≤ 12 then 31 else 0
def leapsI (y : Int) : Int := y / 4 - y / 100 + y / 400
def aheadI (y : Int) : Int := 365 * (y - 1970) + leapsI (y - 1) - leapsI 1969
def valid (y m d : Int) : Prop := 1 ≤ d ∧ d ≤ lenI y m
theorem leap_iff (y : Int) : leapB y = true ↔ (y % 4 = 0 ∧ (y % 100 ≠ 0 ∨ y % 400 = 0)) := by unfold leapB; rw [decide_eq_true_eq]
theorem ahead_step (y : Int) : aheadI (y + 1) = aheadI y + 365 + (if leapB y = true then 1 else 0) := by
  unfold aheadI leapsI
  split
  · rename_i h; rw [leap_iff] at h; omega
  · rename_i h; rw [leap_iff] at h; omega
end Nt.Civil

set_option linter.unusedVariables false
set_option linter.unusedSimpArgs false
set_option linter.unusedSectionVars false
namespace Nt.Ev.YtpmemdamcadbgaaGreatDoor
open Go Nt.Num Go.Proofs.YtpmemdamcadbgaaGreatDoor
open Nt.Civil
noncomputable def vE : Env := ⟨Go.Proofs.Tryz.prog, fun _ => none⟩
def fr (a b : Int) : Int := a % b
noncomputable def vS : List (Nat × FSpec) := []
noncomputable def leapS : FSpec := fun a => match a with | [.int .i64 y] => some (band (ile (-9223372036854775808) y) (ile y 9223372036854775807), .bool (leapB y)) | _ => none
noncomputable def vS1 : List (Nat × FSpec) := (103, leapS) :: vS
set_option maxRecDepth 100000 in
theorem vLeap_top (F : Nat) (y : Int) (K : V → Option V) :
 evBd vE (evFn vE vS F 2) F 103 [(V.int .i64 y)] K =
 sel (ieq (ibits .and .i64 y 3) 0)
 (sel (bnot (ieq (irem y 25) 0))
 (K (V.bool true))
 (K (V.bool (ieq (ibits .and .i64 y 15) 0))))
 (K (V.bool false)) := by kernel_rfl
set_option maxRecDepth 100000 in
theorem vLen_top (F : Nat) (y : Int) (m : Int) (K : V → Option V) :
 evBd vE (evFn vE vS1 F 2) F 75 [(V.int .i64 y), (V.int .i64 m)] K =
 sel (ieq m 1)
 (sel (ieq m 1)
 (K (V.int .i64 31))
 (sel (ieq m 4)
 (sel (ieq m 4)
 (K (V.int .i64 30))
 (sel (ieq m 2)
 (sel (band (ile (-9223372036854775808) y) (ile y 9223372036854775807))
 (sel (leapB y)
 (K (V.int .i64 29))
 (K (V.int .i64 28)))
 (none))
 (K (V.int .i64 0))))
 (sel (ieq m 6)
 (sel (ieq m 6)
 (K (V.int .i64 30))
 (sel (ieq m 2)
 (sel (band (ile (-9223372036854775808) y) (ile y 9223372036854775807))
 (sel (leapB y)
 (K (V.int .i64 29))
 (K (V.int .i64 28)))
 (none))
 (K (V.int .i64 0))))
 (sel (ieq m 9)
 (sel (ieq m 9)
 (K (V.int .i64 30))
 (sel (ieq m 2)
 (sel (band (ile (-9223372036854775808) y) (ile y 9223372036854775807))
 (sel (leapB y)
 (K (V.int .i64 29))
 (K (V.int .i64 28)))
 (none))
 (K (V.int .i64 0))))
 (sel (ieq m 11)
 (K (V.int .i64 30))
 (sel (ieq m 2)
 (sel (band (ile (-9223372036854775808) y) (ile y 9223372036854775807))
 (sel (leapB y)
 (K (V.int .i64 29))
 (K (V.int .i64 28)))
 (none))
 (K (V.int .i64 0))))))))
 (sel (ieq m 3)
 (sel (ieq m 3)
 (K (V.int .i64 31))
 (sel (ieq m 4)
 (sel (ieq m 4)
 (K (V.int .i64 30))
 (sel (ieq m 2)
 (sel (band (ile (-9223372036854775808) y) (ile y 9223372036854775807))
 (sel (leapB y)
 (K (V.int .i64 29))
 (K (V.int .i64 28)))
 (none))
 (K (V.int .i64 0))))
 (sel (ieq m 6)
 (sel (ieq m 6)
 (K (V.int .i64 30))
 (sel (ieq m 2)
 (sel (band (ile (-9223372036854775808) y) (ile y 9223372036854775807))
 (sel (leapB y)
 (K (V.int .i64 29))
 (K (V.int .i64 28)))
 (none))
 (K (V.int .i64 0))))
 (sel (ieq m 9)
 (sel (ieq m 9)
 (K (V.int .i64 30))
 (sel (ieq m 2)
 (sel (band (ile (-9223372036854775808) y) (ile y 9223372036854775807))
 (sel (leapB y)
 (K (V.int .i64 29))
 (K (V.int .i64 28)))
 (none))
 (K (V.int .i64 0))))
 (sel (ieq m 11)
 (K (V.int .i64 30))
 (sel (ieq m 2)
 (sel (band (ile (-9223372036854775808) y) (ile y 9223372036854775807))
 (sel (leapB y)
 (K (V.int .i64 29))
 (K (V.int .i64 28)))
 (none))
 (K (V.int .i64 0))))))))
 (sel (ieq m 5)
 (sel (ieq m 5)
 (K (V.int .i64 31))
 (sel (ieq m 4)
 (sel (ieq m 4)
 (K (V.int .i64 30))
 (sel (ieq m 2)
 (sel (band (ile (-9223372036854775808) y) (ile y 9223372036854775807))
 (sel (leapB y)
 (K (V.int .i64 29))
 (K (V.int .i64 28)))
 (none))
 (K (V.int .i64 0))))
 (sel (ieq m 6)
 (sel (ieq m 6)
 (K (V.int .i64 30))
 (sel (ieq m 2)
 (sel (band (ile (-9223372036854775808) y) (ile y 9223372036854775807))
 (sel (leapB y)
 (K (V.int .i64 29))
 (K (V.int .i64 28)))
 (none))
 (K (V.int .i64 0))))
 (sel (ieq m 9)
 (sel (ieq m 9)
 (K (V.int .i64 30))
 (sel (ieq m 2)
 (sel (band (ile (-9223372036854775808) y) (ile y 9223372036854775807))
 (sel (leapB y)
 (K (V.int .i64 29))
 (K (V.int .i64 28)))
 (none))
 (K (V.int .i64 0))))
 (sel (ieq m 11)
 (K (V.int .i64 30))
 (sel (ieq m 2)
 (sel (band (ile (-9223372036854775808) y) (ile y 9223372036854775807))
 (sel (leapB y)
 (K (V.int .i64 29))
 (K (V.int .i64 28)))
 (none))
 (K (V.int .i64 0))))))))
 (sel (ieq m 7)
 (sel (ieq m 7)
 (K (V.int .i64 31))
 (sel (ieq m 4)
 (sel (ieq m 4)
 (K (V.int .i64 30))
 (sel (ieq m 2)
 (sel (band (ile (-9223372036854775808) y) (ile y 9223372036854775807))
 (sel (leapB y)
 (K (V.int .i64 29))
 (K (V.int .i64 28)))
 (none))
 (K (V.int .i64 0))))
 (sel (ieq m 6)
 (sel (ieq m 6)
 (K (V.int .i64 30))
 (sel (ieq m 2)
 (sel (band (ile (-9223372036854775808) y) (ile y 9223372036854775807))
 (sel (leapB y)
 (K (V.int .i64 29))
 (K (V.int .i64 28)))
 (none))
 (K (V.int .i64 0))))
 (sel (ieq m 9)
 (sel (ieq m 9)
 (K (V.int .i64 30))
 (sel (ieq m 2)
 (sel (band (ile (-9223372036854775808) y) (ile y 9223372036854775807))
 (sel (leapB y)
 (K (V.int .i64 29))
 (K (V.int .i64 28)))
 (none))
 (K (V.int .i64 0))))
 (sel (ieq m 11)
 (K (V.int .i64 30))
 (sel (ieq m 2)
 (sel (band (ile (-9223372036854775808) y) (ile y 9223372036854775807))
 (sel (leapB y)
 (K (V.int .i64 29))
 (K (V.int .i64 28)))
 (none))
 (K (V.int .i64 0))))))))
 (sel (ieq m 8)
 (sel (ieq m 8)
 (K (V.int .i64 31))
 (sel (ieq m 4)
 (sel (ieq m 4)
 (K (V.int .i64 30))
 (sel (ieq m 2)
 (sel (band (ile (-9223372036854775808) y) (ile y 9223372036854775807))
 (sel (leapB y)
 (K (V.int .i64 29))
 (K (V.int .i64 28)))
 (none))
 (K (V.int .i64 0))))
 (sel (ieq m 6)
 (sel (ieq m 6)
 (K (V.int .i64 30))
 (sel (ieq m 2)
 (sel (band (ile (-9223372036854775808) y) (ile y 9223372036854775807))
 (sel (leapB y)
 (K (V.int .i64 29))
 (K (V.int .i64 28)))
 (none))
 (K (V.int .i64 0))))
 (sel (ieq m 9)
 (sel (ieq m 9)
 (K (V.int .i64 30))
 (sel (ieq m 2)
 (sel (band (ile (-9223372036854775808) y) (ile y 9223372036854775807))
 (sel (leapB y)
 (K (V.int .i64 29))
 (K (V.int .i64 28)))
 (none))
 (K (V.int .i64 0))))
 (sel (ieq m 11)
 (K (V.int .i64 30))
 (sel (ieq m 2)
 (sel (band (ile (-9223372036854775808) y) (ile y 9223372036854775807))
 (sel (leapB y)
 (K (V.int .i64 29))
 (K (V.int .i64 28)))
 (none))
 (K (V.int .i64 0))))))))
 (sel (ieq m 10)
 (sel (ieq m 10)
 (K (V.int .i64 31))
 (sel (ieq m 4)
 (sel (ieq m 4)
 (K (V.int .i64 30))
 (sel (ieq m 2)
 (sel (band (ile (-9223372036854775808) y) (ile y 9223372036854775807))
 (sel (leapB y)
 (K (V.int .i64 29))
 (K (V.int .i64 28)))
 (none))
 (K (V.int .i64 0))))
 (sel (ieq m 6)
 (sel (ieq m 6)
 (K (V.int .i64 30))
 (sel (ieq m 2)
 (sel (band (ile (-9223372036854775808) y) (ile y 9223372036854775807))
 (sel (leapB y)
 (K (V.int .i64 29))
 (K (V.int .i64 28)))
 (none))
 (K (V.int .i64 0))))
 (sel (ieq m 9)
 (sel (ieq m 9)
 (K (V.int .i64 30))
 (sel (ieq m 2)
 (sel (band (ile (-9223372036854775808) y) (ile y 9223372036854775807))
 (sel (leapB y)
 (K (V.int .i64 29))
 (K (V.int .i64 28)))
 (none))
 (K (V.int .i64 0))))
 (sel (ieq m 11)
 (K (V.int .i64 30))
 (sel (ieq m 2)
 (sel (band (ile (-9223372036854775808) y) (ile y 9223372036854775807))
 (sel (leapB y)
 (K (V.int .i64 29))
 (K (V.int .i64 28)))
 (none))
 (K (V.int .i64 0))))))))
 (sel (ieq m 12)
 (K (V.int .i64 31))
 (sel (ieq m 4)
 (sel (ieq m 4)
 (K (V.int .i64 30))
 (sel (ieq m 2)
 (sel (band (ile (-9223372036854775808) y) (ile y 9223372036854775807))
 (sel (leapB y)
 (K (V.int .i64 29))
 (K (V.int .i64 28)))
 (none))
 (K (V.int .i64 0))))
 (sel (ieq m 6)
 (sel (ieq m 6)
 (K (V.int .i64 30))
 (sel (ieq m 2)
 (sel (band (ile (-9223372036854775808) y) (ile y 9223372036854775807))
 (sel (leapB y)
 (K (V.int .i64 29))
 (K (V.int .i64 28)))
 (none))
 (K (V.int .i64 0))))
 (sel (ieq m 9)
 (sel (ieq m 9)
 (K (V.int .i64 30))
 (sel (ieq m 2)
 (sel (band (ile (-9223372036854775808) y) (ile y 9223372036854775807))
 (sel (leapB y)
 (K (V.int .i64 29))
 (K (V.int .i64 28)))
 (none))
 (K (V.int .i64 0))))
 (sel (ieq m 11)
 (K (V.int .i64 30))
 (sel (ieq m 2)
 (sel (band (ile (-9223372036854775808) y) (ile y 9223372036854775807))
 (sel (leapB y)
 (K (V.int .i64 29))
 (K (V.int .i64 28)))
 (none))
 (K (V.int .i64 0))))))))))))) := by kernel_rfl
end Nt.Ev.YtpmemdamcadbgaaGreatDoor

set_option linter.unusedVariables false
set_option linter.unusedSimpArgs false
namespace Nt.Ev.YtpmemdamcadbgaaGreatDoor
open Go Go.RowKit Nt Nt.Num Nt.Civil Go.Proofs.YtpmemdamcadbgaaGreatDoor
theorem vE_ok : EOk vE := ⟨by kernel_rfl, by kernel_rfl⟩
theorem bandV {m : Int} (h : Fits m) : band (ile (-9223372036854775808) m) (ile m 9223372036854775807) = true := by rw [band_iff, ile_iff, ile_iff]; exact h
theorem vS_ok : SOk vE vS := by
  unfold vS
  refine SOk.nil
theorem and_low (y : Int) (k : Nat) (hk : k ≤ 8) (m : Int) (hm : m = ((2 ^ k - 1 : Nat) : Int)) : ibits .and .i64 y m = y % ((2 ^ k : Nat) : Int) := by
  subst hm
  have hp : 2 ^ k ≤ 2 ^ 8 := Nat.pow_le_pow_right (by decide) hk
  have h0 : 0 < 2 ^ k := Nat.pow_pos (by decide)
  have e : ((BitVec.ofInt IntKind.i64.bits y &&& BitVec.ofInt IntKind.i64.bits ((2 ^ k - 1 : Nat) : Int)).toNat : Int) = y % ((2 ^ k : Nat) : Int) := by
    rw [BitVec.toNat_and]
    have h1 : (BitVec.ofInt IntKind.i64.bits ((2 ^ k - 1 : Nat) : Int)).toNat = 2 ^ k - 1 := by
      rw [BitVec.ofInt_natCast, BitVec.toNat_ofNat, Nat.mod_eq_of_lt]
      have : (2 : Nat) ^ 8 < 2 ^ IntKind.i64.bits := by decide
      omega
    rw [h1, Nat.and_two_pow_sub_one_eq_mod, BitVec.toNat_ofInt]
    have h64 : ((2 ^ IntKind.i64.bits : Nat) : Int) = 18446744073709551616 := by decide
    rw [h64]
    have hd : ((2 ^ k : Nat) : Int) ∣ 18446744073709551616 := by
      have : (2 ^ k : Nat) ∣ 2 ^ 64 := Nat.pow_dvd_pow 2 (by omega)
      exact Int.natCast_dvd_natCast.2 this
    have hz : 0 ≤ y % 18446744073709551616 := by omega
    have e5 : ∀ a b : Nat, ((a % b : Nat) : Int) = (a : Int) % (b : Int) := fun _ _ => rfl
    rw [e5, Int.toNat_of_nonneg hz, Int.emod_emod_of_dvd _ hd]
  unfold ibits
  simp only
  rw [e]
  have h2 := Int.emod_nonneg y (show ((2 ^ k : Nat) : Int) ≠ 0 by omega)
  have h3 := Int.emod_lt_of_pos y (show (0 : Int) < ((2 ^ k : Nat) : Int) by omega)
  exact IntWalk.i64_in _ (by omega)
theorem irem_zero (y k : Int) (hk : 0 < k) : (irem y k = 0) = (y % k = 0) := by
  unfold irem
  refine propext ⟨fun h => ?_, fun h => ?_⟩
  · exact Int.emod_eq_zero_of_dvd (Int.dvd_of_tmod_eq_zero h)
  · exact Int.tmod_eq_zero_of_dvd (Int.dvd_of_emod_eq_zero h)
theorem vLeap_ev (y : Int) : Contract vE 103 [.int .i64 y] (.bool (leapB y)) := by
  refine contract_of_body vE_ok vS_ok 5 2 ?_
  rw [vLeap_top, and_low y 2 (by decide) 3 rfl, and_low y 4 (by decide) 15 rfl]
  have e1 : ((2 ^ 2 : Nat) : Int) = 4 := rfl
  have e2 : ((2 ^ 4 : Nat) : Int) = 16 := rfl
  rw [e1, e2]
  simp only [sel_if, ieq_iff, bnot_iff, irem_zero y 25 (by decide)]
  unfold leapB
  repeat' split
  all_goals first
    | (rw [decide_eq_true (by omega)]; done)
    | (rw [decide_eq_false (by omega)]; done)
    | (congr 2; unfold ieq; rw [Bool.eq_iff_iff]; simp; omega)
theorem leapS_ok (y : Int) (hc : band (ile (-9223372036854775808) y) (ile y 9223372036854775807) = true) : Contract vE 103 [.int .i64 y] (.bool (leapB y)) := vLeap_ev y
theorem vS1_ok : SOk vE vS1 := by
  unfold vS1
  refine SOk.cons (fun args r h => ?_) (vS_ok)
  · unfold leapS at h
    split at h
    · simp only [Option.some.injEq, Prod.mk.injEq] at h
      obtain ⟨hc, rfl⟩ := h
      exact leapS_ok _ hc
    · cases h
theorem st' (x y : Option V) : sel true x y = x := rfl
theorem sf' (x y : Option V) : sel false x y = y := rfl
theorem vLen_ev (y m : Int) (hy : Fits y) : Contract vE 75 [.int .i64 y, .int .i64 m] (.int .i64 (lenI y m)) := by
  refine contract_of_body vE_ok vS1_ok 5 2 ?_
  rw [vLen_top]
  have hf := bandV hy
  by_cases hm : 1 ≤ m ∧ m ≤ 12
  · have hc : m = 1 ∨ m = 2 ∨ m = 3 ∨ m = 4 ∨ m = 5 ∨ m = 6 ∨ m = 7 ∨ m = 8 ∨ m = 9 ∨ m = 10 ∨ m = 11 ∨ m = 12 := by omega
    rcases hc with rfl | rfl | rfl | rfl | rfl | rfl | rfl | rfl | rfl | rfl | rfl | rfl
    all_goals
      simp only [ieq, Int.reduceBEq, st', sf', hf]
      unfold lenI
      cases leapB y <;> rfl
  · have g : ∀ k : Int, 1 ≤ k → k ≤ 12 → ieq m k = false := fun k h1 h2 => ieq_f (by omega)
    have hl : lenI y m = 0 := by unfold lenI; rw [if_neg (by omega), if_neg (by omega), if_neg (by omega)]
    simp only [g 1 (by decide) (by decide), g 2 (by decide) (by decide), g 3 (by decide) (by decide), g 4 (by decide) (by decide), g 5 (by decide) (by decide), g 6 (by decide) (by decide), g 7 (by decide) (by decide), g 8 (by decide) (by decide), g 9 (by decide) (by decide), g 10 (by decide) (by decide), g 11 (by decide) (by decide), g 12 (by decide) (by decide), st', sf', hl]
end Nt.Ev.YtpmemdamcadbgaaGreatDoor
