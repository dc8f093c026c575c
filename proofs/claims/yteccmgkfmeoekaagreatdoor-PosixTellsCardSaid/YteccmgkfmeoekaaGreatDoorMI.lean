/-
  The plain law of the calendar: days, years, months. Civil: equations of functions, as the evaluator prints them. Days of the calendar: what the program's functions and the document's answer. Days of the calendar: dates of numbers, days of years.
-/
import Derived.Test.YteccmgkfmeoekaaGreatDoorME
namespace Nt.Civil
def leapB (y : Int) : Bool := decide (y % 4 = 0 ∧ (y % 100 ≠ 0 ∨ y % 400 = 0))
def lenI (y m : Int) : Int := if m = 2 then (if leapB y = true then 29 else 28) else if m = 4 ∨ m = 6 ∨ m = 9 ∨ m = 11 then 30 else if 1 ≤ m ∧ m ≤ 12 then 31 else 0
def leapsI (y : Int) : Int := y / 4 - y / 100 + y / 400
def aheadI (y : Int) : Int := 365 * (y - 1970) + leapsI (y - 1) - leapsI 1969
def cumI (y m : Int) : Int := if m ≤ 2 then 31 * (m - 1) else (153 * (m - 3) + 2) / 5 + 59 + (if leapB y = true then 1 else 0)
def ydI (y m d : Int) : Int := cumI y m + d
def daysI (y m d : Int) : Int := aheadI y + ydI y m d - 1
def valid (y m d : Int) : Prop := 1 ≤ d ∧ d ≤ lenI y m
theorem leap_iff (y : Int) : leapB y = true ↔ (y % 4 = 0 ∧ (y % 100 ≠ 0 ∨ y % 400 = 0)) := by unfold leapB; rw [decide_eq_true_eq]
theorem ahead_step (y : Int) : aheadI (y + 1) = aheadI y + 365 + (if leapB y = true then 1 else 0) := by
  unfold aheadI leapsI
  split
  · rename_i h; rw [leap_iff] at h; omega
  · rename_i h; rw [leap_iff] at h; omega
theorem len_month {y m d : Int} (h : valid y m d) : 1 ≤ m ∧ m ≤ 12 := by
  unfold valid lenI at h
  (repeat' split at h) <;> omega
theorem cum_step (y m : Int) (h1 : 1 ≤ m) (h2 : m ≤ 12) : cumI y (m + 1) = cumI y m + lenI y m := by
  have hm : m = 1 ∨ m = 2 ∨ m = 3 ∨ m = 4 ∨ m = 5 ∨ m = 6 ∨ m = 7 ∨ m = 8 ∨ m = 9 ∨ m = 10 ∨ m = 11 ∨ m = 12 := by omega
  rcases hm with rfl | rfl | rfl | rfl | rfl | rfl | rfl | rfl | rfl | rfl | rfl | rfl <;> unfold cumI lenI <;> cases leapB y <;> decide
theorem cum_one (y : Int) : cumI y 1 = 0 := rfl
theorem cum_end (y : Int) : cumI y 13 = 365 + (if leapB y = true then 1 else 0) := by unfold cumI; cases leapB y <;> decide
theorem len_pos (y m : Int) (h1 : 1 ≤ m) (h2 : m ≤ 12) : 28 ≤ lenI y m ∧ lenI y m ≤ 31 := by
  unfold lenI; (repeat' split) <;> omega
theorem cum_mono (y : Int) : ∀ (k : Nat) (m : Int), 1 ≤ m → m + k ≤ 13 → cumI y m + 28 * k ≤ cumI y (m + k)
  | 0, m, _, _ => by simp
  | k + 1, m, h1, h2 => by
    have h3 := cum_mono y k m h1 (by omega)
    have h4 := cum_step y (m + k) (by omega) (by omega)
    have h5 := len_pos y (m + k) (by omega) (by omega)
    have e : m + ((k + 1 : Nat) : Int) = m + k + 1 := by omega
    rw [e, h4]; omega
theorem yd_bounds {y m d : Int} (h : valid y m d) : 1 ≤ ydI y m d ∧ ydI y m d ≤ 365 + (if leapB y = true then 1 else 0) := by
  obtain ⟨h1, h2⟩ := len_month h
  have h3 := cum_mono y (m - 1).toNat 1 (by omega) (by omega)
  have h4 := cum_mono y (13 - (m + 1)).toNat (m + 1) (by omega) (by omega)
  have h5 := cum_step y m h1 h2
  rw [show (1 : Int) + ((m - 1).toNat : Int) = m by omega, cum_one] at h3
  rw [show m + 1 + ((13 - (m + 1)).toNat : Int) = 13 by omega, cum_end] at h4
  unfold valid at h
  unfold ydI
  omega
def marchN (y m d : Int) : Int := y / 400 * 146097 + y % 400 * 365 + y % 400 / 4 - y % 400 / 100 + (153 * m + 2) / 5 + d - 1 - 719468
theorem march_days {y m d : Int} (h : valid y m d) : marchN (if m < 3 then y - 1 else y) (if m < 3 then m + 9 else m - 3) d = daysI y m d := by
  obtain ⟨m1, m2⟩ := len_month h
  unfold marchN daysI aheadI ydI cumI leapsI
  by_cases hm : m < 3
  · rw [if_pos hm, if_pos hm, if_pos (by omega)]
    have : m = 1 ∨ m = 2 := by omega
    rcases this with rfl | rfl <;> omega
  · rw [if_neg hm, if_neg hm, if_neg (by omega)]
    have e : (y - 1) / 4 - (y - 1) / 100 + (y - 1) / 400 + (if leapB y = true then 1 else 0) = y / 4 - y / 100 + y / 400 := by
      split
      · rename_i h; rw [leap_iff] at h; omega
      · rename_i h; rw [leap_iff] at h; omega
    generalize (if leapB y = true then (1 : Int) else 0) = z at *
    generalize (153 * (m - 3) + 2) / 5 = t at *
    omega
end Nt.Civil

set_option linter.unusedVariables false
set_option linter.unusedSimpArgs false
set_option linter.unusedSectionVars false
namespace Nt.Ev.YteccmgkfmeoekaaGreatDoor
open Go Nt.Num Go.Proofs.YteccmgkfmeoekaaGreatDoor
open Nt.Civil
noncomputable def vE : Env := ⟨Go.Proofs.Tryz.prog, fun _ => none⟩
def fq (a b : Int) : Int := a / b
def fr (a b : Int) : Int := a % b
noncomputable def divS : FSpec := fun a => match a with | [.int .i64 a, .int .i64 b] => some (band (band (ile (-9223372036854775808) a) (ile a 9223372036854775807)) (band (ilt 0 b) (ile b 1000000)), .tup [.int .i64 (fq a b), .int .i64 (fr a b), .int .i64 0]) | _ => none
noncomputable def vS : List (Nat × FSpec) := (102, divS) :: (109, divS) :: []
noncomputable def leapS : FSpec := fun a => match a with | [.int .i64 y] => some (band (ile (-9223372036854775808) y) (ile y 9223372036854775807), .bool (leapB y)) | _ => none
noncomputable def vS1 : List (Nat × FSpec) := (178, leapS) :: (149, leapS) :: vS
noncomputable def lenS : FSpec := fun a => match a with | [.int .i64 y, .int .i64 m] => some (band (ile (-9223372036854775808) y) (ile y 9223372036854775807), .int .i64 (lenI y m)) | _ => none
noncomputable def aheadS : FSpec := fun a => match a with | [.int .i64 y] => some (band (ile (-50000) y) (ile y 50000), .int .i64 (aheadI y)) | _ => none
noncomputable def vS2 : List (Nat × FSpec) := (147, lenS) :: (108, lenS) :: (107, aheadS) :: vS1
def validB (y m d : Int) : Bool := decide (-40000 ≤ y ∧ y ≤ 40000 ∧ 1 ≤ d ∧ d ≤ lenI y m)
noncomputable def rightS : FSpec := fun a => match a with | [.agg [.int .i64 y, .int .i64 m, .int .i64 d]] => some (true, .bool (validB y m d)) | _ => none
noncomputable def vS3 : List (Nat × FSpec) := (104, rightS) :: (110, rightS) :: vS2
def dR (n : Int) : Int := ((n + 719468) % 146097 - (n + 719468) % 146097 / 1460 + (n + 719468) % 146097 / 36524 - (n + 719468) % 146097 / 146096) / 365
def ydW (y m d : Int) : Int := if validB y m d = true then 0 else 1
def ydV (y m d : Int) : Int := if validB y m d = true then ydI y m d else 0
set_option maxRecDepth 100000 in
theorem vLeap_top (F : Nat) (y : Int) (K : V → Option V) :
 evBd vE (evFn vE vS F 2) F 178 [(V.int .i64 y)] K =
 sel (ieq (ibits .and .i64 y 3) 0)
 (sel (bnot (ieq (irem y 25) 0))
 (K (V.bool true))
 (K (V.bool (ieq (ibits .and .i64 y 15) 0))))
 (K (V.bool false)) := by kernel_rfl
set_option maxRecDepth 100000 in
theorem rLeap_top (F : Nat) (y : Int) (K : V → Option V) :
 evBd vE (evFn vE vS F 2) F 149 [(V.int .i64 y)] K =
 sel (ieq (irem y 4) 0)
 (sel (bnot (ieq (irem y 100) 0))
 (K (V.bool true))
 (K (V.bool (ieq (irem y 400) 0))))
 (K (V.bool (ieq (irem y 400) 0))) := by kernel_rfl
set_option maxRecDepth 100000 in
theorem vLen_top (F : Nat) (y : Int) (m : Int) (K : V → Option V) :
 evBd vE (evFn vE vS1 F 2) F 147 [(V.int .i64 y), (V.int .i64 m)] K =
 sel (ieq m 1)
 (sel (ieq m 1)
 (K (V.int .i64 31))
 (sel (ieq m 4)
 (sel (ieq m 4)
 (K (V.int .i64 30))
 (sel (ieq m 2)
 (sel (band (ile (-9223372036854775808) y) (ile y 9223372036854775807))
 (sel (leapB y)
 (K (V.int .i64 29))
 (K (V.int .i64 28)))
 (none))
 (K (V.int .i64 0))))
 (sel (ieq m 6)
 (sel (ieq m 6)
 (K (V.int .i64 30))
 (sel (ieq m 2)
 (sel (band (ile (-9223372036854775808) y) (ile y 9223372036854775807))
 (sel (leapB y)
 (K (V.int .i64 29))
 (K (V.int .i64 28)))
 (none))
 (K (V.int .i64 0))))
 (sel (ieq m 9)
 (sel (ieq m 9)
 (K (V.int .i64 30))
 (sel (ieq m 2)
 (sel (band (ile (-9223372036854775808) y) (ile y 9223372036854775807))
 (sel (leapB y)
 (K (V.int .i64 29))
 (K (V.int .i64 28)))
 (none))
 (K (V.int .i64 0))))
 (sel (ieq m 11)
 (K (V.int .i64 30))
 (sel (ieq m 2)
 (sel (band (ile (-9223372036854775808) y) (ile y 9223372036854775807))
 (sel (leapB y)
 (K (V.int .i64 29))
 (K (V.int .i64 28)))
 (none))
 (K (V.int .i64 0))))))))
 (sel (ieq m 3)
 (sel (ieq m 3)
 (K (V.int .i64 31))
 (sel (ieq m 4)
 (sel (ieq m 4)
 (K (V.int .i64 30))
 (sel (ieq m 2)
 (sel (band (ile (-9223372036854775808) y) (ile y 9223372036854775807))
 (sel (leapB y)
 (K (V.int .i64 29))
 (K (V.int .i64 28)))
 (none))
 (K (V.int .i64 0))))
 (sel (ieq m 6)
 (sel (ieq m 6)
 (K (V.int .i64 30))
 (sel (ieq m 2)
 (sel (band (ile (-9223372036854775808) y) (ile y 9223372036854775807))
 (sel (leapB y)
 (K (V.int .i64 29))
 (K (V.int .i64 28)))
 (none))
 (K (V.int .i64 0))))
 (sel (ieq m 9)
 (sel (ieq m 9)
 (K (V.int .i64 30))
 (sel (ieq m 2)
 (sel (band (ile (-9223372036854775808) y) (ile y 9223372036854775807))
 (sel (leapB y)
 (K (V.int .i64 29))
 (K (V.int .i64 28)))
 (none))
 (K (V.int .i64 0))))
 (sel (ieq m 11)
 (K (V.int .i64 30))
 (sel (ieq m 2)
 (sel (band (ile (-9223372036854775808) y) (ile y 9223372036854775807))
 (sel (leapB y)
 (K (V.int .i64 29))
 (K (V.int .i64 28)))
 (none))
 (K (V.int .i64 0))))))))
 (sel (ieq m 5)
 (sel (ieq m 5)
 (K (V.int .i64 31))
 (sel (ieq m 4)
 (sel (ieq m 4)
 (K (V.int .i64 30))
 (sel (ieq m 2)
 (sel (band (ile (-9223372036854775808) y) (ile y 9223372036854775807))
 (sel (leapB y)
 (K (V.int .i64 29))
 (K (V.int .i64 28)))
 (none))
 (K (V.int .i64 0))))
 (sel (ieq m 6)
 (sel (ieq m 6)
 (K (V.int .i64 30))
 (sel (ieq m 2)
 (sel (band (ile (-9223372036854775808) y) (ile y 9223372036854775807))
 (sel (leapB y)
 (K (V.int .i64 29))
 (K (V.int .i64 28)))
 (none))
 (K (V.int .i64 0))))
 (sel (ieq m 9)
 (sel (ieq m 9)
 (K (V.int .i64 30))
 (sel (ieq m 2)
 (sel (band (ile (-9223372036854775808) y) (ile y 9223372036854775807))
 (sel (leapB y)
 (K (V.int .i64 29))
 (K (V.int .i64 28)))
 (none))
 (K (V.int .i64 0))))
 (sel (ieq m 11)
 (K (V.int .i64 30))
 (sel (ieq m 2)
 (sel (band (ile (-9223372036854775808) y) (ile y 9223372036854775807))
 (sel (leapB y)
 (K (V.int .i64 29))
 (K (V.int .i64 28)))
 (none))
 (K (V.int .i64 0))))))))
 (sel (ieq m 7)
 (sel (ieq m 7)
 (K (V.int .i64 31))
 (sel (ieq m 4)
 (sel (ieq m 4)
 (K (V.int .i64 30))
 (sel (ieq m 2)
 (sel (band (ile (-9223372036854775808) y) (ile y 9223372036854775807))
 (sel (leapB y)
 (K (V.int .i64 29))
 (K (V.int .i64 28)))
 (none))
 (K (V.int .i64 0))))
 (sel (ieq m 6)
 (sel (ieq m 6)
 (K (V.int .i64 30))
 (sel (ieq m 2)
 (sel (band (ile (-9223372036854775808) y) (ile y 9223372036854775807))
 (sel (leapB y)
 (K (V.int .i64 29))
 (K (V.int .i64 28)))
 (none))
 (K (V.int .i64 0))))
 (sel (ieq m 9)
 (sel (ieq m 9)
 (K (V.int .i64 30))
 (sel (ieq m 2)
 (sel (band (ile (-9223372036854775808) y) (ile y 9223372036854775807))
 (sel (leapB y)
 (K (V.int .i64 29))
 (K (V.int .i64 28)))
 (none))
 (K (V.int .i64 0))))
 (sel (ieq m 11)
 (K (V.int .i64 30))
 (sel (ieq m 2)
 (sel (band (ile (-9223372036854775808) y) (ile y 9223372036854775807))
 (sel (leapB y)
 (K (V.int .i64 29))
 (K (V.int .i64 28)))
 (none))
 (K (V.int .i64 0))))))))
 (sel (ieq m 8)
 (sel (ieq m 8)
 (K (V.int .i64 31))
 (sel (ieq m 4)
 (sel (ieq m 4)
 (K (V.int .i64 30))
 (sel (ieq m 2)
 (sel (band (ile (-9223372036854775808) y) (ile y 9223372036854775807))
 (sel (leapB y)
 (K (V.int .i64 29))
 (K (V.int .i64 28)))
 (none))
 (K (V.int .i64 0))))
 (sel (ieq m 6)
 (sel (ieq m 6)
 (K (V.int .i64 30))
 (sel (ieq m 2)
 (sel (band (ile (-9223372036854775808) y) (ile y 9223372036854775807))
 (sel (leapB y)
 (K (V.int .i64 29))
 (K (V.int .i64 28)))
 (none))
 (K (V.int .i64 0))))
 (sel (ieq m 9)
 (sel (ieq m 9)
 (K (V.int .i64 30))
 (sel (ieq m 2)
 (sel (band (ile (-9223372036854775808) y) (ile y 9223372036854775807))
 (sel (leapB y)
 (K (V.int .i64 29))
 (K (V.int .i64 28)))
 (none))
 (K (V.int .i64 0))))
 (sel (ieq m 11)
 (K (V.int .i64 30))
 (sel (ieq m 2)
 (sel (band (ile (-9223372036854775808) y) (ile y 9223372036854775807))
 (sel (leapB y)
 (K (V.int .i64 29))
 (K (V.int .i64 28)))
 (none))
 (K (V.int .i64 0))))))))
 (sel (ieq m 10)
 (sel (ieq m 10)
 (K (V.int .i64 31))
 (sel (ieq m 4)
 (sel (ieq m 4)
 (K (V.int .i64 30))
 (sel (ieq m 2)
 (sel (band (ile (-9223372036854775808) y) (ile y 9223372036854775807))
 (sel (leapB y)
 (K (V.int .i64 29))
 (K (V.int .i64 28)))
 (none))
 (K (V.int .i64 0))))
 (sel (ieq m 6)
 (sel (ieq m 6)
 (K (V.int .i64 30))
 (sel (ieq m 2)
 (sel (band (ile (-9223372036854775808) y) (ile y 9223372036854775807))
 (sel (leapB y)
 (K (V.int .i64 29))
 (K (V.int .i64 28)))
 (none))
 (K (V.int .i64 0))))
 (sel (ieq m 9)
 (sel (ieq m 9)
 (K (V.int .i64 30))
 (sel (ieq m 2)
 (sel (band (ile (-9223372036854775808) y) (ile y 9223372036854775807))
 (sel (leapB y)
 (K (V.int .i64 29))
 (K (V.int .i64 28)))
 (none))
 (K (V.int .i64 0))))
 (sel (ieq m 11)
 (K (V.int .i64 30))
 (sel (ieq m 2)
 (sel (band (ile (-9223372036854775808) y) (ile y 9223372036854775807))
 (sel (leapB y)
 (K (V.int .i64 29))
 (K (V.int .i64 28)))
 (none))
 (K (V.int .i64 0))))))))
 (sel (ieq m 12)
 (K (V.int .i64 31))
 (sel (ieq m 4)
 (sel (ieq m 4)
 (K (V.int .i64 30))
 (sel (ieq m 2)
 (sel (band (ile (-9223372036854775808) y) (ile y 9223372036854775807))
 (sel (leapB y)
 (K (V.int .i64 29))
 (K (V.int .i64 28)))
 (none))
 (K (V.int .i64 0))))
 (sel (ieq m 6)
 (sel (ieq m 6)
 (K (V.int .i64 30))
 (sel (ieq m 2)
 (sel (band (ile (-9223372036854775808) y) (ile y 9223372036854775807))
 (sel (leapB y)
 (K (V.int .i64 29))
 (K (V.int .i64 28)))
 (none))
 (K (V.int .i64 0))))
 (sel (ieq m 9)
 (sel (ieq m 9)
 (K (V.int .i64 30))
 (sel (ieq m 2)
 (sel (band (ile (-9223372036854775808) y) (ile y 9223372036854775807))
 (sel (leapB y)
 (K (V.int .i64 29))
 (K (V.int .i64 28)))
 (none))
 (K (V.int .i64 0))))
 (sel (ieq m 11)
 (K (V.int .i64 30))
 (sel (ieq m 2)
 (sel (band (ile (-9223372036854775808) y) (ile y 9223372036854775807))
 (sel (leapB y)
 (K (V.int .i64 29))
 (K (V.int .i64 28)))
 (none))
 (K (V.int .i64 0))))))))))))) := by kernel_rfl
set_option maxRecDepth 100000 in
theorem rLen_top (F : Nat) (y : Int) (m : Int) (K : V → Option V) :
 evBd vE (evFn vE vS1 F 2) F 108 [(V.int .i64 y), (V.int .i64 m)] K =
 sel (ilt m 1)
 (K (V.int .i64 0))
 (sel (ilt 12 m)
 (K (V.int .i64 0))
 (sel (ieq m 2)
 (sel (band (ile (-9223372036854775808) y) (ile y 9223372036854775807))
 (sel (leapB y)
 (K (V.int .i64 29))
 (sel (band (ile 0 (isub .i64 m 1)) (ilt (isub .i64 m 1) (llen [(V.int .i64 31), (V.int .i64 28), (V.int .i64 31), (V.int .i64 30), (V.int .i64 31), (V.int .i64 30), (V.int .i64 31), (V.int .i64 31), (V.int .i64 30), (V.int .i64 31), (V.int .i64 30), (V.int .i64 31)])))
 (K (V.int .i64 (asInt (acell (lget [(V.int .i64 31), (V.int .i64 28), (V.int .i64 31), (V.int .i64 30), (V.int .i64 31), (V.int .i64 30), (V.int .i64 31), (V.int .i64 31), (V.int .i64 30), (V.int .i64 31), (V.int .i64 30), (V.int .i64 31)] (isub .i64 m 1)) 0))))
 (none)))
 (none))
 (sel (band (ile 0 (isub .i64 m 1)) (ilt (isub .i64 m 1) (llen [(V.int .i64 31), (V.int .i64 28), (V.int .i64 31), (V.int .i64 30), (V.int .i64 31), (V.int .i64 30), (V.int .i64 31), (V.int .i64 31), (V.int .i64 30), (V.int .i64 31), (V.int .i64 30), (V.int .i64 31)])))
 (K (V.int .i64 (asInt (acell (lget [(V.int .i64 31), (V.int .i64 28), (V.int .i64 31), (V.int .i64 30), (V.int .i64 31), (V.int .i64 30), (V.int .i64 31), (V.int .i64 31), (V.int .i64 30), (V.int .i64 31), (V.int .i64 30), (V.int .i64 31)] (isub .i64 m 1)) 0))))
 (none)))) := by kernel_rfl
set_option maxRecDepth 100000 in
theorem rAhead_top (F : Nat) (y : Int) (K : V → Option V) :
 evBd vE (evFn vE vS1 F 4) F 107 [(V.int .i64 y)] K =
 sel (band (band (ile (-9223372036854775808) (isub .i64 y 1)) (ile (isub .i64 y 1) 9223372036854775807)) (band (ilt 0 4) (ile 4 1000000)))
 (sel (band (band (ile (-9223372036854775808) (isub .i64 y 1)) (ile (isub .i64 y 1) 9223372036854775807)) (band (ilt 0 100) (ile 100 1000000)))
 (sel (band (band (ile (-9223372036854775808) (isub .i64 y 1)) (ile (isub .i64 y 1) 9223372036854775807)) (band (ilt 0 400) (ile 400 1000000)))
 (K (V.int .i64 (isub .i64 (iadd .i64 (imul .i64 365 (isub .i64 y 1970)) (iadd .i64 (isub .i64 (fq (isub .i64 y 1) 4) (fq (isub .i64 y 1) 100)) (fq (isub .i64 y 1) 400))) (iadd .i64 (isub .i64 (fq 1969 4) (fq 1969 100)) (fq 1969 400)))))
 (none))
 (none))
 (none) := by kernel_rfl
set_option maxRecDepth 100000 in
theorem vRight_top (F : Nat) (y : Int) (m : Int) (d : Int) (K : V → Option V) :
 evBd vE (evFn vE vS2 F 2) F 104 [(V.agg [(V.int .i64 y), (V.int .i64 m), (V.int .i64 d)])] K =
 sel (ile (-40000) y)
 (sel (ile y 40000)
 (sel (ile 1 d)
 (sel (band (ile (-9223372036854775808) y) (ile y 9223372036854775807))
 (K (V.bool (ile d (lenI y m))))
 (none))
 (K (V.bool false)))
 (K (V.bool false)))
 (K (V.bool false)) := by kernel_rfl
set_option maxRecDepth 100000 in
theorem rRight3_top (F : Nat) (y : Int) (m : Int) (d : Int) (K : V → Option V) :
 evBd vE (evFn vE vS2 F 2) F 110 [(V.agg [(V.int .i64 y), (V.int .i64 m), (V.int .i64 d)])] K =
 sel (ile (-40000) y)
 (sel (ile y 40000)
 (sel (ile 1 d)
 (sel (band (ile (-9223372036854775808) y) (ile y 9223372036854775807))
 (K (V.bool (ile d (lenI y m))))
 (none))
 (K (V.bool false)))
 (K (V.bool false)))
 (K (V.bool false)) := by kernel_rfl
set_option maxRecDepth 100000 in
theorem vNumber_top (F : Nat) (y : Int) (m : Int) (d : Int) (K : V → Option V) :
 evBd vE (evFn vE vS3 F 2) F 158 [(V.agg [(V.int .i64 y), (V.int .i64 m), (V.int .i64 d)])] K =
 sel (ilt (isub .i64 m 3) 0)
 (sel (band (band (ile (-9223372036854775808) (isub .i64 y 1)) (ile (isub .i64 y 1) 9223372036854775807)) (band (ilt 0 400) (ile 400 1000000)))
 (K (V.int .i64 (isub .i64 (iadd .i64 (isub .i64 (iadd .i64 (iadd .i64 (imul .i64 (fq (isub .i64 y 1) 400) 146097) (imul .i64 (fr (isub .i64 y 1) 400) 365)) (iquo .i64 (fr (isub .i64 y 1) 400) 4)) (iquo .i64 (fr (isub .i64 y 1) 400) 100)) (isub .i64 (iadd .i64 (iquo .i64 (iadd .i64 (imul .i64 153 (iadd .i64 (isub .i64 m 3) 12)) 2) 5) d) 1)) 719468)))
 (none))
 (sel (band (band (ile (-9223372036854775808) y) (ile y 9223372036854775807)) (band (ilt 0 400) (ile 400 1000000)))
 (K (V.int .i64 (isub .i64 (iadd .i64 (isub .i64 (iadd .i64 (iadd .i64 (imul .i64 (fq y 400) 146097) (imul .i64 (fr y 400) 365)) (iquo .i64 (fr y 400) 4)) (iquo .i64 (fr y 400) 100)) (isub .i64 (iadd .i64 (iquo .i64 (iadd .i64 (imul .i64 153 (isub .i64 m 3)) 2) 5) d) 1)) 719468)))
 (none)) := by kernel_rfl
end Nt.Ev.YteccmgkfmeoekaaGreatDoor

set_option linter.unusedVariables false
set_option linter.unusedSimpArgs false
namespace Nt.Ev.YteccmgkfmeoekaaGreatDoor
open Go Go.RowKit Nt Nt.Num Nt.Civil Go.Proofs.YteccmgkfmeoekaaGreatDoor
theorem vE_ok : EOk vE := ⟨by kernel_rfl, by kernel_rfl⟩
theorem fitsV {m : Int} (h : band (ile (-9223372036854775808) m) (ile m 9223372036854775807) = true) : Fits m := by rw [band_iff, ile_iff, ile_iff] at h; exact h
theorem bandV {m : Int} (h : Fits m) : band (ile (-9223372036854775808) m) (ile m 9223372036854775807) = true := by rw [band_iff, ile_iff, ile_iff]; exact h
theorem divs_pos (a b : Int) (hb : 0 < b) : divs a b = (a / b, a % b, 0) := by
  have h1 := Int.mul_tdiv_add_tmod a b
  have h2 := Int.mul_ediv_add_emod a b
  have h3 := Int.emod_nonneg a (show b ≠ 0 by omega)
  have h4 := Int.emod_lt_of_pos a hb
  have h5 := tmod_lt a b (by omega)
  rw [divs_rest a b (by omega) (by omega)]
  have key : ∀ q r : Int, b * q + r = a → 0 ≤ r → r < b → q = a / b ∧ r = a % b := fun q r e r0 r1 => by
    have e1 : a / b = q := by
      rw [← e, Int.add_comm, Int.add_mul_ediv_left _ _ (by omega), Int.ediv_eq_zero_of_lt r0 r1]; omega
    refine ⟨e1.symm, ?_⟩
    rw [e1] at h2
    omega
  split
  · rename_i hc
    obtain ⟨k1, k2⟩ := key (a.tdiv b - 1) (a.tmod b + b) (by rw [Int.mul_sub]; omega) (by omega) (by omega)
    rw [k1, k2]
  · rename_i hc
    obtain ⟨k1, k2⟩ := key (a.tdiv b) (a.tmod b) h1 (by omega) (by omega)
    rw [k1, k2]
theorem divS_args {a b : Int} (hc : band (band (ile (-9223372036854775808) a) (ile a 9223372036854775807)) (band (ilt 0 b) (ile b 1000000)) = true) : Fits a ∧ Fits b ∧ 0 < b := by
  obtain ⟨h1, h2⟩ := band_true hc
  rw [band_iff, ilt_iff, ile_iff] at h2
  exact ⟨fitsV h1, by unfold Fits; omega, h2.1⟩
theorem divS_ok (a b : Int) (hc : band (band (ile (-9223372036854775808) a) (ile a 9223372036854775807)) (band (ilt 0 b) (ile b 1000000)) = true) : Contract vE 102 [.int .i64 a, .int .i64 b] (.tup [.int .i64 (fq a b), .int .i64 (fr a b), .int .i64 0]) := by
  obtain ⟨ha, hb, h0⟩ := divS_args hc
  refine contract_old fun G w vs hG hg hp => ?_
  obtain ⟨x, y, rfl, hx, hy⟩ := PW_two hp
  unfold rep at hx hy
  subst hx; subst hy
  refine (n_div a b w ha hb).mono ?_
  rintro e w' ⟨rfl, hw⟩
  rw [divs_pos a b h0]
  exact ⟨_, rfl, below_drew hw, res_three (same_int _ _) (same_int _ _) (same_int _ _)⟩
theorem divS_ok_noontideref01_Div (a b : Int) (hc : band (band (ile (-9223372036854775808) a) (ile a 9223372036854775807)) (band (ilt 0 b) (ile b 1000000)) = true) : Contract vE 109 [.int .i64 a, .int .i64 b] (.tup [.int .i64 (fq a b), .int .i64 (fr a b), .int .i64 0]) := by
  obtain ⟨ha, hb, h0⟩ := divS_args hc
  refine contract_old fun G w vs hG hg hp => ?_
  obtain ⟨x, y, rfl, hx, hy⟩ := PW_two hp
  unfold rep at hx hy
  subst hx; subst hy
  refine (r_div a b w ha hb).mono ?_
  rintro e w' ⟨rfl, hw⟩
  rw [divs_pos a b h0]
  exact ⟨_, rfl, by rw [hw]; exact Below.refl _ _, res_three (same_int _ _) (same_int _ _) (same_int _ _)⟩
theorem vS_ok : SOk vE vS := by
  unfold vS
  refine SOk.cons (fun args r h => ?_) (SOk.cons (fun args r h => ?_) (SOk.nil))
  · unfold divS at h
    split at h
    · simp only [Option.some.injEq, Prod.mk.injEq] at h
      obtain ⟨hc, rfl⟩ := h
      exact divS_ok _ _ hc
    · cases h
  · unfold divS at h
    split at h
    · simp only [Option.some.injEq, Prod.mk.injEq] at h
      obtain ⟨hc, rfl⟩ := h
      exact divS_ok_noontideref01_Div _ _ hc
    · cases h
theorem and_low (y : Int) (k : Nat) (hk : k ≤ 8) (m : Int) (hm : m = ((2 ^ k - 1 : Nat) : Int)) : ibits .and .i64 y m = y % ((2 ^ k : Nat) : Int) := by
  subst hm
  have hp : 2 ^ k ≤ 2 ^ 8 := Nat.pow_le_pow_right (by decide) hk
  have h0 : 0 < 2 ^ k := Nat.pow_pos (by decide)
  have e : ((BitVec.ofInt IntKind.i64.bits y &&& BitVec.ofInt IntKind.i64.bits ((2 ^ k - 1 : Nat) : Int)).toNat : Int) = y % ((2 ^ k : Nat) : Int) := by
    rw [BitVec.toNat_and]
    have h1 : (BitVec.ofInt IntKind.i64.bits ((2 ^ k - 1 : Nat) : Int)).toNat = 2 ^ k - 1 := by
      rw [BitVec.ofInt_natCast, BitVec.toNat_ofNat, Nat.mod_eq_of_lt]
      have : (2 : Nat) ^ 8 < 2 ^ IntKind.i64.bits := by decide
      omega
    rw [h1, Nat.and_two_pow_sub_one_eq_mod, BitVec.toNat_ofInt]
    have h64 : ((2 ^ IntKind.i64.bits : Nat) : Int) = 18446744073709551616 := by decide
    rw [h64]
    have hd : ((2 ^ k : Nat) : Int) ∣ 18446744073709551616 := by
      have : (2 ^ k : Nat) ∣ 2 ^ 64 := Nat.pow_dvd_pow 2 (by omega)
      exact Int.natCast_dvd_natCast.2 this
    have hz : 0 ≤ y % 18446744073709551616 := by omega
    have e5 : ∀ a b : Nat, ((a % b : Nat) : Int) = (a : Int) % (b : Int) := fun _ _ => rfl
    rw [e5, Int.toNat_of_nonneg hz, Int.emod_emod_of_dvd _ hd]
  unfold ibits
  simp only
  rw [e]
  have h2 := Int.emod_nonneg y (show ((2 ^ k : Nat) : Int) ≠ 0 by omega)
  have h3 := Int.emod_lt_of_pos y (show (0 : Int) < ((2 ^ k : Nat) : Int) by omega)
  exact IntWalk.i64_in _ (by omega)
theorem irem_zero (y k : Int) (hk : 0 < k) : (irem y k = 0) = (y % k = 0) := by
  unfold irem
  refine propext ⟨fun h => ?_, fun h => ?_⟩
  · exact Int.emod_eq_zero_of_dvd (Int.dvd_of_tmod_eq_zero h)
  · exact Int.tmod_eq_zero_of_dvd (Int.dvd_of_emod_eq_zero h)
theorem vLeap_ev (y : Int) : Contract vE 178 [.int .i64 y] (.bool (leapB y)) := by
  refine contract_of_body vE_ok vS_ok 5 2 ?_
  rw [vLeap_top, and_low y 2 (by decide) 3 rfl, and_low y 4 (by decide) 15 rfl]
  have e1 : ((2 ^ 2 : Nat) : Int) = 4 := rfl
  have e2 : ((2 ^ 4 : Nat) : Int) = 16 := rfl
  rw [e1, e2]
  simp only [sel_if, ieq_iff, bnot_iff, irem_zero y 25 (by decide)]
  unfold leapB
  repeat' split
  all_goals first
    | (rw [decide_eq_true (by omega)]; done)
    | (rw [decide_eq_false (by omega)]; done)
    | (congr 2; unfold ieq; rw [Bool.eq_iff_iff]; simp; omega)
theorem rLeap_ev (y : Int) : Contract vE 149 [.int .i64 y] (.bool (leapB y)) := by
  refine contract_of_body vE_ok vS_ok 5 2 ?_
  rw [rLeap_top]
  have e4 : ieq (irem y 400) 0 = decide (y % 400 = 0) := by
    rw [Bool.eq_iff_iff, ieq_iff, irem_zero y 400 (by decide), decide_eq_true_eq]
  rw [e4]
  simp only [sel_if, ieq_iff, bnot_iff, irem_zero y 4 (by decide), irem_zero y 100 (by decide)]
  unfold leapB
  repeat' split
  all_goals first
    | (rw [decide_eq_true (by omega)]; done)
    | (rw [decide_eq_false (by omega)]; done)
    | (congr 2; rw [Bool.eq_iff_iff]; simp; omega)
theorem leapS_ok (y : Int) (hc : band (ile (-9223372036854775808) y) (ile y 9223372036854775807) = true) : Contract vE 178 [.int .i64 y] (.bool (leapB y)) := vLeap_ev y
theorem leapS_ok_noontideref03_Leap (y : Int) (hc : band (ile (-9223372036854775808) y) (ile y 9223372036854775807) = true) : Contract vE 149 [.int .i64 y] (.bool (leapB y)) := rLeap_ev y
theorem vS1_ok : SOk vE vS1 := by
  unfold vS1
  refine SOk.cons (fun args r h => ?_) (SOk.cons (fun args r h => ?_) (vS_ok))
  · unfold leapS at h
    split at h
    · simp only [Option.some.injEq, Prod.mk.injEq] at h
      obtain ⟨hc, rfl⟩ := h
      exact leapS_ok _ hc
    · cases h
  · unfold leapS at h
    split at h
    · simp only [Option.some.injEq, Prod.mk.injEq] at h
      obtain ⟨hc, rfl⟩ := h
      exact leapS_ok_noontideref03_Leap _ hc
    · cases h
theorem st' (x y : Option V) : sel true x y = x := rfl
theorem sf' (x y : Option V) : sel false x y = y := rfl
theorem vLen_ev (y m : Int) (hy : Fits y) : Contract vE 147 [.int .i64 y, .int .i64 m] (.int .i64 (lenI y m)) := by
  refine contract_of_body vE_ok vS1_ok 5 2 ?_
  rw [vLen_top]
  have hf := bandV hy
  by_cases hm : 1 ≤ m ∧ m ≤ 12
  · have hc : m = 1 ∨ m = 2 ∨ m = 3 ∨ m = 4 ∨ m = 5 ∨ m = 6 ∨ m = 7 ∨ m = 8 ∨ m = 9 ∨ m = 10 ∨ m = 11 ∨ m = 12 := by omega
    rcases hc with rfl | rfl | rfl | rfl | rfl | rfl | rfl | rfl | rfl | rfl | rfl | rfl
    all_goals
      simp only [ieq, Int.reduceBEq, st', sf', hf]
      unfold lenI
      cases leapB y <;> rfl
  · have g : ∀ k : Int, 1 ≤ k → k ≤ 12 → ieq m k = false := fun k h1 h2 => ieq_f (by omega)
    have hl : lenI y m = 0 := by unfold lenI; rw [if_neg (by omega), if_neg (by omega), if_neg (by omega)]
    simp only [g 1 (by decide) (by decide), g 2 (by decide) (by decide), g 3 (by decide) (by decide), g 4 (by decide) (by decide), g 5 (by decide) (by decide), g 6 (by decide) (by decide), g 7 (by decide) (by decide), g 8 (by decide) (by decide), g 9 (by decide) (by decide), g 10 (by decide) (by decide), g 11 (by decide) (by decide), g 12 (by decide) (by decide), st', sf', hl]
theorem rLen_ev (y m : Int) (hy : Fits y) : Contract vE 108 [.int .i64 y, .int .i64 m] (.int .i64 (lenI y m)) := by
  refine contract_of_body vE_ok vS1_ok 5 2 ?_
  rw [rLen_top]
  have hf := bandV hy
  by_cases h1 : m < 1
  · have hl : lenI y m = 0 := by unfold lenI; rw [if_neg (by omega), if_neg (by omega), if_neg (by omega)]
    rw [sel_pos (ilt_t h1), hl]
  by_cases h2 : 12 < m
  · have hl : lenI y m = 0 := by unfold lenI; rw [if_neg (by omega), if_neg (by omega), if_neg (by omega)]
    rw [sel_neg (ilt_f (by omega)), sel_pos (ilt_t h2), hl]
  rw [sel_neg (ilt_f (by omega)), sel_neg (ilt_f (by omega)), hf]
  have hc : m = 1 ∨ m = 2 ∨ m = 3 ∨ m = 4 ∨ m = 5 ∨ m = 6 ∨ m = 7 ∨ m = 8 ∨ m = 9 ∨ m = 10 ∨ m = 11 ∨ m = 12 := by omega
  rcases hc with rfl | rfl | rfl | rfl | rfl | rfl | rfl | rfl | rfl | rfl | rfl | rfl <;> unfold lenI <;> cases leapB y <;> rfl
theorem rAhead_ev (y : Int) (h : -50000 ≤ y ∧ y ≤ 50000) : Contract vE 107 [.int .i64 y] (.int .i64 (aheadI y)) := by
  refine contract_of_body vE_ok vS1_ok 5 4 ?_
  rw [rAhead_top]
  have e1 : isub .i64 y 1 = y - 1 := isub64 (by omega)
  have hf : band (ile (-9223372036854775808) (y - 1)) (ile (y - 1) 9223372036854775807) = true := bandV (by unfold Fits; omega)
  rw [e1, hf]
  unfold fq
  have e2 : iadd .i64 (isub .i64 ((y - 1) / 4) ((y - 1) / 100)) ((y - 1) / 400) = leapsI (y - 1) := by
    unfold leapsI
    rw [isub64 (by omega), iadd64 (by omega)]
  have e3 : iadd .i64 (isub .i64 (1969 / 4) (1969 / 100)) (1969 / 400) = leapsI 1969 := rfl
  have e4 : imul .i64 365 (isub .i64 y 1970) = 365 * (y - 1970) := by rw [isub64 (by omega), imul64 (by omega)]
  have b1 : -20000 ≤ leapsI (y - 1) ∧ leapsI (y - 1) ≤ 20000 := by unfold leapsI; omega
  have b2 : leapsI 1969 = 477 := by decide
  rw [e2, e3, e4, iadd64 (by omega), isub64 (by omega)]
  rfl
theorem lenS_ok (y m : Int) (hc : band (ile (-9223372036854775808) y) (ile y 9223372036854775807) = true) : Contract vE 147 [.int .i64 y, .int .i64 m] (.int .i64 (lenI y m)) := vLen_ev y m (fitsV hc)
theorem lenS_ok_noontideref03_Len (y m : Int) (hc : band (ile (-9223372036854775808) y) (ile y 9223372036854775807) = true) : Contract vE 108 [.int .i64 y, .int .i64 m] (.int .i64 (lenI y m)) := rLen_ev y m (fitsV hc)
theorem aheadS_ok (y : Int) (hc : band (ile (-50000) y) (ile y 50000) = true) : Contract vE 107 [.int .i64 y] (.int .i64 (aheadI y)) := rAhead_ev y (by rw [band_iff, ile_iff, ile_iff] at hc; exact hc)
theorem vS2_ok : SOk vE vS2 := by
  unfold vS2
  refine SOk.cons (fun args r h => ?_) (SOk.cons (fun args r h => ?_) (SOk.cons (fun args r h => ?_) (vS1_ok)))
  · unfold lenS at h
    split at h
    · simp only [Option.some.injEq, Prod.mk.injEq] at h
      obtain ⟨hc, rfl⟩ := h
      exact lenS_ok _ _ hc
    · cases h
  · unfold lenS at h
    split at h
    · simp only [Option.some.injEq, Prod.mk.injEq] at h
      obtain ⟨hc, rfl⟩ := h
      exact lenS_ok_noontideref03_Len _ _ hc
    · cases h
  · unfold aheadS at h
    split at h
    · simp only [Option.some.injEq, Prod.mk.injEq] at h
      obtain ⟨hc, rfl⟩ := h
      exact aheadS_ok _ hc
    · cases h
theorem vRight_ev (y m d : Int) : Contract vE 104 [.agg [.int .i64 y, .int .i64 m, .int .i64 d]] (.bool (validB y m d)) := by
  refine contract_of_body vE_ok vS2_ok 5 2 ?_
  rw [vRight_top]
  unfold validB
  simp only [sel_if, ile_iff, bnot_iff, band_iff]
  repeat' split
  all_goals first
    | (rw [decide_eq_false (by omega)]; done)
    | (exfalso; omega)
    | (congr 2; unfold ile; rw [Bool.eq_iff_iff]; simp; omega)
theorem rRight3_ev (y m d : Int) : Contract vE 110 [.agg [.int .i64 y, .int .i64 m, .int .i64 d]] (.bool (validB y m d)) := by
  refine contract_of_body vE_ok vS2_ok 5 2 ?_
  rw [rRight3_top]
  unfold validB
  simp only [sel_if, ile_iff, bnot_iff, band_iff]
  repeat' split
  all_goals first
    | (rw [decide_eq_false (by omega)]; done)
    | (exfalso; omega)
    | (congr 2; unfold ile; rw [Bool.eq_iff_iff]; simp; omega)
theorem rightS_ok (y m d : Int) (hc : true = true) : Contract vE 104 [.agg [.int .i64 y, .int .i64 m, .int .i64 d]] (.bool (validB y m d)) := vRight_ev y m d
theorem rightS_ok_noontideref03_Right (y m d : Int) (hc : true = true) : Contract vE 110 [.agg [.int .i64 y, .int .i64 m, .int .i64 d]] (.bool (validB y m d)) := rRight3_ev y m d
theorem vS3_ok : SOk vE vS3 := by
  unfold vS3
  refine SOk.cons (fun args r h => ?_) (SOk.cons (fun args r h => ?_) (vS2_ok))
  · unfold rightS at h
    split at h
    · simp only [Option.some.injEq, Prod.mk.injEq] at h
      obtain ⟨hc, rfl⟩ := h
      exact rightS_ok _ _ _ rfl
    · cases h
  · unfold rightS at h
    split at h
    · simp only [Option.some.injEq, Prod.mk.injEq] at h
      obtain ⟨hc, rfl⟩ := h
      exact rightS_ok_noontideref03_Right _ _ _ rfl
    · cases h
theorem validB_iff {y m d : Int} : validB y m d = true ↔ -40000 ≤ y ∧ y ≤ 40000 ∧ valid y m d := by
  unfold validB valid
  rw [decide_eq_true_eq]
theorem vNumber_ev (y m d : Int) (h : validB y m d = true) : Contract vE 158 [.agg [.int .i64 y, .int .i64 m, .int .i64 d]] (.int .i64 (daysI y m d)) := by
  refine contract_of_body vE_ok vS3_ok 5 2 ?_
  rw [vNumber_top]
  obtain ⟨y1, y2, hv⟩ := validB_iff.1 h
  obtain ⟨m1, m2⟩ := len_month hv
  have hd : 1 ≤ d ∧ d ≤ 31 := by have := len_pos y m m1 m2; unfold valid at hv; omega
  have hn := march_days hv
  have e0 : isub .i64 m 3 = m - 3 := isub64 (by omega)
  have e1 : isub .i64 y 1 = y - 1 := isub64 (by omega)
  rw [e0, e1]
  unfold marchN at hn
  by_cases hm : m < 3
  · rw [if_pos hm, if_pos hm] at hn
    rw [sel_pos (ilt_t (by omega)), bandV (show Fits (y - 1) by unfold Fits; omega)]
    show some _ = some _
    unfold fq fr
    congr 2
    rw [← hn]
    simp (disch := omega) only [iadd64, isub64, imul64, iquo64]
    omega
  · rw [if_neg hm, if_neg hm] at hn
    rw [sel_neg (ilt_f (by omega)), bandV (show Fits y by unfold Fits; omega)]
    show some _ = some _
    unfold fq fr
    congr 2
    rw [← hn]
    simp (disch := omega) only [iadd64, isub64, imul64, iquo64]
    omega
end Nt.Ev.YteccmgkfmeoekaaGreatDoor

set_option linter.unusedVariables false
set_option linter.unusedSimpArgs false
namespace Nt.Ev.YteccmgkfmeoekaaGreatDoor
open Go Go.RowKit Nt Nt.Num Nt.Civil Go.Proofs.YteccmgkfmeoekaaGreatDoor
end Nt.Ev.YteccmgkfmeoekaaGreatDoor
