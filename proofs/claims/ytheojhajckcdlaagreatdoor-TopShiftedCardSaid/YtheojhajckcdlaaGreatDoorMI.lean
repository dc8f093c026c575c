/-
  The plain law of the calendar: days, years, months. Civil: equations of functions, as the evaluator prints them. Days of the calendar: what the program's functions and the document's answer. Days of the calendar: dates of numbers, days of years.
-/
import Derived.Test.YtheojhajckcdlaaGreatDoorME
set_option linter.unusedVariables false
set_option linter.unusedSimpArgs false
set_option linter.unusedSectionVars false
namespace Nt.Civil
def leapB (y : Int) : Bool := decide (y % 4 = 0 ∧ (y % 100 ≠ 0 ∨ y % 400 = 0))
def lenI (y m : Int) : Int := if m = 2 then (if leapB y = true then 29 else 28) else if m = 4 ∨ m = 6 ∨ m = 9 ∨ m = 11 then 30 else if 1 ≤ m ∧ m ≤ 12 then 31 else 0
def leapsI (y : Int) : Int := y / 4 - y / 100 + y / 400
def aheadI (y : Int) : Int := 365 * (y - 1970) + leapsI (y - 1) - leapsI 1969
def cumI (y m : Int) : Int := if m ≤ 2 then 31 * (m - 1) else (153 * (m - 3) + 2) / 5 + 59 + (if leapB y = true then 1 else 0)
def ydI (y m d : Int) : Int := cumI y m + d
def daysI (y m d : Int) : Int := aheadI y + ydI y m d - 1
def valid (y m d : Int) : Prop := 1 ≤ d ∧ d ≤ lenI y m
theorem leap_iff (y : Int) : leapB y = true ↔ (y % 4 = 0 ∧ (y % 100 ≠ 0 ∨ y % 400 = 0)) := by unfold leapB; rw [decide_eq_true_eq]
theorem ahead_step (y : Int) : aheadI (y + 1) = aheadI y + 365 + (if leapB y = true then 1 else 0) := by
  unfold aheadI leapsI
  split
  · rename_i h; rw [leap_iff] at h; omega
  · rename_i h; rw [leap_iff] at h; omega
theorem len_month {y m d : Int} (h : valid y m d) : 1 ≤ m ∧ m ≤ 12 := by
  unfold valid lenI at h
  (repeat' split at h) <;> omega
theorem cum_step (y m : Int) (h1 : 1 ≤ m) (h2 : m ≤ 12) : cumI y (m + 1) = cumI y m + lenI y m := by
  have hm : m = 1 ∨ m = 2 ∨ m = 3 ∨ m = 4 ∨ m = 5 ∨ m = 6 ∨ m = 7 ∨ m = 8 ∨ m = 9 ∨ m = 10 ∨ m = 11 ∨ m = 12 := by omega
  rcases hm with rfl | rfl | rfl | rfl | rfl | rfl | rfl | rfl | rfl | rfl | rfl | rfl <;> unfold cumI lenI <;> cases leapB y <;> decide
theorem cum_one (y : Int) : cumI y 1 = 0 := rfl
theorem cum_end (y : Int) : cumI y 13 = 365 + (if leapB y = true then 1 else 0) := by unfold cumI; cases leapB y <;> decide
theorem len_pos (y m : Int) (h1 : 1 ≤ m) (h2 : m ≤ 12) : 28 ≤ lenI y m ∧ lenI y m ≤ 31 := by
  unfold lenI; (repeat' split) <;> omega
theorem cum_mono (y : Int) : ∀ (k : Nat) (m : Int), 1 ≤ m → m + k ≤ 13 → cumI y m + 28 * k ≤ cumI y (m + k)
  | 0, m, _, _ => by simp
  | k + 1, m, h1, h2 => by
    have h3 := cum_mono y k m h1 (by omega)
    have h4 := cum_step y (m + k) (by omega) (by omega)
    have h5 := len_pos y (m + k) (by omega) (by omega)
    have e : m + ((k + 1 : Nat) : Int) = m + k + 1 := by omega
    rw [e, h4]; omega
theorem yd_bounds {y m d : Int} (h : valid y m d) : 1 ≤ ydI y m d ∧ ydI y m d ≤ 365 + (if leapB y = true then 1 else 0) := by
  obtain ⟨h1, h2⟩ := len_month h
  have h3 := cum_mono y (m - 1).toNat 1 (by omega) (by omega)
  have h4 := cum_mono y (13 - (m + 1)).toNat (m + 1) (by omega) (by omega)
  have h5 := cum_step y m h1 h2
  rw [show (1 : Int) + ((m - 1).toNat : Int) = m by omega, cum_one] at h3
  rw [show m + 1 + ((13 - (m + 1)).toNat : Int) = 13 by omega, cum_end] at h4
  unfold valid at h
  unfold ydI
  omega
theorem ahead_mono (y : Int) : ∀ (k : Nat), aheadI y + 365 * k ≤ aheadI (y + k)
  | 0 => by simp
  | k + 1 => by
    have h := ahead_mono y k
    have h2 := ahead_step (y + k)
    rw [show y + ((k + 1 : Nat) : Int) = y + k + 1 by omega, h2]
    split <;> omega
theorem ahead_le {a b : Int} (h : a ≤ b) : aheadI a + 365 * (b - a) ≤ aheadI b := by
  have := ahead_mono a (b - a).toNat
  rw [show a + ((b - a).toNat : Int) = b by omega] at this
  omega
theorem days_year {y m d : Int} (h : valid y m d) : aheadI y ≤ daysI y m d ∧ daysI y m d < aheadI (y + 1) := by
  have h1 := yd_bounds h
  have h2 := ahead_step y
  unfold daysI
  omega
def marchN (y m d : Int) : Int := y / 400 * 146097 + y % 400 * 365 + y % 400 / 4 - y % 400 / 100 + (153 * m + 2) / 5 + d - 1 - 719468
theorem march_days {y m d : Int} (h : valid y m d) : marchN (if m < 3 then y - 1 else y) (if m < 3 then m + 9 else m - 3) d = daysI y m d := by
  obtain ⟨m1, m2⟩ := len_month h
  unfold marchN daysI aheadI ydI cumI leapsI
  by_cases hm : m < 3
  · rw [if_pos hm, if_pos hm, if_pos (by omega)]
    have : m = 1 ∨ m = 2 := by omega
    rcases this with rfl | rfl <;> omega
  · rw [if_neg hm, if_neg hm, if_neg (by omega)]
    have e : (y - 1) / 4 - (y - 1) / 100 + (y - 1) / 400 + (if leapB y = true then 1 else 0) = y / 4 - y / 100 + y / 400 := by
      split
      · rename_i h; rw [leap_iff] at h; omega
      · rename_i h; rw [leap_iff] at h; omega
    generalize (if leapB y = true then (1 : Int) else 0) = z at *
    generalize (153 * (m - 3) + 2) / 5 = t at *
    omega
theorem march_year (r : Int) (h0 : 0 ≤ r) (h1 : r < 146097) : ∃ y L, (r - r / 1460 + r / 36524 - r / 146096) / 365 = y ∧ 0 ≤ y ∧ y ≤ 399 ∧ r = 365 * y + y / 4 - y / 100 + L ∧ 0 ≤ L ∧ L ≤ 365 ∧ (L = 365 → leapB (y + 1) = true) := by
  by_cases hr : r = 146096
  · subst hr
    exact ⟨399, 365, by decide, by decide, by decide, by decide, by decide, by decide, fun _ => by decide⟩
  · obtain ⟨k, t, j, u, rfl, k0, k3, t0, t1, j0, u0, u1⟩ : ∃ k t j u : Int, r = 36524 * k + 1461 * j + u ∧ 0 ≤ k ∧ k ≤ 3 ∧ t = 1461 * j + u ∧ t < 36524 ∧ 0 ≤ j ∧ 0 ≤ u ∧ u ≤ 1460 :=
      ⟨r / 36524, r % 36524, r % 36524 / 1461, r % 36524 % 1461, by omega, by omega, by omega, by omega, by omega, by omega, by omega, by omega⟩
    have j1 : j ≤ 24 := by omega
    have c1 : (36524 * k + 1461 * j + u) / 36524 = k := by omega
    have c2 : (36524 * k + 1461 * j + u) / 146096 = 0 := by omega
    have he' : ∃ e : Int, (36524 * k + 1461 * j + u) / 1460 = 25 * k + j + e ∧ 0 ≤ e ∧ e ≤ 1 ∧ (e = 1 → 1340 ≤ u) ∧ (e = 0 → u ≤ 1459) := by
      refine ⟨(24 * k + j + u) / 1460, ?_, ?_, ?_, ?_, ?_⟩ <;> omega
    obtain ⟨e, he, e0, e1, e2, e3⟩ := he'
    rw [c1, c2, he]
    have hv : ∃ v : Int, (u - e) / 365 = v ∧ 0 ≤ v ∧ v ≤ 3 ∧ 365 * v ≤ u ∧ u ≤ 365 * v + 365 ∧ (u = 365 * v + 365 → v = 3) := by
      refine ⟨(u - e) / 365, rfl, ?_, ?_, ?_, ?_, ?_⟩ <;> omega
    obtain ⟨v, hv, v0, v1, v2, v3, v4⟩ := hv
    have hy : (36524 * k + 1461 * j + u - (25 * k + j + e) + k - 0) / 365 = 100 * k + 4 * j + v := by omega
    have q1 : (100 * k + 4 * j + v) / 4 = 25 * k + j := by omega
    have q2 : (100 * k + 4 * j + v) / 100 = k := by omega
    refine ⟨100 * k + 4 * j + v, u - 365 * v, hy, by omega, by omega, by rw [q1, q2]; omega, by omega, by omega, fun hL => ?_⟩
    rw [leap_iff]
    have : v = 3 := by omega
    subst this
    omega
theorem march_month (L : Int) (h0 : 0 ≤ L) (h1 : L ≤ 365) : ∃ m D, (5 * L + 2) / 153 = m ∧ L - (153 * m + 2) / 5 + 1 = D ∧ 0 ≤ m ∧ m ≤ 11 ∧ 1 ≤ D ∧ (∀ y : Int, (L = 365 → leapB y = true) → D ≤ lenI y (if m + 3 > 12 then m + 3 - 12 else m + 3)) := by
  refine ⟨(5 * L + 2) / 153, _, rfl, rfl, by omega, by omega, by omega, fun y hy => ?_⟩
  obtain ⟨m, hm⟩ : ∃ m, (5 * L + 2) / 153 = m := ⟨_, rfl⟩
  rw [hm]
  have hc : m = 0 ∨ m = 1 ∨ m = 2 ∨ m = 3 ∨ m = 4 ∨ m = 5 ∨ m = 6 ∨ m = 7 ∨ m = 8 ∨ m = 9 ∨ m = 10 ∨ m = 11 := by omega
  unfold lenI
  rcases hc with rfl | rfl | rfl | rfl | rfl | rfl | rfl | rfl | rfl | rfl | rfl | rfl <;> simp <;> (try split) <;> (try omega)
  all_goals
    rename_i hl
    by_cases h5 : L = 365
    · exact absurd (hy h5) (by simpa using hl)
    · omega
end Nt.Civil

namespace Nt.Ev.YtheojhajckcdlaaGreatDoor
set_option maxRecDepth 100000
open Go Nt.Num Go.Proofs.YtheojhajckcdlaaGreatDoor
open Nt.Civil
noncomputable def vE : Env := ⟨Go.Proofs.Tryz.prog, fun _ => none⟩
def fq (a b : Int) : Int := a / b
def fr (a b : Int) : Int := a % b
noncomputable def divS : FSpec := fun a => match a with | [.int .i64 a, .int .i64 b] => some (band (band (ile (-9223372036854775808) a) (ile a 9223372036854775807)) (band (ilt 0 b) (ile b 1000000)), .tup [.int .i64 (fq a b), .int .i64 (fr a b), .int .i64 0]) | _ => none
noncomputable def vS : List (Nat × FSpec) := (92, divS) :: []
noncomputable def leapS : FSpec := fun a => match a with | [.int .i64 y] => some (band (ile (-9223372036854775808) y) (ile y 9223372036854775807), .bool (leapB y)) | _ => none
noncomputable def vS1 : List (Nat × FSpec) := (73, leapS) :: vS
noncomputable def lenS : FSpec := fun a => match a with | [.int .i64 y, .int .i64 m] => some (band (ile (-9223372036854775808) y) (ile y 9223372036854775807), .int .i64 (lenI y m)) | _ => none
noncomputable def vS2 : List (Nat × FSpec) := (51, lenS) :: vS1
def validB (y m d : Int) : Bool := decide (-40000 ≤ y ∧ y ≤ 40000 ∧ 1 ≤ d ∧ d ≤ lenI y m)
noncomputable def rightS : FSpec := fun a => match a with | [.agg [.int .i64 y, .int .i64 m, .int .i64 d]] => some (true, .bool (validB y m d)) | _ => none
noncomputable def vS3 : List (Nat × FSpec) := (82, rightS) :: vS2
def dR (n : Int) : Int := ((n + 719468) % 146097 - (n + 719468) % 146097 / 1460 + (n + 719468) % 146097 / 36524 - (n + 719468) % 146097 / 146096) / 365
def dL (n : Int) : Int := (n + 719468) % 146097 - (365 * dR n + dR n / 4 - dR n / 100)
def dT (n : Int) : Int := (5 * dL n + 2) / 153
def dM (n : Int) : Int := if dT n + 3 > 12 then dT n + 3 - 12 else dT n + 3
def dY (n : Int) : Int := (n + 719468) / 146097 * 400 + dR n + (if dT n + 3 > 12 then 1 else 0)
def dD (n : Int) : Int := dL n - (153 * dT n + 2) / 5 + 1
noncomputable def numberS : FSpec := fun a => match a with | [.agg [.int .i64 y, .int .i64 m, .int .i64 d]] => some (validB y m d, .int .i64 (daysI y m d)) | _ => none
noncomputable def dateS : FSpec := fun a => match a with | [.int .i64 n] => some (band (ile (-16000000) n) (ile n 16000000), .agg [.int .i64 (dY n), .int .i64 (dM n), .int .i64 (dD n)]) | _ => none
def ydW (y m d : Int) : Int := if validB y m d = true then 0 else 1
def ydV (y m d : Int) : Int := if validB y m d = true then ydI y m d else 0
noncomputable def vS4 : List (Nat × FSpec) := (83, numberS) :: (93, dateS) :: vS3
theorem vLeap_top (F : Nat) (y : Int) (K : V → Option V) :
 evBd vE (evFn vE vS F 2) F 73 [(V.int .i64 y)] K =
 sel (ieq (ibits .and .i64 y 3) 0)
 (sel (bnot (ieq (irem y 25) 0))
 (K (V.bool true))
 (K (V.bool (ieq (ibits .and .i64 y 15) 0))))
 (K (V.bool false)) := by kernel_rfl
theorem vLen_top (F : Nat) (y : Int) (m : Int) (K : V → Option V) :
 evBd vE (evFn vE vS1 F 2) F 51 [(V.int .i64 y), (V.int .i64 m)] K =
 sel (ieq m 1)
 (sel (ieq m 1)
 (K (V.int .i64 31))
 (sel (ieq m 4)
 (sel (ieq m 4)
 (K (V.int .i64 30))
 (sel (ieq m 2)
 (sel (band (ile (-9223372036854775808) y) (ile y 9223372036854775807))
 (sel (leapB y)
 (K (V.int .i64 29))
 (K (V.int .i64 28)))
 (none))
 (K (V.int .i64 0))))
 (sel (ieq m 6)
 (sel (ieq m 6)
 (K (V.int .i64 30))
 (sel (ieq m 2)
 (sel (band (ile (-9223372036854775808) y) (ile y 9223372036854775807))
 (sel (leapB y)
 (K (V.int .i64 29))
 (K (V.int .i64 28)))
 (none))
 (K (V.int .i64 0))))
 (sel (ieq m 9)
 (sel (ieq m 9)
 (K (V.int .i64 30))
 (sel (ieq m 2)
 (sel (band (ile (-9223372036854775808) y) (ile y 9223372036854775807))
 (sel (leapB y)
 (K (V.int .i64 29))
 (K (V.int .i64 28)))
 (none))
 (K (V.int .i64 0))))
 (sel (ieq m 11)
 (K (V.int .i64 30))
 (sel (ieq m 2)
 (sel (band (ile (-9223372036854775808) y) (ile y 9223372036854775807))
 (sel (leapB y)
 (K (V.int .i64 29))
 (K (V.int .i64 28)))
 (none))
 (K (V.int .i64 0))))))))
 (sel (ieq m 3)
 (sel (ieq m 3)
 (K (V.int .i64 31))
 (sel (ieq m 4)
 (sel (ieq m 4)
 (K (V.int .i64 30))
 (sel (ieq m 2)
 (sel (band (ile (-9223372036854775808) y) (ile y 9223372036854775807))
 (sel (leapB y)
 (K (V.int .i64 29))
 (K (V.int .i64 28)))
 (none))
 (K (V.int .i64 0))))
 (sel (ieq m 6)
 (sel (ieq m 6)
 (K (V.int .i64 30))
 (sel (ieq m 2)
 (sel (band (ile (-9223372036854775808) y) (ile y 9223372036854775807))
 (sel (leapB y)
 (K (V.int .i64 29))
 (K (V.int .i64 28)))
 (none))
 (K (V.int .i64 0))))
 (sel (ieq m 9)
 (sel (ieq m 9)
 (K (V.int .i64 30))
 (sel (ieq m 2)
 (sel (band (ile (-9223372036854775808) y) (ile y 9223372036854775807))
 (sel (leapB y)
 (K (V.int .i64 29))
 (K (V.int .i64 28)))
 (none))
 (K (V.int .i64 0))))
 (sel (ieq m 11)
 (K (V.int .i64 30))
 (sel (ieq m 2)
 (sel (band (ile (-9223372036854775808) y) (ile y 9223372036854775807))
 (sel (leapB y)
 (K (V.int .i64 29))
 (K (V.int .i64 28)))
 (none))
 (K (V.int .i64 0))))))))
 (sel (ieq m 5)
 (sel (ieq m 5)
 (K (V.int .i64 31))
 (sel (ieq m 4)
 (sel (ieq m 4)
 (K (V.int .i64 30))
 (sel (ieq m 2)
 (sel (band (ile (-9223372036854775808) y) (ile y 9223372036854775807))
 (sel (leapB y)
 (K (V.int .i64 29))
 (K (V.int .i64 28)))
 (none))
 (K (V.int .i64 0))))
 (sel (ieq m 6)
 (sel (ieq m 6)
 (K (V.int .i64 30))
 (sel (ieq m 2)
 (sel (band (ile (-9223372036854775808) y) (ile y 9223372036854775807))
 (sel (leapB y)
 (K (V.int .i64 29))
 (K (V.int .i64 28)))
 (none))
 (K (V.int .i64 0))))
 (sel (ieq m 9)
 (sel (ieq m 9)
 (K (V.int .i64 30))
 (sel (ieq m 2)
 (sel (band (ile (-9223372036854775808) y) (ile y 9223372036854775807))
 (sel (leapB y)
 (K (V.int .i64 29))
 (K (V.int .i64 28)))
 (none))
 (K (V.int .i64 0))))
 (sel (ieq m 11)
 (K (V.int .i64 30))
 (sel (ieq m 2)
 (sel (band (ile (-9223372036854775808) y) (ile y 9223372036854775807))
 (sel (leapB y)
 (K (V.int .i64 29))
 (K (V.int .i64 28)))
 (none))
 (K (V.int .i64 0))))))))
 (sel (ieq m 7)
 (sel (ieq m 7)
 (K (V.int .i64 31))
 (sel (ieq m 4)
 (sel (ieq m 4)
 (K (V.int .i64 30))
 (sel (ieq m 2)
 (sel (band (ile (-9223372036854775808) y) (ile y 9223372036854775807))
 (sel (leapB y)
 (K (V.int .i64 29))
 (K (V.int .i64 28)))
 (none))
 (K (V.int .i64 0))))
 (sel (ieq m 6)
 (sel (ieq m 6)
 (K (V.int .i64 30))
 (sel (ieq m 2)
 (sel (band (ile (-9223372036854775808) y) (ile y 9223372036854775807))
 (sel (leapB y)
 (K (V.int .i64 29))
 (K (V.int .i64 28)))
 (none))
 (K (V.int .i64 0))))
 (sel (ieq m 9)
 (sel (ieq m 9)
 (K (V.int .i64 30))
 (sel (ieq m 2)
 (sel (band (ile (-9223372036854775808) y) (ile y 9223372036854775807))
 (sel (leapB y)
 (K (V.int .i64 29))
 (K (V.int .i64 28)))
 (none))
 (K (V.int .i64 0))))
 (sel (ieq m 11)
 (K (V.int .i64 30))
 (sel (ieq m 2)
 (sel (band (ile (-9223372036854775808) y) (ile y 9223372036854775807))
 (sel (leapB y)
 (K (V.int .i64 29))
 (K (V.int .i64 28)))
 (none))
 (K (V.int .i64 0))))))))
 (sel (ieq m 8)
 (sel (ieq m 8)
 (K (V.int .i64 31))
 (sel (ieq m 4)
 (sel (ieq m 4)
 (K (V.int .i64 30))
 (sel (ieq m 2)
 (sel (band (ile (-9223372036854775808) y) (ile y 9223372036854775807))
 (sel (leapB y)
 (K (V.int .i64 29))
 (K (V.int .i64 28)))
 (none))
 (K (V.int .i64 0))))
 (sel (ieq m 6)
 (sel (ieq m 6)
 (K (V.int .i64 30))
 (sel (ieq m 2)
 (sel (band (ile (-9223372036854775808) y) (ile y 9223372036854775807))
 (sel (leapB y)
 (K (V.int .i64 29))
 (K (V.int .i64 28)))
 (none))
 (K (V.int .i64 0))))
 (sel (ieq m 9)
 (sel (ieq m 9)
 (K (V.int .i64 30))
 (sel (ieq m 2)
 (sel (band (ile (-9223372036854775808) y) (ile y 9223372036854775807))
 (sel (leapB y)
 (K (V.int .i64 29))
 (K (V.int .i64 28)))
 (none))
 (K (V.int .i64 0))))
 (sel (ieq m 11)
 (K (V.int .i64 30))
 (sel (ieq m 2)
 (sel (band (ile (-9223372036854775808) y) (ile y 9223372036854775807))
 (sel (leapB y)
 (K (V.int .i64 29))
 (K (V.int .i64 28)))
 (none))
 (K (V.int .i64 0))))))))
 (sel (ieq m 10)
 (sel (ieq m 10)
 (K (V.int .i64 31))
 (sel (ieq m 4)
 (sel (ieq m 4)
 (K (V.int .i64 30))
 (sel (ieq m 2)
 (sel (band (ile (-9223372036854775808) y) (ile y 9223372036854775807))
 (sel (leapB y)
 (K (V.int .i64 29))
 (K (V.int .i64 28)))
 (none))
 (K (V.int .i64 0))))
 (sel (ieq m 6)
 (sel (ieq m 6)
 (K (V.int .i64 30))
 (sel (ieq m 2)
 (sel (band (ile (-9223372036854775808) y) (ile y 9223372036854775807))
 (sel (leapB y)
 (K (V.int .i64 29))
 (K (V.int .i64 28)))
 (none))
 (K (V.int .i64 0))))
 (sel (ieq m 9)
 (sel (ieq m 9)
 (K (V.int .i64 30))
 (sel (ieq m 2)
 (sel (band (ile (-9223372036854775808) y) (ile y 9223372036854775807))
 (sel (leapB y)
 (K (V.int .i64 29))
 (K (V.int .i64 28)))
 (none))
 (K (V.int .i64 0))))
 (sel (ieq m 11)
 (K (V.int .i64 30))
 (sel (ieq m 2)
 (sel (band (ile (-9223372036854775808) y) (ile y 9223372036854775807))
 (sel (leapB y)
 (K (V.int .i64 29))
 (K (V.int .i64 28)))
 (none))
 (K (V.int .i64 0))))))))
 (sel (ieq m 12)
 (K (V.int .i64 31))
 (sel (ieq m 4)
 (sel (ieq m 4)
 (K (V.int .i64 30))
 (sel (ieq m 2)
 (sel (band (ile (-9223372036854775808) y) (ile y 9223372036854775807))
 (sel (leapB y)
 (K (V.int .i64 29))
 (K (V.int .i64 28)))
 (none))
 (K (V.int .i64 0))))
 (sel (ieq m 6)
 (sel (ieq m 6)
 (K (V.int .i64 30))
 (sel (ieq m 2)
 (sel (band (ile (-9223372036854775808) y) (ile y 9223372036854775807))
 (sel (leapB y)
 (K (V.int .i64 29))
 (K (V.int .i64 28)))
 (none))
 (K (V.int .i64 0))))
 (sel (ieq m 9)
 (sel (ieq m 9)
 (K (V.int .i64 30))
 (sel (ieq m 2)
 (sel (band (ile (-9223372036854775808) y) (ile y 9223372036854775807))
 (sel (leapB y)
 (K (V.int .i64 29))
 (K (V.int .i64 28)))
 (none))
 (K (V.int .i64 0))))
 (sel (ieq m 11)
 (K (V.int .i64 30))
 (sel (ieq m 2)
 (sel (band (ile (-9223372036854775808) y) (ile y 9223372036854775807))
 (sel (leapB y)
 (K (V.int .i64 29))
 (K (V.int .i64 28)))
 (none))
 (K (V.int .i64 0))))))))))))) := by kernel_rfl
theorem vRight_top (F : Nat) (y : Int) (m : Int) (d : Int) (K : V → Option V) :
 evBd vE (evFn vE vS2 F 2) F 82 [(V.agg [(V.int .i64 y), (V.int .i64 m), (V.int .i64 d)])] K =
 sel (ile (-40000) y)
 (sel (ile y 40000)
 (sel (ile 1 d)
 (sel (band (ile (-9223372036854775808) y) (ile y 9223372036854775807))
 (K (V.bool (ile d (lenI y m))))
 (none))
 (K (V.bool false)))
 (K (V.bool false)))
 (K (V.bool false)) := by kernel_rfl
theorem vNumber_top (F : Nat) (y : Int) (m : Int) (d : Int) (K : V → Option V) :
 evBd vE (evFn vE vS3 F 2) F 83 [(V.agg [(V.int .i64 y), (V.int .i64 m), (V.int .i64 d)])] K =
 sel (ilt (isub .i64 m 3) 0)
 (sel (band (band (ile (-9223372036854775808) (isub .i64 y 1)) (ile (isub .i64 y 1) 9223372036854775807)) (band (ilt 0 400) (ile 400 1000000)))
 (K (V.int .i64 (isub .i64 (iadd .i64 (isub .i64 (iadd .i64 (iadd .i64 (imul .i64 (fq (isub .i64 y 1) 400) 146097) (imul .i64 (fr (isub .i64 y 1) 400) 365)) (iquo .i64 (fr (isub .i64 y 1) 400) 4)) (iquo .i64 (fr (isub .i64 y 1) 400) 100)) (isub .i64 (iadd .i64 (iquo .i64 (iadd .i64 (imul .i64 153 (iadd .i64 (isub .i64 m 3) 12)) 2) 5) d) 1)) 719468)))
 (none))
 (sel (band (band (ile (-9223372036854775808) y) (ile y 9223372036854775807)) (band (ilt 0 400) (ile 400 1000000)))
 (K (V.int .i64 (isub .i64 (iadd .i64 (isub .i64 (iadd .i64 (iadd .i64 (imul .i64 (fq y 400) 146097) (imul .i64 (fr y 400) 365)) (iquo .i64 (fr y 400) 4)) (iquo .i64 (fr y 400) 100)) (isub .i64 (iadd .i64 (iquo .i64 (iadd .i64 (imul .i64 153 (isub .i64 m 3)) 2) 5) d) 1)) 719468)))
 (none)) := by kernel_rfl
theorem vDate1_top (F : Nat) (n : Int) (K : V → Option V) :
 evBd vE (evFn vE vS3 F 2) F 93 [(V.int .i64 n)] K =
 sel (band (band (ile (-9223372036854775808) (iadd .i64 n 719468)) (ile (iadd .i64 n 719468) 9223372036854775807)) (band (ilt 0 146097) (ile 146097 1000000)))
 (sel (ilt 12 (iadd .i64 (iquo .i64 (iadd .i64 (imul .i64 5 (isub .i64 (fr (iadd .i64 n 719468) 146097) (isub .i64 (iadd .i64 (imul .i64 365 (iquo .i64 (isub .i64 (iadd .i64 (isub .i64 (fr (iadd .i64 n 719468) 146097) (iquo .i64 (fr (iadd .i64 n 719468) 146097) 1460)) (iquo .i64 (fr (iadd .i64 n 719468) 146097) 36524)) (iquo .i64 (fr (iadd .i64 n 719468) 146097) 146096)) 365)) (iquo .i64 (iquo .i64 (isub .i64 (iadd .i64 (isub .i64 (fr (iadd .i64 n 719468) 146097) (iquo .i64 (fr (iadd .i64 n 719468) 146097) 1460)) (iquo .i64 (fr (iadd .i64 n 719468) 146097) 36524)) (iquo .i64 (fr (iadd .i64 n 719468) 146097) 146096)) 365) 4)) (iquo .i64 (iquo .i64 (isub .i64 (iadd .i64 (isub .i64 (fr (iadd .i64 n 719468) 146097) (iquo .i64 (fr (iadd .i64 n 719468) 146097) 1460)) (iquo .i64 (fr (iadd .i64 n 719468) 146097) 36524)) (iquo .i64 (fr (iadd .i64 n 719468) 146097) 146096)) 365) 100)))) 2) 153) 3))
 (K (V.agg [(V.int .i64 (iadd .i64 (iadd .i64 (imul .i64 (fq (iadd .i64 n 719468) 146097) 400) (iquo .i64 (isub .i64 (iadd .i64 (isub .i64 (fr (iadd .i64 n 719468) 146097) (iquo .i64 (fr (iadd .i64 n 719468) 146097) 1460)) (iquo .i64 (fr (iadd .i64 n 719468) 146097) 36524)) (iquo .i64 (fr (iadd .i64 n 719468) 146097) 146096)) 365)) 1)), (V.int .i64 (isub .i64 (iadd .i64 (iquo .i64 (iadd .i64 (imul .i64 5 (isub .i64 (fr (iadd .i64 n 719468) 146097) (isub .i64 (iadd .i64 (imul .i64 365 (iquo .i64 (isub .i64 (iadd .i64 (isub .i64 (fr (iadd .i64 n 719468) 146097) (iquo .i64 (fr (iadd .i64 n 719468) 146097) 1460)) (iquo .i64 (fr (iadd .i64 n 719468) 146097) 36524)) (iquo .i64 (fr (iadd .i64 n 719468) 146097) 146096)) 365)) (iquo .i64 (iquo .i64 (isub .i64 (iadd .i64 (isub .i64 (fr (iadd .i64 n 719468) 146097) (iquo .i64 (fr (iadd .i64 n 719468) 146097) 1460)) (iquo .i64 (fr (iadd .i64 n 719468) 146097) 36524)) (iquo .i64 (fr (iadd .i64 n 719468) 146097) 146096)) 365) 4)) (iquo .i64 (iquo .i64 (isub .i64 (iadd .i64 (isub .i64 (fr (iadd .i64 n 719468) 146097) (iquo .i64 (fr (iadd .i64 n 719468) 146097) 1460)) (iquo .i64 (fr (iadd .i64 n 719468) 146097) 36524)) (iquo .i64 (fr (iadd .i64 n 719468) 146097) 146096)) 365) 100)))) 2) 153) 3) 12)), (V.int .i64 (iadd .i64 (isub .i64 (isub .i64 (fr (iadd .i64 n 719468) 146097) (isub .i64 (iadd .i64 (imul .i64 365 (iquo .i64 (isub .i64 (iadd .i64 (isub .i64 (fr (iadd .i64 n 719468) 146097) (iquo .i64 (fr (iadd .i64 n 719468) 146097) 1460)) (iquo .i64 (fr (iadd .i64 n 719468) 146097) 36524)) (iquo .i64 (fr (iadd .i64 n 719468) 146097) 146096)) 365)) (iquo .i64 (iquo .i64 (isub .i64 (iadd .i64 (isub .i64 (fr (iadd .i64 n 719468) 146097) (iquo .i64 (fr (iadd .i64 n 719468) 146097) 1460)) (iquo .i64 (fr (iadd .i64 n 719468) 146097) 36524)) (iquo .i64 (fr (iadd .i64 n 719468) 146097) 146096)) 365) 4)) (iquo .i64 (iquo .i64 (isub .i64 (iadd .i64 (isub .i64 (fr (iadd .i64 n 719468) 146097) (iquo .i64 (fr (iadd .i64 n 719468) 146097) 1460)) (iquo .i64 (fr (iadd .i64 n 719468) 146097) 36524)) (iquo .i64 (fr (iadd .i64 n 719468) 146097) 146096)) 365) 100))) (iquo .i64 (iadd .i64 (imul .i64 153 (iquo .i64 (iadd .i64 (imul .i64 5 (isub .i64 (fr (iadd .i64 n 719468) 146097) (isub .i64 (iadd .i64 (imul .i64 365 (iquo .i64 (isub .i64 (iadd .i64 (isub .i64 (fr (iadd .i64 n 719468) 146097) (iquo .i64 (fr (iadd .i64 n 719468) 146097) 1460)) (iquo .i64 (fr (iadd .i64 n 719468) 146097) 36524)) (iquo .i64 (fr (iadd .i64 n 719468) 146097) 146096)) 365)) (iquo .i64 (iquo .i64 (isub .i64 (iadd .i64 (isub .i64 (fr (iadd .i64 n 719468) 146097) (iquo .i64 (fr (iadd .i64 n 719468) 146097) 1460)) (iquo .i64 (fr (iadd .i64 n 719468) 146097) 36524)) (iquo .i64 (fr (iadd .i64 n 719468) 146097) 146096)) 365) 4)) (iquo .i64 (iquo .i64 (isub .i64 (iadd .i64 (isub .i64 (fr (iadd .i64 n 719468) 146097) (iquo .i64 (fr (iadd .i64 n 719468) 146097) 1460)) (iquo .i64 (fr (iadd .i64 n 719468) 146097) 36524)) (iquo .i64 (fr (iadd .i64 n 719468) 146097) 146096)) 365) 100)))) 2) 153)) 2) 5)) 1))]))
 (K (V.agg [(V.int .i64 (iadd .i64 (imul .i64 (fq (iadd .i64 n 719468) 146097) 400) (iquo .i64 (isub .i64 (iadd .i64 (isub .i64 (fr (iadd .i64 n 719468) 146097) (iquo .i64 (fr (iadd .i64 n 719468) 146097) 1460)) (iquo .i64 (fr (iadd .i64 n 719468) 146097) 36524)) (iquo .i64 (fr (iadd .i64 n 719468) 146097) 146096)) 365))), (V.int .i64 (iadd .i64 (iquo .i64 (iadd .i64 (imul .i64 5 (isub .i64 (fr (iadd .i64 n 719468) 146097) (isub .i64 (iadd .i64 (imul .i64 365 (iquo .i64 (isub .i64 (iadd .i64 (isub .i64 (fr (iadd .i64 n 719468) 146097) (iquo .i64 (fr (iadd .i64 n 719468) 146097) 1460)) (iquo .i64 (fr (iadd .i64 n 719468) 146097) 36524)) (iquo .i64 (fr (iadd .i64 n 719468) 146097) 146096)) 365)) (iquo .i64 (iquo .i64 (isub .i64 (iadd .i64 (isub .i64 (fr (iadd .i64 n 719468) 146097) (iquo .i64 (fr (iadd .i64 n 719468) 146097) 1460)) (iquo .i64 (fr (iadd .i64 n 719468) 146097) 36524)) (iquo .i64 (fr (iadd .i64 n 719468) 146097) 146096)) 365) 4)) (iquo .i64 (iquo .i64 (isub .i64 (iadd .i64 (isub .i64 (fr (iadd .i64 n 719468) 146097) (iquo .i64 (fr (iadd .i64 n 719468) 146097) 1460)) (iquo .i64 (fr (iadd .i64 n 719468) 146097) 36524)) (iquo .i64 (fr (iadd .i64 n 719468) 146097) 146096)) 365) 100)))) 2) 153) 3)), (V.int .i64 (iadd .i64 (isub .i64 (isub .i64 (fr (iadd .i64 n 719468) 146097) (isub .i64 (iadd .i64 (imul .i64 365 (iquo .i64 (isub .i64 (iadd .i64 (isub .i64 (fr (iadd .i64 n 719468) 146097) (iquo .i64 (fr (iadd .i64 n 719468) 146097) 1460)) (iquo .i64 (fr (iadd .i64 n 719468) 146097) 36524)) (iquo .i64 (fr (iadd .i64 n 719468) 146097) 146096)) 365)) (iquo .i64 (iquo .i64 (isub .i64 (iadd .i64 (isub .i64 (fr (iadd .i64 n 719468) 146097) (iquo .i64 (fr (iadd .i64 n 719468) 146097) 1460)) (iquo .i64 (fr (iadd .i64 n 719468) 146097) 36524)) (iquo .i64 (fr (iadd .i64 n 719468) 146097) 146096)) 365) 4)) (iquo .i64 (iquo .i64 (isub .i64 (iadd .i64 (isub .i64 (fr (iadd .i64 n 719468) 146097) (iquo .i64 (fr (iadd .i64 n 719468) 146097) 1460)) (iquo .i64 (fr (iadd .i64 n 719468) 146097) 36524)) (iquo .i64 (fr (iadd .i64 n 719468) 146097) 146096)) 365) 100))) (iquo .i64 (iadd .i64 (imul .i64 153 (iquo .i64 (iadd .i64 (imul .i64 5 (isub .i64 (fr (iadd .i64 n 719468) 146097) (isub .i64 (iadd .i64 (imul .i64 365 (iquo .i64 (isub .i64 (iadd .i64 (isub .i64 (fr (iadd .i64 n 719468) 146097) (iquo .i64 (fr (iadd .i64 n 719468) 146097) 1460)) (iquo .i64 (fr (iadd .i64 n 719468) 146097) 36524)) (iquo .i64 (fr (iadd .i64 n 719468) 146097) 146096)) 365)) (iquo .i64 (iquo .i64 (isub .i64 (iadd .i64 (isub .i64 (fr (iadd .i64 n 719468) 146097) (iquo .i64 (fr (iadd .i64 n 719468) 146097) 1460)) (iquo .i64 (fr (iadd .i64 n 719468) 146097) 36524)) (iquo .i64 (fr (iadd .i64 n 719468) 146097) 146096)) 365) 4)) (iquo .i64 (iquo .i64 (isub .i64 (iadd .i64 (isub .i64 (fr (iadd .i64 n 719468) 146097) (iquo .i64 (fr (iadd .i64 n 719468) 146097) 1460)) (iquo .i64 (fr (iadd .i64 n 719468) 146097) 36524)) (iquo .i64 (fr (iadd .i64 n 719468) 146097) 146096)) 365) 100)))) 2) 153)) 2) 5)) 1))])))
 (none) := by kernel_rfl
theorem vDays_top (F : Nat) (y : Int) (m : Int) (d : Int) (K : V → Option V) :
 evBd vE (evFn vE vS4 F 3) F 94 [(V.agg [(V.int .i64 y), (V.int .i64 m), (V.int .i64 d)])] K =
 sel (bnot (validB y m d))
 (K (V.tup [(V.int .i64 0), (V.int .i64 1)]))
 (sel (validB y m d)
 (K (V.tup [(V.int .i64 (daysI y m d)), (V.int .i64 0)]))
 (none)) := by kernel_rfl
theorem vDate_top (F : Nat) (n : Int) (K : V → Option V) :
 evBd vE (evFn vE vS4 F 3) F 77 [(V.int .i64 n)] K =
 sel (ilt n (-16000000))
 (K (V.tup [(V.agg [(V.int .i64 0), (V.int .i64 0), (V.int .i64 0)]), (V.int .i64 1)]))
 (sel (ilt 16000000 n)
 (K (V.tup [(V.agg [(V.int .i64 0), (V.int .i64 0), (V.int .i64 0)]), (V.int .i64 1)]))
 (sel (band (ile (-16000000) n) (ile n 16000000))
 (sel (bnot (validB (dY n) (dM n) (dD n)))
 (K (V.tup [(V.agg [(V.int .i64 0), (V.int .i64 0), (V.int .i64 0)]), (V.int .i64 1)]))
 (K (V.tup [(V.agg [(V.int .i64 (dY n)), (V.int .i64 (dM n)), (V.int .i64 (dD n))]), (V.int .i64 0)])))
 (none))) := by kernel_rfl
end Nt.Ev.YtheojhajckcdlaaGreatDoor

namespace Nt.Ev.YtheojhajckcdlaaGreatDoor
open Go Go.RowKit Nt Nt.Num Nt.Civil Go.Proofs.YtheojhajckcdlaaGreatDoor
theorem vE_ok : EOk vE := ⟨by kernel_rfl, by kernel_rfl⟩
theorem fitsV {m : Int} (h : band (ile (-9223372036854775808) m) (ile m 9223372036854775807) = true) : Fits m := by rw [band_iff, ile_iff, ile_iff] at h; exact h
theorem bandV {m : Int} (h : Fits m) : band (ile (-9223372036854775808) m) (ile m 9223372036854775807) = true := by rw [band_iff, ile_iff, ile_iff]; exact h
theorem divs_pos (a b : Int) (hb : 0 < b) : divs a b = (a / b, a % b, 0) := by
  have h1 := Int.mul_tdiv_add_tmod a b
  have h2 := Int.mul_ediv_add_emod a b
  have h3 := Int.emod_nonneg a (show b ≠ 0 by omega)
  have h4 := Int.emod_lt_of_pos a hb
  have h5 := tmod_lt a b (by omega)
  rw [divs_rest a b (by omega) (by omega)]
  have key : ∀ q r : Int, b * q + r = a → 0 ≤ r → r < b → q = a / b ∧ r = a % b := fun q r e r0 r1 => by
    have e1 : a / b = q := by
      rw [← e, Int.add_comm, Int.add_mul_ediv_left _ _ (by omega), Int.ediv_eq_zero_of_lt r0 r1]; omega
    refine ⟨e1.symm, ?_⟩
    rw [e1] at h2
    omega
  split
  · rename_i hc
    obtain ⟨k1, k2⟩ := key (a.tdiv b - 1) (a.tmod b + b) (by rw [Int.mul_sub]; omega) (by omega) (by omega)
    rw [k1, k2]
  · rename_i hc
    obtain ⟨k1, k2⟩ := key (a.tdiv b) (a.tmod b) h1 (by omega) (by omega)
    rw [k1, k2]
theorem divS_args {a b : Int} (hc : band (band (ile (-9223372036854775808) a) (ile a 9223372036854775807)) (band (ilt 0 b) (ile b 1000000)) = true) : Fits a ∧ Fits b ∧ 0 < b := by
  obtain ⟨h1, h2⟩ := band_true hc
  rw [band_iff, ilt_iff, ile_iff] at h2
  exact ⟨fitsV h1, by unfold Fits; omega, h2.1⟩
theorem divS_ok (a b : Int) (hc : band (band (ile (-9223372036854775808) a) (ile a 9223372036854775807)) (band (ilt 0 b) (ile b 1000000)) = true) : Contract vE 92 [.int .i64 a, .int .i64 b] (.tup [.int .i64 (fq a b), .int .i64 (fr a b), .int .i64 0]) := by
  obtain ⟨ha, hb, h0⟩ := divS_args hc
  refine contract_old fun G w vs hG hg hp => ?_
  obtain ⟨x, y, rfl, hx, hy⟩ := PW_two hp
  unfold rep at hx hy
  subst hx; subst hy
  refine (n_div a b w ha hb).mono ?_
  rintro e w' ⟨rfl, hw⟩
  rw [divs_pos a b h0]
  exact ⟨_, rfl, below_drew hw, res_three (same_int _ _) (same_int _ _) (same_int _ _)⟩
theorem vS_ok : SOk vE vS := by
  unfold vS
  refine SOk.cons (fun args r h => ?_) (SOk.nil)
  · unfold divS at h
    split at h
    · simp only [Option.some.injEq, Prod.mk.injEq] at h
      obtain ⟨hc, rfl⟩ := h
      exact divS_ok _ _ hc
    · cases h
theorem and_low (y : Int) (k : Nat) (hk : k ≤ 8) (m : Int) (hm : m = ((2 ^ k - 1 : Nat) : Int)) : ibits .and .i64 y m = y % ((2 ^ k : Nat) : Int) := by
  subst hm
  have hp : 2 ^ k ≤ 2 ^ 8 := Nat.pow_le_pow_right (by decide) hk
  have h0 : 0 < 2 ^ k := Nat.pow_pos (by decide)
  have e : ((BitVec.ofInt IntKind.i64.bits y &&& BitVec.ofInt IntKind.i64.bits ((2 ^ k - 1 : Nat) : Int)).toNat : Int) = y % ((2 ^ k : Nat) : Int) := by
    rw [BitVec.toNat_and]
    have h1 : (BitVec.ofInt IntKind.i64.bits ((2 ^ k - 1 : Nat) : Int)).toNat = 2 ^ k - 1 := by
      rw [BitVec.ofInt_natCast, BitVec.toNat_ofNat, Nat.mod_eq_of_lt]
      have : (2 : Nat) ^ 8 < 2 ^ IntKind.i64.bits := by decide
      omega
    rw [h1, Nat.and_two_pow_sub_one_eq_mod, BitVec.toNat_ofInt]
    have h64 : ((2 ^ IntKind.i64.bits : Nat) : Int) = 18446744073709551616 := by decide
    rw [h64]
    have hd : ((2 ^ k : Nat) : Int) ∣ 18446744073709551616 := by
      have : (2 ^ k : Nat) ∣ 2 ^ 64 := Nat.pow_dvd_pow 2 (by omega)
      exact Int.natCast_dvd_natCast.2 this
    have hz : 0 ≤ y % 18446744073709551616 := by omega
    have e5 : ∀ a b : Nat, ((a % b : Nat) : Int) = (a : Int) % (b : Int) := fun _ _ => rfl
    rw [e5, Int.toNat_of_nonneg hz, Int.emod_emod_of_dvd _ hd]
  unfold ibits
  simp only
  rw [e]
  have h2 := Int.emod_nonneg y (show ((2 ^ k : Nat) : Int) ≠ 0 by omega)
  have h3 := Int.emod_lt_of_pos y (show (0 : Int) < ((2 ^ k : Nat) : Int) by omega)
  exact IntWalk.i64_in _ (by omega)
theorem irem_zero (y k : Int) (hk : 0 < k) : (irem y k = 0) = (y % k = 0) := by
  unfold irem
  refine propext ⟨fun h => ?_, fun h => ?_⟩
  · exact Int.emod_eq_zero_of_dvd (Int.dvd_of_tmod_eq_zero h)
  · exact Int.tmod_eq_zero_of_dvd (Int.dvd_of_emod_eq_zero h)
theorem vLeap_ev (y : Int) : Contract vE 73 [.int .i64 y] (.bool (leapB y)) := by
  refine contract_of_body vE_ok vS_ok 5 2 ?_
  rw [vLeap_top, and_low y 2 (by decide) 3 rfl, and_low y 4 (by decide) 15 rfl]
  have e1 : ((2 ^ 2 : Nat) : Int) = 4 := rfl
  have e2 : ((2 ^ 4 : Nat) : Int) = 16 := rfl
  rw [e1, e2]
  simp only [sel_if, ieq_iff, bnot_iff, irem_zero y 25 (by decide)]
  unfold leapB
  repeat' split
  all_goals first
    | (rw [decide_eq_true (by omega)]; done)
    | (rw [decide_eq_false (by omega)]; done)
    | (congr 2; unfold ieq; rw [Bool.eq_iff_iff]; simp; omega)
theorem leapS_ok (y : Int) (hc : band (ile (-9223372036854775808) y) (ile y 9223372036854775807) = true) : Contract vE 73 [.int .i64 y] (.bool (leapB y)) := vLeap_ev y
theorem vS1_ok : SOk vE vS1 := by
  unfold vS1
  refine SOk.cons (fun args r h => ?_) (vS_ok)
  · unfold leapS at h
    split at h
    · simp only [Option.some.injEq, Prod.mk.injEq] at h
      obtain ⟨hc, rfl⟩ := h
      exact leapS_ok _ hc
    · cases h
theorem st' (x y : Option V) : sel true x y = x := rfl
theorem sf' (x y : Option V) : sel false x y = y := rfl
theorem vLen_ev (y m : Int) (hy : Fits y) : Contract vE 51 [.int .i64 y, .int .i64 m] (.int .i64 (lenI y m)) := by
  refine contract_of_body vE_ok vS1_ok 5 2 ?_
  rw [vLen_top]
  have hf := bandV hy
  by_cases hm : 1 ≤ m ∧ m ≤ 12
  · have hc : m = 1 ∨ m = 2 ∨ m = 3 ∨ m = 4 ∨ m = 5 ∨ m = 6 ∨ m = 7 ∨ m = 8 ∨ m = 9 ∨ m = 10 ∨ m = 11 ∨ m = 12 := by omega
    rcases hc with rfl | rfl | rfl | rfl | rfl | rfl | rfl | rfl | rfl | rfl | rfl | rfl
    all_goals
      simp only [ieq, Int.reduceBEq, st', sf', hf]
      unfold lenI
      cases leapB y <;> rfl
  · have g : ∀ k : Int, 1 ≤ k → k ≤ 12 → ieq m k = false := fun k h1 h2 => ieq_f (by omega)
    have hl : lenI y m = 0 := by unfold lenI; rw [if_neg (by omega), if_neg (by omega), if_neg (by omega)]
    simp only [g 1 (by decide) (by decide), g 2 (by decide) (by decide), g 3 (by decide) (by decide), g 4 (by decide) (by decide), g 5 (by decide) (by decide), g 6 (by decide) (by decide), g 7 (by decide) (by decide), g 8 (by decide) (by decide), g 9 (by decide) (by decide), g 10 (by decide) (by decide), g 11 (by decide) (by decide), g 12 (by decide) (by decide), st', sf', hl]
theorem lenS_ok (y m : Int) (hc : band (ile (-9223372036854775808) y) (ile y 9223372036854775807) = true) : Contract vE 51 [.int .i64 y, .int .i64 m] (.int .i64 (lenI y m)) := vLen_ev y m (fitsV hc)
theorem vS2_ok : SOk vE vS2 := by
  unfold vS2
  refine SOk.cons (fun args r h => ?_) (vS1_ok)
  · unfold lenS at h
    split at h
    · simp only [Option.some.injEq, Prod.mk.injEq] at h
      obtain ⟨hc, rfl⟩ := h
      exact lenS_ok _ _ hc
    · cases h
theorem vRight_ev (y m d : Int) : Contract vE 82 [.agg [.int .i64 y, .int .i64 m, .int .i64 d]] (.bool (validB y m d)) := by
  refine contract_of_body vE_ok vS2_ok 5 2 ?_
  rw [vRight_top]
  unfold validB
  simp only [sel_if, ile_iff, bnot_iff, band_iff]
  repeat' split
  all_goals first
    | (rw [decide_eq_false (by omega)]; done)
    | (exfalso; omega)
    | (congr 2; unfold ile; rw [Bool.eq_iff_iff]; simp; omega)
theorem rightS_ok (y m d : Int) (hc : true = true) : Contract vE 82 [.agg [.int .i64 y, .int .i64 m, .int .i64 d]] (.bool (validB y m d)) := vRight_ev y m d
theorem vS3_ok : SOk vE vS3 := by
  unfold vS3
  refine SOk.cons (fun args r h => ?_) (vS2_ok)
  · unfold rightS at h
    split at h
    · simp only [Option.some.injEq, Prod.mk.injEq] at h
      obtain ⟨hc, rfl⟩ := h
      exact rightS_ok _ _ _ rfl
    · cases h
theorem validB_iff {y m d : Int} : validB y m d = true ↔ -40000 ≤ y ∧ y ≤ 40000 ∧ valid y m d := by
  unfold validB valid
  rw [decide_eq_true_eq]
theorem vNumber_ev (y m d : Int) (h : validB y m d = true) : Contract vE 83 [.agg [.int .i64 y, .int .i64 m, .int .i64 d]] (.int .i64 (daysI y m d)) := by
  refine contract_of_body vE_ok vS3_ok 5 2 ?_
  rw [vNumber_top]
  obtain ⟨y1, y2, hv⟩ := validB_iff.1 h
  obtain ⟨m1, m2⟩ := len_month hv
  have hd : 1 ≤ d ∧ d ≤ 31 := by have := len_pos y m m1 m2; unfold valid at hv; omega
  have hn := march_days hv
  have e0 : isub .i64 m 3 = m - 3 := isub64 (by omega)
  have e1 : isub .i64 y 1 = y - 1 := isub64 (by omega)
  rw [e0, e1]
  unfold marchN at hn
  by_cases hm : m < 3
  · rw [if_pos hm, if_pos hm] at hn
    rw [sel_pos (ilt_t (by omega)), bandV (show Fits (y - 1) by unfold Fits; omega)]
    show some _ = some _
    unfold fq fr
    congr 2
    rw [← hn]
    simp (disch := omega) only [iadd64, isub64, imul64, iquo64]
    omega
  · rw [if_neg hm, if_neg hm] at hn
    rw [sel_neg (ilt_f (by omega)), bandV (show Fits y by unfold Fits; omega)]
    show some _ = some _
    unfold fq fr
    congr 2
    rw [← hn]
    simp (disch := omega) only [iadd64, isub64, imul64, iquo64]
    omega
theorem numberS_ok (y m d : Int) (hc : validB y m d = true) : Contract vE 83 [.agg [.int .i64 y, .int .i64 m, .int .i64 d]] (.int .i64 (daysI y m d)) := vNumber_ev y m d hc
theorem date_facts (n : Int) : 0 ≤ dR n ∧ dR n ≤ 399 ∧ 0 ≤ dL n ∧ dL n ≤ 365 ∧ (n + 719468) % 146097 = 365 * dR n + dR n / 4 - dR n / 100 + dL n ∧ 0 ≤ dT n ∧ dT n ≤ 11 ∧ 1 ≤ dD n ∧ valid (dY n) (dM n) (dD n) ∧ daysI (dY n) (dM n) (dD n) = n := by
  obtain ⟨y, L, h1, h2, h3, h4, h5, h6, h7⟩ := march_year ((n + 719468) % 146097) (by omega) (by omega)
  have e1 : dR n = y := h1
  have e2 : dL n = L := by unfold dL; rw [e1]; omega
  obtain ⟨m, D, k1, k2, k3, k4, k5, k6⟩ := march_month L h5 h6
  have e3 : dT n = m := by unfold dT; rw [e2]; exact k1
  have e4 : dD n = D := by unfold dD; rw [e2, e3]; exact k2
  have e5 : dM n = if m + 3 > 12 then m + 3 - 12 else m + 3 := by unfold dM; rw [e3]
  have e6 : dY n = (n + 719468) / 146097 * 400 + y + (if m + 3 > 12 then 1 else 0) := by unfold dY; rw [e1, e3]
  have hleap : L = 365 → leapB (dY n) = true := by
    intro hL
    have := h7 hL
    rw [leap_iff] at this ⊢
    have hm : m = 11 := by omega
    rw [e6, if_pos (by omega)]
    omega
  have hv : valid (dY n) (dM n) (dD n) := by
    refine ⟨by omega, ?_⟩
    rw [e4, e5]
    exact k6 (dY n) hleap
  refine ⟨by omega, by omega, by omega, by omega, by rw [e1, e2]; exact h4, by omega, by omega, by omega, hv, ?_⟩
  rw [← march_days hv]
  unfold marchN
  rw [e4, e5, e6]
  by_cases hm : m + 3 > 12
  · simp only [if_pos hm]
    rw [if_pos (by omega), if_pos (by omega)]
    have q1 : ((n + 719468) / 146097 * 400 + y + 1 - 1) / 400 = (n + 719468) / 146097 := by omega
    have q2 : ((n + 719468) / 146097 * 400 + y + 1 - 1) % 400 = y := by omega
    rw [q1, q2, show m + 3 - 12 + 9 = m by omega]
    omega
  · simp only [if_neg hm]
    rw [if_neg (by omega), if_neg (by omega)]
    have q1 : ((n + 719468) / 146097 * 400 + y + 0) / 400 = (n + 719468) / 146097 := by omega
    have q2 : ((n + 719468) / 146097 * 400 + y + 0) % 400 = y := by omega
    rw [q1, q2, show m + 3 - 3 = m by omega]
    omega
end Nt.Ev.YtheojhajckcdlaaGreatDoor

namespace Nt.Ev.YtheojhajckcdlaaGreatDoor
open Go Go.RowKit Nt Nt.Num Nt.Civil Go.Proofs.YtheojhajckcdlaaGreatDoor
theorem vDate1_ev (n : Int) (h : -16000000 ≤ n ∧ n ≤ 16000000) : Contract vE 93 [.int .i64 n] (.agg [.int .i64 (dY n), .int .i64 (dM n), .int .i64 (dD n)]) := by
  refine contract_of_body vE_ok vS3_ok 5 2 ?_
  rw [vDate1_top]
  obtain ⟨r0, r1, l0, l1, er, t0, t1, d0, hv, hd⟩ := date_facts n
  have e0 : iadd .i64 n 719468 = n + 719468 := iadd64 (by omega)
  rw [e0]
  have ef : fr (n + 719468) 146097 = (n + 719468) % 146097 := rfl
  have eq : fq (n + 719468) 146097 = (n + 719468) / 146097 := rfl
  have hr : 0 ≤ (n + 719468) % 146097 ∧ (n + 719468) % 146097 < 146097 := by omega
  have hq : -200 ≤ (n + 719468) / 146097 ∧ (n + 719468) / 146097 ≤ 200 := by omega
  rw [ef, eq]
  have eR : (iquo .i64 (isub .i64 (iadd .i64 (isub .i64 ((n + 719468) % 146097) (iquo .i64 ((n + 719468) % 146097) 1460)) (iquo .i64 ((n + 719468) % 146097) 36524)) (iquo .i64 ((n + 719468) % 146097) 146096)) 365) = dR n := by
    unfold dR
    generalize (n + 719468) % 146097 = r at *
    simp (disch := omega) only [iadd64, isub64, imul64, iquo64]
  rw [eR]
  have eL : (isub .i64 ((n + 719468) % 146097) (isub .i64 (iadd .i64 (imul .i64 365 (dR n)) (iquo .i64 (dR n) 4)) (iquo .i64 (dR n) 100))) = dL n := by
    unfold dL
    generalize (n + 719468) % 146097 = r at *
    generalize dR n = q at *
    simp (disch := omega) only [iadd64, isub64, imul64, iquo64]
  rw [eL]
  have eT : (iquo .i64 (iadd .i64 (imul .i64 5 (dL n)) 2) 153) = dT n := by
    unfold dT
    simp (disch := omega) only [iadd64, isub64, imul64, iquo64]
  rw [eT]
  have eD : (iadd .i64 (isub .i64 (dL n) (iquo .i64 (iadd .i64 (imul .i64 153 (dT n)) 2) 5)) 1) = dD n := by
    unfold dD
    simp (disch := omega) only [iadd64, isub64, imul64, iquo64]
  rw [eD]
  have e3 : iadd .i64 (dT n) 3 = dT n + 3 := iadd64 (by omega)
  have e4 : imul .i64 ((n + 719468) / 146097) 400 = (n + 719468) / 146097 * 400 := imul64 (by omega)
  have e5 : iadd .i64 ((n + 719468) / 146097 * 400) (dR n) = (n + 719468) / 146097 * 400 + dR n := iadd64 (by omega)
  rw [e3, e4, e5]
  have hc : band (band (ile (-9223372036854775808) (n + 719468)) (ile (n + 719468) 9223372036854775807)) (band (ilt 0 146097) (ile 146097 1000000)) = true := by
    rw [bandV (show Fits (n + 719468) by unfold Fits; omega)]; rfl
  rw [sel_pos hc]
  have eM : dM n = if dT n + 3 > 12 then dT n + 3 - 12 else dT n + 3 := rfl
  have eY : dY n = (n + 719468) / 146097 * 400 + dR n + (if dT n + 3 > 12 then 1 else 0) := rfl
  by_cases hm : dT n + 3 > 12
  · rw [if_pos hm] at eM eY
    rw [sel_pos (ilt_t (by omega)), eM, eY, isub64 (by omega), iadd64 (by omega)]
  · rw [if_neg hm] at eM eY
    rw [sel_neg (ilt_f (by omega)), eM, eY, Int.add_zero]
theorem dateS_ok (n : Int) (hc : band (ile (-16000000) n) (ile n 16000000) = true) : Contract vE 93 [.int .i64 n] (.agg [.int .i64 (dY n), .int .i64 (dM n), .int .i64 (dD n)]) := vDate1_ev n (by rw [band_iff, ile_iff, ile_iff] at hc; exact hc)
theorem vS4_ok : SOk vE vS4 := by
  unfold vS4
  refine SOk.cons (fun args r h => ?_) (SOk.cons (fun args r h => ?_) (vS3_ok))
  · unfold numberS at h
    split at h
    · simp only [Option.some.injEq, Prod.mk.injEq] at h
      obtain ⟨hc, rfl⟩ := h
      exact numberS_ok _ _ _ hc
    · cases h
  · unfold dateS at h
    split at h
    · simp only [Option.some.injEq, Prod.mk.injEq] at h
      obtain ⟨hc, rfl⟩ := h
      exact dateS_ok _ hc
    · cases h
def daysP (y m d : Int) : Int × Int := if validB y m d = true then (daysI y m d, 0) else (0, 1)
theorem vDays_ev (y m d : Int) : Contract vE 94 [.agg [.int .i64 y, .int .i64 m, .int .i64 d]] (.tup [.int .i64 (daysP y m d).1, .int .i64 (daysP y m d).2]) := by
  refine contract_of_body vE_ok vS4_ok 5 3 ?_
  rw [vDays_top]
  unfold daysP
  cases validB y m d <;> rfl
def inRange (n : Int) : Bool := decide (aheadI (-40000) ≤ n ∧ n < aheadI 40001)
def dateP (n : Int) : Int × Int × Int × Int := if inRange n = true then (dY n, dM n, dD n, 0) else (0, 0, 0, 1)
def resD (p : Int × Int × Int × Int) : V := .tup [.agg [.int .i64 p.1, .int .i64 p.2.1, .int .i64 p.2.2.1], .int .i64 p.2.2.2]
theorem ahead_lo : aheadI (-40000) = -15329228 := by decide
theorem ahead_hi : aheadI 40001 = 13890538 := by decide
theorem range_year (n : Int) : inRange n = true ↔ -40000 ≤ dY n ∧ dY n ≤ 40000 := by
  obtain ⟨_, _, _, _, _, _, _, _, hv, hd⟩ := date_facts n
  have h := days_year hv
  rw [hd] at h
  unfold inRange
  rw [decide_eq_true_eq]
  constructor
  · intro hn
    constructor
    · apply Int.not_lt.1
      intro hlt
      have := ahead_le (show dY n + 1 ≤ -40000 by omega)
      omega
    · apply Int.not_lt.1
      intro hlt
      have := ahead_le (show 40001 ≤ dY n by omega)
      omega
  · intro hn
    have h1 := ahead_le (show -40000 ≤ dY n by omega)
    have h2 := ahead_le (show dY n + 1 ≤ 40001 by omega)
    omega
theorem vDate_ev (n : Int) : Contract vE 77 [.int .i64 n] (resD (dateP n)) := by
  refine contract_of_body vE_ok vS4_ok 5 3 ?_
  rw [vDate_top]
  have hr := range_year n
  have hb : inRange n = true → -16000000 ≤ n ∧ n ≤ 16000000 := by
    unfold inRange; rw [decide_eq_true_eq, ahead_lo, ahead_hi]; omega
  have hvb : validB (dY n) (dM n) (dD n) = inRange n := by
    rw [Bool.eq_iff_iff, validB_iff, hr]
    exact ⟨fun h => ⟨h.1, h.2.1⟩, fun h => ⟨h.1, h.2, (date_facts n).2.2.2.2.2.2.2.2.1⟩⟩
  unfold dateP resD
  rw [hvb]
  by_cases h1 : n < -16000000
  · have : inRange n = false := by cases h : inRange n; rfl; have := hb h; omega
    rw [sel_pos (ilt_t h1), this]; rfl
  · by_cases h2 : 16000000 < n
    · have : inRange n = false := by cases h : inRange n; rfl; have := hb h; omega
      rw [sel_neg (ilt_f (by omega)), sel_pos (ilt_t h2), this]; rfl
    · rw [sel_neg (ilt_f (by omega)), sel_neg (ilt_f (by omega)), sel_pos (by rw [band_iff, ile_iff, ile_iff]; omega)]
      cases inRange n <;> rfl
end Nt.Ev.YtheojhajckcdlaaGreatDoor
