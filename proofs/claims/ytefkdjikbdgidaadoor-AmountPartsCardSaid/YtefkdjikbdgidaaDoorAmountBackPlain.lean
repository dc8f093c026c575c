/-
  The plain law of amounts, there and back.
-/
import Derived.Test.YtefkdjikbdgidaaDoorAmountPlain
set_option linter.unusedVariables false
set_option linter.unusedSimpArgs false
namespace Nt.Amount
open Nt Nt.Num

theorem pieces_glue (p l : List UInt8) (h : ∀ c ∈ p, c ≠ 58) : pieces (p ++ l) = glue p (pieces l) := by
  induction p with
  | nil => exact (glue_nil l).symm
  | cons c p ih =>
    have h1 := ih (fun c hc => h c (.tail _ hc))
    have hc : c ≠ 58 := h c (.head _)
    show pieces (c :: (p ++ l)) = _
    conv => lhs; unfold pieces
    rw [if_neg (by simpa using hc), h1]
    simp [glue]

theorem pieces_end (p : List UInt8) (h : ∀ c ∈ p, c ≠ 58) : pieces p = [p] := by
  have := pieces_glue p [] h
  rw [List.append_nil] at this
  rw [this, glue_end]
theorem pieces_colon (p l : List UInt8) (h : ∀ c ∈ p, c ≠ 58) : pieces (p ++ 58 :: l) = p :: pieces l := by rw [pieces_glue p _ h, glue_colon]

theorem digits_no (p : List UInt8) (h : p.all isDigit = true) : ∀ c ∈ p, c ≠ 58 := by
  intro c hc e
  have := List.all_eq_true.1 h c hc
  rw [e] at this
  exact absurd this (by decide)
theorem ok_no {p : List UInt8} {l m : Nat} (h : ok p l m = true) : ∀ c ∈ p, c ≠ 58 := by
  unfold ok at h
  rw [Bool.and_eq_true] at h
  exact digits_no p h.2

theorem pieces2 {p q : List UInt8} {l m l' m' : Nat} (hp : ok p l m = true) (hq : ok q l' m' = true) : pieces (p ++ ([58] ++ q)) = [p, q] := by
  rw [show p ++ ([58] ++ q) = p ++ 58 :: q from rfl, pieces_colon p q (ok_no hp), pieces_end q (ok_no hq)]
theorem pieces3 {p q r : List UInt8} {l m l' m' l'' m'' : Nat} (hp : ok p l m = true) (hq : ok q l' m' = true) (hr : ok r l'' m'' = true) : pieces (p ++ ([58] ++ q) ++ ([58] ++ r)) = [p, q, r] := by
  rw [show p ++ ([58] ++ q) ++ ([58] ++ r) = p ++ 58 :: (q ++ 58 :: r) by simp, pieces_colon p _ (ok_no hp), pieces_colon q _ (ok_no hq), pieces_end r (ok_no hr)]

theorem two_ok : ∀ k : Fin 100, ok (two k) 2 2 = true ∧ val (two k) = k := by decide

theorem told2 {p q : List UInt8} {b : Bool} (hp : ok p 1 3 = true) (hq : ok q 2 2 = true) (h59 : val q ≤ 59) (hs : val p * 3600 + val q * 60 < 604800) :
    told [p, q] b = (if b then -((val p * 3600 + val q * 60 : Nat) : Int) else ((val p * 3600 + val q * 60 : Nat) : Int), 0) := by
  have hg : goodK [p, q] 2 = true := by
    show (true && ok p 1 3 && ok q 2 2) = true
    rw [hp, hq]; rfl
  have hf : fitsK [p, q] 2 = true := by
    show (true && (true || decide (val p ≤ 59)) && (false || decide (val q ≤ 59))) = true
    rw [decide_eq_true h59]; simp
  have hk : sumK [p, q] 2 = val p * 3600 + val q * 60 := by
    show 0 + val p * 3600 + val q * 60 = _
    omega
  unfold told
  rw [show [p, q].length = 2 from rfl, hg, hf, hk, decide_eq_false (by omega : ¬ 604800 ≤ _), decide_eq_false (by omega : ¬ 3 < 2)]
  rfl
theorem told3 {p q r : List UInt8} {b : Bool} (hp : ok p 1 3 = true) (hq : ok q 2 2 = true) (hr : ok r 2 2 = true) :
    told [p, q, r] b = if 59 < val q ∨ 59 < val r ∨ 604800 ≤ val p * 3600 + val q * 60 + val r then (0, 1) else (if b then -((val p * 3600 + val q * 60 + val r : Nat) : Int) else ((val p * 3600 + val q * 60 + val r : Nat) : Int), 0) := by
  have hg : goodK [p, q, r] 3 = true := by
    show (true && ok p 1 3 && ok q 2 2 && ok r 2 2) = true
    rw [hp, hq, hr]; rfl
  have hf : fitsK [p, q, r] 3 = (decide (val q ≤ 59) && decide (val r ≤ 59)) := by
    show (true && (true || decide (val p ≤ 59)) && (false || decide (val q ≤ 59)) && (false || decide (val r ≤ 59))) = _
    simp
  have hk : sumK [p, q, r] 3 = val p * 3600 + val q * 60 + val r := by
    show 0 + val p * 3600 + val q * 60 + val r * 1 = _
    omega
  unfold told
  rw [show [p, q, r].length = 3 from rfl, hg, hf, hk, decide_eq_false (by omega : ¬ 3 < 3), if_neg (show ¬ ((false || !true) = true) by decide)]
  by_cases h1 : 59 < val q
  · rw [if_pos (Or.inl h1 : 59 < val q ∨ 59 < val r ∨ 604800 ≤ val p * 3600 + val q * 60 + val r), decide_eq_false (by omega : ¬ val q ≤ 59)]; rfl
  · by_cases h2 : 59 < val r
    · rw [if_pos (Or.inr (Or.inl h2) : 59 < val q ∨ 59 < val r ∨ 604800 ≤ val p * 3600 + val q * 60 + val r), decide_eq_false (by omega : ¬ val r ≤ 59), Bool.and_false]; rfl
    · rw [decide_eq_true (by omega : val q ≤ 59), decide_eq_true (by omega : val r ≤ 59)]
      by_cases h3 : 604800 ≤ val p * 3600 + val q * 60 + val r
      · rw [if_pos (Or.inr (Or.inr h3) : 59 < val q ∨ 59 < val r ∨ 604800 ≤ val p * 3600 + val q * 60 + val r), decide_eq_true h3]; rfl
      · rw [decide_eq_false h3, if_neg (show ¬ ((!(true && true) || false) = true) by decide), if_neg (show ¬ (59 < val q ∨ 59 < val r ∨ 604800 ≤ val p * 3600 + val q * 60 + val r) by omega)]
end Nt.Amount
