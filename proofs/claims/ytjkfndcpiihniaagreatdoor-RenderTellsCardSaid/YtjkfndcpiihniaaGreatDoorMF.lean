/-
  The plain law of amounts: pieces between colons, parts, sums. The plain law of amounts, there and back. Amounts: the equations of the program's functions and of the document's, as the evaluator prints them. Amounts: what the program's functions and the document's answer. Amounts: how they are written, by the program and by the document. Amounts: how they are read, by the program and by the document. Amounts that are written, read again: those above nought.
-/
import Derived.Test.YtjkfndcpiihniaaGreatDoorMC
import Derived.Lib.Split
import Derived.Test.YtjkfndcpiihniaaGreatDoorMS
set_option linter.unusedVariables false
set_option linter.unusedSimpArgs false
namespace Nt.Amount
open Go Go.RowKit Nt Nt.Num
def pieces : List UInt8 → List (List UInt8)
  | [] => [[]]
  | c :: l => if c == 58 then [] :: pieces l else (c :: (pieces l).headD []) :: (pieces l).tail
def least (i : Nat) : Nat := if i = 0 then 1 else 2
def most (i : Nat) : Nat := if i = 0 then 3 else 2
def unit (i : Nat) : Nat := if i = 0 then 3600 else if i = 1 then 60 else 1
def ok (l : List UInt8) (least most : Nat) : Bool := decide (least ≤ l.length) && decide (l.length ≤ most) && l.all isDigit
def part (l : List UInt8) (least most : Nat) : Int × Bool := if ok l least most then ((val l : Nat), true) else (0, false)
def goodK (P : List (List UInt8)) : Nat → Bool
  | 0 => true
  | k + 1 => goodK P k && ok (P.getD k []) (least k) (most k)
def fitsK (P : List (List UInt8)) : Nat → Bool
  | 0 => true
  | k + 1 => fitsK P k && (decide (k = 0) || decide (val (P.getD k []) ≤ 59))
def sumK (P : List (List UInt8)) : Nat → Nat
  | 0 => 0
  | k + 1 => sumK P k + val (P.getD k []) * unit k
def told (P : List (List UInt8)) (below : Bool) : Int × Int :=
  if decide (3 < P.length) || !goodK P P.length then (0, 2)
  else if !fitsK P P.length || decide (604800 ≤ sumK P P.length) then (0, 1)
  else (if below then -(sumK P P.length : Int) else (sumK P P.length : Int), 0)
def read (l : List UInt8) : Int × Int := if l = [45] then (0, 0) else told (pieces (bare l)) (minus l)
def two (n : Nat) : List UInt8 := [digit (n / 10), digit (n % 10)]
def text (n : Int) : List UInt8 × Int :=
  if n ≤ -604800 ∨ 604800 ≤ n then ([], 1)
  else if n = 0 then ([48], 0)
  else ((if n < 0 then [45] else []) ++ digs (n.natAbs / 3600) ++ [58] ++ two (n.natAbs / 60 % 60) ++ (if 0 < n.natAbs % 60 then 58 :: two (n.natAbs % 60) else []), 0)
theorem pieces_ne (l : List UInt8) : pieces l ≠ [] := by
  cases l with
  | nil => simp [pieces]
  | cons c l => unfold pieces; split <;> simp
def glue (p : List UInt8) (P : List (List UInt8)) : List (List UInt8) := (p ++ P.headD []) :: P.tail
theorem glue_nil (l : List UInt8) : glue [] (pieces l) = pieces l := by
  unfold glue
  cases e : pieces l with
  | nil => exact absurd e (pieces_ne l)
  | cons a t => rfl
theorem glue_end (p : List UInt8) : glue p (pieces []) = [p] := by simp [glue, pieces]
theorem glue_colon (p l : List UInt8) : glue p (pieces (58 :: l)) = p :: pieces l := by simp [glue, pieces]
end Nt.Amount

namespace Nt.Amount
open Nt Nt.Num
theorem pieces_glue (p l : List UInt8) (h : ∀ c ∈ p, c ≠ 58) : pieces (p ++ l) = glue p (pieces l) := by
  induction p with
  | nil => exact (glue_nil l).symm
  | cons c p ih =>
    have h1 := ih (fun c hc => h c (.tail _ hc))
    have hc : c ≠ 58 := h c (.head _)
    show pieces (c :: (p ++ l)) = _
    conv => lhs; unfold pieces
    rw [if_neg (by simpa using hc), h1]
    simp [glue]
theorem pieces_end (p : List UInt8) (h : ∀ c ∈ p, c ≠ 58) : pieces p = [p] := by
  have := pieces_glue p [] h
  rw [List.append_nil] at this
  rw [this, glue_end]
theorem pieces_colon (p l : List UInt8) (h : ∀ c ∈ p, c ≠ 58) : pieces (p ++ 58 :: l) = p :: pieces l := by rw [pieces_glue p _ h, glue_colon]
theorem digits_no (p : List UInt8) (h : p.all isDigit = true) : ∀ c ∈ p, c ≠ 58 := by
  intro c hc e
  have := List.all_eq_true.1 h c hc
  rw [e] at this
  exact absurd this (by decide)
theorem ok_no {p : List UInt8} {l m : Nat} (h : ok p l m = true) : ∀ c ∈ p, c ≠ 58 := by
  unfold ok at h
  rw [Bool.and_eq_true] at h
  exact digits_no p h.2
theorem pieces2 {p q : List UInt8} {l m l' m' : Nat} (hp : ok p l m = true) (hq : ok q l' m' = true) : pieces (p ++ ([58] ++ q)) = [p, q] := by
  rw [show p ++ ([58] ++ q) = p ++ 58 :: q from rfl, pieces_colon p q (ok_no hp), pieces_end q (ok_no hq)]
theorem pieces3 {p q r : List UInt8} {l m l' m' l'' m'' : Nat} (hp : ok p l m = true) (hq : ok q l' m' = true) (hr : ok r l'' m'' = true) : pieces (p ++ ([58] ++ q) ++ ([58] ++ r)) = [p, q, r] := by
  rw [show p ++ ([58] ++ q) ++ ([58] ++ r) = p ++ 58 :: (q ++ 58 :: r) by simp, pieces_colon p _ (ok_no hp), pieces_colon q _ (ok_no hq), pieces_end r (ok_no hr)]
theorem two_ok : ∀ k : Fin 100, ok (two k) 2 2 = true ∧ val (two k) = k := by decide
theorem told2 {p q : List UInt8} {b : Bool} (hp : ok p 1 3 = true) (hq : ok q 2 2 = true) (h59 : val q ≤ 59) (hs : val p * 3600 + val q * 60 < 604800) :
    told [p, q] b = (if b then -((val p * 3600 + val q * 60 : Nat) : Int) else ((val p * 3600 + val q * 60 : Nat) : Int), 0) := by
  have hg : goodK [p, q] 2 = true := by
    show (true && ok p 1 3 && ok q 2 2) = true
    rw [hp, hq]; rfl
  have hf : fitsK [p, q] 2 = true := by
    show (true && (true || decide (val p ≤ 59)) && (false || decide (val q ≤ 59))) = true
    rw [decide_eq_true h59]; simp
  have hk : sumK [p, q] 2 = val p * 3600 + val q * 60 := by
    show 0 + val p * 3600 + val q * 60 = _
    omega
  unfold told
  rw [show [p, q].length = 2 from rfl, hg, hf, hk, decide_eq_false (by omega : ¬ 604800 ≤ _), decide_eq_false (by omega : ¬ 3 < 2)]
  rfl
theorem told3 {p q r : List UInt8} {b : Bool} (hp : ok p 1 3 = true) (hq : ok q 2 2 = true) (hr : ok r 2 2 = true) :
    told [p, q, r] b = if 59 < val q ∨ 59 < val r ∨ 604800 ≤ val p * 3600 + val q * 60 + val r then (0, 1) else (if b then -((val p * 3600 + val q * 60 + val r : Nat) : Int) else ((val p * 3600 + val q * 60 + val r : Nat) : Int), 0) := by
  have hg : goodK [p, q, r] 3 = true := by
    show (true && ok p 1 3 && ok q 2 2 && ok r 2 2) = true
    rw [hp, hq, hr]; rfl
  have hf : fitsK [p, q, r] 3 = (decide (val q ≤ 59) && decide (val r ≤ 59)) := by
    show (true && (true || decide (val p ≤ 59)) && (false || decide (val q ≤ 59)) && (false || decide (val r ≤ 59))) = _
    simp
  have hk : sumK [p, q, r] 3 = val p * 3600 + val q * 60 + val r := by
    show 0 + val p * 3600 + val q * 60 + val r * 1 = _
    omega
  unfold told
  rw [show [p, q, r].length = 3 from rfl, hg, hf, hk, decide_eq_false (by omega : ¬ 3 < 3), if_neg (show ¬ ((false || !true) = true) by decide)]
  by_cases h1 : 59 < val q
  · rw [if_pos (Or.inl h1 : 59 < val q ∨ 59 < val r ∨ 604800 ≤ val p * 3600 + val q * 60 + val r), decide_eq_false (by omega : ¬ val q ≤ 59)]; rfl
  · by_cases h2 : 59 < val r
    · rw [if_pos (Or.inr (Or.inl h2) : 59 < val q ∨ 59 < val r ∨ 604800 ≤ val p * 3600 + val q * 60 + val r), decide_eq_false (by omega : ¬ val r ≤ 59), Bool.and_false]; rfl
    · rw [decide_eq_true (by omega : val q ≤ 59), decide_eq_true (by omega : val r ≤ 59)]
      by_cases h3 : 604800 ≤ val p * 3600 + val q * 60 + val r
      · rw [if_pos (Or.inr (Or.inr h3) : 59 < val q ∨ 59 < val r ∨ 604800 ≤ val p * 3600 + val q * 60 + val r), decide_eq_true h3]; rfl
      · rw [decide_eq_false h3, if_neg (show ¬ ((!(true && true) || false) = true) by decide), if_neg (show ¬ (59 < val q ∨ 59 < val r ∨ 604800 ≤ val p * 3600 + val q * 60 + val r) by omega)]
end Nt.Amount

namespace Nt.Ev.YtjkfndcpiihniaaGreatDoor
open Go Nt.Num Go.Proofs.YtjkfndcpiihniaaGreatDoor
noncomputable def twoI (n : Int) : List UInt8 := Amount.two n.toNat
noncomputable def posI (n : Int) : List UInt8 := (Amount.text n).1
variable [MLen]
noncomputable def fitsI (m : Int) : Bool := band (ile (-9223372036854775808) m) (ile m 9223372036854775807)
noncomputable def textS : FSpec := fun a => match a with | [.int .i64 m] => some (fitsI m, .str (text m)) | _ => none
noncomputable def twoA : FSpec := fun a => match a with | [.int .i64 n] => some (band (ile 0 n) (ile n 59), .str (scat [58] (twoI n))) | _ => none
noncomputable def twoR : FSpec := fun a => match a with | [.int .i64 n] => some (band (ile 0 n) (ile n 59), .str (twoI n)) | _ => none
noncomputable def posS (b : Bool) : FSpec := fun a => match a with | [.int .i64 n] => some (band b (band (ile 1 n) (ile n 604799)), .tup [.str (posI n), .int .i64 0]) | _ => none
noncomputable def aS : List (Nat × FSpec) := (65, textS) :: (58, textS) :: []
noncomputable def tS : List (Nat × FSpec) := (68, twoA) :: (81, twoR) :: aS
noncomputable def uS (b : Bool) : List (Nat × FSpec) := (39, posS b) :: tS
end Nt.Ev.YtjkfndcpiihniaaGreatDoor

set_option linter.unusedSectionVars false
namespace Nt.Ev.YtjkfndcpiihniaaGreatDoor
open Go Nt.Num Go.Proofs.YtjkfndcpiihniaaGreatDoor
variable [MLen]
theorem fitsI_iff {m : Int} (h : fitsI m = true) : Fits m := by
  unfold fitsI at h
  rw [band_iff, ile_iff, ile_iff] at h
  exact h
theorem text_digit (k : Nat) (h : k < 10) : text (k : Int) = [digit k] := by
  unfold text
  rw [if_neg (by omega), Int.natAbs_natCast, digs_small k h]
  rfl
theorem text_two (k : Nat) (h10 : 10 ≤ k) (h : k < 100) : text (k : Int) = Amount.two k := by
  unfold text Amount.two
  rw [if_neg (by omega), Int.natAbs_natCast, digs_step k h10, digs_small (k / 10) (by omega)]
  rfl
end Nt.Ev.YtjkfndcpiihniaaGreatDoor

namespace Nt.Ev.YtjkfndcpiihniaaGreatDoor
open Go Nt.Num Go.Proofs.YtjkfndcpiihniaaGreatDoor
variable [MLen]
def hourL (k : Nat) : List UInt8 := text ((k / 3600 : Nat) : Int)
theorem hour_eq (k : Nat) : text ((k / 3600 : Nat) : Int) = hourL k := rfl
def posL (k : Nat) : List UInt8 := hourL k ++ ([58] ++ Amount.two (k / 60 % 60)) ++ (if 0 < k % 60 then [58] ++ Amount.two (k % 60) else [])
theorem amt_pos (k : Nat) (h1 : 1 ≤ k) (h2 : k ≤ 604799) : Amount.text (k : Int) = (posL k, 0) := by
  have e : hourL k = digs (k / 3600) := by
    unfold hourL text
    rw [if_neg (by omega), Int.natAbs_natCast]; rfl
  unfold Amount.text posL
  rw [if_neg (by omega), if_neg (by omega), if_neg (by omega), Int.natAbs_natCast, e]
  split <;> simp
theorem amt_neg (k : Nat) (h1 : 1 ≤ k) (h2 : k ≤ 604799) : Amount.text (-(k : Int)) = ([45] ++ posL k, 0) := by
  have e : hourL k = digs (k / 3600) := by
    unfold hourL text
    rw [if_neg (by omega), Int.natAbs_natCast]; rfl
  unfold Amount.text posL
  rw [if_neg (by omega), if_neg (by omega), if_pos (by omega), Int.natAbs_neg, Int.natAbs_natCast, e]
  split <;> simp
theorem amt_far (n : Int) (h : n ≤ -604800 ∨ 604800 ≤ n) : Amount.text n = ([], 1) := by unfold Amount.text; rw [if_pos h]
theorem amt_nil : Amount.text 0 = ([48], 0) := by unfold Amount.text; rw [if_neg (by omega), if_pos rfl]
theorem hour_len (k : Nat) (h2 : k ≤ 604799) : (hourL k).length ≤ 21 := (text_len _ (by unfold Fits; omega)).1
theorem two_len (k : Nat) : (Amount.two k).length = 2 := rfl
theorem posL_len (k : Nat) (h2 : k ≤ 604799) : (posL k).length ≤ 27 := by
  unfold posL
  have := hour_len k h2
  split <;> simp [two_len] <;> omega
theorem posI_nat (k : Nat) (h1 : 1 ≤ k) (h2 : k ≤ 604799) : posI (k : Int) = posL k := by unfold posI; rw [amt_pos k h1 h2]
theorem twoI_nat (k : Nat) : twoI (k : Int) = Amount.two k := rfl
def amtV (n : Int) : V := .tup [.str (Amount.text n).1, .int .i64 (Amount.text n).2]
theorem parts_nat (k : Nat) (h : k ≤ 604799) : iquo .i64 (k : Int) 3600 = ((k / 3600 : Nat) : Int) ∧ iquo .i64 (irem (k : Int) 3600) 60 = ((k / 60 % 60 : Nat) : Int) ∧ irem (k : Int) 60 = ((k % 60 : Nat) : Int) ∧ irem (iquo .i64 (k : Int) 60) 60 = ((k / 60 % 60 : Nat) : Int) := by
  have e1 : irem (k : Int) 3600 = ((k % 3600 : Nat) : Int) := by rw [irem_pos (by omega)]; rfl
  have e2 : iquo .i64 (k : Int) 60 = ((k / 60 : Nat) : Int) := by rw [iquo64 (by omega) (by omega) (by omega)]; rfl
  refine ⟨by rw [iquo64 (by omega) (by omega) (by omega)]; rfl, ?_, by rw [irem_pos (by omega)]; rfl, ?_⟩
  · rw [e1, iquo64 (by omega) (by omega) (by omega)]; omega
  · rw [e2, irem_pos (by omega)]; rfl
end Nt.Ev.YtjkfndcpiihniaaGreatDoor

namespace Nt.Ev.YtjkfndcpiihniaaGreatDoor
open Go Nt.Num Go.Proofs.YtjkfndcpiihniaaGreatDoor
variable [MLen]
end Nt.Ev.YtjkfndcpiihniaaGreatDoor

namespace Nt.Ev.YtjkfndcpiihniaaGreatDoor
open Go Nt.Num Go.Proofs.YtjkfndcpiihniaaGreatDoor
variable [MLen]
theorem hour_digs (k : Nat) : hourL k = digs (k / 3600) := by
  unfold hourL text
  rw [if_neg (by omega), Int.natAbs_natCast]; rfl
theorem digs_ok (n : Nat) (f : Nat) (h0 : 0 < f) (h : n < 10 ^ f) (hf : f ≤ 3) : Amount.ok (digs n) 1 3 = true ∧ val (digs n) = n := by
  have h1 := digs_len f n h h0
  have h2 := digs_all (n + 1) n (by omega)
  refine ⟨?_, val_digs (n + 1) n (by omega)⟩
  unfold Amount.ok
  rw [h2.1, decide_eq_true (by omega : 1 ≤ (digs n).length), decide_eq_true (by omega : (digs n).length ≤ 3)]; rfl
theorem hour_ok (k : Nat) (h : k ≤ 604799) : Amount.ok (hourL k) 1 3 = true ∧ val (hourL k) = k / 3600 := by
  rw [hour_digs]
  exact digs_ok _ 3 (by decide) (by omega) (by decide)
def tailL (k : Nat) : List UInt8 := (if 0 < k % 60 then [58] ++ Amount.two (k % 60) else [])
theorem told_pos (p : List UInt8) (k : Nat) (hk : k ≤ 604799) (hp : Amount.ok p 1 3 = true) (hv : val p = k / 3600) (b : Bool) :
    Amount.told (Amount.pieces (p ++ ([58] ++ Amount.two (k / 60 % 60)) ++ tailL k)) b = (if b then -(k : Int) else (k : Int), 0) := by
  obtain ⟨m1, m2⟩ := Amount.two_ok ⟨k / 60 % 60, by omega⟩
  obtain ⟨s1, s2⟩ := Amount.two_ok ⟨k % 60, by omega⟩
  simp only at m1 m2 s1 s2
  unfold tailL
  by_cases h : 0 < k % 60
  · rw [if_pos h, Amount.pieces3 hp m1 s1, Amount.told3 hp m1 s1, hv, m2, s2, if_neg (by omega)]
    have : k / 3600 * 3600 + k / 60 % 60 * 60 + k % 60 = k := by omega
    rw [this]
  · rw [if_neg h, List.append_nil, Amount.pieces2 hp m1, Amount.told2 hp m1 (by omega) (by omega), hv, m2]
    have : k / 3600 * 3600 + k / 60 % 60 * 60 = k := by omega
    rw [this]
theorem read_digit {c : UInt8} {t : List UInt8} (h : c ≠ 45) : Amount.read (c :: t) = Amount.told (Amount.pieces (c :: t)) false := by
  have hm : minus (c :: t) = false := by unfold minus; simpa using h
  unfold Amount.read bare
  rw [if_neg (by simp [h]), hm]; rfl
theorem read_minus {t : List UInt8} (h : t ≠ []) : Amount.read ([45] ++ t) = Amount.told (Amount.pieces t) true := by
  unfold Amount.read
  rw [if_neg (by simpa using h)]
  rfl
theorem pos_head (k : Nat) (h : k ≤ 604799) : ∃ c t, hourL k = c :: t ∧ c ≠ 45 := by
  have ho := (hour_ok k h).1
  unfold Amount.ok at ho
  rw [Bool.and_eq_true, Bool.and_eq_true, decide_eq_true_eq] at ho
  cases e : hourL k with
  | nil => rw [e] at ho; simp at ho
  | cons c t =>
    refine ⟨c, t, rfl, fun hc => ?_⟩
    have := List.all_eq_true.1 ho.2 c (by rw [e]; exact .head _)
    rw [hc] at this
    exact absurd this (by decide)
theorem posL_eq (k : Nat) : posL k = hourL k ++ ([58] ++ Amount.two (k / 60 % 60)) ++ tailL k := rfl
theorem posL_ne (k : Nat) (h : k ≤ 604799) : posL k ≠ [] := by
  obtain ⟨c, t, e, _⟩ := pos_head k h
  rw [posL_eq, e]; simp
theorem read_pos (k : Nat) (h : k ≤ 604799) : Amount.read (posL k) = ((k : Int), 0) := by
  obtain ⟨c, t, e, hc⟩ := pos_head k h
  have h1 : posL k = c :: (t ++ ([58] ++ Amount.two (k / 60 % 60)) ++ tailL k) := by rw [posL_eq, e]; rfl
  rw [h1, read_digit hc, ← h1, posL_eq, told_pos _ k h (hour_ok k h).1 (hour_ok k h).2]
  rfl
theorem two_last (m : Nat) (h : m < 100) : ∃ c, Amount.two m = [digit (m / 10)] ++ [c] ∧ 48 ≤ c.toNat ∧ c.toNat ≤ 57 := by
  refine ⟨digit (m % 10), rfl, ?_⟩
  rw [digit_toNat _ (by omega)]; omega
theorem pos_last (k : Nat) (h : k ≤ 604799) : ∃ l c, posL k = l ++ [c] ∧ 48 ≤ c.toNat ∧ c.toNat ≤ 57 := by
  rw [posL_eq]
  unfold tailL
  by_cases h1 : 0 < k % 60
  · obtain ⟨c, hc, hd⟩ := two_last (k % 60) (by omega)
    rw [if_pos h1, hc]
    exact ⟨hourL k ++ ([58] ++ Amount.two (k / 60 % 60)) ++ ([58] ++ [digit (k % 60 / 10)]), c, by simp, hd⟩
  · obtain ⟨c, hc, hd⟩ := two_last (k / 60 % 60) (by omega)
    rw [if_neg h1, hc]
    exact ⟨hourL k ++ ([58] ++ [digit (k / 60 % 60 / 10)]), c, by simp, hd⟩
theorem week_text (n : Int) (h0 : 0 ≤ n) (h1 : n ≤ 604799) : ∃ l c, (Amount.text n).1 = l ++ [c] ∧ 48 ≤ c.toNat ∧ c.toNat ≤ 57 ∧ Amount.read (Amount.text n).1 = (n, 0) := by
  obtain ⟨k, rfl⟩ : ∃ k : Nat, n = (k : Int) := ⟨n.toNat, by omega⟩
  by_cases hk : k = 0
  · subst hk
    exact ⟨[], 48, rfl, by decide, by decide, rfl⟩
  · have e : (Amount.text (k : Int)).1 = posL k := by rw [amt_pos k (by omega) (by omega)]
    obtain ⟨l, c, h2, h3, h4⟩ := pos_last k (by omega)
    exact ⟨l, c, e.trans h2, h3, h4, by rw [e]; exact read_pos k (by omega)⟩
end Nt.Ev.YtjkfndcpiihniaaGreatDoor
