/-
  The plain law of numbers that are read.
-/
import Derived.Test.YtnchnnbggfeknaaDoorNumTextPlain
import Derived.Lib.Strings
import Derived.Lib.SlTrimSet
set_option linter.unusedVariables false
set_option linter.unusedSimpArgs false
namespace Nt.Num
open Go Go.RowKit Nt

def isDigit (c : UInt8) : Bool := decide (48 ≤ c.toNat) && decide (c.toNat ≤ 57)

/-- A - stands ahead; what is behind it. -/
def minus (l : List UInt8) : Bool := match l with | c :: _ => c == 45 | [] => false
def bare (l : List UInt8) : List UInt8 := if minus l then l.drop 1 else l

/-- Digits alone, no nought ahead of others, none below nought. -/
def good (l : List UInt8) : Bool := (bare l).all isDigit && !(bare l).isEmpty && (!((bare l).getD 0 0 == 48) || (decide ((bare l).length = 1) && !minus l))

def val (d : List UInt8) : Nat := d.foldl (fun n c => 10 * n + (c.toNat - 48)) 0

/-- The number of a text. -/
def read (l : List UInt8) : Int × Int := if good l then told (if minus l then -(val (bare l) : Int) else (val (bare l) : Int)) else (0, 2)

theorem val_snoc (d : List UInt8) (c : UInt8) : val (d ++ [c]) = 10 * val d + (c.toNat - 48) := by unfold val; rw [List.foldl_append]; rfl

theorem val_take (d : List UInt8) (k : Nat) (h : k < d.length) : val (d.take (k + 1)) = 10 * val (d.take k) + ((d.getD k 0).toNat - 48) := by
  rw [List.take_add_one, List.getD_eq_getElem?_getD, List.getElem?_eq_getElem h]
  exact val_snoc _ _

theorem val_mono (d : List UInt8) (k : Nat) : ∀ m, k ≤ m → val (d.take k) ≤ val (d.take m) := by
  intro m
  induction m with
  | zero =>
    intro h
    have e : k = 0 := by omega
    rw [e]
    exact Nat.le_refl _
  | succ m ih =>
    intro h
    by_cases e : k = m + 1
    · rw [e]; exact Nat.le_refl _
    · have h1 := ih (by omega)
      by_cases hm : m < d.length
      · rw [val_take d m hm]; omega
      · rw [List.take_of_length_le (show d.length ≤ m + 1 by omega)]
        rw [List.take_of_length_le (show d.length ≤ m by omega)] at h1
        exact h1

theorem val_le (d : List UInt8) (k : Nat) : val (d.take k) ≤ val d := by
  by_cases h : k ≤ d.length
  · have := val_mono d k d.length h
    rwa [List.take_length] at this
  · rw [List.take_of_length_le (by omega)]; exact Nat.le_refl _

theorem val_lt (d : List UInt8) (hd : d.all isDigit = true) : ∀ k, val (d.take k) < 10 ^ k := by
  intro k
  induction k with
  | zero => simp [val]
  | succ k ih =>
    by_cases h : k < d.length
    · have hc := List.all_eq_true.1 hd (d.getD k 0) (by rw [List.getD_eq_getElem?_getD, List.getElem?_eq_getElem h]; exact List.getElem_mem _)
      simp only [isDigit, Bool.and_eq_true, decide_eq_true_eq] at hc
      rw [val_take d k h, Nat.pow_succ]
      omega
    · rw [List.take_of_length_le (by omega)]
      rw [List.take_of_length_le (by omega)] at ih
      exact Nat.lt_of_lt_of_le ih (Nat.pow_le_pow_right (by decide) (by omega))

/-- A number of many digits, no nought ahead, is great. -/
theorem val_ge (d : List UInt8) (hd : d.all isDigit = true) (h0 : (d.getD 0 0 == 48) = false) : ∀ k, k < d.length → 10 ^ k ≤ val (d.take (k + 1)) := by
  intro k
  induction k with
  | zero =>
    intro h
    have hc := List.all_eq_true.1 hd (d.getD 0 0) (by rw [List.getD_eq_getElem?_getD, List.getElem?_eq_getElem h]; exact List.getElem_mem _)
    simp only [isDigit, Bool.and_eq_true, decide_eq_true_eq] at hc
    have h1 : (d.getD 0 0).toNat ≠ 48 := fun e => by
      rw [beq_eq_false_iff_ne] at h0
      exact h0 (UInt8.toNat_inj.1 e)
    rw [val_take d 0 h]
    generalize (d.getD 0 0).toNat = c at *
    simp [val]; omega
  | succ k ih =>
    intro h
    have := ih (by omega)
    rw [val_take d (k + 1) h, Nat.pow_succ]
    omega

theorem val_great (d : List UInt8) (hd : d.all isDigit = true) (h0 : (d.getD 0 0 == 48) = false) (hl : 19 < d.length) : 9999999999999999999 < val d := by
  have h1 := val_ge d hd h0 19 (by omega)
  have h2 := val_le d (19 + 1)
  omega

def signed (below : Bool) (n : Nat) : Int := if below then -(n : Int) else n

theorem signed_step (below : Bool) (d : List UInt8) (k : Nat) (h : k < d.length) (hd : d.all isDigit = true) :
    signed below (val (d.take (k + 1))) = signed below (val (d.take k)) * 10 + (if below then -((d.getD k 0).toNat - 48 : Int) else ((d.getD k 0).toNat - 48 : Int)) := by
  have hc := List.all_eq_true.1 hd (d.getD k 0) (by rw [List.getD_eq_getElem?_getD, List.getElem?_eq_getElem h]; exact List.getElem_mem _)
  simp only [isDigit, Bool.and_eq_true, decide_eq_true_eq] at hc
  rw [val_take d k h]
  generalize (d.getD k 0).toNat = c at *
  unfold signed
  cases below <;> simp <;> omega

/-- What does not fit does not fit with more behind. -/
theorem signed_lost (below : Bool) (n m : Nat) (h : n ≤ m) (hf : ¬ Fits (signed below n)) : ¬ Fits (signed below m) := by
  unfold Fits signed at *
  cases below <;> simp at * <;> omega

theorem trim_digits (d : List UInt8) : (Lib.trimS d [48, 49, 50, 51, 52, 53, 54, 55, 56, 57] = []) ↔ d.all isDigit = true := by
  have hset : ∀ c : UInt8, ([48, 49, 50, 51, 52, 53, 54, 55, 56, 57] : List UInt8).contains c = isDigit c := by
    have h : ∀ n : Fin 256, ([48, 49, 50, 51, 52, 53, 54, 55, 56, 57] : List UInt8).contains (UInt8.ofNat n) = isDigit (UInt8.ofNat n) := by decide +kernel
    intro c
    have := h ⟨c.toNat, c.toNat_lt⟩
    simpa using this
  have hnil : ∀ (p : UInt8 → Bool) (l : List UInt8), l.dropWhile p = [] ↔ ∀ x ∈ l, p x = true := by
    intro p l
    induction l with
    | nil => simp
    | cons a l ih =>
      rw [List.dropWhile_cons]
      split
      · rename_i h; rw [ih]; simp [h]
      · rename_i h; simp [h]
  have hall : ∀ l : List UInt8, (∀ x ∈ l.dropWhile isDigit, isDigit x = true) ↔ ∀ x ∈ l, isDigit x = true := by
    intro l
    induction l with
    | nil => simp
    | cons a l ih =>
      rw [List.dropWhile_cons]
      split
      · rename_i h; rw [ih]; simp [h]
      · rfl
  unfold Lib.trimS Lib.trimLeftS Lib.trimRightS
  simp only [hset]
  rw [hnil, List.all_eq_true]
  simp only [List.mem_reverse]
  rw [hall]
  simp

end Nt.Num
