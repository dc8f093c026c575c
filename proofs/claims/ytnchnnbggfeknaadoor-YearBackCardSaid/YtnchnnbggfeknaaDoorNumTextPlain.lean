/-
  The plain law of numbers' texts: digits, in order.
-/
import Derived.Test.YtnchnnbggfeknaaDoorNumPlain
set_option linter.unusedVariables false
set_option linter.unusedSimpArgs false
namespace Nt.Num
open Go Go.RowKit Nt

/-- A string of bytes. -/
def bs (l : List UInt8) : ByteArray := ⟨l.toArray⟩

theorem bs_size (l : List UInt8) : (bs l).size = l.length := by simp [bs, ByteArray.size]
theorem bs_append (a b : List UInt8) : bs a ++ bs b = bs (a ++ b) := by
  apply ByteArray.ext
  simp [bs, ByteArray.data_append]
theorem bs_list (s : ByteArray) : bs s.data.toList = s := by cases s; simp [bs]
theorem bs_inj {a b : List UInt8} (h : bs a = bs b) : a = b := by
  have := congrArg (fun s => s.data.toList) h
  simpa [bs] using this

def digit (k : Nat) : UInt8 := UInt8.ofNat (48 + k)

theorem digit_toNat (k : Nat) (h : k < 10) : (digit k).toNat = 48 + k := by
  unfold digit
  rw [UInt8.toNat_ofNat']
  omega

def digsF : Nat → Nat → List UInt8
  | 0, _ => []
  | f + 1, n => if n < 10 then [digit n] else digsF f (n / 10) ++ [digit (n % 10)]

theorem digsF_irrel : ∀ (f g n : Nat), n < f → n < g → digsF f n = digsF g n
  | 0, _, _, h, _ => by omega
  | _, 0, _, _, h => by omega
  | f + 1, g + 1, n, h1, h2 => by
    unfold digsF
    split
    · rfl
    · rw [digsF_irrel f g (n / 10) (by omega) (by omega)]

/-- A number's digits. -/
def digs (n : Nat) : List UInt8 := digsF (n + 1) n

theorem digs_small (n : Nat) (h : n < 10) : digs n = [digit n] := by unfold digs digsF; rw [if_pos h]
theorem digs_step (n : Nat) (h : 10 ≤ n) : digs n = digs (n / 10) ++ [digit (n % 10)] := by
  conv => lhs; unfold digs digsF
  rw [if_neg (by omega), digsF_irrel n (n / 10 + 1) (n / 10) (by omega) (by omega)]
  rfl

theorem digs_len : ∀ (f n : Nat), n < 10 ^ f → 0 < f → (digs n).length ≤ f ∧ 0 < (digs n).length
  | 0, _, _, h => by omega
  | f + 1, n, h, _ => by
    by_cases hn : n < 10
    · rw [digs_small n hn]; simp
    · rw [digs_step n (by omega)]
      have hf : 0 < f := by
        by_cases h0 : f = 0
        · subst h0; omega
        · omega
      have := digs_len f (n / 10) (by rw [Nat.pow_succ] at h; omega) hf
      simp; omega

/-- A number's text. -/
def text (n : Int) : List UInt8 := (if n < 0 then [45] else []) ++ digs n.natAbs

theorem text_len (n : Int) (h : Fits n) : (text n).length ≤ 21 ∧ 0 < (text n).length := by
  have := digs_len 20 n.natAbs (by unfold Fits at h; omega) (by decide)
  unfold text
  split <;> simp <;> omega

/-- The digits ahead of place m of a number whose first digit stands at place k. -/
def ahead (u k m : Nat) : List UInt8 := if m ≤ k then digs (u / 10 ^ m) else []

theorem ahead_step (u k m : Nat) (hk : u / 10 ^ k < 10) (hl : k = 0 ∨ 10 ^ k ≤ u) (hm : m ≤ k) : ahead u k m = ahead u k (m + 1) ++ [digit (u / 10 ^ m % 10)] := by
  unfold ahead
  rw [if_pos hm]
  by_cases h : m = k
  · subst h
    rw [if_neg (by omega), digs_small _ hk, List.nil_append, Nat.mod_eq_of_lt hk]
  · rw [if_pos (by omega)]
    have h1 : 10 ^ (m + 1) ≤ u := by
      rcases hl with hl | hl
      · omega
      · exact Nat.le_trans (Nat.pow_le_pow_right (by decide) (by omega)) hl
    have h2 : 10 ≤ u / 10 ^ m := by
      rw [Nat.le_div_iff_mul_le (Nat.pow_pos (by decide))]
      rw [Nat.pow_succ] at h1; omega
    rw [digs_step _ h2, Nat.div_div_eq_div_mul, Nat.pow_succ]

theorem ahead_all (u k : Nat) : ahead u k 0 = digs u := by unfold ahead; simp

end Nt.Num
