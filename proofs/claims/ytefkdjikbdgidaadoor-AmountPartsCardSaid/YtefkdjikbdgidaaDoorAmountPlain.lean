/-
  The plain law of amounts: pieces between colons, parts, sums.
-/
import Derived.Test.YtefkdjikbdgidaaDoorNumBackPlain
import Derived.Lib.Split
set_option linter.unusedVariables false
set_option linter.unusedSimpArgs false
namespace Nt.Amount
open Go Go.RowKit Nt Nt.Num

/-- The pieces between colons. -/
def pieces : List UInt8 → List (List UInt8)
  | [] => [[]]
  | c :: l => if c == 58 then [] :: pieces l else (c :: (pieces l).headD []) :: (pieces l).tail

def least (i : Nat) : Nat := if i = 0 then 1 else 2
def most (i : Nat) : Nat := if i = 0 then 3 else 2
def unit (i : Nat) : Nat := if i = 0 then 3600 else if i = 1 then 60 else 1

/-- A part: digits alone, so many at least, and at most. -/
def ok (l : List UInt8) (least most : Nat) : Bool := decide (least ≤ l.length) && decide (l.length ≤ most) && l.all isDigit
def part (l : List UInt8) (least most : Nat) : Int × Bool := if ok l least most then ((val l : Nat), true) else (0, false)

def goodK (P : List (List UInt8)) : Nat → Bool
  | 0 => true
  | k + 1 => goodK P k && ok (P.getD k []) (least k) (most k)
def fitsK (P : List (List UInt8)) : Nat → Bool
  | 0 => true
  | k + 1 => fitsK P k && (decide (k = 0) || decide (val (P.getD k []) ≤ 59))
def sumK (P : List (List UInt8)) : Nat → Nat
  | 0 => 0
  | k + 1 => sumK P k + val (P.getD k []) * unit k

/-- The amount of pieces. -/
def told (P : List (List UInt8)) (below : Bool) : Int × Int :=
  if decide (3 < P.length) || !goodK P P.length then (0, 2)
  else if !fitsK P P.length || decide (604800 ≤ sumK P P.length) then (0, 1)
  else (if below then -(sumK P P.length : Int) else (sumK P P.length : Int), 0)

/-- The amount of a text. -/
def read (l : List UInt8) : Int × Int := if l = [45] then (0, 0) else told (pieces (bare l)) (minus l)

/-- A number with two digits. -/
def two (n : Nat) : List UInt8 := [digit (n / 10), digit (n % 10)]

/-- How an amount is written. -/
def text (n : Int) : List UInt8 × Int :=
  if n ≤ -604800 ∨ 604800 ≤ n then ([], 1)
  else if n = 0 then ([48], 0)
  else ((if n < 0 then [45] else []) ++ digs (n.natAbs / 3600) ++ [58] ++ two (n.natAbs / 60 % 60) ++ (if 0 < n.natAbs % 60 then 58 :: two (n.natAbs % 60) else []), 0)

theorem goodK_le (P : List (List UInt8)) (k : Nat) : ∀ m, k ≤ m → goodK P m = true → goodK P k = true := by
  intro m
  induction m with
  | zero => intro h hg; have e : k = 0 := by omega
            rw [e]; exact hg
  | succ m ih =>
    intro h hg
    by_cases e : k = m + 1
    · rw [e]; exact hg
    · unfold goodK at hg
      rw [Bool.and_eq_true] at hg
      exact ih (by omega) hg.1

theorem pieces_ne (l : List UInt8) : pieces l ≠ [] := by
  cases l with
  | nil => simp [pieces]
  | cons c l => unfold pieces; split <;> simp

theorem pieces_len (l : List UInt8) : ∀ p ∈ pieces l, p.length ≤ l.length := by
  induction l with
  | nil => simp [pieces]
  | cons c l ih =>
    intro p hp
    unfold pieces at hp
    split at hp
    · rw [List.mem_cons] at hp
      rcases hp with rfl | hp
      · simp
      · have := ih p hp; simp; omega
    · rw [List.mem_cons] at hp
      rcases hp with rfl | hp
      · cases e : pieces l with
        | nil => simp
        | cons a t => have := ih a (by rw [e]; simp); simp; omega
      · have := ih p (List.mem_of_mem_tail hp); simp; omega

theorem split_pieces : ∀ (s : List UInt8), Lib.splitK [58] 0 (Lib.count s [58]) s = pieces s
  | [] => by
    have h : Lib.index [] [58] = -1 := by decide
    rw [Lib.count_miss h]; rfl
  | c :: l => by
    have ih := split_pieces l
    by_cases hc : c = 58
    · subst hc
      have h : Lib.index (58 :: l) [58] = (0 : Nat) := by unfold Lib.index; simp
      rw [Lib.count_hit (by simp) h, Nat.add_comm 1]
      unfold Lib.splitK
      rw [if_neg (by rw [h]; decide), h]
      have e1 : List.take (Int.toNat (((0 : Nat) : Int)) + 0) (58 :: l) = ([] : List UInt8) := rfl
      have e2 : List.drop (Int.toNat (((0 : Nat) : Int)) + [(58 : UInt8)].length) (58 :: l) = l := rfl
      have e3 : List.drop (0 + [(58 : UInt8)].length) (58 :: l) = l := rfl
      rw [e1, e2, e3, ih]
      conv => rhs; unfold pieces
      rw [if_pos (by rfl)]
    · have hp : ([58] : List UInt8).isPrefixOf (c :: l) = false := by
        simp only [List.isPrefixOf, Bool.and_true, beq_eq_false_iff_ne]
        exact fun e => hc e.symm
      have hpc : pieces (c :: l) = (c :: (pieces l).headD []) :: (pieces l).tail := by
        conv => lhs; unfold pieces
        rw [if_neg (by simpa using hc)]
      by_cases hi : Lib.index l [58] = -1
      · have h : Lib.index (c :: l) [58] = -1 := by
          unfold Lib.index
          rw [hp, hi]; rfl
        rw [Lib.count_miss h, hpc, ← ih, Lib.count_miss hi]; rfl
      · have hge := Lib.index_ge l [58]
        obtain ⟨i, hi'⟩ : ∃ i : Nat, Lib.index l [58] = i := ⟨(Lib.index l [58]).toNat, by omega⟩
        have h : Lib.index (c :: l) [58] = ((i + 1 : Nat) : Int) := by
          unfold Lib.index
          rw [hp, hi']
          simp only [Bool.false_eq_true, if_false]
          rw [if_neg (by rw [beq_iff_eq]; omega)]
          rfl
        rw [Lib.count_hit (by simp) hi', Nat.add_comm 1] at ih
        rw [Lib.count_hit (by simp) h, Nat.add_comm 1, hpc, ← ih]
        unfold Lib.splitK
        rw [if_neg (by rw [h, beq_iff_eq]; omega), h, if_neg (by rw [hi', beq_iff_eq]; omega), hi']
        simp only [Int.toNat_natCast, Nat.add_zero, List.take_succ_cons, List.headD_cons, List.tail_cons, List.length_singleton, List.drop_succ_cons]

/-- What lies ahead of the pieces belongs to the first one. -/
def glue (p : List UInt8) (P : List (List UInt8)) : List (List UInt8) := (p ++ P.headD []) :: P.tail

theorem glue_nil (l : List UInt8) : glue [] (pieces l) = pieces l := by
  unfold glue
  cases e : pieces l with
  | nil => exact absurd e (pieces_ne l)
  | cons a t => rfl

theorem glue_end (p : List UInt8) : glue p (pieces []) = [p] := by simp [glue, pieces]
theorem glue_colon (p l : List UInt8) : glue p (pieces (58 :: l)) = p :: pieces l := by simp [glue, pieces]
theorem glue_other (p l : List UInt8) (c : UInt8) (h : c ≠ 58) : glue p (pieces (c :: l)) = glue (p ++ [c]) (pieces l) := by simp [glue, pieces, h]

end Nt.Amount
