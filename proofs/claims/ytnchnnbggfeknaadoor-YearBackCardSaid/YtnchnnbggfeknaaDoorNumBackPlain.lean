/-
  The plain law of numbers there and back: what is written is read, and what is read is written.
-/
import Derived.Test.YtnchnnbggfeknaaDoorNumReadPlain
set_option linter.unusedVariables false
set_option linter.unusedSimpArgs false
namespace Nt.Num
open Go Go.RowKit Nt

theorem digit_isDigit (k : Nat) (h : k < 10) : isDigit (digit k) = true := by
  unfold isDigit
  rw [digit_toNat k h]
  simp; omega

theorem digs_all : ∀ (f n : Nat), n < f → (digs n).all isDigit = true ∧ digs n ≠ []
  | 0, _, h => by omega
  | f + 1, n, h => by
    by_cases hn : n < 10
    · rw [digs_small n hn]
      exact ⟨by simp [digit_isDigit n hn], by simp⟩
    · rw [digs_step n (by omega), List.all_append]
      have := digs_all f (n / 10) (by omega)
      refine ⟨?_, by simp⟩
      rw [this.1]
      simp [digit_isDigit (n % 10) (Nat.mod_lt _ (by decide))]

theorem val_digs : ∀ (f n : Nat), n < f → val (digs n) = n
  | 0, _, h => by omega
  | f + 1, n, h => by
    by_cases hn : n < 10
    · rw [digs_small n hn]
      show 10 * 0 + ((digit n).toNat - 48) = n
      rw [digit_toNat n hn]; omega
    · rw [digs_step n (by omega), val_snoc, val_digs f (n / 10) (by omega), digit_toNat _ (Nat.mod_lt _ (by decide))]
      omega

theorem digs_head : ∀ (f n : Nat), n < f → 1 ≤ n → ((digs n).getD 0 0 == 48) = false
  | 0, _, h, _ => by omega
  | f + 1, n, h, h1 => by
    by_cases hn : n < 10
    · rw [digs_small n hn]
      simp only [List.getD_cons_zero, beq_eq_false_iff_ne]
      intro e
      have := congrArg UInt8.toNat e
      rw [digit_toNat n hn] at this
      have h2 : (48 : UInt8).toNat = 48 := rfl
      omega
    · rw [digs_step n (by omega)]
      have h2 := (digs_all (n / 10 + 1) (n / 10) (by omega)).2
      have h3 : 0 < (digs (n / 10)).length := by
        cases e : digs (n / 10) with
        | nil => exact absurd e h2
        | cons a l => simp
      have : (digs (n / 10) ++ [digit (n % 10)]).getD 0 0 = (digs (n / 10)).getD 0 0 := by
        rw [List.getD_eq_getElem?_getD, List.getD_eq_getElem?_getD, List.getElem?_append_left h3]
      rw [this]
      exact digs_head f (n / 10) (by omega) (by omega)

theorem digs_val : ∀ (k : Nat) (d : List UInt8), d.length = k → d.all isDigit = true → d ≠ [] → ((d.getD 0 0 == 48) = false ∨ d.length = 1) → digs (val d) = d
  | 0, d, h, _, hne, _ => absurd (List.eq_nil_of_length_eq_zero h) hne
  | k + 1, d, h, hall, hne, h0 => by
    obtain ⟨d', c, rfl⟩ : ∃ d' c, d = d' ++ [c] := ⟨d.dropLast, d.getLast hne, (List.dropLast_concat_getLast hne).symm⟩
    rw [List.all_append, Bool.and_eq_true] at hall
    have hc : isDigit c = true := by simpa using hall.2
    simp only [isDigit, Bool.and_eq_true, decide_eq_true_eq] at hc
    have hdc : digit (c.toNat - 48) = c := by
      unfold digit
      apply UInt8.toNat_inj.1
      rw [UInt8.toNat_ofNat']
      have := c.toNat_lt
      omega
    by_cases hd : d' = []
    · subst hd
      have : val ([] ++ [c]) = c.toNat - 48 := by show 10 * 0 + _ = _; omega
      rw [this, digs_small _ (by omega), hdc]; rfl
    · have hl : 0 < d'.length := by
        cases d' with
        | nil => exact absurd rfl hd
        | cons a l => simp
      have hh : (d'.getD 0 0 == 48) = false := by
        rcases h0 with h0 | h0
        · have e : (d' ++ [c]).getD 0 0 = d'.getD 0 0 := by rw [List.getD_eq_getElem?_getD, List.getD_eq_getElem?_getD, List.getElem?_append_left hl]
          rwa [e] at h0
        · rw [List.length_append, List.length_singleton] at h0; omega
      have ih := digs_val k d' (by simp at h; omega) hall.1 hd (.inl hh)
      have h1 := val_ge d' hall.1 hh 0 hl
      have h2 := val_le d' (0 + 1)
      rw [val_snoc, digs_step (10 * val d' + (c.toNat - 48)) (by omega)]
      have e1 : (10 * val d' + (c.toNat - 48)) / 10 = val d' := by omega
      have e2 : (10 * val d' + (c.toNat - 48)) % 10 = c.toNat - 48 := by omega
      rw [e1, e2, ih, hdc]

theorem digs_minus (m : Nat) : minus (digs m) = false := by
  have h := digs_all (m + 1) m (by omega)
  cases e : digs m with
  | nil => rfl
  | cons c l =>
    rw [e] at h
    simp only [List.all_cons, Bool.and_eq_true, isDigit, decide_eq_true_eq] at h
    unfold minus
    rw [beq_eq_false_iff_ne]
    intro hc
    rw [hc] at h
    have h2 : (45 : UInt8).toNat = 45 := rfl
    omega

theorem good_digs (m : Nat) (h : 1 ≤ m) (b : Bool) : ((digs m).all isDigit && !(digs m).isEmpty && (!((digs m).getD 0 0 == 48) || (decide ((digs m).length = 1) && b))) = true := by
  have h1 := digs_all (m + 1) m (by omega)
  have h2 := digs_head (m + 1) m (by omega) h
  have h3 : (digs m).isEmpty = false := by
    cases e : digs m with
    | nil => exact absurd e h1.2
    | cons a l => rfl
  rw [h1.1, h2, h3]; rfl

/-- What is written is read as it is. -/
theorem read_text (n : Int) (hf : Fits n) : read (text n) = (n, 0) := by
  by_cases h : n < 0
  · have e : text n = 45 :: digs n.natAbs := by unfold text; rw [if_pos h]; rfl
    have em : minus (45 :: digs n.natAbs) = true := rfl
    have eb : bare (45 :: digs n.natAbs) = digs n.natAbs := rfl
    have eg : good (45 :: digs n.natAbs) = true := good_digs n.natAbs (by omega) _
    unfold read
    rw [e, eg, em, eb, val_digs (n.natAbs + 1) n.natAbs (by omega)]
    simp only [if_true]
    rw [show -(n.natAbs : Int) = n by omega]
    exact told_yes hf
  · have e : text n = digs n.natAbs := by unfold text; rw [if_neg h]; rfl
    have em := digs_minus n.natAbs
    have eb : bare (digs n.natAbs) = digs n.natAbs := by unfold bare; rw [em]; rfl
    have eg : good (digs n.natAbs) = true := by
      by_cases h0 : n = 0
      · subst h0; decide
      · unfold good
        rw [eb]
        exact good_digs n.natAbs (by omega) _
    unfold read
    rw [e, eg, em, eb, val_digs (n.natAbs + 1) n.natAbs (by omega)]
    simp only [if_true]
    rw [show (n.natAbs : Int) = n by omega]
    exact told_yes hf

theorem text_ne (n : Int) : text n ≠ [] := by
  unfold text
  have h := digs_all (n.natAbs + 1) n.natAbs (by omega)
  intro e
  exact h.2 (List.append_eq_nil_iff.1 e).2

/-- A nought ahead makes it none. -/
theorem read_nought (n : Int) : read (48 :: text n) = (0, 2) := by
  have em : minus (48 :: text n) = false := rfl
  have eb : bare (48 :: text n) = 48 :: text n := rfl
  have hl : (48 :: text n : List UInt8).length ≠ 1 := by
    have := text_ne n
    cases e : text n with
    | nil => exact absurd e this
    | cons a l => simp
  have eg : good (48 :: text n) = false := by
    unfold good
    rw [eb]
    have h1 : ((48 :: text n : List UInt8).getD 0 0 == 48) = true := rfl
    rw [h1, decide_eq_false hl]
    simp
  unfold read
  rw [eg]; rfl

/-- A - more makes it none. -/
theorem read_minus (l : List UInt8) : read (45 :: 45 :: l) = (0, 2) := by
  have eg : good (45 :: 45 :: l) = false := by
    have eb : bare (45 :: 45 :: l) = 45 :: l := rfl
    unfold good
    rw [eb, List.all_cons, show isDigit 45 = false from by decide]
    rfl
  unfold read
  rw [eg]; rfl

theorem read_err (l : List UInt8) : (read l).2 ≠ 0 → (read l).1 = 0 := by
  unfold read told
  (repeat' split) <;> simp

/-- What is read is written as it was. -/
theorem text_read (l : List UInt8) (h : (read l).2 = 0) : text (read l).1 = l ∧ Fits (read l).1 := by
  unfold read at h ⊢
  by_cases hg : good l = true
  · rw [if_pos hg] at h ⊢
    have hg' := hg
    unfold good at hg'
    simp only [Bool.and_eq_true, Bool.or_eq_true, Bool.not_eq_true', decide_eq_true_eq] at hg'
    obtain ⟨⟨hall, hne⟩, h0⟩ := hg'
    have hne' : bare l ≠ [] := fun e => by rw [e] at hne; simp at hne
    have hl : 0 < (bare l).length := by
      cases e : bare l with
      | nil => exact absurd e hne'
      | cons a t => simp
    have hd := digs_val _ (bare l) rfl hall hne' (by rcases h0 with h0 | h0; exact .inl h0; exact .inr h0.1)
    by_cases hf : Fits (if minus l = true then -(val (bare l) : Int) else (val (bare l) : Int))
    · rw [told_yes hf]
      refine ⟨?_, hf⟩
      simp only
      cases hm : minus l with
      | false =>
        have hb : bare l = l := by unfold bare; rw [hm]; rfl
        unfold text
        simp only [Bool.false_eq_true, if_false]
        rw [if_neg (by omega), Int.natAbs_natCast, hd, hb]; rfl
      | true =>
        have hh : ((bare l).getD 0 0 == 48) = false := by
          rcases h0 with h0 | h0
          · exact h0
          · rw [hm] at h0; simp at h0
        have h1 := val_ge (bare l) hall hh 0 hl
        have h2 := val_le (bare l) (0 + 1)
        have hc : l = 45 :: bare l := by
          unfold bare
          rw [hm]
          unfold minus at hm
          cases e : l with
          | nil => rw [e] at hm; simp at hm
          | cons c t => rw [e] at hm; simp at hm; rw [hm]; simp
        unfold text
        simp only [if_true]
        rw [if_pos (by omega), Int.natAbs_neg, Int.natAbs_natCast, hd]
        exact hc.symm
    · rw [told_no hf] at h
      simp at h
  · rw [if_neg hg] at h
    simp at h

end Nt.Num
