/-
  Amounts: how they are written, by the program and by the document.
-/
import Derived.Test.YtefkdjikbdgidaaDoorEvAmount
set_option linter.unusedVariables false
set_option linter.unusedSimpArgs false
set_option linter.unusedSectionVars false
namespace Nt.Ev.YtefkdjikbdgidaaDoor
open Go Nt.Num Go.Proofs.YtefkdjikbdgidaaDoor
variable [MLen]

def hourL (k : Nat) : List UInt8 := text ((k / 3600 : Nat) : Int)
theorem hour_eq (k : Nat) : text ((k / 3600 : Nat) : Int) = hourL k := rfl
/-- The text of an amount above nought. -/
def posL (k : Nat) : List UInt8 := hourL k ++ ([58] ++ Amount.two (k / 60 % 60)) ++ (if 0 < k % 60 then [58] ++ Amount.two (k % 60) else [])
theorem amt_pos (k : Nat) (h1 : 1 ≤ k) (h2 : k ≤ 604799) : Amount.text (k : Int) = (posL k, 0) := by
  have e : hourL k = digs (k / 3600) := by
    unfold hourL text
    rw [if_neg (by omega), Int.natAbs_natCast]; rfl
  unfold Amount.text posL
  rw [if_neg (by omega), if_neg (by omega), if_neg (by omega), Int.natAbs_natCast, e]
  split <;> simp
theorem amt_neg (k : Nat) (h1 : 1 ≤ k) (h2 : k ≤ 604799) : Amount.text (-(k : Int)) = ([45] ++ posL k, 0) := by
  have e : hourL k = digs (k / 3600) := by
    unfold hourL text
    rw [if_neg (by omega), Int.natAbs_natCast]; rfl
  unfold Amount.text posL
  rw [if_neg (by omega), if_neg (by omega), if_pos (by omega), Int.natAbs_neg, Int.natAbs_natCast, e]
  split <;> simp
theorem amt_far (n : Int) (h : n ≤ -604800 ∨ 604800 ≤ n) : Amount.text n = ([], 1) := by unfold Amount.text; rw [if_pos h]
theorem amt_nil : Amount.text 0 = ([48], 0) := by unfold Amount.text; rw [if_neg (by omega), if_pos rfl]
theorem hour_len (k : Nat) (h2 : k ≤ 604799) : (hourL k).length ≤ 21 := (text_len _ (by unfold Fits; omega)).1
theorem two_len (k : Nat) : (Amount.two k).length = 2 := rfl
theorem posL_len (k : Nat) (h2 : k ≤ 604799) : (posL k).length ≤ 27 := by
  unfold posL
  have := hour_len k h2
  split <;> simp [two_len] <;> omega
theorem posI_nat (k : Nat) (h1 : 1 ≤ k) (h2 : k ≤ 604799) : posI (k : Int) = posL k := by unfold posI; rw [amt_pos k h1 h2]
theorem twoI_nat (k : Nat) : twoI (k : Int) = Amount.two k := rfl

def amtV (n : Int) : V := .tup [.str (Amount.text n).1, .int .i64 (Amount.text n).2]

theorem tS_ok : SOk aE tS := by
  unfold tS
  refine SOk.cons (fun args r h => ?_) (SOk.cons (fun args r h => ?_) aS_ok)
  · unfold twoA at h
    split at h
    · simp only [Option.some.injEq, Prod.mk.injEq] at h
      obtain ⟨hc, rfl⟩ := h
      rw [band_iff, ile_iff, ile_iff] at hc
      rename_i n
      obtain ⟨k, rfl⟩ : ∃ k : Nat, n = k := ⟨n.toNat, by omega⟩
      exact atwo_ev k (by omega)
    · cases h
  · unfold twoR at h
    split at h
    · simp only [Option.some.injEq, Prod.mk.injEq] at h
      obtain ⟨hc, rfl⟩ := h
      rw [band_iff, ile_iff, ile_iff] at hc
      rename_i n
      obtain ⟨k, rfl⟩ : ∃ k : Nat, n = k := ⟨n.toNat, by omega⟩
      exact rtwo_ev k (by omega)
    · cases h

theorem uF_ok : SOk aE (uS false) := by
  unfold uS
  refine SOk.cons (fun args r h => ?_) tS_ok
  unfold posS at h
  split at h
  · simp only [Option.some.injEq, Prod.mk.injEq] at h
    obtain ⟨hc, rfl⟩ := h
    cases hc
  · cases h

theorem parts_nat (k : Nat) (h : k ≤ 604799) : iquo .i64 (k : Int) 3600 = ((k / 3600 : Nat) : Int) ∧ iquo .i64 (irem (k : Int) 3600) 60 = ((k / 60 % 60 : Nat) : Int) ∧ irem (k : Int) 60 = ((k % 60 : Nat) : Int) ∧ irem (iquo .i64 (k : Int) 60) 60 = ((k / 60 % 60 : Nat) : Int) := by
  have e1 : irem (k : Int) 3600 = ((k % 3600 : Nat) : Int) := by rw [irem_pos (by omega)]; rfl
  have e2 : iquo .i64 (k : Int) 60 = ((k / 60 : Nat) : Int) := by rw [iquo64 (by omega) (by omega) (by omega)]; rfl
  refine ⟨by rw [iquo64 (by omega) (by omega) (by omega)]; rfl, ?_, by rw [irem_pos (by omega)]; rfl, ?_⟩
  · rw [e1, iquo64 (by omega) (by omega) (by omega)]; omega
  · rw [e2, irem_pos (by omega)]; rfl

/-- Above nought. -/
theorem atext_pos (k : Nat) (h1 : 1 ≤ k) (h2 : k ≤ 604799) : Contract aE 26 [.int .i64 (k : Int)] (.tup [.str (posI (k : Int)), .int .i64 0]) := by
  refine contract_of_body aE_ok uF_ok 5 2 ?_
  rw [atext_top, posI_nat k h1 h2]
  obtain ⟨e1, e2, e3, e4⟩ := parts_nat k h2
  have hh := hour_len k h2
  simp only [sel_if, ile_iff, ilt_iff, ieq_iff, band_iff, okCat_iff, e1, e2, e3, twoI_nat, hour_eq]
  rw [if_neg (by omega), if_neg (by omega), if_neg (by omega), if_neg (by omega), if_pos (by omega), if_pos (by omega), if_pos (by simp [scat, two_len]; omega)]
  unfold posL
  by_cases h : 0 < k % 60
  · rw [if_pos (by omega), if_pos (by omega), if_pos (by simp [scat, two_len]; omega), if_pos h]
    rfl
  · rw [if_neg (by omega), if_neg h, List.append_nil]
    rfl

theorem uT_ok : SOk aE (uS true) := by
  unfold uS
  refine SOk.cons (fun args r h => ?_) tS_ok
  unfold posS at h
  split at h
  · simp only [Option.some.injEq, Prod.mk.injEq] at h
    obtain ⟨hc, rfl⟩ := h
    rw [band_iff, band_iff, ile_iff, ile_iff] at hc
    rename_i n
    obtain ⟨k, rfl⟩ : ∃ k : Nat, n = k := ⟨n.toNat, by omega⟩
    exact atext_pos k (by omega) (by omega)
  · cases h

theorem atext_ev (n : Int) (h1 : -9223372036854775808 ≤ n) (h2 : n ≤ 9223372036854775807) : Contract aE 26 [.int .i64 n] (amtV n) := by
  by_cases hp : 1 ≤ n ∧ n ≤ 604799
  · obtain ⟨k, rfl⟩ : ∃ k : Nat, n = k := ⟨n.toNat, by omega⟩
    have := atext_pos k (by omega) (by omega)
    unfold amtV
    rw [amt_pos k (by omega) (by omega)]
    rw [posI_nat k (by omega) (by omega)] at this
    exact this
  refine contract_of_body aE_ok uT_ok 5 2 ?_
  rw [atext_top]
  simp only [sel_if, ile_iff, ilt_iff, ieq_iff, band_iff, okCat_iff]
  unfold amtV
  by_cases ha : n ≤ -604800
  · rw [if_pos ha, amt_far n (.inl ha)]
  · rw [if_neg ha]
    by_cases hb : 604800 ≤ n
    · rw [if_pos hb, amt_far n (.inr hb)]
    · rw [if_neg hb]
      by_cases hc : n = 0
      · subst hc
        rw [if_pos rfl, if_pos (by omega), amt_nil]
        rfl
      · rw [if_neg hc, if_pos (by omega)]
        obtain ⟨k, rfl⟩ : ∃ k : Nat, n = -(k : Int) := ⟨(-n).toNat, by omega⟩
        have e : isub .i64 0 (-(k : Int)) = (k : Int) := by rw [isub64 (by omega)]; omega
        rw [e, if_pos ⟨trivial, by omega, by omega⟩, posI_nat k (by omega) (by omega), if_pos (by have := posL_len k (by omega); simp; omega), amt_neg k (by omega) (by omega)]
        rfl

theorem rtext_ev (n : Int) (h1 : -9223372036854775808 ≤ n) (h2 : n ≤ 9223372036854775807) : Contract aE 27 [.int .i64 n] (amtV n) := by
  refine contract_of_body aE_ok tS_ok 5 2 ?_
  rw [rtext_top]
  unfold amtV
  by_cases ha : n ≤ -604800
  · rw [sel_pos (ile_t ha), amt_far n (.inl ha)]
  · rw [sel_neg (ile_f (by omega))]
    by_cases hb : 604800 ≤ n
    · rw [sel_pos (ile_t hb), amt_far n (.inr hb)]
    · rw [sel_neg (ile_f (by omega))]
      by_cases hc : n = 0
      · subst hc
        rw [sel_pos (ieq_t rfl), amt_nil]
      · rw [sel_neg (ieq_f hc)]
        by_cases hd : n < 0
        · rw [sel_pos (ilt_t hd)]
          obtain ⟨k, rfl⟩ : ∃ k : Nat, n = -(k : Int) := ⟨(-n).toNat, by omega⟩
          have e : isub .i64 0 (-(k : Int)) = (k : Int) := by rw [isub64 (by omega)]; omega
          obtain ⟨e1, e2, e3, e4⟩ := parts_nat k (by omega)
          have hh := hour_len k (by omega)
          simp only [sel_if, ile_iff, ilt_iff, ieq_iff, band_iff, okCat_iff, e, e1, e3, e4, twoI_nat, hour_eq]
          rw [if_pos (by omega), if_pos (by simp; omega), if_pos (by simp [scat]; omega), if_pos (by omega), if_pos (by simp [scat, two_len]; omega), amt_neg k (by omega) (by omega)]
          unfold posL
          by_cases h : 0 < k % 60
          · rw [if_pos (by omega), if_pos (by omega), if_pos (by simp [two_len]), if_pos (by simp [scat, two_len]; omega), if_pos h]
            simp [scat]
          · rw [if_neg (by omega), if_neg h]
            simp [scat]
        · rw [sel_neg (ilt_f (by omega))]
          obtain ⟨k, rfl⟩ : ∃ k : Nat, n = (k : Int) := ⟨n.toNat, by omega⟩
          obtain ⟨e1, e2, e3, e4⟩ := parts_nat k (by omega)
          have hh := hour_len k (by omega)
          simp only [sel_if, ile_iff, ilt_iff, ieq_iff, band_iff, okCat_iff, e1, e3, e4, twoI_nat, hour_eq]
          rw [if_pos (by omega), if_pos (by simp; omega), if_pos (by simp [scat]; omega), if_pos (by omega), if_pos (by simp [scat, two_len]; omega), amt_pos k (by omega) (by omega)]
          unfold posL
          by_cases h : 0 < k % 60
          · rw [if_pos (by omega), if_pos (by omega), if_pos (by simp [two_len]), if_pos (by simp [scat, two_len]; omega), if_pos h]
            simp [scat]
          · rw [if_neg (by omega), if_neg h]
            simp [scat]
end Nt.Ev.YtefkdjikbdgidaaDoor
