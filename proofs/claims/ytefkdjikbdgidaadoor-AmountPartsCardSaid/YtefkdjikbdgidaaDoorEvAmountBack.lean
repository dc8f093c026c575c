/-
  Amounts: the statement AmountBack.
-/
import Derived.Test.YtefkdjikbdgidaaDoorEvAmountLaw
import Derived.Test.YtefkdjikbdgidaaDoorAmountBackPlain
set_option linter.unusedVariables false
set_option linter.unusedSimpArgs false
set_option linter.unusedSectionVars false
namespace Nt.Ev.YtefkdjikbdgidaaDoor
open Go Nt.Num Go.Proofs.YtefkdjikbdgidaaDoor
variable [MLen]

theorem hour_digs (k : Nat) : hourL k = digs (k / 3600) := by
  unfold hourL text
  rw [if_neg (by omega), Int.natAbs_natCast]; rfl
theorem digs_ok (n : Nat) (f : Nat) (h0 : 0 < f) (h : n < 10 ^ f) (hf : f ≤ 3) : Amount.ok (digs n) 1 3 = true ∧ val (digs n) = n := by
  have h1 := digs_len f n h h0
  have h2 := digs_all (n + 1) n (by omega)
  refine ⟨?_, val_digs (n + 1) n (by omega)⟩
  unfold Amount.ok
  rw [h2.1, decide_eq_true (by omega : 1 ≤ (digs n).length), decide_eq_true (by omega : (digs n).length ≤ 3)]; rfl
theorem hour_ok (k : Nat) (h : k ≤ 604799) : Amount.ok (hourL k) 1 3 = true ∧ val (hourL k) = k / 3600 := by
  rw [hour_digs]
  exact digs_ok _ 3 (by decide) (by omega) (by decide)

def tailL (k : Nat) : List UInt8 := (if 0 < k % 60 then [58] ++ Amount.two (k % 60) else [])
theorem told_pos (p : List UInt8) (k : Nat) (hk : k ≤ 604799) (hp : Amount.ok p 1 3 = true) (hv : val p = k / 3600) (b : Bool) :
    Amount.told (Amount.pieces (p ++ ([58] ++ Amount.two (k / 60 % 60)) ++ tailL k)) b = (if b then -(k : Int) else (k : Int), 0) := by
  obtain ⟨m1, m2⟩ := Amount.two_ok ⟨k / 60 % 60, by omega⟩
  obtain ⟨s1, s2⟩ := Amount.two_ok ⟨k % 60, by omega⟩
  simp only at m1 m2 s1 s2
  unfold tailL
  by_cases h : 0 < k % 60
  · rw [if_pos h, Amount.pieces3 hp m1 s1, Amount.told3 hp m1 s1, hv, m2, s2, if_neg (by omega)]
    have : k / 3600 * 3600 + k / 60 % 60 * 60 + k % 60 = k := by omega
    rw [this]
  · rw [if_neg h, List.append_nil, Amount.pieces2 hp m1, Amount.told2 hp m1 (by omega) (by omega), hv, m2]
    have : k / 3600 * 3600 + k / 60 % 60 * 60 = k := by omega
    rw [this]

theorem read_digit {c : UInt8} {t : List UInt8} (h : c ≠ 45) : Amount.read (c :: t) = Amount.told (Amount.pieces (c :: t)) false := by
  have hm : minus (c :: t) = false := by unfold minus; simpa using h
  unfold Amount.read bare
  rw [if_neg (by simp [h]), hm]; rfl
theorem read_minus {t : List UInt8} (h : t ≠ []) : Amount.read ([45] ++ t) = Amount.told (Amount.pieces t) true := by
  unfold Amount.read
  rw [if_neg (by simpa using h)]
  rfl
theorem pos_head (k : Nat) (h : k ≤ 604799) : ∃ c t, hourL k = c :: t ∧ c ≠ 45 := by
  have ho := (hour_ok k h).1
  unfold Amount.ok at ho
  rw [Bool.and_eq_true, Bool.and_eq_true, decide_eq_true_eq] at ho
  cases e : hourL k with
  | nil => rw [e] at ho; simp at ho
  | cons c t =>
    refine ⟨c, t, rfl, fun hc => ?_⟩
    have := List.all_eq_true.1 ho.2 c (by rw [e]; exact .head _)
    rw [hc] at this
    exact absurd this (by decide)
theorem posL_eq (k : Nat) : posL k = hourL k ++ ([58] ++ Amount.two (k / 60 % 60)) ++ tailL k := rfl
theorem posL_ne (k : Nat) (h : k ≤ 604799) : posL k ≠ [] := by
  obtain ⟨c, t, e, _⟩ := pos_head k h
  rw [posL_eq, e]; simp

theorem read_pos (k : Nat) (h : k ≤ 604799) : Amount.read (posL k) = ((k : Int), 0) := by
  obtain ⟨c, t, e, hc⟩ := pos_head k h
  have h1 : posL k = c :: (t ++ ([58] ++ Amount.two (k / 60 % 60)) ++ tailL k) := by rw [posL_eq, e]; rfl
  rw [h1, read_digit hc, ← h1, posL_eq, told_pos _ k h (hour_ok k h).1 (hour_ok k h).2]
  rfl
theorem read_neg (k : Nat) (h : k ≤ 604799) : Amount.read ([45] ++ posL k) = (-(k : Int), 0) := by
  rw [read_minus (posL_ne k h), posL_eq, told_pos _ k h (hour_ok k h).1 (hour_ok k h).2]
  rfl
theorem read_nought (k : Nat) (h : k ≤ 604799) : Amount.read ([48] ++ posL k) = if k < 360000 then ((k : Int), 0) else (0, 2) := by
  have h1 : [48] ++ posL k = 48 :: posL k := rfl
  have h2 : 48 :: posL k = (48 :: hourL k) ++ ([58] ++ Amount.two (k / 60 % 60)) ++ tailL k := by rw [posL_eq]; rfl
  rw [h1, read_digit (by decide), h2]
  have hv : val (48 :: hourL k) = val (hourL k) := rfl
  have ho := (hour_ok k h).1
  by_cases hk : k < 360000
  · rw [if_pos hk]
    have hl := digs_len 2 (k / 3600) (by omega) (by decide)
    rw [← hour_digs] at hl
    refine told_pos _ k h ?_ (by rw [hv]; exact (hour_ok k h).2) false
    unfold Amount.ok at ho ⊢
    rw [Bool.and_eq_true] at ho
    rw [List.all_cons, ho.2, decide_eq_true (by simp : 1 ≤ (48 :: hourL k).length), decide_eq_true (by simp; omega : (48 :: hourL k).length ≤ 3)]; rfl
  · rw [if_neg hk]
    have hl : 3 ≤ (hourL k).length := by
      rcases Nat.lt_or_ge (hourL k).length 3 with hlt | hge
      · exfalso
        have h3 := val_lt (hourL k) (by unfold Amount.ok at ho; rw [Bool.and_eq_true] at ho; exact ho.2) (hourL k).length
        rw [List.take_length, (hour_ok k h).2] at h3
        have h4 : 10 ^ (hourL k).length ≤ 10 ^ 2 := Nat.pow_le_pow_right (by decide) (by omega)
        omega
      · exact hge
    have hp : ∀ c ∈ (48 :: hourL k), c ≠ 58 := by
      intro c hc
      rw [List.mem_cons] at hc
      rcases hc with rfl | hc
      · decide
      · exact Amount.ok_no ho c hc
    have hne := Amount.pieces_ne ((48 :: hourL k) ++ ([58] ++ Amount.two (k / 60 % 60)) ++ tailL k)
    refine told_bad (k := 0) ?_ ?_
    · cases e : Amount.pieces ((48 :: hourL k) ++ ([58] ++ Amount.two (k / 60 % 60)) ++ tailL k) with
      | nil => exact absurd e hne
      | cons a t => simp
    · have e : (48 :: hourL k) ++ ([58] ++ Amount.two (k / 60 % 60)) ++ tailL k = (48 :: hourL k) ++ 58 :: (Amount.two (k / 60 % 60) ++ tailL k) := by simp
      rw [e, Amount.pieces_colon _ _ hp]
      unfold Amount.ok
      show ¬ (decide (1 ≤ (48 :: hourL k).length) && decide ((48 :: hourL k).length ≤ 3) && _) = true
      rw [decide_eq_false (by simp; omega : ¬ (48 :: hourL k).length ≤ 3)]
      simp

theorem tx_pos (k : Nat) (h1 : 1 ≤ k) (h2 : k ≤ 604799) : txL (k : Int) = posL k ∧ txW (k : Int) = 0 := by
  unfold txL txW
  rw [amt_pos k h1 h2]
  exact ⟨rfl, rfl⟩
theorem tx_neg (k : Nat) (h1 : 1 ≤ k) (h2 : k ≤ 604799) : txL (-(k : Int)) = [45] ++ posL k ∧ txW (-(k : Int)) = 0 := by
  unfold txL txW
  rw [amt_neg k h1 h2]
  exact ⟨rfl, rfl⟩
theorem tx_far (n : Int) (h : n ≤ -604800 ∨ 604800 ≤ n) : txL n = [] ∧ txW n = 1 := by
  unfold txL txW
  rw [amt_far n h]
  exact ⟨rfl, rfl⟩

set_option maxRecDepth 100000 in
theorem amB_ev (n : Int) (h : Fits n) : Contract aE 6 [.int .i64 n] (.bool true) := by
  refine contract_of_body aE_ok wS_ok 5 2 ?_
  rw [amB_top]
  have hf : band (ile (-9223372036854775808) n) (ile n 9223372036854775807) = true := (fitsI_iff n).2 h
  rw [sel_pos hf]
  by_cases hfar : n ≤ -604800 ∨ 604800 ≤ n
  · obtain ⟨e1, e2⟩ := tx_far n hfar
    rw [e1, e2, sel_pos (by decide), sel_pos (by decide), sel_pos (by decide)]
    by_cases ha : n ≤ -604800
    · rw [sel_pos (ile_t ha)]
    · rw [sel_neg (ile_f (by omega)), ile_t (by omega)]
  · by_cases h0 : n = 0
    · subst h0
      rfl
    · by_cases hn : n < 0
      · obtain ⟨k, rfl⟩ : ∃ k : Nat, n = -(k : Int) := ⟨(-n).toNat, by omega⟩
        have hk : k ≤ 604799 := by omega
        obtain ⟨e1, e2⟩ := tx_neg k (by omega) hk
        obtain ⟨p1, p2⟩ := tx_pos k (by omega) hk
        have hl := posL_len k hk
        have r := read_neg k hk
        have r1 : rdI ([45] ++ posL k) = -(k : Int) := by unfold rdI; rw [r]
        have r2 : rdW ([45] ++ posL k) = 0 := by unfold rdW; rw [r]
        have e : isub .i64 0 (-(k : Int)) = (k : Int) := by rw [isub64 (by omega)]; omega
        rw [e, e1, e2, p1, p2, r1, r2, sel_neg (by decide), sel_pos (ile_t (by rw [slen_nat]; simp; omega)), sel_neg (by rw [ieq_refl]; rfl), sel_neg (by decide), sel_pos (ilt_t hn),
          sel_pos (by rw [band_iff]; exact ⟨ile_t (by omega), ile_t (by omega)⟩), sel_pos (by decide), sel_pos (by rw [okCat_iff]; simp; omega)]
        rw [show seq ([45] ++ posL k) (scat [45] (posL k)) = true from seq_refl _]
      · obtain ⟨k, rfl⟩ : ∃ k : Nat, n = (k : Int) := ⟨n.toNat, by omega⟩
        have hk : k ≤ 604799 := by omega
        obtain ⟨p1, p2⟩ := tx_pos k (by omega) hk
        have hl := posL_len k hk
        have r := read_pos k hk
        have r1 : rdI (posL k) = (k : Int) := by unfold rdI; rw [r]
        have r2 : rdW (posL k) = 0 := by unfold rdW; rw [r]
        have q := read_neg k hk
        have q1 : rdI (scat [45] (posL k)) = -(k : Int) := by unfold rdI; rw [show scat [45] (posL k) = [45] ++ posL k from rfl, q]
        have q2 : rdW (scat [45] (posL k)) = 0 := by unfold rdW; rw [show scat [45] (posL k) = [45] ++ posL k from rfl, q]
        have z := read_nought k hk
        have e : isub .i64 0 (k : Int) = -(k : Int) := by rw [isub64 (by omega)]; omega
        have l1 : slen (scat [45] (posL k)) ≤ 1000 := by rw [slen_nat]; unfold scat; simp; omega
        have l2 : slen (scat [48] (posL k)) ≤ 1000 := by rw [slen_nat]; unfold scat; simp; omega
        rw [p1, p2, r1, r2, q1, q2, e, sel_neg (by decide), sel_pos (ile_t (by rw [slen_nat]; omega)), sel_neg (by rw [ieq_refl]; rfl), sel_neg (by decide), sel_neg (ilt_f (by omega)),
          sel_pos (by rw [okCat_iff]; simp; omega), sel_pos (ile_t l1), sel_pos (by rw [okCat_iff]; simp; omega), sel_pos (ile_t l2), sel_pos (ieq_refl _), sel_pos (by decide)]
        by_cases h36 : k < 360000
        · rw [if_pos h36] at z
          have z1 : rdI (scat [48] (posL k)) = (k : Int) := by unfold rdI; rw [show scat [48] (posL k) = [48] ++ posL k from rfl, z]
          have z2 : rdW (scat [48] (posL k)) = 0 := by unfold rdW; rw [show scat [48] (posL k) = [48] ++ posL k from rfl, z]
          rw [z1, z2, sel_neg (ile_f (by omega)), sel_pos (ilt_t (by omega)), sel_pos (ieq_refl _)]
          rfl
        · rw [if_neg h36] at z
          have z2 : rdW (scat [48] (posL k)) = 2 := by unfold rdW; rw [show scat [48] (posL k) = [48] ++ posL k from rfl, z]
          rw [z2, sel_pos (ile_t (by omega)), sel_pos (by decide)]
end Nt.Ev.YtefkdjikbdgidaaDoor
