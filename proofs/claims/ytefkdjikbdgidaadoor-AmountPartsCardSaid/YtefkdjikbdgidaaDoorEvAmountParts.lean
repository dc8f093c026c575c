/-
  Amounts: the statement AmountParts.
-/
import Derived.Test.YtefkdjikbdgidaaDoorEvAmountBack
set_option linter.unusedVariables false
set_option linter.unusedSimpArgs false
set_option linter.unusedSectionVars false
namespace Nt.Ev.YtefkdjikbdgidaaDoor
open Go Nt.Num Go.Proofs.YtefkdjikbdgidaaDoor
variable [MLen]

theorem text_nat (k : Nat) : Num.text (k : Int) = digs k := by
  unfold Num.text
  rw [if_neg (by omega), Int.natAbs_natCast]; rfl
theorem digs_two : ∀ k : Fin 100, 10 ≤ k.val → digs k = Amount.two k := by decide

/-- The text of three parts. -/
def partsT (h m s : Nat) : List UInt8 := digs h ++ ([58] ++ Amount.two m) ++ ([58] ++ Amount.two s)
theorem parts_text (h m s : Nat) (hm : 10 ≤ m ∧ m ≤ 99) (hs : 10 ≤ s ∧ s ≤ 99) : scat (scat (scat (scat (Num.text (h : Int)) [58]) (Num.text (m : Int))) [58]) (Num.text (s : Int)) = partsT h m s := by
  rw [text_nat, text_nat, text_nat, digs_two ⟨m, by omega⟩ hm.1, digs_two ⟨s, by omega⟩ hs.1]
  unfold scat partsT
  simp
theorem parts_head (h m s : Nat) (hh : h ≤ 999) : ∃ c t, partsT h m s = c :: t ∧ c ≠ 45 := by
  have ho := (digs_ok h 3 (by decide) (by omega) (by decide)).1
  unfold Amount.ok at ho
  rw [Bool.and_eq_true, Bool.and_eq_true, decide_eq_true_eq] at ho
  unfold partsT
  cases e : digs h with
  | nil => rw [e] at ho; simp at ho
  | cons c t =>
    refine ⟨c, t ++ ([58] ++ Amount.two m) ++ ([58] ++ Amount.two s), by simp, fun hc => ?_⟩
    have := List.all_eq_true.1 ho.2 c (by rw [e]; exact .head _)
    rw [hc] at this
    exact absurd this (by decide)
theorem parts_told (h m s : Nat) (hh : h ≤ 999) (hm : m ≤ 99) (hs : s ≤ 99) (b : Bool) : Amount.told (Amount.pieces (partsT h m s)) b =
    if 59 < m ∨ 59 < s ∨ 604800 ≤ h * 3600 + m * 60 + s then (0, 1) else (if b then -((h * 3600 + m * 60 + s : Nat) : Int) else ((h * 3600 + m * 60 + s : Nat) : Int), 0) := by
  obtain ⟨h1, h2⟩ := digs_ok h 3 (by decide) (by omega) (by decide)
  obtain ⟨m1, m2⟩ := Amount.two_ok ⟨m, by omega⟩
  obtain ⟨s1, s2⟩ := Amount.two_ok ⟨s, by omega⟩
  simp only at m1 m2 s1 s2
  unfold partsT
  rw [Amount.pieces3 h1 m1 s1, Amount.told3 h1 m1 s1, h2, m2, s2]
theorem parts_read (h m s : Nat) (hh : h ≤ 999) (hm : m ≤ 99) (hs : s ≤ 99) : Amount.read (partsT h m s) = Amount.told (Amount.pieces (partsT h m s)) false ∧ Amount.read ([45] ++ partsT h m s) = Amount.told (Amount.pieces (partsT h m s)) true := by
  obtain ⟨c, t, e, hc⟩ := parts_head h m s hh
  refine ⟨by rw [e, read_digit hc], read_minus (by rw [e]; simp)⟩
theorem parts_len (h m s : Nat) (hh : h ≤ 999) : (partsT h m s).length ≤ 9 := by
  have := digs_len 3 h (by omega) (by decide)
  unfold partsT Amount.two
  simp; omega

set_option maxRecDepth 100000 in
theorem amP_ev (h m s : Int) (b : Bool) (fh : Fits h) (fm : Fits m) (fs : Fits s) : Contract aE 7 [.int .i64 h, .int .i64 m, .int .i64 s, .bool b] (.bool true) := by
  refine contract_of_body aE_ok wS_ok 5 2 ?_
  rw [amP_top]
  by_cases h1 : h < 0
  · rw [sel_pos (ilt_t h1)]
  by_cases h2 : 999 < h
  · rw [sel_neg (ilt_f (by omega)), sel_pos (ilt_t h2)]
  by_cases h3 : m < 10
  · rw [sel_neg (ilt_f (by omega)), sel_neg (ilt_f (by omega)), sel_pos (ilt_t h3)]
  by_cases h4 : 99 < m
  · rw [sel_neg (ilt_f (by omega)), sel_neg (ilt_f (by omega)), sel_neg (ilt_f (by omega)), sel_pos (ilt_t h4)]
  by_cases h5 : s < 10
  · rw [sel_neg (ilt_f (by omega)), sel_neg (ilt_f (by omega)), sel_neg (ilt_f (by omega)), sel_neg (ilt_f (by omega)), sel_pos (ilt_t h5)]
  by_cases h6 : 99 < s
  · rw [sel_neg (ilt_f (by omega)), sel_neg (ilt_f (by omega)), sel_neg (ilt_f (by omega)), sel_neg (ilt_f (by omega)), sel_neg (ilt_f (by omega)), sel_pos (ilt_t h6)]
  obtain ⟨h, rfl⟩ : ∃ k : Nat, h = k := ⟨h.toNat, by omega⟩
  obtain ⟨m, rfl⟩ : ∃ k : Nat, m = k := ⟨m.toNat, by omega⟩
  obtain ⟨s, rfl⟩ : ∃ k : Nat, s = k := ⟨s.toNat, by omega⟩
  have hT := parts_text h m s (by omega) (by omega)
  have hL := parts_len h m s (by omega)
  obtain ⟨r1, r2⟩ := parts_read h m s (by omega) (by omega) (by omega)
  rw [parts_told h m s (by omega) (by omega) (by omega)] at r1 r2
  have th := (text_len (h : Int) fh).1
  have tm := (text_len (m : Int) fm).1
  have ts := (text_len (s : Int) fs).1
  have hsum : iadd .i64 (iadd .i64 (imul .i64 (h : Int) 3600) (imul .i64 (m : Int) 60)) (s : Int) = ((h * 3600 + m * 60 + s : Nat) : Int) := by
    rw [imul64 (a := (h : Int)) (by omega), imul64 (a := (m : Int)) (by omega), iadd64 (a := (h : Int) * 3600) (by omega), iadd64 (by omega)]; omega
  have hneg : isub .i64 0 ((h * 3600 + m * 60 + s : Nat) : Int) = -((h * 3600 + m * 60 + s : Nat) : Int) := by rw [isub64 (by omega)]; omega
  have gh : band (ile (-9223372036854775808) (h : Int)) (ile (h : Int) 9223372036854775807) = true := (fitsI_iff _).2 fh
  have gm : band (ile (-9223372036854775808) (m : Int)) (ile (m : Int) 9223372036854775807) = true := (fitsI_iff _).2 fm
  have gs : band (ile (-9223372036854775808) (s : Int)) (ile (s : Int) 9223372036854775807) = true := (fitsI_iff _).2 fs
  have cat : ∀ a b : List UInt8, a.length + b.length ≤ 1000 → okCat a b = true := fun a b hab => by rw [okCat_iff]; omega
  have l0 : ∀ a b : List UInt8, (scat a b).length = a.length + b.length := fun a b => by unfold scat; simp
  rw [sel_neg (ilt_f (by omega)), sel_neg (ilt_f (by omega)), sel_neg (ilt_f (by omega)), sel_neg (ilt_f (by omega)), sel_neg (ilt_f (by omega)), sel_neg (ilt_f (by omega)),
    sel_pos gh, sel_pos (cat _ _ (by show _ + 1 ≤ _; omega)), sel_pos gm, sel_pos (cat _ _ (by rw [l0]; show _ + 1 + _ ≤ _; omega)),
    sel_pos (cat _ _ (by rw [l0, l0]; show _ + 1 + _ + 1 ≤ _; omega)), sel_pos gs, sel_pos (cat _ _ (by rw [l0, l0, l0]; show _ + 1 + _ + 1 + _ ≤ _; omega)), hT, hsum, hneg]
  have c1 : okCat [45] (partsT h m s) = true := cat _ _ (by show 1 + _ ≤ _; omega)
  have c2 : ile (slen (scat [45] (partsT h m s))) 1000 = true := ile_t (by rw [slen_nat, l0]; show ((1 + _ : Nat) : Int) ≤ _; omega)
  have c3 : ile (slen (partsT h m s)) 1000 = true := ile_t (by rw [slen_nat]; omega)
  have q1 : rdI (partsT h m s) = (Amount.read (partsT h m s)).1 := rfl
  have q2 : rdW (partsT h m s) = (Amount.read (partsT h m s)).2 := rfl
  have q3 : rdI (scat [45] (partsT h m s)) = (Amount.read ([45] ++ partsT h m s)).1 := rfl
  have q4 : rdW (scat [45] (partsT h m s)) = (Amount.read ([45] ++ partsT h m s)).2 := rfl
  rw [sel_pos c1, sel_pos c2, sel_pos c3, q1, q2, q3, q4]
  have st : ∀ x y : Option V, sel true x y = x := fun _ _ => rfl
  have sf : ∀ x y : Option V, sel false x y = y := fun _ _ => rfl
  by_cases hbad : 167 < h ∨ 59 < m ∨ 59 < s
  · have hc : 59 < m ∨ 59 < s ∨ 604800 ≤ h * 3600 + m * 60 + s := by omega
    rw [if_pos hc] at r1 r2
    rw [r1, r2]
    have z : ieq (0, (1 : Int)).1 0 = true := rfl
    have z1 : ieq ((0 : Int), 1).2 1 = true := rfl
    by_cases g1 : 167 < h
    · have t1 : ilt 167 (h : Int) = true := ilt_t (by omega)
      simp only [t1, st, sf, z, z1]; cases b <;> rfl
    · have t1 : ilt 167 (h : Int) = false := ilt_f (by omega)
      by_cases g2 : 59 < m
      · have t2 : ilt 59 (m : Int) = true := ilt_t (by omega)
        simp only [t1, t2, st, sf, z, z1]; cases b <;> rfl
      · have t2 : ilt 59 (m : Int) = false := ilt_f (by omega)
        have t3 : ilt 59 (s : Int) = true := ilt_t (by omega)
        simp only [t1, t2, t3, st, sf, z, z1]; cases b <;> rfl
  · have hc : ¬ (59 < m ∨ 59 < s ∨ 604800 ≤ h * 3600 + m * 60 + s) := by omega
    rw [if_neg hc] at r1 r2
    rw [if_neg (by decide)] at r1
    rw [if_pos rfl] at r2
    have t1 : ilt 167 (h : Int) = false := ilt_f (by omega)
    have t2 : ilt 59 (m : Int) = false := ilt_f (by omega)
    have t3 : ilt 59 (s : Int) = false := ilt_f (by omega)
    rw [r1, r2]
    have e1 : ∀ x : Int, ieq x x = true := ieq_refl
    simp only [t1, t2, t3, st, sf, e1]
    cases b <;> rfl
end Nt.Ev.YtefkdjikbdgidaaDoor
