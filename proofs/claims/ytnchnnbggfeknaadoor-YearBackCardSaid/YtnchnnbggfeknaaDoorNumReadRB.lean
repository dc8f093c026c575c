/-
  The reference's Read of a text with a - ahead.
-/
import Derived.Test.YtnchnnbggfeknaaDoorNumReadRA
set_option linter.unusedVariables false
set_option linter.unusedSimpArgs false
namespace Go.Proofs.YtnchnnbggfeknaaDoor
open Go.RowKit Nt Nt.Num

set_option maxRecDepth 100000 in
set_option maxHeartbeats 4000000 in
theorem r_read_yes (s : ByteArray) (w : World) (hs : s.size ≤ maxLen) (hM : minus s.data.toList = true) :
    Calls Tryd.prog 116 #[.string s] w fun e w' => e = .returned (.tuple #[.int .i64 (read s.data.toList).1, .int .i64 (read s.data.toList).2]) ∧ w' = w := by
  have hs' := hs
  have hgood0 : good s.data.toList = ((bare s.data.toList).all isDigit && !(bare s.data.toList).isEmpty && (!((bare s.data.toList).getD 0 0 == 48) || (decide ((bare s.data.toList).length = 1) && !minus s.data.toList))) := rfl
  have hread : read s.data.toList = if good s.data.toList then told (signed (minus s.data.toList) (val (bare s.data.toList))) else (0, 2) := rfl
  have hgood := hgood0
  rw [hM] at hread hgood
  clear hgood0
  have hs0 : 0 < s.size := by
    unfold minus at hM
    cases e : s.data.toList with
    | nil => rw [e] at hM; simp at hM
    | cons c l => have := congrArg List.length e; simp at this; omega
  have h45 : ((s[0].toNat : Int) == 45) = true := by
    have h1 : at_ s 0 = s[0] := at_get s 0 hs0
    unfold at_ at h1
    unfold minus at hM
    cases e : s.data.toList with
    | nil => rw [e] at hM; simp at hM
    | cons c l =>
      rw [e] at h1 hM
      simp at h1 hM
      rw [← h1, hM]; rfl
  have hcons : s.data.toList = 45 :: bare s.data.toList := by
    unfold bare
    rw [hM]
    unfold minus at hM
    cases e : s.data.toList with
    | nil => rw [e] at hM; simp at hM
    | cons c l => rw [e] at hM; simp at hM; rw [hM]; simp
  have hbare : bare s.data.toList = s.data.toList.drop 1 := by unfold bare; rw [hM]; rfl
  generalize hGe : good s.data.toList = G at hread hgood
  have hgood0 : G = good s.data.toList := hGe.symm
  clear hGe
  generalize read s.data.toList = R at *
  obtain ⟨d, hd⟩ : ∃ d, d = bare s.data.toList := ⟨_, rfl⟩
  rw [← hd] at hread hgood hcons hbare
  obtain ⟨D, hD⟩ : ∃ D, D = s.extract 1 s.size := ⟨_, rfl⟩
  have hDd : D.data.toList = d := by
    rw [hD, hbare]
    simp [ByteArray.data_extract, List.extract]
    exact List.take_of_length_le (by simp)
  have hDs : D.size = d.length := by rw [← hDd]; simp
  have hsl : s.data.toList.length = s.size := by simp
  have hDlt : D.size < s.size := by
    rw [hcons] at hsl
    simp at hsl
    omega
  have hDx : Hid (s.extract 1 s.size = D) := hD.symm
  have hDig : Hid (∀ w, Calls Tryd.prog 92 #[.string D] w fun e w' => e = .returned (.bool (digsOnly d)) ∧ w' = w) := fun w => by rw [← hDd]; exact r_Digits D w (by omega)
  unfold maxLen at hs
  have Hcons := Lib.hid hcons
  clear hM hd hbare hcons hD hsl
  have HDd := Lib.hid hDd
  have HDs := Lib.hid hDs
  clear hDd hDs
  by_cases hdg : digsOnly d = true
  · have hDig : Hid (∀ w, Calls Tryd.prog 92 #[.string D] w fun e w' => e = .returned (.bool true) ∧ w' = w) := fun w => by have := hDig.out w; rw [hdg] at this; exact this
    have hdg2 := hdg
    unfold digsOnly at hdg2
    rw [Bool.and_eq_true] at hdg2
    obtain ⟨hall, hne⟩ := hdg2
    have hD0 : 0 < D.size := by
      rw [HDs.out]
      cases d with
      | nil => simp at hne
      | cons a l => simp
    have hat : D[0] = d.getD 0 0 := by rw [← HDd.out]; exact (at_get D 0 hD0).symm
    by_cases h2a : 1 < D.size ∧ D[0].toNat = 48
    · have hG : Hid (G = false) := by
        show _ = _
        have e1 : (d.getD 0 0 == 48) = true := by rw [← hat, beq_iff_eq]; exact UInt8.toNat_inj.1 h2a.2
        have e2 : decide (d.length = 1) = false := decide_eq_false (by have := HDs.out; omega)
        rw [hgood, e1, e2]; simp
      have H : Hid (R = (0, 2)) := by show _ = _; rw [hread, hG.out]; rfl
      obtain ⟨k1, k2⟩ := h2a
      have k3 : ((D[0].toNat : Int) == 48) = true := by simp; omega
      clear hall hne hat hdg hread hgood k2 hgood0
      go_enter Tryd.func116, Tryd.ntmps116
      go_wp2_with fail
      rw [hDx.out]
      refine (hDig.out _).mono ?_
      rintro e w' ⟨rfl, rfl⟩
      go_wp2_with fail
      go_ret2
      exact ⟨by rw [H.out]; rfl, rfl⟩
    · have t1 : D.size ≤ 1 ∨ (1 < D.size ∧ ((D[0].toNat : Int) == 48) = false) := by
        by_cases h1 : 1 < D.size
        · right; refine ⟨h1, ?_⟩; simp; omega
        · left; omega
      by_cases h2b : s.data.toList = [45, 48]
      · have k4 : (s.toList == [45, 48]) = true := by rw [toList_eq, h2b]; rfl
        have hG : Hid (G = false) := by show _ = _; rw [hgood0, h2b]; rfl
        have H : Hid (R = (0, 2)) := by show _ = _; rw [hread, hG.out]; rfl
        clear hall hne hat hdg hread hgood h2a h2b hgood0
        rcases t1 with t1 | ⟨t1, t2⟩
        all_goals
          go_enter Tryd.func116, Tryd.ntmps116
          go_wp2_with fail
          rw [hDx.out]
          refine (hDig.out _).mono ?_
          rintro e w' ⟨rfl, rfl⟩
          go_wp2_with fail
          go_ret2
          exact ⟨by rw [H.out]; rfl, rfl⟩
      · have k4 : (s.toList == [45, 48]) = false := by rw [toList_eq, beq_eq_false_iff_ne]; exact h2b
        have hz : (d.getD 0 0 == 48) = true → true = false ∧ d.length = 1 := fun h => by
          have h1 : D.size = 1 := by
            have : D[0].toNat = 48 := by rw [hat]; rw [beq_iff_eq] at h; rw [h]; rfl
            omega
          refine ⟨?_, by have := HDs.out; omega⟩
          exfalso
          apply h2b
          rw [Hcons.out]
          have hd1 : d.length = 1 := by have := HDs.out; omega
          match d, hd1, h with
          | [x], _, h => simp at h; rw [h]
        have hG : Hid (G = true) := by
          show _ = _
          rw [hgood]
          have e3 : d.isEmpty = false := by simpa using hne
          rw [hall, e3]
          cases hz0 : (d.getD 0 0 == 48) with
          | false => rfl
          | true => obtain ⟨h1, h2⟩ := hz hz0; simp [h1, h2]
        have HR : Hid (R = told (signed true (val d))) := by show _ = _; rw [hread, hG.out]; rfl
        have Hall := Lib.hid hall
        have hnz : Hid (true = true → 1 ≤ val d) := fun hM => by
          have h0 : (d.getD 0 0 == 48) = false := by
            cases hz0 : (d.getD 0 0 == 48) with
            | false => rfl
            | true => exact absurd ((hz hz0).1.symm.trans hM) (by decide)
          have h1 := val_ge d hall h0 0 (by have := HDs.out; omega)
          have h2 := val_le d (0 + 1)
          omega
        by_cases h19 : 19 < D.size
        · have hgt : 9999999999999999999 < val d := val_great d hall (by
            cases hz0 : (d.getD 0 0 == 48) with
            | false => rfl
            | true => have := (hz hz0).2; have := HDs.out; omega) (by have := HDs.out; omega)
          have H : Hid (R = (0, 1)) := by show _ = _; rw [HR.out]; exact told_no (by unfold Fits signed; simp; omega)
          clear hall hne hat hdg hread hgood h2a h2b hz hgt hgood0
          rcases t1 with t1 | ⟨t1, t2⟩
          · omega
          · go_enter Tryd.func116, Tryd.ntmps116
            go_wp2_with fail
            rw [hDx.out]
            refine (hDig.out _).mono ?_
            rintro e w' ⟨rfl, rfl⟩
            go_wp2_with fail
            go_ret2
            exact ⟨by rw [H.out]; rfl, rfl⟩
        · have hlt := Lib.hid (fun k => val_lt d hall k)
          clear hall hne hat hdg hread hgood h2a h2b hz hgood0
          rcases t1 with t1 | ⟨t1, t2⟩
          all_goals
            go_enter Tryd.func116, Tryd.ntmps116
            go_wp2_with fail
            rw [hDx.out]
            refine (hDig.out _).mono ?_
            clear hDig
            rintro e w' ⟨rfl, rfl⟩
            go_wp2_with fail
            go_loop [5, 6] (fun a i => ∃ k : Nat, k ≤ D.size ∧ i = .int .i64 (k : Int) ∧ a = .int .u64 (val (d.take k) : Int)) (fun _ i => D.size - (intOf i).toNat)
            case atStart => exact ⟨0, by omega, rfl, by simp [val]⟩
            case round =>
              obtain ⟨k, hk, rfl, rfl⟩ := hrel
              by_cases hks : k < D.size
              · have hkd : k < d.length := by rw [← HDs.out]; exact hks
                have hat : Hid (D[k].toNat = (d.getD k 0).toNat) := by show _ = _; rw [← HDd.out, ← at_get D k hks]; rfl
                have hdig := List.all_eq_true.1 Hall.out (d.getD k 0) (by rw [List.getD_eq_getElem?_getD, List.getElem?_eq_getElem hkd]; exact List.getElem_mem _)
                simp only [isDigit, Bool.and_eq_true, decide_eq_true_eq] at hdig
                have hst := Lib.hid (val_take d k hkd)
                rw [← hat.out] at hdig hst
                obtain ⟨c1, c2⟩ := hdig
                have hb := hlt.out k
                have hb2 : val (d.take k) < 1000000000000000000 := Nat.lt_of_lt_of_le hb (Nat.le_trans (Nat.pow_le_pow_right (by decide) (show k ≤ 18 by omega)) (by decide))
                obtain ⟨a, ha⟩ : ∃ a, a = val (d.take k) := ⟨_, rfl⟩
                rw [← ha] at hb2 hst ⊢
                clear hb ha
                go_wp2_with fail
                go_round
                case rel =>
                  refine ⟨k + 1, by omega, by go_num, ?_⟩
                  rw [hst.out]
                  congr 1
                  omega
                case measure => simp [intOf]; omega
              · obtain rfl : k = D.size := by omega
                have hfull : val (d.take D.size) = val d := by rw [HDs.out, List.take_length]
                have hb2 : val d < 10000000000000000000 := by
                  have h1 := hlt.out D.size
                  rw [hfull] at h1
                  exact Nat.lt_of_lt_of_le h1 (Nat.le_trans (Nat.pow_le_pow_right (by decide) (show D.size ≤ 19 by omega)) (by decide))
                rw [hfull]
                clear hfull hlt
                have hnz' := hnz.out
                obtain ⟨v, hv⟩ : ∃ v, v = val d := ⟨_, rfl⟩
                rw [← hv] at hb2 hnz' HR ⊢
                clear hv hnz
                have hv1 : 1 ≤ v := by simpa using hnz'
                clear hnz'
                by_cases hgr : 9223372036854775808 < v
                · have H : Hid (R = (0, 1)) := by show _ = _; rw [HR.out]; exact told_no (by unfold Fits signed; simp; omega)
                  go_wp2_with fail
                  go_ret2
                  exact ⟨by rw [H.out]; rfl, rfl⟩
                · have H : Hid (R = (-(v : Int), 0)) := by show _ = _; rw [HR.out]; exact told_yes (by unfold Fits signed; simp; omega)
                  go_wp2_with fail
                  go_ret2
                  exact ⟨by rw [H.out]; congr 3; simp; omega, rfl⟩
  · have hdg0 : digsOnly d = false := by simpa using hdg
    have hDig : Hid (∀ w, Calls Tryd.prog 92 #[.string D] w fun e w' => e = .returned (.bool false) ∧ w' = w) := fun w => by have := hDig.out w; rw [hdg0] at this; exact this
    have hG : Hid (G = false) := by
      show _ = _
      unfold digsOnly at hdg0
      rw [hgood]
      rw [Bool.and_eq_false_iff] at hdg0 ⊢
      left
      rw [Bool.and_eq_false_iff]
      exact hdg0
    have H : Hid (R = (0, 2)) := by show _ = _; rw [hread, hG.out]; rfl
    clear hread hgood hgood0 hdg hdg0
    go_enter Tryd.func116, Tryd.ntmps116
    go_wp2_with fail
    rw [hDx.out]
    refine (hDig.out _).mono ?_
    rintro e w' ⟨rfl, rfl⟩
    go_wp2_with fail
    go_ret2
    exact ⟨by rw [H.out]; rfl, rfl⟩


theorem r_read (s : ByteArray) (w : World) (hs : s.size ≤ maxLen) :
    Calls Tryd.prog 116 #[.string s] w fun e w' => e = .returned (.tuple #[.int .i64 (read s.data.toList).1, .int .i64 (read s.data.toList).2]) ∧ w' = w := by
  cases h : minus s.data.toList with
  | false => exact r_read_no s w hs h
  | true => exact r_read_yes s w hs h

end Go.Proofs.YtnchnnbggfeknaaDoor
