/-
  The reference's digits and Text.
-/
import Derived.Test.YtefkdjikbdgidaaDoorNumWalks
import Derived.Test.YtefkdjikbdgidaaDoorNumTextPlain
set_option linter.unusedVariables false
set_option linter.unusedSimpArgs false
namespace Go.Proofs.YtefkdjikbdgidaaDoor
open Go.RowKit Nt Nt.Num

set_option maxRecDepth 100000 in
theorem r_digits_small : ∀ n : Fin 10, ∀ w : World, Calls Tryd.prog 59 #[.int .u64 (n.val : Nat)] w fun e w' => e = .returned (.string (bs [digit n.val])) ∧ w' = w := by
  intro n w
  obtain ⟨n, hn⟩ := n
  have hc : n = 0 ∨ n = 1 ∨ n = 2 ∨ n = 3 ∨ n = 4 ∨ n = 5 ∨ n = 6 ∨ n = 7 ∨ n = 8 ∨ n = 9 := by omega
  rcases hc with rfl | rfl | rfl | rfl | rfl | rfl | rfl | rfl | rfl | rfl
  all_goals
    go_enter Tryd.func59, Tryd.ntmps59
    go_wp2_with fail
    go_ret
    exact ⟨rfl, rfl⟩

theorem r_digits : ∀ (f n : Nat), n < 10 ^ f → n < 18446744073709551616 → ∀ w : World, Calls Tryd.prog 59 #[.int .u64 (n : Nat)] w fun e w' => e = .returned (.string (bs (digs n))) ∧ w' = w := by
  intro f
  induction f with
  | zero =>
    intro n h _ w
    obtain rfl : n = 0 := by simpa using h
    exact r_digits_small ⟨0, by decide⟩ w
  | succ f ih =>
    intro n h hn w
    by_cases hs : n < 10
    · rw [digs_small n hs]
      exact r_digits_small ⟨n, hs⟩ w
    · have H := Lib.hid (digs_step n (by omega))
      have hd := Lib.hid (bs_append (digs (n / 10)) [digit (n % 10)])
      have hz := Lib.hid (bs_size (digs (n / 10)))
      have hl1 := (digs_len 20 (n / 10) (by omega) (by decide)).1
      have hx1 : (bs (digs (n / 10))).size ≤ 20 := by rw [hz.out]; exact hl1
      have hx2 : (bs [digit (n % 10)]).size ≤ 1 := by rw [bs_size]; simp
      have h10 : 10 ≤ n := by omega
      have e1 := ih (n / 10) (by rw [Nat.pow_succ] at h; omega) (by omega)
      have e2 := r_digits_small ⟨n % 10, by omega⟩
      have E1 := Lib.hid e1
      have E2 := Lib.hid e2
      clear h ih hs e1 e2 hl1
      go_enter Tryd.func59, Tryd.ntmps59
      go_wp2_with fail
      refine (E1.out _).mono ?_
      rintro e w' ⟨rfl, rfl⟩
      go_wp2_with fail
      refine (E2.out _).mono ?_
      rintro e w' ⟨rfl, rfl⟩
      go_wp2_with fail
      go_ret
      exact ⟨by rw [H.out, ← hd.out]; rfl, rfl⟩

theorem r_text (n : Int) (w : World) (ha : Fits n) :
    Calls Tryd.prog 40 #[.int .i64 n] w fun e w' => e = .returned (.string (bs (text n))) ∧ w' = w := by
  obtain ⟨a1, a2⟩ := ha
  have D := Lib.hid (r_digits 20 n.natAbs (by omega) (by omega))
  have hx1 : (bs (digs n.natAbs)).size ≤ 20 := by rw [bs_size]; exact (digs_len 20 n.natAbs (by omega) (by decide)).1
  by_cases h : n < 0
  · have H := Lib.hid (show bs (text n) = bs [45] ++ bs (digs n.natAbs) by unfold text; rw [if_pos h, bs_append])
    go_enter Tryd.func40, Tryd.ntmps40
    go_wp2_with fail
    rw [show (-(n + 1) + 1 : Int) = (n.natAbs : Int) by omega]
    refine (D.out _).mono ?_
    rintro e w' ⟨rfl, rfl⟩
    go_wp2_with fail
    go_ret
    exact ⟨by rw [H.out]; rfl, rfl⟩
  · have H := Lib.hid (show bs (text n) = bs (digs n.natAbs) by unfold text; rw [if_neg h, List.nil_append])
    obtain ⟨m, rfl⟩ := Int.eq_ofNat_of_zero_le (show 0 ≤ n by omega)
    simp only [Int.natAbs_natCast] at D hx1 H
    go_enter Tryd.func40, Tryd.ntmps40
    go_wp2_with fail
    refine (D.out _).mono ?_
    rintro e w' ⟨rfl, rfl⟩
    go_wp2_with fail
    go_ret
    exact ⟨by rw [H.out]; rfl, rfl⟩
end Go.Proofs.YtefkdjikbdgidaaDoor
