/-
  Months and weekdays, by the program and by the reference.
-/
import Derived.Test.YtefkdjikbdgidaaDoorWordsMatch
import Derived.Test.YtefkdjikbdgidaaDoorWordsMatchR
namespace Go.Proofs.YtefkdjikbdgidaaDoor
open Go.RowKit Nt Nt.Words

theorem r_months (w : World) : Calls Tryd.prog 45 #[] w fun e w' => ∃ b, e = .returned (.slice (some ⟨b, 0, none⟩) 12 12) ∧ Strs w' (some ⟨b, 0, none⟩) 12 months ∧ Below w.heap.size w w' := by
  go_enter Tryd.func45, Tryd.ntmps45
  go_wp2_with fail
  go_ret
  exact ⟨_, rfl, Strs.made w 9 months 12 rfl months_mem, (Below.refl _ _).alloc (Nat.le_refl _) _⟩

theorem r_weekdays (w : World) : Calls Tryd.prog 46 #[] w fun e w' => ∃ b, e = .returned (.slice (some ⟨b, 0, none⟩) 7 7) ∧ Strs w' (some ⟨b, 0, none⟩) 7 weekdays ∧ Below w.heap.size w w' := by
  go_enter Tryd.func46, Tryd.ntmps46
  go_wp2_with fail
  go_ret
  exact ⟨_, rfl, Strs.made w 9 weekdays 7 rfl weekdays_mem, (Below.refl _ _).alloc (Nat.le_refl _) _⟩

theorem w_match' (s : ByteArray) (p : Option Addr) (len cap : Nat) (ws : List ByteArray) (i c : Nat) (hr : mt s ws = (i, c)) (w : World) (hs : s.size ≤ maxLen) (hS : Strs w p len ws) (hlen : len ≤ 8796093022208) :
    Calls Tryd.prog 11 #[.string s, .slice p len cap] w fun e w' => e = .returned (.tuple #[.int .i64 ↑i, .int .i64 ↑c]) ∧ Below w.heap.size w w' := by
  have := w_match s p len cap ws w hs hS hlen
  rw [hr] at this
  exact this

theorem r_match' (s : ByteArray) (p : Option Addr) (len cap : Nat) (ws : List ByteArray) (i c : Nat) (hr : mt s ws = (i, c)) (w : World) (hs : s.size ≤ maxLen) (hS : Strs w p len ws) (hlen : len ≤ 8796093022208) :
    Calls Tryd.prog 12 #[.string s, .slice p len cap] w fun e w' => e = .returned (.tuple #[.int .i64 ↑i, .int .i64 ↑c]) ∧ ∃ n, w' = w.drewN n := by
  have := r_match s p len cap ws w hs hS hlen
  rw [hr] at this
  exact this

theorem w_month (s : ByteArray) (w : World) (hs : s.size ≤ maxLen) (hS : Strs w (some ⟨0, 0, none⟩) 12 months) :
    Calls Tryd.prog 13 #[.string s] w fun e w' => e = .returned (.tuple #[.int .i64 ↑(month s months).1, .int .i64 ↑(month s months).2]) ∧ Below w.heap.size w w' := by
  have hle := mt_le s months
  rcases hm : mt s months with ⟨i, c⟩
  have hi : i ≤ 12 := by rw [hm] at hle; exact hle
  have HM := Lib.hid hm
  by_cases hc : c = 0
  · subst hc
    have H := Lib.hid (show month s months = (i + 1, 0) by unfold month; rw [hm]; rfl)
    clear hm hle
    go_enter Tryd.func13, Tryd.ntmps13
    go_wp2_with (go_at_call 11; refine (w_match' _ _ _ _ _ _ _ HM.out _ hs hS (by omega)).mono ?_; rintro e w' ⟨rfl, hB⟩)
    go_ret2
    exact ⟨by rw [H.out]; rfl, hB⟩
  · have H := Lib.hid (show month s months = (0, c) by unfold month; rw [hm]; simp [hc])
    have hb : ((c : Int) != 0) = true := by simp; omega
    clear hm hle hc
    go_enter Tryd.func13, Tryd.ntmps13
    go_wp2_with (go_at_call 11; refine (w_match' _ _ _ _ _ _ _ HM.out _ hs hS (by omega)).mono ?_; rintro e w' ⟨rfl, hB⟩)
    go_ret2
    exact ⟨by rw [H.out]; rfl, hB⟩

theorem r_month (s : ByteArray) (w : World) (hs : s.size ≤ maxLen) :
    Calls Tryd.prog 14 #[.string s] w fun e w' => e = .returned (.tuple #[.int .i64 ↑(month s months).1, .int .i64 ↑(month s months).2]) ∧ Below w.heap.size w w' := by
  have hle := mt_le s months
  rcases hm : mt s months with ⟨i, c⟩
  have hi : i ≤ 12 := by rw [hm] at hle; exact hle
  have HM := Lib.hid hm
  by_cases hc : c = 0
  · subst hc
    have H := Lib.hid (show month s months = (i + 1, 0) by unfold month; rw [hm]; rfl)
    clear hm hle
    go_enter Tryd.func14, Tryd.ntmps14
    go_wp2_with (first
      | (go_at_call 45; refine (r_months _).mono ?_; rintro e w' ⟨b, rfl, hS, hB⟩)
      | (go_at_call 12; refine (r_match' _ _ _ _ _ _ _ HM.out _ hs hS (by omega)).mono ?_; rintro e w' ⟨rfl, n, rfl⟩))
    go_ret2
    exact ⟨by rw [H.out]; rfl, below_drewN hB _⟩
  · have H := Lib.hid (show month s months = (0, c) by unfold month; rw [hm]; simp [hc])
    have hb : ((c : Int) != 0) = true := by simp; omega
    clear hm hle hc
    go_enter Tryd.func14, Tryd.ntmps14
    go_wp2_with (first
      | (go_at_call 45; refine (r_months _).mono ?_; rintro e w' ⟨b, rfl, hS, hB⟩)
      | (go_at_call 12; refine (r_match' _ _ _ _ _ _ _ HM.out _ hs hS (by omega)).mono ?_; rintro e w' ⟨rfl, n, rfl⟩))
    go_ret2
    exact ⟨by rw [H.out]; rfl, below_drewN hB _⟩

theorem w_weekday (s : ByteArray) (w : World) (hs : s.size ≤ maxLen) (hS : Strs w (some ⟨1, 0, none⟩) 7 weekdays) :
    Calls Tryd.prog 15 #[.string s] w fun e w' => e = .returned (.tuple #[.int .i64 ↑(mt s weekdays).1, .int .i64 ↑(mt s weekdays).2]) ∧ Below w.heap.size w w' := by
  go_enter Tryd.func15, Tryd.ntmps15
  go_wp2_with (go_at_call 11; refine (w_match _ _ _ _ _ _ hs hS (by omega)).mono ?_; rintro e w' ⟨rfl, hB⟩)
  go_ret2
  exact ⟨rfl, hB⟩

theorem r_weekday (s : ByteArray) (w : World) (hs : s.size ≤ maxLen) :
    Calls Tryd.prog 16 #[.string s] w fun e w' => e = .returned (.tuple #[.int .i64 ↑(mt s weekdays).1, .int .i64 ↑(mt s weekdays).2]) ∧ Below w.heap.size w w' := by
  go_enter Tryd.func16, Tryd.ntmps16
  go_wp2_with (first
    | (go_at_call 46; refine (r_weekdays _).mono ?_; rintro e w' ⟨b, rfl, hS, hB⟩)
    | (go_at_call 12; refine (r_match _ _ _ _ _ _ hs hS (by omega)).mono ?_; rintro e w' ⟨rfl, n, rfl⟩))
  go_ret2
  exact ⟨rfl, below_drewN hB _⟩

theorem ret_string {a b : ByteArray} (h : a = b) : Ending.returned (.string a) = .returned (.string b) := by rw [h]

/-- text, at a list of words of three letters and more. -/
theorem w_text (p : Option Addr) (len cap : Nat) (ws : List ByteArray) (i : Int) (w : World) (hS : Strs w p len ws) (hlen : len ≤ 8796093022208) (h3 : ∀ i, i < len → 3 ≤ (wAt ws i).size ∧ (wAt ws i).size ≤ 9)
    (hi : -9223372036854775808 ≤ i ∧ i ≤ 9223372036854775807) :
    Calls Tryd.prog 47 #[.slice p len cap, .int .i64 i] w fun e w' => e = .returned (.string (wtext ws i)) ∧ w' = w := by
  have hl := hS.1
  by_cases h : 0 ≤ i ∧ i < len
  · obtain ⟨k, rfl⟩ := Int.eq_ofNat_of_zero_le h.1
    have hk : k < len := by omega
    obtain ⟨b, off, rfl, hb, hc⟩ := hS.2.2 (by omega)
    have H := Lib.hid (show wtext ws (k : Int) = (wAt ws k).extract 0 3 by unfold wtext; rw [if_pos (by omega)]; rfl)
    obtain ⟨x, hx⟩ : ∃ x, x = wAt ws k := ⟨_, rfl⟩
    have hck : w.cell? ⟨b, off + k, none⟩ = some (.string x) := by rw [hx]; exact hc k hk
    obtain ⟨hx3, hx9⟩ : 3 ≤ x.size ∧ x.size ≤ 9 := by rw [hx]; exact h3 k hk
    have HX := Lib.hid hx
    clear hx hc h3 hl h
    go_enter Tryd.func47, Tryd.ntmps47
    go_wp2_with fail
    go_ret
    exact ⟨ret_string (by rw [H.out, HX.out]), rfl⟩
  · have H := Lib.hid (show wtext ws i = ByteArray.empty by unfold wtext; rw [if_neg (by omega)])
    clear h3
    by_cases h0 : 0 ≤ i
    · have h1 : (len : Int) ≤ i := by omega
      clear h hl
      go_enter Tryd.func47, Tryd.ntmps47
      go_wp2_with fail
      go_ret
      exact ⟨ret_string (by rw [H.out]; rfl), rfl⟩
    · have h1 : i < 0 := by omega
      clear h h0 hl
      go_enter Tryd.func47, Tryd.ntmps47
      go_wp2_with fail
      go_ret
      exact ⟨ret_string (by rw [H.out]; rfl), rfl⟩

end Go.Proofs.YtefkdjikbdgidaaDoor
