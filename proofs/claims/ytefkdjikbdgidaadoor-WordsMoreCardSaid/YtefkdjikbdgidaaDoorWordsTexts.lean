/-
  The texts of months and weekdays, by the program and by the reference.
-/
import Derived.Test.YtefkdjikbdgidaaDoorWordsNames
namespace Go.Proofs.YtefkdjikbdgidaaDoor
open Go.RowKit Nt Nt.Words

theorem w_monthText (n : Int) (w : World) (hS : Strs w (some ⟨0, 0, none⟩) 12 months) (hn : -9223372036854775808 ≤ n ∧ n ≤ 9223372036854775807) :
    Calls Tryd.prog 19 #[.int .i64 n] w fun e w' => e = .returned (.string (wtext months (n - 1))) ∧ w' = w := by
  obtain ⟨hn1, hn2⟩ := hn
  by_cases h : n < 1
  · have H := Lib.hid (show wtext months (n - 1) = ByteArray.empty by unfold wtext; rw [if_neg (by omega)])
    go_enter Tryd.func19, Tryd.ntmps19
    go_wp2_with fail
    go_ret
    exact ⟨ret_string (by rw [H.out]; rfl), rfl⟩
  · go_enter Tryd.func19, Tryd.ntmps19
    go_wp2_with (go_at_call 47; refine (w_text _ _ _ _ _ _ hS (by omega) months_long (by omega)).mono ?_; rintro e w' ⟨rfl, rfl⟩)
    go_ret
    exact ⟨rfl, rfl⟩

theorem w_weekdayText (n : Int) (w : World) (hS : Strs w (some ⟨1, 0, none⟩) 7 weekdays) (hn : -9223372036854775808 ≤ n ∧ n ≤ 9223372036854775807) :
    Calls Tryd.prog 21 #[.int .i64 n] w fun e w' => e = .returned (.string (wtext weekdays n)) ∧ w' = w := by
  go_enter Tryd.func21, Tryd.ntmps21
  go_wp2_with (go_at_call 47; refine (w_text _ _ _ _ _ _ hS (by omega) weekdays_long hn).mono ?_; rintro e w' ⟨rfl, rfl⟩)
  go_ret
  exact ⟨rfl, rfl⟩

theorem r_monthText (n : Int) (w : World) (hn : -9223372036854775808 ≤ n ∧ n ≤ 9223372036854775807) :
    Calls Tryd.prog 20 #[.int .i64 n] w fun e w' => e = .returned (.string (wtext months (n - 1))) ∧ Below w.heap.size w w' := by
  obtain ⟨hn1, hn2⟩ := hn
  have hml : months.length = 12 := rfl
  by_cases h : 1 ≤ n ∧ n ≤ 12
  · obtain ⟨k, rfl⟩ : ∃ k : Nat, n = (k : Int) + 1 := ⟨(n - 1).toNat, by omega⟩
    have H := Lib.hid (show wtext months ((k : Int) + 1 - 1) = (wAt months k).extract 0 3 by unfold wtext; rw [if_pos (by omega)]; congr 2; omega)
    have hk : k < 12 := by omega
    clear hml h hn1 hn2
    obtain ⟨x, hx⟩ : ∃ x, x = wAt months k := ⟨_, rfl⟩
    obtain ⟨hx3, hx9⟩ : 3 ≤ x.size ∧ x.size ≤ 9 := by rw [hx]; exact months_long k hk
    have HX := Lib.hid hx
    clear hx
    go_enter Tryd.func20, Tryd.ntmps20
    go_wp2_with fail
    refine (r_months _).mono ?_
    rintro e w' ⟨b, rfl, hS, hB⟩
    obtain ⟨b', off, e, hb, hc⟩ := hS.2.2 (by omega)
    simp only [Option.some.injEq, Addr.mk.injEq, and_true] at e
    obtain ⟨rfl, rfl⟩ := e
    have hck := hc k hk
    rw [Nat.zero_add, show months.getD k ByteArray.empty = x from HX.out.symm] at hck
    clear hc
    go_wp2_with fail
    go_ret
    exact ⟨ret_string (by rw [H.out, HX.out]), hB⟩
  · have H := Lib.hid (show wtext months (n - 1) = ByteArray.empty by unfold wtext; rw [if_neg (by omega)])
    clear hml
    by_cases h0 : n < 1
    · clear h
      go_enter Tryd.func20, Tryd.ntmps20
      go_wp2_with fail
      go_ret
      exact ⟨ret_string (by rw [H.out]; rfl), Below.refl _ _⟩
    · have h1 : 12 < n := by omega
      clear h
      go_enter Tryd.func20, Tryd.ntmps20
      go_wp2_with fail
      go_ret
      exact ⟨ret_string (by rw [H.out]; rfl), Below.refl _ _⟩

theorem r_weekdayText (n : Int) (w : World) (hn : -9223372036854775808 ≤ n ∧ n ≤ 9223372036854775807) :
    Calls Tryd.prog 22 #[.int .i64 n] w fun e w' => e = .returned (.string (wtext weekdays n)) ∧ Below w.heap.size w w' := by
  obtain ⟨hn1, hn2⟩ := hn
  have hml : weekdays.length = 7 := rfl
  by_cases h : 0 ≤ n ∧ n ≤ 6
  · obtain ⟨k, rfl⟩ : ∃ k : Nat, n = (k : Int) := ⟨n.toNat, by omega⟩
    have H := Lib.hid (show wtext weekdays (k : Int) = (wAt weekdays k).extract 0 3 by unfold wtext; rw [if_pos (by omega)]; rfl)
    have hk : k < 7 := by omega
    clear hml h hn1 hn2
    obtain ⟨x, hx⟩ : ∃ x, x = wAt weekdays k := ⟨_, rfl⟩
    obtain ⟨hx3, hx9⟩ : 3 ≤ x.size ∧ x.size ≤ 9 := by rw [hx]; exact weekdays_long k hk
    have HX := Lib.hid hx
    clear hx
    go_enter Tryd.func22, Tryd.ntmps22
    go_wp2_with fail
    refine (r_weekdays _).mono ?_
    rintro e w' ⟨b, rfl, hS, hB⟩
    obtain ⟨b', off, e, hb, hc⟩ := hS.2.2 (by omega)
    simp only [Option.some.injEq, Addr.mk.injEq, and_true] at e
    obtain ⟨rfl, rfl⟩ := e
    have hck := hc k hk
    rw [Nat.zero_add, show weekdays.getD k ByteArray.empty = x from HX.out.symm] at hck
    clear hc
    go_wp2_with fail
    go_ret
    exact ⟨ret_string (by rw [H.out, HX.out]), hB⟩
  · have H := Lib.hid (show wtext weekdays n = ByteArray.empty by unfold wtext; rw [if_neg (by omega)])
    clear hml
    by_cases h0 : n < 0
    · clear h
      go_enter Tryd.func22, Tryd.ntmps22
      go_wp2_with fail
      go_ret
      exact ⟨ret_string (by rw [H.out]; rfl), Below.refl _ _⟩
    · have h1 : 6 < n := by omega
      clear h
      go_enter Tryd.func22, Tryd.ntmps22
      go_wp2_with fail
      go_ret
      exact ⟨ret_string (by rw [H.out]; rfl), Below.refl _ _⟩

end Go.Proofs.YtefkdjikbdgidaaDoor
