/-
  lives of layer 15: all the answers that it asks for.
-/
import Derived.Test.YtefkdjikbdgidaaDoorWordsTexts
namespace Go.Proofs.YtefkdjikbdgidaaDoor
open Go.RowKit Nt Nt.Words

theorem w_month' (s : ByteArray) (i c : Nat) (hr : month s months = (i, c)) (w : World) (hs : s.size ≤ maxLen) (hS : Strs w (some ⟨0, 0, none⟩) 12 months) :
    Calls Tryd.prog 13 #[.string s] w fun e w' => e = .returned (.tuple #[.int .i64 ↑i, .int .i64 ↑c]) ∧ Below w.heap.size w w' := by
  have := w_month s w hs hS
  rw [hr] at this
  exact this

theorem w_weekday' (s : ByteArray) (i c : Nat) (hr : mt s weekdays = (i, c)) (w : World) (hs : s.size ≤ maxLen) (hS : Strs w (some ⟨1, 0, none⟩) 7 weekdays) :
    Calls Tryd.prog 15 #[.string s] w fun e w' => e = .returned (.tuple #[.int .i64 ↑i, .int .i64 ↑c]) ∧ Below w.heap.size w w' := by
  have := w_weekday s w hs hS
  rw [hr] at this
  exact this

theorem w_same' (a b : ByteArray) (t : Bool) (hr : same a b = t) (w : World) (ha : a.size ≤ maxLen) (hb : b.size ≤ maxLen) :
    Calls Tryd.prog 17 #[.string a, .string b] w fun e w' => e = .returned (.bool t) ∧ Below w.heap.size w w' := by
  subst hr
  exact (w_same a b w ha hb).mono fun _ _ ⟨h1, n, h2⟩ => ⟨h1, by rw [h2]; exact below_drewN (Below.refl _ _) _⟩

theorem w_monthText' (n : Int) (t : ByteArray) (hr : wtext months (n - 1) = t) (w : World) (hS : Strs w (some ⟨0, 0, none⟩) 12 months) (hn : -9223372036854775808 ≤ n ∧ n ≤ 9223372036854775807) :
    Calls Tryd.prog 19 #[.int .i64 n] w fun e w' => e = .returned (.string t) ∧ Below w.heap.size w w' := by
  subst hr
  exact (w_monthText n w hS hn).mono fun _ _ ⟨h1, h2⟩ => ⟨h1, by rw [h2]; exact Below.refl _ _⟩

theorem w_weekdayText' (n : Int) (t : ByteArray) (hr : wtext weekdays n = t) (w : World) (hS : Strs w (some ⟨1, 0, none⟩) 7 weekdays) (hn : -9223372036854775808 ≤ n ∧ n ≤ 9223372036854775807) :
    Calls Tryd.prog 21 #[.int .i64 n] w fun e w' => e = .returned (.string t) ∧ Below w.heap.size w w' := by
  subst hr
  exact (w_weekdayText n w hS hn).mono fun _ _ ⟨h1, h2⟩ => ⟨h1, by rw [h2]; exact Below.refl _ _⟩

set_option maxRecDepth 100000 in
set_option maxHeartbeats 2000000 in
theorem lives15 (w : World) (hM : Strs w (some ⟨0, 0, none⟩) 12 months) (hW : Strs w (some ⟨1, 0, none⟩) 7 weekdays) :
    Calls Tryd.prog 10 #[] w fun e w' => e = .returned (.bool true) ∧ Below w.heap.size w w' := by
  have hB : Below w.heap.size w w := Below.refl _ _
  go_enter Tryd.func10, Tryd.ntmps10
  go_wp2_with fail
  refine (w_month' ⟨#[70]⟩ 2 0 (by decide +kernel) _ (by decide) (hM.below hB)).mono ?_
  rintro e w' ⟨rfl, hB'⟩
  have hB := hB.trans (hB'.mono hB.size)
  clear hB'
  go_wp2_with fail
  refine (w_month' ⟨#[70, 69, 66, 82, 85, 65, 82, 89]⟩ 2 0 (by decide +kernel) _ (by decide) (hM.below hB)).mono ?_
  rintro e w' ⟨rfl, hB'⟩
  have hB := hB.trans (hB'.mono hB.size)
  clear hB'
  go_wp2_with fail
  refine (w_month' ⟨#[74, 117]⟩ 0 3 (by decide +kernel) _ (by decide) (hM.below hB)).mono ?_
  rintro e w' ⟨rfl, hB'⟩
  have hB := hB.trans (hB'.mono hB.size)
  clear hB'
  go_wp2_with fail
  refine (w_month' ⟨#[106, 117, 110]⟩ 6 0 (by decide +kernel) _ (by decide) (hM.below hB)).mono ?_
  rintro e w' ⟨rfl, hB'⟩
  have hB := hB.trans (hB'.mono hB.size)
  clear hB'
  go_wp2_with fail
  refine (w_month' ⟨#[]⟩ 0 3 (by decide +kernel) _ (by decide) (hM.below hB)).mono ?_
  rintro e w' ⟨rfl, hB'⟩
  have hB := hB.trans (hB'.mono hB.size)
  clear hB'
  go_wp2_with fail
  refine (w_month' ⟨#[74, 97, 110, 117, 97, 114, 121, 120]⟩ 0 3 (by decide +kernel) _ (by decide) (hM.below hB)).mono ?_
  rintro e w' ⟨rfl, hB'⟩
  have hB := hB.trans (hB'.mono hB.size)
  clear hB'
  go_wp2_with fail
  refine (w_weekday' ⟨#[83, 97, 116]⟩ 6 0 (by decide +kernel) _ (by decide) (hW.below hB)).mono ?_
  rintro e w' ⟨rfl, hB'⟩
  have hB := hB.trans (hB'.mono hB.size)
  clear hB'
  go_wp2_with fail
  refine (w_weekday' ⟨#[83]⟩ 0 3 (by decide +kernel) _ (by decide) (hW.below hB)).mono ?_
  rintro e w' ⟨rfl, hB'⟩
  have hB := hB.trans (hB'.mono hB.size)
  clear hB'
  go_wp2_with fail
  refine (w_weekday' ⟨#[84, 117]⟩ 2 0 (by decide +kernel) _ (by decide) (hW.below hB)).mono ?_
  rintro e w' ⟨rfl, hB'⟩
  have hB := hB.trans (hB'.mono hB.size)
  clear hB'
  go_wp2_with fail
  have hS := Strs.made w' 9 [⟨#[105, 110, 110, 101, 114]⟩, ⟨#[105, 110]⟩, ⟨#[120]⟩] 3 rfl (small_mem (by decide))
  have hB := hB.alloc hB.size (.cells (([⟨#[105, 110, 110, 101, 114]⟩, ⟨#[105, 110]⟩, ⟨#[120]⟩] : List ByteArray).map Value.string).toArray 9)
  refine (w_match' ⟨#[105, 110]⟩ _ _ _ [⟨#[105, 110, 110, 101, 114]⟩, ⟨#[105, 110]⟩, ⟨#[120]⟩] 1 0 (by decide +kernel) _ (by decide) hS (by omega)).mono ?_
  clear hS
  rintro e w' ⟨rfl, hB'⟩
  have hB := hB.trans (hB'.mono hB.size)
  clear hB'
  go_wp2_with fail
  have hS := Strs.made w' 9 [⟨#[105, 110, 110, 101, 114]⟩, ⟨#[105, 110]⟩] 2 rfl (small_mem (by decide))
  have hB := hB.alloc hB.size (.cells (([⟨#[105, 110, 110, 101, 114]⟩, ⟨#[105, 110]⟩] : List ByteArray).map Value.string).toArray 9)
  refine (w_match' ⟨#[105]⟩ _ _ _ [⟨#[105, 110, 110, 101, 114]⟩, ⟨#[105, 110]⟩] 0 3 (by decide +kernel) _ (by decide) hS (by omega)).mono ?_
  clear hS
  rintro e w' ⟨rfl, hB'⟩
  have hB := hB.trans (hB'.mono hB.size)
  clear hB'
  go_wp2_with fail
  have hS := Strs.made w' 9 [⟨#[120]⟩, ⟨#[73, 110]⟩, ⟨#[105, 78]⟩] 3 rfl (small_mem (by decide))
  have hB := hB.alloc hB.size (.cells (([⟨#[120]⟩, ⟨#[73, 110]⟩, ⟨#[105, 78]⟩] : List ByteArray).map Value.string).toArray 9)
  refine (w_match' ⟨#[105]⟩ _ _ _ [⟨#[120]⟩, ⟨#[73, 110]⟩, ⟨#[105, 78]⟩] 1 0 (by decide +kernel) _ (by decide) hS (by omega)).mono ?_
  clear hS
  rintro e w' ⟨rfl, hB'⟩
  have hB := hB.trans (hB'.mono hB.size)
  clear hB'
  go_wp2_with fail
  refine (w_match' ⟨#[97]⟩ none 0 0 [] 0 3 (by decide +kernel) _ (by decide) ⟨rfl, by simp, by omega⟩ (by omega)).mono ?_
  rintro e w' ⟨rfl, hB'⟩
  have hB := hB.trans (hB'.mono hB.size)
  clear hB'
  go_wp2_with fail
  refine (w_same' ⟨#[97, 66]⟩ ⟨#[65, 98]⟩ true (by decide +kernel) _ (by decide) (by decide)).mono ?_
  rintro e w' ⟨rfl, hB'⟩
  have hB := hB.trans (hB'.mono hB.size)
  clear hB'
  go_wp2_with fail
  refine (w_same' ⟨#[97]⟩ ⟨#[97, 98]⟩ false (by decide +kernel) _ (by decide) (by decide)).mono ?_
  rintro e w' ⟨rfl, hB'⟩
  have hB := hB.trans (hB'.mono hB.size)
  clear hB'
  go_wp2_with fail
  refine (w_same' ⟨#[91]⟩ ⟨#[123]⟩ false (by decide +kernel) _ (by decide) (by decide)).mono ?_
  rintro e w' ⟨rfl, hB'⟩
  have hB := hB.trans (hB'.mono hB.size)
  clear hB'
  go_wp2_with fail
  refine (w_monthText' 9 ⟨#[83, 101, 112]⟩ (by decide +kernel) _ (hM.below hB) (by decide)).mono ?_
  rintro e w' ⟨rfl, hB'⟩
  have hB := hB.trans (hB'.mono hB.size)
  clear hB'
  go_wp2_with fail
  refine (w_monthText' 0 ⟨#[]⟩ (by decide +kernel) _ (hM.below hB) (by decide)).mono ?_
  rintro e w' ⟨rfl, hB'⟩
  have hB := hB.trans (hB'.mono hB.size)
  clear hB'
  go_wp2_with fail
  refine (w_weekdayText' 0 ⟨#[83, 117, 110]⟩ (by decide +kernel) _ (hW.below hB) (by decide)).mono ?_
  rintro e w' ⟨rfl, hB'⟩
  have hB := hB.trans (hB'.mono hB.size)
  clear hB'
  go_wp2_with fail
  refine (w_weekdayText' 7 ⟨#[]⟩ (by decide +kernel) _ (hW.below hB) (by decide)).mono ?_
  rintro e w' ⟨rfl, hB'⟩
  have hB := hB.trans (hB'.mono hB.size)
  clear hB'
  go_wp2_with fail
  go_ret
  exact ⟨rfl, hB⟩

end Go.Proofs.YtefkdjikbdgidaaDoor
