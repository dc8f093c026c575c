/-
  lives of layer 1: all the answers that it asks for.
-/
import Derived.Test.YtefkdjikbdgidaaDoorNumWalks2
import Derived.Test.YtefkdjikbdgidaaDoorNumMulR
import Derived.Test.YtefkdjikbdgidaaDoorNumText
import Derived.Test.YtefkdjikbdgidaaDoorNumTextR
import Derived.Test.YtefkdjikbdgidaaDoorNumRead
import Derived.Test.YtefkdjikbdgidaaDoorNumReadRB
set_option linter.unusedVariables false
set_option linter.unusedSimpArgs false
namespace Go.Proofs.YtefkdjikbdgidaaDoor
open Go.RowKit Nt Nt.Num

theorem belowR (w : World) : Below w.heap.size w w := Below.refl _ _

theorem q_add (a b r1 r2 : Int) (hr : told (a + b) = (r1, r2)) (w : World) (ha : Fits a) (hb : Fits b) :
    Calls Tryd.prog 30 #[.int .i64 a, .int .i64 b] w fun e w' => e = .returned (.tuple #[.int .i64 r1, .int .i64 r2]) ∧ Below w.heap.size w w' := by
  have := n_add a b w ha hb
  rw [hr] at this
  exact this.mono fun _ _ ⟨h1, h2⟩ => ⟨h1, by rw [h2]; exact belowR _⟩

theorem q_sub (a b r1 r2 : Int) (hr : told (a - b) = (r1, r2)) (w : World) (ha : Fits a) (hb : Fits b) :
    Calls Tryd.prog 32 #[.int .i64 a, .int .i64 b] w fun e w' => e = .returned (.tuple #[.int .i64 r1, .int .i64 r2]) ∧ Below w.heap.size w w' := by
  have := n_sub a b w ha hb
  rw [hr] at this
  exact this.mono fun _ _ ⟨h1, h2⟩ => ⟨h1, by rw [h2]; exact belowR _⟩

theorem q_mul (a b r1 r2 : Int) (hr : told (a * b) = (r1, r2)) (w : World) (ha : Fits a) (hb : Fits b) :
    Calls Tryd.prog 34 #[.int .i64 a, .int .i64 b] w fun e w' => e = .returned (.tuple #[.int .i64 r1, .int .i64 r2]) ∧ Below w.heap.size w w' := by
  have := n_mul a b w ha hb
  rw [hr] at this
  exact this.mono fun _ _ ⟨h1, h2⟩ => ⟨h1, by rw [h2]; exact belowR _⟩

theorem q_div (a b r1 r2 r3 : Int) (hr : divs a b = (r1, r2, r3)) (w : World) (ha : Fits a) (hb : Fits b) :
    Calls Tryd.prog 36 #[.int .i64 a, .int .i64 b] w fun e w' => e = .returned (.tuple #[.int .i64 r1, .int .i64 r2, .int .i64 r3]) ∧ Below w.heap.size w w' := by
  have := n_div a b w ha hb
  rw [hr] at this
  exact this.mono fun _ _ ⟨h1, h2⟩ => ⟨h1, below_drew h2⟩

theorem q_read (s : ByteArray) (r1 r2 : Int) (hr : read s.data.toList = (r1, r2)) (w : World) (hs : s.size ≤ maxLen) :
    Calls Tryd.prog 38 #[.string s] w fun e w' => e = .returned (.tuple #[.int .i64 r1, .int .i64 r2]) ∧ Below w.heap.size w w' := by
  have := n_read s w hs
  rw [hr] at this
  exact this

theorem q_text (n : Int) (t : ByteArray) (hr : bs (text n) = t) (w : World) (ha : Fits n) :
    Calls Tryd.prog 28 #[.int .i64 n] w fun e w' => e = .returned (.string t) ∧ Below w.heap.size w w' := by
  have := n_text n w ha
  rw [hr] at this
  exact this

theorem q_clamp (n low high r : Int) (hr : clamp n low high = r) (w : World) :
    Calls Tryd.prog 41 #[.int .i64 n, .int .i64 low, .int .i64 high] w fun e w' => e = .returned (.int .i64 r) ∧ Below w.heap.size w w' := by
  have := n_clamp n low high w
  rw [hr] at this
  exact this.mono fun _ _ ⟨h1, h2⟩ => ⟨h1, by rw [h2]; exact belowR _⟩

set_option maxRecDepth 100000 in
set_option maxHeartbeats 4000000 in
theorem lives01 (w : World) :
    Calls Tryd.prog 29 #[] w fun e w' => e = .returned (.bool true) ∧ Below w.heap.size w w' := by
  have hB : Below w.heap.size w w := Below.refl _ _
  go_enter Tryd.func29, Tryd.ntmps29
  go_wp2_with fail
  refine (q_div (-7) 2 (-4) 1 0 (by decide +kernel) _ (by decide) (by decide)).mono ?_
  rintro e w' ⟨rfl, hB'⟩
  have hB := hB.trans (hB'.mono hB.size)
  clear hB'
  go_wp2_with fail
  refine (q_div 7 (-2) (-4) (-1) 0 (by decide +kernel) _ (by decide) (by decide)).mono ?_
  rintro e w' ⟨rfl, hB'⟩
  have hB := hB.trans (hB'.mono hB.size)
  clear hB'
  go_wp2_with fail
  refine (q_div (-9223372036854775808) (-1) 0 0 1 (by decide +kernel) _ (by decide) (by decide)).mono ?_
  rintro e w' ⟨rfl, hB'⟩
  have hB := hB.trans (hB'.mono hB.size)
  clear hB'
  go_wp2_with fail
  refine (q_div 1 0 0 0 1 (by decide +kernel) _ (by decide) (by decide)).mono ?_
  rintro e w' ⟨rfl, hB'⟩
  have hB := hB.trans (hB'.mono hB.size)
  clear hB'
  go_wp2_with fail
  refine (q_add 2 3 5 0 (by decide +kernel) _ (by decide) (by decide)).mono ?_
  rintro e w' ⟨rfl, hB'⟩
  have hB := hB.trans (hB'.mono hB.size)
  clear hB'
  go_wp2_with fail
  refine (q_add 9223372036854775807 1 0 1 (by decide +kernel) _ (by decide) (by decide)).mono ?_
  rintro e w' ⟨rfl, hB'⟩
  have hB := hB.trans (hB'.mono hB.size)
  clear hB'
  go_wp2_with fail
  refine (q_sub 2 3 (-1) 0 (by decide +kernel) _ (by decide) (by decide)).mono ?_
  rintro e w' ⟨rfl, hB'⟩
  have hB := hB.trans (hB'.mono hB.size)
  clear hB'
  go_wp2_with fail
  refine (q_sub (-9223372036854775808) 1 0 1 (by decide +kernel) _ (by decide) (by decide)).mono ?_
  rintro e w' ⟨rfl, hB'⟩
  have hB := hB.trans (hB'.mono hB.size)
  clear hB'
  go_wp2_with fail
  refine (q_mul (-3) 4 (-12) 0 (by decide +kernel) _ (by decide) (by decide)).mono ?_
  rintro e w' ⟨rfl, hB'⟩
  have hB := hB.trans (hB'.mono hB.size)
  clear hB'
  go_wp2_with fail
  refine (q_mul (-9223372036854775808) (-1) 0 1 (by decide +kernel) _ (by decide) (by decide)).mono ?_
  rintro e w' ⟨rfl, hB'⟩
  have hB := hB.trans (hB'.mono hB.size)
  clear hB'
  go_wp2_with fail
  refine (q_read ⟨#[45, 57, 50, 50, 51, 51, 55, 50, 48, 51, 54, 56, 53, 52, 55, 55, 53, 56, 48, 56]⟩ (-9223372036854775808) 0 (by decide +kernel) _ (by decide)).mono ?_
  rintro e w' ⟨rfl, hB'⟩
  have hB := hB.trans (hB'.mono hB.size)
  clear hB'
  go_wp2_with fail
  refine (q_read ⟨#[57, 50, 50, 51, 51, 55, 50, 48, 51, 54, 56, 53, 52, 55, 55, 53, 56, 48, 56]⟩ 0 1 (by decide +kernel) _ (by decide)).mono ?_
  rintro e w' ⟨rfl, hB'⟩
  have hB := hB.trans (hB'.mono hB.size)
  clear hB'
  go_wp2_with fail
  refine (q_read ⟨#[45, 48]⟩ 0 2 (by decide +kernel) _ (by decide)).mono ?_
  rintro e w' ⟨rfl, hB'⟩
  have hB := hB.trans (hB'.mono hB.size)
  clear hB'
  go_wp2_with fail
  refine (q_read ⟨#[48, 48, 55]⟩ 0 2 (by decide +kernel) _ (by decide)).mono ?_
  rintro e w' ⟨rfl, hB'⟩
  have hB := hB.trans (hB'.mono hB.size)
  clear hB'
  go_wp2_with fail
  refine (q_read ⟨#[]⟩ 0 2 (by decide +kernel) _ (by decide)).mono ?_
  rintro e w' ⟨rfl, hB'⟩
  have hB := hB.trans (hB'.mono hB.size)
  clear hB'
  go_wp2_with fail
  refine (q_read ⟨#[43, 49]⟩ 0 2 (by decide +kernel) _ (by decide)).mono ?_
  rintro e w' ⟨rfl, hB'⟩
  have hB := hB.trans (hB'.mono hB.size)
  clear hB'
  go_wp2_with fail
  refine (q_text (-9223372036854775808) ⟨#[45, 57, 50, 50, 51, 51, 55, 50, 48, 51, 54, 56, 53, 52, 55, 55, 53, 56, 48, 56]⟩ (by decide +kernel) _ (by decide)).mono ?_
  rintro e w' ⟨rfl, hB'⟩
  have hB := hB.trans (hB'.mono hB.size)
  clear hB'
  go_wp2_with fail
  refine (q_text 0 ⟨#[48]⟩ (by decide +kernel) _ (by decide)).mono ?_
  rintro e w' ⟨rfl, hB'⟩
  have hB := hB.trans (hB'.mono hB.size)
  clear hB'
  go_wp2_with fail
  refine (q_clamp 5 1 3 3 (by decide +kernel) _).mono ?_
  rintro e w' ⟨rfl, hB'⟩
  have hB := hB.trans (hB'.mono hB.size)
  clear hB'
  go_wp2_with fail
  refine (q_clamp 5 7 3 7 (by decide +kernel) _).mono ?_
  rintro e w' ⟨rfl, hB'⟩
  have hB := hB.trans (hB'.mono hB.size)
  clear hB'
  go_wp2_with fail
  refine (q_clamp 2 1 3 2 (by decide +kernel) _).mono ?_
  rintro e w' ⟨rfl, hB'⟩
  have hB := hB.trans (hB'.mono hB.size)
  clear hB'
  go_wp2_with fail
  go_ret
  exact ⟨rfl, hB⟩

end Go.Proofs.YtefkdjikbdgidaaDoor
