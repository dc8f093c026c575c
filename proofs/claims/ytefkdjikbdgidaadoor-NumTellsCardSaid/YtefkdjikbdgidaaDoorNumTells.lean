/-
  NumTells: whatever numbers and text are handed in, the law returns true; nothing that was there has turned.
-/
import Derived.Test.YtefkdjikbdgidaaDoorNumLives
set_option linter.unusedVariables false
set_option linter.unusedSimpArgs false
namespace Go.Proofs.YtefkdjikbdgidaaDoor
open Go.RowKit Nt Nt.Num

set_option maxRecDepth 100000 in
set_option maxHeartbeats 4000000 in
theorem numTells_walk (a b low high : Int) (s : ByteArray) (w : World) (ha : Fits a) (hb : Fits b) (hl : Fits low) (hh : Fits high) (hs : s.size ≤ maxLen) :
    Calls Tryd.prog 8 #[.int .i64 a, .int .i64 b, .int .i64 low, .int .i64 high, .string s] w fun e w' => e = .returned (.bool true) ∧ Below w.heap.size w w' := by
  have hs' := hs
  unfold maxLen at hs
  have ha' := Lib.hid ha
  have hb' := Lib.hid hb
  clear ha hb hl hh
  by_cases h1 : 1000 < s.size
  · go_enter Tryd.func8, Tryd.ntmps8
    go_wp2_with fail
    refine (lives01 _).mono ?_
    rintro e w' ⟨rfl, hB⟩
    go_wp2_with fail
    go_ret
    exact ⟨rfl, hB⟩
  · have hB : Below w.heap.size w w := Below.refl _ _
    go_enter Tryd.func8, Tryd.ntmps8
    go_wp2_with fail
    refine (n_add _ _ _ ha'.out hb'.out).mono ?_
    rintro e w' ⟨rfl, rfl⟩
    go_wp2_with fail
    refine (r_add _ _ _ ha'.out hb'.out).mono ?_
    rintro e w' ⟨rfl, rfl⟩
    go_wp2_with fail
    refine (n_sub _ _ _ ha'.out hb'.out).mono ?_
    rintro e w' ⟨rfl, rfl⟩
    go_wp2_with fail
    refine (r_sub _ _ _ ha'.out hb'.out).mono ?_
    rintro e w' ⟨rfl, rfl⟩
    go_wp2_with fail
    refine (n_mul _ _ _ ha'.out hb'.out).mono ?_
    rintro e w' ⟨rfl, rfl⟩
    go_wp2_with fail
    refine (r_mul _ _ _ ha'.out hb'.out).mono ?_
    rintro e w' ⟨rfl, rfl⟩
    go_wp2_with fail
    refine (n_div _ _ _ ha'.out hb'.out).mono ?_
    rintro e w' ⟨rfl, hd⟩
    have hB := hB.trans (below_drew hd)
    clear hd
    go_wp2_with fail
    refine (r_div _ _ _ ha'.out hb'.out).mono ?_
    rintro e w' ⟨rfl, rfl⟩
    go_wp2_with fail
    refine (n_read _ _ hs').mono ?_
    rintro e w' ⟨rfl, hB1⟩
    have hB := hB.trans (hB1.mono hB.size)
    clear hB1
    go_wp2_with fail
    refine (r_read _ _ hs').mono ?_
    rintro e w' ⟨rfl, rfl⟩
    go_wp2_with fail
    refine (n_text _ _ ha'.out).mono ?_
    rintro e w' ⟨rfl, hB1⟩
    have hB := hB.trans (hB1.mono hB.size)
    clear hB1
    go_wp2_with fail
    refine (r_text _ _ ha'.out).mono ?_
    rintro e w' ⟨rfl, rfl⟩
    go_wp2_with fail
    refine (n_clamp _ _ _ _).mono ?_
    rintro e w' ⟨rfl, rfl⟩
    go_wp2_with fail
    refine (r_clamp _ _ _ _).mono ?_
    rintro e w' ⟨rfl, rfl⟩
    go_wp2_with fail
    refine (lives01 _).mono ?_
    rintro e w' ⟨rfl, hB1⟩
    have hB := hB.trans (hB1.mono hB.size)
    clear hB1
    go_wp2_with fail
    go_ret
    exact ⟨rfl, hB⟩

end Go.Proofs.YtefkdjikbdgidaaDoor
