/-
  WordsTell: whatever words and numbers are handed in, the law returns true; nothing that was there has turned.
-/
import Derived.Test.YtefkdjikbdgidaaDoorWordsLives
namespace Go.Proofs.YtefkdjikbdgidaaDoor
open Go.RowKit Nt Nt.Words

set_option maxRecDepth 100000 in
set_option maxHeartbeats 2000000 in
theorem wordsTell_walk (s t : ByteArray) (p : Option Addr) (len cap : Nat) (ws : List ByteArray) (n : Int) (w : World) (hs : s.size ≤ maxLen) (ht : t.size ≤ maxLen) (hS : Strs w p len ws)
    (hn : -9223372036854775808 ≤ n ∧ n ≤ 9223372036854775807)
    (hM : Strs w (some ⟨0, 0, none⟩) 12 months) (hW : Strs w (some ⟨1, 0, none⟩) 7 weekdays) :
    Calls Tryd.prog 3 #[.string s, .string t, .slice p len cap, .int .i64 n] w fun e w' => e = .returned (.bool true) ∧ Below w.heap.size w w' := by
  have hs' := hs
  have ht' := ht
  unfold maxLen at hs ht
  by_cases hg : 500 < s.size ∨ 500 < t.size ∨ 60 < len
  · have fin : ∀ (x : Prop), x → x := fun _ h => h
    by_cases h1 : 500 < s.size
    · clear hg
      go_enter Tryd.func3, Tryd.ntmps3
      go_wp2_with fail
      refine (lives15 _ hM hW).mono ?_
      rintro e w' ⟨rfl, hB⟩
      go_wp2_with fail
      go_ret
      exact ⟨rfl, hB⟩
    · by_cases h2 : 500 < t.size
      · clear hg
        go_enter Tryd.func3, Tryd.ntmps3
        go_wp2_with fail
        refine (lives15 _ hM hW).mono ?_
        rintro e w' ⟨rfl, hB⟩
        go_wp2_with fail
        go_ret
        exact ⟨rfl, hB⟩
      · have h3 : 60 < len := by omega
        clear hg
        go_enter Tryd.func3, Tryd.ntmps3
        go_wp2_with fail
        refine (lives15 _ hM hW).mono ?_
        rintro e w' ⟨rfl, hB⟩
        go_wp2_with fail
        go_ret
        exact ⟨rfl, hB⟩
  · obtain ⟨h1, h2, h3⟩ : s.size ≤ 500 ∧ t.size ≤ 500 ∧ len ≤ 60 := by omega
    clear hg
    go_enter Tryd.func3, Tryd.ntmps3
    go_wp2_with fail
    go_loop [39] (fun i => ∃ k : Nat, k ≤ len ∧ i = .int .i64 k) (fun i => len - (intOf i).toNat)
    case atStart => exact ⟨0, Nat.zero_le _, rfl⟩
    case round =>
      obtain ⟨k, hk, rfl⟩ := hrel
      by_cases hlt : k < len
      · obtain ⟨b, off, rfl, hb, hc⟩ := hS.2.2 (by omega)
        obtain ⟨x, hx⟩ : ∃ x, x = wAt ws k := ⟨_, rfl⟩
        have hck : w.cell? ⟨b, off + k, none⟩ = some (.string x) := by rw [hx]; exact hc k hlt
        have hxs : x.size ≤ maxLen := by rw [hx]; exact hS.mem hlt
        unfold maxLen at hxs
        clear hx hc
        by_cases h200 : 200 < x.size
        · go_wp2_with fail
          refine (lives15 _ hM hW).mono ?_
          rintro e w' ⟨rfl, hB⟩
          go_wp2_with fail
          go_ret
          exact ⟨rfl, hB⟩
        · go_wp2_with fail
          go_round
          case rel => exact ⟨k + 1, by omega, by go_num⟩
          case measure => simp [intOf]; omega
      · obtain rfl : k = len := by omega
        clear hlt
        have hB : Below w.heap.size w w := Below.refl _ _
        go_wp2_with fail
        refine (w_match _ _ _ _ _ _ hs' hS (by omega)).mono ?_
        rintro e w1 ⟨rfl, hB1⟩
        have hB := hB.trans (hB1.mono hB.size)
        go_wp2_with fail
        refine (r_match _ _ _ _ _ _ hs' (hS.below hB) (by omega)).mono ?_
        rintro e w' ⟨rfl, n1, rfl⟩
        have hB := below_drewN hB n1
        go_wp2_with fail
        refine (w_month _ _ hs' (hM.below hB)).mono ?_
        rintro e w2 ⟨rfl, hB1⟩
        have hB := hB.trans (hB1.mono hB.size)
        go_wp2_with fail
        refine (r_month _ _ hs').mono ?_
        rintro e w3 ⟨rfl, hB1⟩
        have hB := hB.trans (hB1.mono hB.size)
        go_wp2_with fail
        refine (w_weekday _ _ hs' (hW.below hB)).mono ?_
        rintro e w4 ⟨rfl, hB1⟩
        have hB := hB.trans (hB1.mono hB.size)
        go_wp2_with fail
        refine (r_weekday _ _ hs').mono ?_
        rintro e w5 ⟨rfl, hB1⟩
        have hB := hB.trans (hB1.mono hB.size)
        go_wp2_with fail
        refine (w_same _ _ _ hs' ht').mono ?_
        rintro e w6 ⟨rfl, hd⟩
        have hB := hB.trans (below_drew hd)
        clear hd
        go_wp2_with fail
        refine (r_same _ _ _ hs' ht').mono ?_
        rintro e w7 ⟨rfl, hd⟩
        have hB := hB.trans (below_drew hd)
        clear hd
        go_wp2_with fail
        refine (w_monthText _ _ (hM.below hB) hn).mono ?_
        rintro e w' ⟨rfl, rfl⟩
        go_wp2_with fail
        refine (r_monthText _ _ hn).mono ?_
        rintro e w8 ⟨rfl, hB1⟩
        have hB := hB.trans (hB1.mono hB.size)
        go_wp2_with fail
        refine (w_weekdayText _ _ (hW.below hB) hn).mono ?_
        rintro e w' ⟨rfl, rfl⟩
        go_wp2_with fail
        refine (r_weekdayText _ _ hn).mono ?_
        rintro e w9 ⟨rfl, hB1⟩
        have hB := hB.trans (hB1.mono hB.size)
        go_wp2_with fail
        refine (lives15 _ (hM.below hB) (hW.below hB)).mono ?_
        rintro e w10 ⟨rfl, hB1⟩
        have hB := hB.trans (hB1.mono hB.size)
        go_wp2_with fail
        go_ret
        exact ⟨rfl, hB⟩
end Go.Proofs.YtefkdjikbdgidaaDoor
