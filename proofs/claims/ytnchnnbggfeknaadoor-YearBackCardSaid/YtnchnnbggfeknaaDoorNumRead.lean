/-
  num.Read: the number of a text.
-/
import Derived.Test.YtnchnnbggfeknaaDoorNumCut
import Derived.Test.YtnchnnbggfeknaaDoorNumMul
import Derived.Test.YtnchnnbggfeknaaDoorBytes
set_option linter.unusedVariables false
set_option linter.unusedSimpArgs false
namespace Go.Proofs.YtnchnnbggfeknaaDoor
open Go.RowKit Nt Nt.Num

theorem n_mul' (a b r c : Int) (hr : told (a * b) = (r, c)) (w : World) (ha : Fits a) (hb : Fits b) :
    Calls Tryd.prog 154 #[.int .i64 a, .int .i64 b] w fun e w' => e = .returned (.tuple #[.int .i64 r, .int .i64 c]) ∧ w' = w := by
  have := n_mul a b w ha hb
  rw [hr] at this
  exact this

theorem n_add' (a b r c : Int) (hr : told (a + b) = (r, c)) (w : World) (ha : Fits a) (hb : Fits b) :
    Calls Tryd.prog 155 #[.int .i64 a, .int .i64 b] w fun e w' => e = .returned (.tuple #[.int .i64 r, .int .i64 c]) ∧ w' = w := by
  have := n_add a b w ha hb
  rw [hr] at this
  exact this

set_option maxRecDepth 100000 in
set_option maxHeartbeats 2000000 in
theorem n_read (s : ByteArray) (w : World) (hs : s.size ≤ maxLen) :
    Calls Tryd.prog 114 #[.string s] w fun e w' => e = .returned (.tuple #[.int .i64 (read s.data.toList).1, .int .i64 (read s.data.toList).2]) ∧ Below w.heap.size w w' := by
  have C := n_cut s w hs
  have hlen : (bare s.data.toList).length ≤ s.size := by have := bare_len s.data.toList; simpa using this
  have hread : read s.data.toList = if good s.data.toList then told (signed (minus s.data.toList) (val (bare s.data.toList))) else (0, 2) := rfl
  have hgood : good s.data.toList = true → (bare s.data.toList).all isDigit = true := fun h => by unfold good at h; simp only [Bool.and_eq_true] at h; exact h.1.1
  generalize read s.data.toList = R at *
  generalize good s.data.toList = G at *
  generalize minus s.data.toList = M at *
  obtain ⟨d, hd⟩ : ∃ d, d = bare s.data.toList := ⟨_, rfl⟩
  rw [← hd] at C hlen hread hgood
  clear hd
  obtain ⟨D, hD⟩ : ∃ D, D = bs d := ⟨_, rfl⟩
  rw [← hD] at C
  have hDd : D.data.toList = d := by rw [hD]; rfl
  have hDs : D.size = d.length := by rw [← hDd]; simp
  have HC := Lib.hid C
  clear C hD
  cases G with
  | false =>
    have H : Hid (R = (0, 2)) := hread
    clear hread hgood
    go_enter Tryd.func114, Tryd.ntmps114
    go_wp2_with fail
    refine HC.out.mono ?_
    rintro e w1 ⟨rfl, hB⟩
    go_wp2_with fail
    go_ret2
    exact ⟨by rw [H.out]; rfl, hB⟩
  | true =>
    have hall := Lib.hid (hgood rfl)
    have HR : Hid (R = told (signed M (val d))) := hread
    have HDs := Lib.hid hDs
    have hDl : D.size ≤ s.size := by omega
    have HDd := Lib.hid hDd
    unfold maxLen at hs
    clear hread hgood hDs hDd hlen
    go_enter Tryd.func114, Tryd.ntmps114
    go_wp2_with fail
    refine HC.out.mono ?_
    clear HC
    rintro e w1 ⟨rfl, hB⟩
    obtain ⟨cap, w2, hcv, hB2, hg2, hcell⟩ := run_bytes (P := Tryd.prog) w1 9 94 5 D Tryd.underlying9 Tryd.underlying94 Tryd.underlying5
    have hB' := hB.trans (hB2.mono hB.size)
    obtain ⟨g, hg⟩ : ∃ g, g = w1.heap.size := ⟨_, rfl⟩
    rw [← hg] at hcv hcell
    have Hcell := Lib.hid hcell
    clear hcell hg hB2 hg2 hB
    go_wp2_with fail
    go_loop [7, 24] (fun a i => ∃ k : Nat, k ≤ D.size ∧ i = .int .i64 (k : Int) ∧ a = .int .i64 (signed M (val (d.take k))) ∧ Hid (Fits (signed M (val (d.take k))))) (fun _ i => D.size - (intOf i).toNat)
    case atStart => exact ⟨0, by omega, rfl, by simp [val, signed], by show Fits _; simp [val, signed]; decide⟩
    case round =>
      obtain ⟨k, hk, rfl, rfl, hfit⟩ := hrel
      by_cases hlt : k < D.size
      · have hkd : k < d.length := by rw [← HDs.out]; exact hlt
        have hck := Hcell.out k hlt
        have hat : D[k] = d.getD k 0 := by rw [← HDd.out]; exact (at_get D k hlt).symm
        have hdig := List.all_eq_true.1 hall.out (d.getD k 0) (by rw [List.getD_eq_getElem?_getD, List.getElem?_eq_getElem hkd]; exact List.getElem_mem _)
        simp only [isDigit, Bool.and_eq_true, decide_eq_true_eq] at hdig
        have hstep := signed_step M d k hkd hall.out
        have hlost : ¬ Fits (signed M (val (d.take (k + 1)))) → ¬ Fits (signed M (val d)) := signed_lost M _ _ (val_le d (k + 1))
        rw [hat] at hck
        obtain ⟨c, hc⟩ : ∃ c : Nat, c = (d.getD k 0).toNat := ⟨_, rfl⟩
        rw [← hc] at hck hdig hstep
        obtain ⟨c1, c2⟩ := hdig
        obtain ⟨acc, hacc⟩ : ∃ acc, acc = signed M (val (d.take k)) := ⟨_, rfl⟩
        obtain ⟨nxt, hnxt⟩ : ∃ nxt, nxt = signed M (val (d.take (k + 1))) := ⟨_, rfl⟩
        have hsg : (M = false → 0 ≤ acc) ∧ (M = true → acc ≤ 0) := by rw [hacc]; unfold signed; cases M <;> simp
        rw [← hacc] at hfit hstep ⊢
        rw [← hnxt] at hstep hlost
        have HNX := Lib.hid hnxt
        have Hlost := Lib.hid hlost
        clear hat hc hacc hnxt hlost
        by_cases hm : Fits (acc * 10)
        · clear hsg
          have E1 := told_yes hm
          have M1 := Lib.hid (n_mul' acc 10 _ _ E1 w2 hfit.out (by decide))
          clear E1
          by_cases hn : Fits nxt
          · have E2 := told_yes hn
            cases M
            · have hs2 : nxt = acc * 10 + ((c : Int) - 48) := by simpa using hstep
              rw [hs2] at E2
              have A1 := Lib.hid (n_add' (acc * 10) ((c : Int) - 48) _ _ E2 w2 hm (by unfold Fits; omega))
              have HS := Lib.hid hs2
              have HN := Lib.hid hn
              clear E2 hstep hs2 hm hn
              go_wp2_with fail
              refine M1.out.mono ?_
              rintro e w' ⟨rfl, rfl⟩
              go_wp2_with fail
              refine A1.out.mono ?_
              rintro e w' ⟨rfl, rfl⟩
              go_wp2_with fail
              go_round
              case rel => exact ⟨k + 1, by omega, by go_num, by rw [← HNX.out, HS.out], by rw [← HNX.out]; exact HN.out⟩
              case measure => simp [intOf]; omega
            · have hs2 : nxt = acc * 10 + -((c : Int) - 48) := by simpa using hstep
              rw [hs2] at E2
              have A1 := Lib.hid (n_add' (acc * 10) (-((c : Int) - 48)) _ _ E2 w2 hm (by unfold Fits; omega))
              have HS := Lib.hid hs2
              have HN := Lib.hid hn
              clear E2 hstep hs2 hm hn
              go_wp2_with fail
              refine M1.out.mono ?_
              rintro e w' ⟨rfl, rfl⟩
              go_wp2_with fail
              refine A1.out.mono ?_
              rintro e w' ⟨rfl, rfl⟩
              go_wp2_with fail
              go_round
              case rel => exact ⟨k + 1, by omega, by go_num, by rw [← HNX.out, HS.out], by rw [← HNX.out]; exact HN.out⟩
              case measure => simp [intOf]; omega
          · have E2 := told_no hn
            have HF := Lib.hid (told_no (Hlost.out hn))
            cases M
            · have hs2 : nxt = acc * 10 + ((c : Int) - 48) := by simpa using hstep
              rw [hs2] at E2
              have A1 := Lib.hid (n_add' (acc * 10) ((c : Int) - 48) _ _ E2 w2 hm (by unfold Fits; omega))
              clear E2 hstep hs2 hm hn
              go_wp2_with fail
              refine M1.out.mono ?_
              rintro e w' ⟨rfl, rfl⟩
              go_wp2_with fail
              refine A1.out.mono ?_
              rintro e w' ⟨rfl, rfl⟩
              go_wp2_with fail
              go_ret2
              exact ⟨by rw [HR.out, HF.out]; rfl, hB'⟩
            · have hs2 : nxt = acc * 10 + -((c : Int) - 48) := by simpa using hstep
              rw [hs2] at E2
              have A1 := Lib.hid (n_add' (acc * 10) (-((c : Int) - 48)) _ _ E2 w2 hm (by unfold Fits; omega))
              clear E2 hstep hs2 hm hn
              go_wp2_with fail
              refine M1.out.mono ?_
              rintro e w' ⟨rfl, rfl⟩
              go_wp2_with fail
              refine A1.out.mono ?_
              rintro e w' ⟨rfl, rfl⟩
              go_wp2_with fail
              go_ret2
              exact ⟨by rw [HR.out, HF.out]; rfl, hB'⟩
        · have M1 := Lib.hid (n_mul' acc 10 _ _ (told_no hm) w2 hfit.out (by decide))
          have hn : ¬ Fits nxt := by
            have hf := hfit.out
            intro hn
            apply hm
            unfold Fits at hn hf ⊢
            cases M
            · have h1 := hsg.1 rfl
              have h2 : nxt = acc * 10 + ((c : Int) - 48) := by simpa using hstep
              omega
            · have h1 := hsg.2 rfl
              have h2 : nxt = acc * 10 + -((c : Int) - 48) := by simpa using hstep
              omega
          have HF := Lib.hid (told_no (Hlost.out hn))
          clear hstep hm hn hsg
          cases M
          · have A1 := Lib.hid (n_add' 0 ((c : Int) - 48) _ _ (told_yes (by unfold Fits; omega)) w2 (by decide) (by unfold Fits; omega))
            go_wp2_with fail
            refine M1.out.mono ?_
            rintro e w' ⟨rfl, rfl⟩
            go_wp2_with fail
            refine A1.out.mono ?_
            rintro e w' ⟨rfl, rfl⟩
            go_wp2_with fail
            go_ret2
            exact ⟨by rw [HR.out, HF.out]; rfl, hB'⟩
          · have A1 := Lib.hid (n_add' 0 (-((c : Int) - 48)) _ _ (told_yes (by unfold Fits; omega)) w2 (by decide) (by unfold Fits; omega))
            go_wp2_with fail
            refine M1.out.mono ?_
            rintro e w' ⟨rfl, rfl⟩
            go_wp2_with fail
            refine A1.out.mono ?_
            rintro e w' ⟨rfl, rfl⟩
            go_wp2_with fail
            go_ret2
            exact ⟨by rw [HR.out, HF.out]; rfl, hB'⟩
      · obtain rfl : k = D.size := by omega
        have hfull : signed M (val (d.take D.size)) = signed M (val d) := by rw [HDs.out, List.take_length]
        rw [hfull] at hfit ⊢
        have HF := Lib.hid (told_yes hfit.out)
        clear hfull
        go_wp2_with fail
        go_ret2
        exact ⟨by rw [HR.out, HF.out]; rfl, hB'⟩
end Go.Proofs.YtnchnnbggfeknaaDoor
