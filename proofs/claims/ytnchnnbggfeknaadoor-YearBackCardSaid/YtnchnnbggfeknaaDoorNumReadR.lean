/-
  The reference's Digits and Read.
-/
import Derived.Test.YtnchnnbggfeknaaDoorNumWalks
import Derived.Test.YtnchnnbggfeknaaDoorNumReadPlain
set_option linter.unusedVariables false
set_option linter.unusedSimpArgs false
namespace Go.Proofs.YtnchnnbggfeknaaDoor
open Go.RowKit Nt Nt.Num

/-- Digits alone, one at least. -/
def digsOnly (l : List UInt8) : Bool := l.all isDigit && !l.isEmpty

set_option maxHeartbeats 1000000 in
theorem r_Digits (s : ByteArray) (w : World) (hs : s.size ≤ maxLen) :
    Calls Tryd.prog 92 #[.string s] w fun e w' => e = .returned (.bool (digsOnly s.data.toList)) ∧ w' = w := by
  unfold maxLen at hs
  have hsl : s.data.toList.length = s.size := by simp
  have HSL := Lib.hid hsl
  clear hsl
  go_enter Tryd.func92, Tryd.ntmps92
  go_wp2_with fail
  go_loop [3] (fun i => ∃ k : Nat, k ≤ s.size ∧ i = .int .i64 (k : Int) ∧ Hid (∀ j, j < k → isDigit (at_ s j) = true)) (fun i => s.size - (intOf i).toNat)
  case atStart => exact ⟨0, by omega, rfl, fun j hj => by omega⟩
  case round =>
    obtain ⟨k, hk, rfl, hall⟩ := hrel
    by_cases hlt : k < s.size
    · have hat := Lib.hid (at_get s k hlt)
      by_cases h48 : s[k].toNat < 48
      · have H : Hid (digsOnly s.data.toList = false) := by
          have : isDigit (at_ s k) = false := by rw [hat.out]; unfold isDigit; simp; omega
          show _ = _
          unfold digsOnly
          rw [Bool.and_eq_false_iff]
          left
          rw [List.all_eq_false]
          exact ⟨_, List.getElem_mem (by rw [HSL.out]; exact hlt), by
            unfold at_ at this
            rw [List.getD_eq_getElem?_getD, List.getElem?_eq_getElem (by rw [HSL.out]; exact hlt)] at this
            simpa using this⟩
        go_wp2_with fail
        go_ret
        exact ⟨ret_bool H.out.symm, rfl⟩
      · by_cases h57 : 57 < s[k].toNat
        · have d48 : decide ((s[k].toNat : Int) < 48) = false := decide_eq_false (by omega)
          have d57 : decide (57 < (s[k].toNat : Int)) = true := decide_eq_true (by omega)
          have H : Hid (digsOnly s.data.toList = false) := by
            have : isDigit (at_ s k) = false := by rw [hat.out]; unfold isDigit; simp; omega
            show _ = _
            unfold digsOnly
            rw [Bool.and_eq_false_iff]
            left
            rw [List.all_eq_false]
            exact ⟨_, List.getElem_mem (by rw [HSL.out]; exact hlt), by
              unfold at_ at this
              rw [List.getD_eq_getElem?_getD, List.getElem?_eq_getElem (by rw [HSL.out]; exact hlt)] at this
              simpa using this⟩
          go_wp2_with fail
          go_ret
          exact ⟨ret_bool H.out.symm, rfl⟩
        · have d48 : decide ((s[k].toNat : Int) < 48) = false := decide_eq_false (by omega)
          have d57 : decide (57 < (s[k].toNat : Int)) = false := decide_eq_false (by omega)
          have hd : Hid (isDigit (at_ s k) = true) := by show _ = _; rw [hat.out]; unfold isDigit; simp; omega
          go_wp2_with fail
          go_round
          case rel =>
            refine ⟨k + 1, by omega, by go_num, fun j hj => ?_⟩
            by_cases h : j = k
            · rw [h]; exact hd.out
            · exact hall.out j (by omega)
          case measure => simp [intOf]; omega
    · obtain rfl : k = s.size := by omega
      have hA : s.data.toList.all isDigit = true := by
        rw [List.all_eq_true]
        intro x hx
        obtain ⟨i, hi, e⟩ := List.getElem_of_mem hx
        have := hall.out i (by rw [HSL.out] at hi; exact hi)
        unfold at_ at this
        rw [List.getD_eq_getElem?_getD, List.getElem?_eq_getElem hi] at this
        rw [← e]; simpa using this
      have H : Hid (digsOnly s.data.toList = !s.toList.isEmpty) := by
        show _ = _
        unfold digsOnly
        rw [hA, toList_eq]; rfl
      clear hA
      go_wp2_with fail
      go_ret
      exact ⟨ret_bool H.out.symm, rfl⟩
end Go.Proofs.YtnchnnbggfeknaaDoor
