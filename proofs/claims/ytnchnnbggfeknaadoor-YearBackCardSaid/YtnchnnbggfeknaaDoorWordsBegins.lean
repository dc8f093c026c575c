/-
  words.begins, words.Same and the reference's own: each tells what the plain law says.
-/
import Derived.Test.YtnchnnbggfeknaaDoorProg
import Derived.Test.YtnchnnbggfeknaaDoorWordsPlain
namespace Go.Proofs.YtnchnnbggfeknaaDoor
open Go.RowKit Nt Nt.Words

set_option maxHeartbeats 400000 in
theorem w_begins (a s : ByteArray) (w : World) (ha : a.size ≤ maxLen) (hs : s.size ≤ maxLen) :
    Calls Tryd.prog 156 #[.string a, .string s] w fun e w' => e = .returned (.bool (begins a s)) ∧ ∃ n, w' = w.drewN n := by
  unfold maxLen at ha hs
  by_cases hlt : a.size < s.size
  · have H := Lib.hid (begins_long a s hlt)
    go_enter Tryd.func156, Tryd.ntmps156
    go_wp2
    go_ret
    exact ⟨ret_bool H.out.symm, 0, rfl⟩
  · go_enter Tryd.func156, Tryd.ntmps156
    go_wp2
    go_loopw [15] (fun i wr => ∃ k : Nat, k ≤ s.size ∧ i = .int .i64 k ∧ Hid (∀ i, i < k → alike (at_ a i) (at_ s i) = true) ∧ ∃ n, wr = w.drewN n) (fun i _ => s.size - (intOf i).toNat)
    case atStart => exact ⟨0, by omega, rfl, fun i hi => by omega, 0, rfl⟩
    case round =>
      obtain ⟨k, hk, rfl, hall, nn, rfl⟩ := hrel
      by_cases hks : k < s.size
      · have hka : k < a.size := by omega
        have E : Hid (alike (at_ a k) (at_ s k) = alikeP a[k].toNat s[k].toNat) := by rw [at_get a k hka, at_get s k hks]; exact alike_eq _ _
        have B := Lib.hid (bits_or32 a[k])
        have C := Lib.hid (bits_or32 s[k])
        go_wp2
        go_quiet (fail)
        go_wp2
        all_goals
          have e := E.out
          simp only [B.out, C.out, bne_iff_ne, ne_eq, bne_eq_false_iff_eq] at *
          clear E B C
          first
          | (have ht : alike (at_ a k) (at_ s k) = true := by rw [e]; simp [alikeP]; omega
             refine ⟨⟨k + 1, by omega, by go_num, ?_, ?_⟩, by simp [intOf]; omega⟩
             · intro i hi
               by_cases h : i = k
               · rw [h]; exact ht
               · exact hall.out i (by omega)
             · exact ⟨_, rfl⟩)
          | (have ht : alike (at_ a k) (at_ s k) = false := by rw [e]; simp [alikeP]; omega
             go_ret
             exact ⟨ret_bool (begins_no a s k hks ht).symm, _, rfl⟩)
      · go_wp2
        go_ret
        exact ⟨ret_bool (begins_yes a s (by omega) (fun i hi => hall.out i (by omega))).symm, _, rfl⟩

theorem w_same (a b : ByteArray) (w : World) (ha : a.size ≤ maxLen) (hb : b.size ≤ maxLen) :
    Calls Tryd.prog 123 #[.string a, .string b] w fun e w' => e = .returned (.bool (same a b)) ∧ ∃ n, w' = w.drewN n := by
  have ha' := ha
  have hb' := hb
  unfold maxLen at ha hb
  by_cases h : a.size = b.size
  · have hb1 : ((a.size : Int) == (b.size : Int)) = true := by simp [h]
    have H := Lib.hid (show same a b = begins a b by unfold same; simp [h])
    have h1 := Lib.hid h
    clear h
    go_enter Tryd.func123, Tryd.ntmps123
    go_wp2_with (go_at_call 156; refine (w_begins _ _ _ ha' hb').mono ?_; rintro e w' ⟨rfl, n, rfl⟩)
    go_ret
    exact ⟨ret_bool H.out.symm, _, rfl⟩
  · have hb1 : ((a.size : Int) == (b.size : Int)) = false := by simp; omega
    have H := Lib.hid (show same a b = false by unfold same; simp [h])
    go_enter Tryd.func123, Tryd.ntmps123
    go_wp2_with fail
    go_ret
    exact ⟨ret_bool H.out.symm, 0, rfl⟩

theorem r_low (n : Nat) (w : World) (hn : n < 256) :
    Calls Tryd.prog 161 #[.int .u8 ↑n] w fun e w' => e = .returned (.int .u8 ↑(lowI n)) ∧ w' = w := by
  by_cases h : 65 ≤ n ∧ n ≤ 90
  · have H := Lib.hid (show ((lowI n : Nat) : Int) = (n : Int) + 32 by unfold lowI; rw [if_pos h]; omega)
    obtain ⟨h1, h2⟩ := h
    go_enter Tryd.func161, Tryd.ntmps161
    go_wp2
    go_ret
    exact ⟨ret_int H.out.symm, rfl⟩
  · have H := Lib.hid (show lowI n = n by unfold lowI; rw [if_neg h])
    by_cases h1 : 65 ≤ n
    · have h2 : 90 < n := by omega
      clear h
      go_enter Tryd.func161, Tryd.ntmps161
      go_wp2
      go_ret
      exact ⟨ret_int (by rw [H.out]), rfl⟩
    · clear h
      go_enter Tryd.func161, Tryd.ntmps161
      go_wp2
      go_ret
      exact ⟨ret_int (by rw [H.out]), rfl⟩

set_option maxHeartbeats 400000 in
theorem r_begins (a s : ByteArray) (w : World) (ha : a.size ≤ maxLen) (hs : s.size ≤ maxLen) :
    Calls Tryd.prog 127 #[.string a, .string s] w fun e w' => e = .returned (.bool (begins a s)) ∧ ∃ n, w' = w.drewN n := by
  unfold maxLen at ha hs
  by_cases hlt : a.size < s.size
  · have H := Lib.hid (begins_long a s hlt)
    go_enter Tryd.func127, Tryd.ntmps127
    go_wp2_with fail
    go_ret
    exact ⟨ret_bool H.out.symm, 0, rfl⟩
  · go_enter Tryd.func127, Tryd.ntmps127
    go_wp2_with fail
    go_loopw [5] (fun i wr => ∃ k : Nat, k ≤ s.size ∧ i = .int .i64 k ∧ Hid (∀ i, i < k → alike (at_ a i) (at_ s i) = true) ∧ ∃ n, wr = w.drewN n) (fun i _ => s.size - (intOf i).toNat)
    case atStart => exact ⟨0, by omega, rfl, fun i hi => by omega, 0, rfl⟩
    case round =>
      obtain ⟨k, hk, rfl, hall, nn, rfl⟩ := hrel
      by_cases hks : k < s.size
      · have hka : k < a.size := by omega
        have E := Lib.hid (show alike (at_ a k) (at_ s k) = (lowI a[k].toNat == lowI s[k].toNat) by rw [at_get a k hka, at_get s k hks]; exact alike_low _ _)
        go_wp2_with fail
        go_quiet ((go_at_call 161; exact quiet2_same (r_low _ _ (UInt8.toNat_lt _))))
        go_wp2_with fail
        all_goals
          have e := E.out
          clear E
          try simp only [bne_iff_ne, ne_eq, bne_eq_false_iff_eq] at *
          first
          | (have ht : alike (at_ a k) (at_ s k) = true := by rw [e]; simp; omega
             refine ⟨⟨k + 1, by omega, by go_num, ?_, ?_⟩, by simp [intOf]; omega⟩
             · intro i hi
               by_cases h : i = k
               · rw [h]; exact ht
               · exact hall.out i (by omega)
             · first | exact ⟨_, rfl⟩ | exact ⟨_, World.drewN_drewN _ _ _⟩)
          | (have ht : alike (at_ a k) (at_ s k) = false := by rw [e]; simp; omega
             go_ret
             exact ⟨ret_bool (begins_no a s k hks ht).symm, _, World.drewN_drewN _ _ _⟩)
      · go_wp2_with fail
        go_ret
        exact ⟨ret_bool (begins_yes a s (by omega) (fun i hi => hall.out i (by omega))).symm, _, rfl⟩

theorem r_same (a b : ByteArray) (w : World) (ha : a.size ≤ maxLen) (hb : b.size ≤ maxLen) :
    Calls Tryd.prog 82 #[.string a, .string b] w fun e w' => e = .returned (.bool (same a b)) ∧ ∃ n, w' = w.drewN n := by
  have ha' := ha
  have hb' := hb
  unfold maxLen at ha hb
  by_cases h : a.size = b.size
  · have hb1 : ((a.size : Int) == (b.size : Int)) = true := by simp [h]
    have H := Lib.hid (show same a b = begins a b by unfold same; simp [h])
    have h1 := Lib.hid h
    clear h
    go_enter Tryd.func82, Tryd.ntmps82
    go_wp2_with (go_at_call 127; refine (r_begins _ _ _ ha' hb').mono ?_; rintro e w' ⟨rfl, n, rfl⟩)
    go_ret
    exact ⟨ret_bool H.out.symm, _, rfl⟩
  · have hb1 : ((a.size : Int) == (b.size : Int)) = false := by simp; omega
    have H := Lib.hid (show same a b = false by unfold same; simp [h])
    go_enter Tryd.func82, Tryd.ntmps82
    go_wp2_with fail
    go_ret
    exact ⟨ret_bool H.out.symm, 0, rfl⟩

end Go.Proofs.YtnchnnbggfeknaaDoor
