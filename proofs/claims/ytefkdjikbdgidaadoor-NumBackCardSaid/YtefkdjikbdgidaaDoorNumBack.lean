/-
  NumBack: Read of Text is the number, Text of what is read the text: the law returns true; nothing that was there has turned.
-/
import Derived.Test.YtefkdjikbdgidaaDoorNumLives
import Derived.Test.YtefkdjikbdgidaaDoorNumBackPlain
set_option linter.unusedVariables false
set_option linter.unusedSimpArgs false
namespace Go.Proofs.YtefkdjikbdgidaaDoor
open Go.RowKit Nt Nt.Num

set_option maxRecDepth 100000 in
set_option maxHeartbeats 4000000 in
theorem numBack_walk (n : Int) (s : ByteArray) (w : World) (hn : Fits n) (hs : s.size ≤ maxLen) :
    Calls Tryd.prog 9 #[.int .i64 n, .string s] w fun e w' => e = .returned (.bool true) ∧ Below w.heap.size w w' := by
  have hs' := hs
  unfold maxLen at hs
  have hn' := Lib.hid hn
  clear hn
  by_cases h1 : 1000 < s.size
  · go_enter Tryd.func9, Tryd.ntmps9
    go_wp2_with fail
    refine (lives01 _).mono ?_
    rintro e w' ⟨rfl, hB⟩
    go_wp2_with fail
    go_ret
    exact ⟨rfl, hB⟩
  · obtain ⟨t, ht⟩ : ∃ t, t = bs (text n) := ⟨_, rfl⟩
    have htl := text_len n hn'.out
    have hts : t.size ≤ 21 := by rw [ht, bs_size]; exact htl.1
    have HT : Hid (bs (text n) = t) := ht.symm
    have r1 : Hid (read t.data.toList = (n, 0)) := by rw [ht]; exact read_text n hn'.out
    have r2 : Hid (read ((⟨#[48]⟩ : ByteArray) ++ t).data.toList = (0, 2)) := by
      rw [ht]
      have e : ((⟨#[48]⟩ : ByteArray) ++ bs (text n)) = bs (48 :: text n) := bs_append [48] (text n)
      rw [e]; exact read_nought n
    have r3 : Hid (read ((⟨#[45, 45]⟩ : ByteArray) ++ t).data.toList = (0, 2)) := by
      rw [ht]
      have e : ((⟨#[45, 45]⟩ : ByteArray) ++ bs (text n)) = bs (45 :: 45 :: text n) := bs_append [45, 45] (text n)
      rw [e]; exact read_minus (text n)
    have z2 : Hid (((⟨#[48]⟩ : ByteArray) ++ t).size ≤ maxLen) := by show _ ≤ _; rw [ByteArray.size_append]; unfold maxLen; have : (⟨#[48]⟩ : ByteArray).size = 1 := rfl; omega
    have z3 : Hid (((⟨#[45, 45]⟩ : ByteArray) ++ t).size ≤ maxLen) := by show _ ≤ _; rw [ByteArray.size_append]; unfold maxLen; have : (⟨#[45, 45]⟩ : ByteArray).size = 2 := rfl; omega
    have z1 : t.size ≤ maxLen := by unfold maxLen; omega
    have herr := read_err s.data.toList
    have hok := text_read s.data.toList
    rcases hr : read s.data.toList with ⟨x, c⟩
    rw [hr] at herr hok
    simp only at herr hok
    have R4 := Lib.hid hr
    clear hr ht htl
    by_cases hc : c = 0
    · subst hc
      obtain ⟨hx1, hx2⟩ := hok rfl
      have X1 : Hid (bs (text x) = s) := by show _ = _; rw [hx1]; exact bs_list s
      have X2 := Lib.hid hx2
      clear hok herr hx1 hx2
      go_enter Tryd.func9, Tryd.ntmps9
      go_wp2_with fail
      refine (lives01 _).mono ?_
      rintro e w1 ⟨rfl, hB⟩
      go_wp2_with fail
      refine (q_text n t HT.out _ hn'.out).mono ?_
      rintro e w' ⟨rfl, hB1⟩
      have hB := hB.trans (hB1.mono hB.size)
      clear hB1
      go_wp2_with fail
      refine (q_read t _ _ r1.out _ z1).mono ?_
      rintro e w' ⟨rfl, hB1⟩
      have hB := hB.trans (hB1.mono hB.size)
      clear hB1
      go_wp2_with fail
      refine (q_read _ _ _ r2.out _ z2.out).mono ?_
      rintro e w' ⟨rfl, hB1⟩
      have hB := hB.trans (hB1.mono hB.size)
      clear hB1
      go_wp2_with fail
      refine (q_read _ _ _ r3.out _ z3.out).mono ?_
      rintro e w' ⟨rfl, hB1⟩
      have hB := hB.trans (hB1.mono hB.size)
      clear hB1
      go_wp2_with fail
      refine (q_read s _ _ R4.out _ hs').mono ?_
      rintro e w' ⟨rfl, hB1⟩
      have hB := hB.trans (hB1.mono hB.size)
      clear hB1
      go_wp2_with fail
      refine (q_text x s X1.out _ X2.out).mono ?_
      rintro e w' ⟨rfl, hB1⟩
      have hB := hB.trans (hB1.mono hB.size)
      clear hB1
      go_wp2_with fail
      go_ret
      exact ⟨rfl, hB⟩
    · have hx := herr hc
      subst hx
      have hcb : (c == 0) = false := by simp [hc]
      have hcb2 : (c != 0) = true := by simp [hc]
      clear hok herr hc
      go_enter Tryd.func9, Tryd.ntmps9
      go_wp2_with fail
      refine (lives01 _).mono ?_
      rintro e w1 ⟨rfl, hB⟩
      go_wp2_with fail
      refine (q_text n t HT.out _ hn'.out).mono ?_
      rintro e w' ⟨rfl, hB1⟩
      have hB := hB.trans (hB1.mono hB.size)
      clear hB1
      go_wp2_with fail
      refine (q_read t _ _ r1.out _ z1).mono ?_
      rintro e w' ⟨rfl, hB1⟩
      have hB := hB.trans (hB1.mono hB.size)
      clear hB1
      go_wp2_with fail
      refine (q_read _ _ _ r2.out _ z2.out).mono ?_
      rintro e w' ⟨rfl, hB1⟩
      have hB := hB.trans (hB1.mono hB.size)
      clear hB1
      go_wp2_with fail
      refine (q_read _ _ _ r3.out _ z3.out).mono ?_
      rintro e w' ⟨rfl, hB1⟩
      have hB := hB.trans (hB1.mono hB.size)
      clear hB1
      go_wp2_with fail
      refine (q_read s _ _ R4.out _ hs').mono ?_
      rintro e w' ⟨rfl, hB1⟩
      have hB := hB.trans (hB1.mono hB.size)
      clear hB1
      go_wp2_with fail
      go_ret
      exact ⟨rfl, hB⟩

end Go.Proofs.YtefkdjikbdgidaaDoor
