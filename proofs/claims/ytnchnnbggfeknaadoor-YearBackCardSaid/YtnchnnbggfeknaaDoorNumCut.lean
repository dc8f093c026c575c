/-
  num.cut: a text's sign and digits.
-/
import Derived.Test.YtnchnnbggfeknaaDoorShelf
import Derived.Test.YtnchnnbggfeknaaDoorNumWalks2
import Derived.Test.YtnchnnbggfeknaaDoorNumReadPlain
set_option linter.unusedVariables false
set_option linter.unusedSimpArgs false
namespace Go.Proofs.YtnchnnbggfeknaaDoor
open Go.RowKit Nt Nt.Num

theorem hasPrefix_minus (l : List UInt8) : Lib.hasPrefix l [45] = minus l := by
  unfold Lib.hasPrefix minus
  cases l with
  | nil => rfl
  | cons c l =>
    simp only [List.isPrefixOf, Bool.and_true]
    rw [Bool.eq_iff_iff, beq_iff_eq, beq_iff_eq]
    exact ⟨Eq.symm, Eq.symm⟩

theorem n_cutPrefix (s : ByteArray) (w : World) :
    Calls Tryd.prog 133 #[.string s, .string ⟨#[45]⟩] w fun e w' => e = .returned (.tuple #[.string (bs (bare s.data.toList)), .bool (minus s.data.toList)]) ∧ w' = w := by
  have := Tryd.strings_CutPrefix s ⟨#[45]⟩ w
  have e1 : Lib.hasPrefix s.data.toList [45] = minus s.data.toList := hasPrefix_minus _
  have e2 : Lib.trimPrefix s.data.toList [45] = bare s.data.toList := by unfold Lib.trimPrefix bare; rw [e1]; rfl
  rw [show (⟨#[45]⟩ : ByteArray).data.toList = [45] from rfl, e1, e2] at this
  exact this

theorem n_trim (s : ByteArray) (w : World) (hs : s.size ≤ maxLen) :
    Calls Tryd.prog 112 #[.string s, .string ⟨#[48, 49, 50, 51, 52, 53, 54, 55, 56, 57]⟩] w fun e w' => e = .returned (.string (bs (Lib.trimS s.data.toList [48, 49, 50, 51, 52, 53, 54, 55, 56, 57]))) ∧ Below w.heap.size w w' :=
  Tryd.strings_Trim s ⟨#[48, 49, 50, 51, 52, 53, 54, 55, 56, 57]⟩ w (by unfold maxLen at hs; omega) (by decide) (ascii_of_all (by decide))

theorem bare_len (l : List UInt8) : (bare l).length ≤ l.length := by unfold bare; split <;> simp

set_option maxRecDepth 100000 in
set_option maxHeartbeats 1000000 in
theorem n_cut (s : ByteArray) (w : World) (hs : s.size ≤ maxLen) :
    Calls Tryd.prog 153 #[.string s] w fun e w' => e = .returned (.tuple #[.bool (minus s.data.toList), .string (bs (bare s.data.toList)), .bool (good s.data.toList)]) ∧ Below w.heap.size w w' := by
  have hgood : good s.data.toList = ((bare s.data.toList).all isDigit && !(bare s.data.toList).isEmpty && (!((bare s.data.toList).getD 0 0 == 48) || (decide ((bare s.data.toList).length = 1) && !minus s.data.toList))) := rfl
  have hlen : (bare s.data.toList).length ≤ s.size := by have := bare_len s.data.toList; simpa using this
  have C : Hid (∀ w, Calls Tryd.prog 133 #[.string s, .string ⟨#[45]⟩] w fun e w' => e = .returned (.tuple #[.string (bs (bare s.data.toList)), .bool (minus s.data.toList)]) ∧ w' = w) := n_cutPrefix s
  generalize good s.data.toList = G at *
  generalize minus s.data.toList = M at *
  obtain ⟨D, hD⟩ : ∃ D, D = bs (bare s.data.toList) := ⟨_, rfl⟩
  have hDl : D.data.toList = bare s.data.toList := by rw [hD]; rfl
  rw [← hD] at C
  rw [← hDl] at hgood hlen
  have hDs : D.size ≤ s.size := by simpa using hlen
  have hDm : D.size ≤ maxLen := by omega
  have HD := Lib.hid hD
  have T : Hid (∀ w, Calls Tryd.prog 112 #[.string D, .string ⟨#[48, 49, 50, 51, 52, 53, 54, 55, 56, 57]⟩] w fun e w' => e = .returned (.string (bs (Lib.trimS D.data.toList [48, 49, 50, 51, 52, 53, 54, 55, 56, 57]))) ∧ Below w.heap.size w w') := fun w => n_trim D w hDm
  have htr := trim_digits D.data.toList
  have hts : (bs (Lib.trimS D.data.toList [48, 49, 50, 51, 52, 53, 54, 55, 56, 57])).size = (Lib.trimS D.data.toList [48, 49, 50, 51, 52, 53, 54, 55, 56, 57]).length := bs_size _
  obtain ⟨Z, hZ⟩ : ∃ Z, Z = bs (Lib.trimS D.data.toList [48, 49, 50, 51, 52, 53, 54, 55, 56, 57]) := ⟨_, rfl⟩
  rw [← hZ] at T hts
  rw [← List.length_eq_zero_iff, ← hts] at htr
  have HGx := Lib.hid hgood
  have htr' := Lib.hid htr
  unfold maxLen at hs hDm
  rw [show bs (bare s.data.toList) = D from hD.symm]
  clear hD hDl hlen hgood htr hts hZ
  by_cases h0 : D.size = 0
  · have he := isEmpty_yes D h0
    have hG : Hid (G = false) := by
      have : D.data.toList = [] := by rw [← List.length_eq_zero_iff]; simpa using h0
      rw [HGx.out, this]; rfl
    clear h0
    go_enter Tryd.func153, Tryd.ntmps153
    go_wp2_with fail
    refine (C.out _).mono ?_
    rintro e w' ⟨rfl, rfl⟩
    go_wp2_with fail
    go_ret3
    exact ⟨by rw [hG.out]; rfl, Below.refl _ _⟩
  · have he := isEmpty_no D h0
    have hne : D.data.toList.isEmpty = false := by rw [← toList_eq]; exact he
    have hD0 : 0 < D.size := by omega
    by_cases hz : Z.size = 0
    · have hze := isEmpty_yes Z hz
      have hall := htr'.out.1 hz
      have hat : (D.data.toList.getD 0 0) = D[0] := at_get D 0 hD0
      by_cases h48 : D[0].toNat = 48
      · have k48 : ((D[0].toNat : Int) != 48) = false := by simp; omega
        have hb48 : (D.data.toList.getD 0 0 == 48) = true := by rw [hat, beq_iff_eq]; exact UInt8.toNat_inj.1 h48
        by_cases h1 : D.size = 1
        · have k1 : ((D.size : Int) == 1) = true := by simp [h1]
          have hG := Lib.hid (show G = !M by rw [HGx.out, hall, hne, hb48]; simp [h1])
          clear h48 h1 hz h0 hat hb48 hall hne
          go_enter Tryd.func153, Tryd.ntmps153
          go_wp2_with fail
          refine (C.out _).mono ?_
          rintro e w' ⟨rfl, rfl⟩
          go_wp2_with fail
          refine (T.out _).mono ?_
          rintro e w1 ⟨rfl, hB⟩
          go_wp2_with fail
          go_ret3
          exact ⟨by rw [hG.out]; rfl, hB⟩
        · have k1 : ((D.size : Int) == 1) = false := by simp; omega
          have hG := Lib.hid (show G = false by rw [HGx.out, hall, hne, hb48]; simp [h1])
          clear h48 h1 hz h0 hat hb48 hall hne
          go_enter Tryd.func153, Tryd.ntmps153
          go_wp2_with fail
          refine (C.out _).mono ?_
          rintro e w' ⟨rfl, rfl⟩
          go_wp2_with fail
          refine (T.out _).mono ?_
          rintro e w1 ⟨rfl, hB⟩
          go_wp2_with fail
          go_ret3
          exact ⟨by rw [hG.out]; rfl, hB⟩
      · have k48 : ((D[0].toNat : Int) != 48) = true := by simp; omega
        have hb48 : (D.data.toList.getD 0 0 == 48) = false := by rw [hat, beq_eq_false_iff_ne]; exact fun e => h48 (by rw [e]; rfl)
        have hG : Hid (G = true) := by rw [HGx.out, hall, hne, hb48]; rfl
        clear h48 hz h0 hat hb48 hall hne
        go_enter Tryd.func153, Tryd.ntmps153
        go_wp2_with fail
        refine (C.out _).mono ?_
        rintro e w' ⟨rfl, rfl⟩
        go_wp2_with fail
        refine (T.out _).mono ?_
        rintro e w1 ⟨rfl, hB⟩
        go_wp2_with fail
        go_ret3
        exact ⟨by rw [hG.out]; rfl, hB⟩
    · have hze := isEmpty_no Z hz
      have hG : Hid (G = false) := by
        rw [HGx.out]
        cases ha : D.data.toList.all isDigit with
        | false => rfl
        | true => exact absurd (htr'.out.2 ha) hz
      clear hz h0 hne
      go_enter Tryd.func153, Tryd.ntmps153
      go_wp2_with fail
      refine (C.out _).mono ?_
      rintro e w' ⟨rfl, rfl⟩
      go_wp2_with fail
      refine (T.out _).mono ?_
      rintro e w1 ⟨rfl, hB⟩
      go_wp2_with fail
      go_ret3
      exact ⟨by rw [hG.out]; rfl, hB⟩
end Go.Proofs.YtnchnnbggfeknaaDoor
