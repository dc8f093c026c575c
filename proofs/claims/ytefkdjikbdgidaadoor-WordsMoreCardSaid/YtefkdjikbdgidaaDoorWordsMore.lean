/-
  WordsMore: each text of a month, and of a weekday, is read as it; a longer beginning of the same word means the same: the law returns true.
-/
import Derived.Test.YtefkdjikbdgidaaDoorWordsLives
import Derived.Test.YtefkdjikbdgidaaDoorWordsPlain2
import Derived.Test.YtefkdjikbdgidaaDoorRegion
set_option linter.unusedVariables false
set_option linter.unusedSimpArgs false
namespace Nt.Words
open Go Nt

theorem months_back' : ∀ k : Fin 12, (wtext months ((k.val : Int))).size ≤ 9 ∧ month (wtext months ((k.val : Int))) months = (k.val + 1, 0) := by decide +kernel
theorem weekdays_back' : ∀ k : Fin 7, (wtext weekdays ((k.val : Int))).size ≤ 9 ∧ mt (wtext weekdays ((k.val : Int))) weekdays = (k.val, 0) := by decide +kernel

theorem months_back (k : Nat) (h : k < 12) : ∃ t, wtext months ((k : Int) + 1 - 1) = t ∧ t.size ≤ maxLen ∧ month t months = (k + 1, 0) := by
  have := months_back' ⟨k, h⟩
  refine ⟨_, rfl, ?_, ?_⟩
  · rw [show (k : Int) + 1 - 1 = (k : Int) by omega]; have := this.1; simp only at this; unfold maxLen; omega
  · rw [show (k : Int) + 1 - 1 = (k : Int) by omega]; exact this.2

theorem weekdays_back (k : Nat) (h : k < 7) : ∃ t, wtext weekdays (k : Int) = t ∧ t.size ≤ maxLen ∧ mt t weekdays = (k, 0) := by
  have := weekdays_back' ⟨k, h⟩
  refine ⟨_, rfl, ?_, this.2⟩
  have := this.1; simp only at this; unfold maxLen; omega

theorem strs_cell {w : World} {b off len : Nat} {ws : List ByteArray} (h : Strs w (some ⟨b, off, none⟩) len ws) {i : Nat} (hi : i < len) : w.cell? ⟨b, off + i, none⟩ = some (.string (wAt ws i)) := by
  obtain ⟨b', off', e, _, hc⟩ := h.2.2 (by omega)
  simp only [Option.some.injEq, Addr.mk.injEq, and_true] at e
  obtain ⟨rfl, rfl⟩ := e
  exact hc i hi

end Nt.Words
namespace Go.Proofs.YtefkdjikbdgidaaDoor
open Go.RowKit Nt Nt.Words

theorem w_sameT (a b : ByteArray) (h : same a b = true) (w : World) (ha : a.size ≤ maxLen) (hb : b.size ≤ maxLen) :
    Calls Tryd.prog 17 #[.string a, .string b] w fun e w' => e = .returned (.bool true) ∧ ∃ n, w' = w.drewN n := by
  have := w_same a b w ha hb
  rw [h] at this
  exact this

/-- What each operation of 'words.Match(s, append(append([]string{}, l...), l[at]+"x")...)' yields. -/
def F25 (s x : ByteArray) (ws : List ByteArray) (b off len cap i B : Nat) (k : Nat) (v : Value) (w' : World) : Prop :=
  match k with
  | 0 => v = .string s
  | 1 => ∃ g, v = .slice (some ⟨g, 0, none⟩) 0 0
  | 2 => v = .slice (some ⟨b, off, none⟩) len cap
  | 3 => w'.ownsRow B 9 1 v len (ws.map Value.string)
  | 4 => v = .slice (some ⟨b, off, none⟩) len cap
  | 5 => v = .int .i64 (i : Int)
  | 6 => v = .pointer (some ⟨b, off + i, none⟩)
  | 7 => v = .string x
  | 8 => v = .string (withX x)
  | 9 => ∃ g, v = .slice (some ⟨g, 0, none⟩) 1 1 ∧ w'.heap[g]? = some (.cells #[.string (withX x)] 9 (0, 0))
  | 10 => w'.ownsRow B 9 1 v (len + 1) (ws.map Value.string ++ [.string (withX x)])
  | 11 => v = .tuple #[.int .i64 0, .int .i64 3]
  | 12 => v = .tuple #[.int .i64 0, .int .i64 3]
  | 13 => v = .int .i64 0
  | 14 => v = .int .i64 3
  | 15 => v = .int .i64 0
  | 16 => v = .int .i64 3
  | _ => True

theorem F25_ext {s x : ByteArray} {ws : List ByteArray} {b off len cap i B : Nat} {w' w'' : World} (hb : Below w'.heap.size w' w'') (k : Nat) (u : Value) (h : F25 s x ws b off len cap i B k u w') : F25 s x ws b off len cap i B k u w'' := by
  unfold F25 at *
  split at h
  case h_4 => exact ownsRow_ext h hb
  case h_10 => obtain ⟨g, h1, h2⟩ := h; exact ⟨g, h1, heap_ext h2 hb⟩
  case h_11 => exact ownsRow_ext h hb
  all_goals exact h

theorem info_string : (Tryd.prog.info? 9).map (fun i => (i.zero, i.size, i.bytes)) = some (some (.string ByteArray.empty), 1, 16) := by kernel_rfl

/-- An owned row of strings reads as a slice of strings. -/
theorem strs_owned {w : World} {B e : Nat} {v : Value} {n : Nat} {ss : List ByteArray} (h : w.ownsRow B e 1 v n (ss.map Value.string)) (hn : 0 < n) (hm : ∀ s ∈ ss, s.size ≤ maxLen) : ∃ p cap, v = .slice p n cap ∧ Strs w p n ss := by
  obtain ⟨g, cap, hv, hg, hgs, hc⟩ := owned_form h hn
  have hl : ss.length = n := by have := h.1; simpa using this
  refine ⟨_, cap, hv, hl, hm, fun _ => ⟨g, 0, rfl, hgs, fun i hi => ?_⟩⟩
  rw [hc i hi]
  simp [List.getD_eq_getElem?_getD, List.getElem?_eq_getElem (show i < ss.length by omega)]

set_option maxRecDepth 100000 in
set_option maxHeartbeats 2000000 in
theorem wordsMore_walk (s : ByteArray) (p : Option Addr) (len cap : Nat) (ws : List ByteArray) (n : Int) (w : World) (hs : s.size ≤ maxLen) (hS : Strs w p len ws) (hws : ∀ x ∈ ws, x.size ≤ 140737488351232)
    (hM : Strs w (some ⟨0, 0, none⟩) 12 months) (hW : Strs w (some ⟨1, 0, none⟩) 7 weekdays) :
    Calls Tryd.prog 4 #[.string s, .slice p len cap, .int .i64 n] w fun e w' => e = .returned (.bool true) ∧ Below w.heap.size w w' := by
  have hs' := hs
  unfold maxLen at hs
  by_cases hg : 500 < s.size ∨ 60 < len
  · by_cases h1 : 500 < s.size
    · clear hg
      go_enter Tryd.func4, Tryd.ntmps4
      go_wp2_with fail
      refine (lives15 _ hM hW).mono ?_
      rintro e w' ⟨rfl, hB⟩
      go_wp2_with fail
      go_ret
      exact ⟨rfl, hB⟩
    · have h2 : 60 < len := by omega
      clear hg
      go_enter Tryd.func4, Tryd.ntmps4
      go_wp2_with fail
      refine (lives15 _ hM hW).mono ?_
      rintro e w' ⟨rfl, hB⟩
      go_wp2_with fail
      go_ret
      exact ⟨rfl, hB⟩
  · obtain ⟨h1, h2⟩ : s.size ≤ 500 ∧ len ≤ 60 := by omega
    clear hg
    go_enter Tryd.func4, Tryd.ntmps4
    go_wp2_with fail
    refine (lives15 _ hM hW).mono ?_
    rintro e w0 ⟨rfl, hB⟩
    go_wp2_with fail
    go_loopw [7] (fun i wr => ∃ k : Nat, k ≤ 12 ∧ i = .int .i64 ((k : Int) + 1) ∧ Below w.heap.size w wr) (fun i _ => 13 - (intOf i).toNat)
    case atStart => exact ⟨0, by omega, rfl, hB⟩
    case round =>
      obtain ⟨k, hk, rfl, hB⟩ := hrel
      by_cases hlt : k < 12
      · obtain ⟨t, e1, e2, e3⟩ := months_back k hlt
        have E1 := Lib.hid e1
        have E3 := Lib.hid e3
        clear e1 e3
        go_wp2_with fail
        refine (w_monthText' _ t E1.out _ (hM.below hB) (by omega)).mono ?_
        rintro e w1 ⟨rfl, hB1⟩
        have hB := hB.trans (hB1.mono hB.size)
        go_wp2_with fail
        refine (w_month' t _ _ E3.out _ e2 (hM.below hB)).mono ?_
        rintro e w2 ⟨rfl, hB1⟩
        have hB := hB.trans (hB1.mono hB.size)
        go_wp2_with fail
        go_roundw
        case rel => exact ⟨k + 1, by omega, by go_num, hB⟩
        case measure => simp [intOf]; omega
      · have hk12 : 12 ≤ k := by omega
        clear hlt
        go_wp2_with fail
        go_loopw [10] (fun i wr => ∃ j : Nat, j ≤ 7 ∧ i = .int .i64 (j : Int) ∧ Below w.heap.size w wr) (fun i _ => 7 - (intOf i).toNat)
        case atStart => exact ⟨0, by omega, rfl, hB⟩
        case round =>
          clear hB
          obtain ⟨j, hj, rfl, hB⟩ := hrel
          by_cases hlt : j < 7
          · obtain ⟨t, e1, e2, e3⟩ := weekdays_back j hlt
            have E1 := Lib.hid e1
            have E3 := Lib.hid e3
            clear e1 e3
            go_wp2_with fail
            refine (w_weekdayText' _ t E1.out _ (hW.below hB) (by omega)).mono ?_
            rintro e w1 ⟨rfl, hB1⟩
            have hB := hB.trans (hB1.mono hB.size)
            go_wp2_with fail
            refine (w_weekday' t _ _ E3.out _ e2 (hW.below hB)).mono ?_
            rintro e w2 ⟨rfl, hB1⟩
            have hB := hB.trans (hB1.mono hB.size)
            go_wp2_with fail
            go_roundw
            case rel => exact ⟨j + 1, by omega, by go_num, hB⟩
            case measure => simp [intOf]; omega
          · have hj7 : 7 ≤ j := by omega
            clear hlt
            rcases hm : mt s ws with ⟨i, c⟩
            have HM := Lib.hid hm
            by_cases hc : c = 0
            · subst hc
              obtain ⟨h0, hi, hb, hcase⟩ := mt_told s ws i hm
              have hlen : ws.length = len := hS.1
              have hik : i < len := by omega
              obtain ⟨b, off, rfl, hbl, hcell⟩ := (hS.below hB).2.2 (by omega)
              obtain ⟨x, hx⟩ : ∃ x, x = wAt ws i := ⟨_, rfl⟩
              have hxs : x.size ≤ 140737488351232 := by rw [hx]; unfold wAt; rw [List.getD_eq_getElem?_getD, List.getElem?_eq_getElem hi]; exact hws _ (List.getElem_mem _)
              have hsx : s.size ≤ x.size := by rw [hx]; exact ((begins_spec _ _).1 hb).1
              have HX := Lib.hid hx
              have HH := Lib.hid hlen
              clear hx hm hlen
              have hstart : Calls Tryd.prog 11 #[.string s, .slice (some ⟨b, off, none⟩) len cap] wr fun e w' => e = .returned (.tuple #[.int .i64 ↑i, .int .i64 ↑(0 : Nat)]) ∧ Below wr.heap.size wr w' := w_match' _ _ _ _ _ _ _ HM.out _ hs' (hS.below hB) (by omega)
              clear hcell
              by_cases he : x.size = s.size
              · have hsm : same x s = true := begins_same (by rw [HX.out]; exact hb) he
                have hse : ((x.size : Int) == (s.size : Int)) = true := by simp [he]
                clear he hi hb hcase
                go_wp2_with fail
                refine hstart.mono ?_
                rintro e w3 ⟨rfl, hB1⟩
                have hB := hB.trans (hB1.mono hB.size)
                have hck := strs_cell (hS.below hB) hik
                rw [← HX.out] at hck
                go_wp2_with fail
                refine (w_same' _ _ _ hsm _ (by unfold maxLen; omega) hs').mono ?_
                rintro e w4 ⟨rfl, hB1⟩
                have hB := hB.trans (hB1.mono hB.size)
                go_wp2_with fail
                go_ret
                exact ⟨rfl, hB⟩
              · have hlt : s.size < x.size := by omega
                have hse : ((x.size : Int) == (s.size : Int)) = false := by simp; omega
                obtain ⟨_, j', hl1, hl2, hl3⟩ := mt_longer s ws i HM.out (by rw [← HX.out]; exact he)
                have ho := mt_other s ws i HM.out (by rw [← HX.out]; exact he)
                rw [← HX.out] at hl1 hl3 ho
                have hes : (x.extract s.size (s.size + 1)).size ≤ 1 := by rw [ByteArray.size_extract]; omega
                have HL := Lib.hid hl1
                have HL3 := Lib.hid hl3
                have HO := Lib.hid ho
                have hls := Lib.hid (longer_size s x hlt)
                clear he hi hb hcase hl1 hl3 ho
                go_wp2_with fail
                refine hstart.mono ?_
                clear hstart
                rintro e w3 ⟨rfl, hB1⟩
                have hB := hB.trans (hB1.mono hB.size)
                have hck := strs_cell (hS.below hB) hik
                rw [← HX.out] at hck
                go_wp2_with fail
                refine (w_match' (longer s x) _ _ _ _ _ _ HL.out _ (by rw [hls.out]; unfold maxLen; omega) (hS.below hB) (by omega)).mono ?_
                rintro e w4 ⟨rfl, hB1⟩
                have hB := hB.trans (hB1.mono hB.size)
                clear hck
                have hck := strs_cell (hS.below hB) hik
                rw [← HX.out] at hck
                go_wp2_with fail
                have hbl4 : b < w4.heap.size := World.block_lt_of_cell? w4 _ hck
                have hmix : Tryd.prog.follows .mixedOrders = true := by kernel_rfl
                have hwsl : ws.length = len := HH.out
                have hSB := hS.below hB
                have hws4 : Hid (∀ y ∈ ws ++ [withX x], y.size ≤ maxLen) := by
                  intro y hy
                  rw [List.mem_append] at hy
                  rcases hy with hy | hy
                  · have := hws y hy; unfold maxLen; omega
                  · simp only [List.mem_singleton] at hy; rw [hy, withX_size]; unfold maxLen; omega
                refine region_steps hmix (by kernel_rfl) (by kernel_rfl) [15, 16] (by decide) (F25 s x ws b off len cap i w4.heap.size) (fun w' => Hid (Below w4.heap.size w4 w')) (Below.refl _ _).drew ?_ ?_
                · refine ⟨?_, ?_, ?_, ?_, ?_, ?_, ?_, ?_, ?_, ?_, ?_, ?_, ?_, ?_, ?_, ?_, ?_, trivial⟩
                  · intro a' w' hJ _ _ hf hd K hK
                    simp [frameFacts, depFacts, Op.operands, F25, Slot] at hf hd
                    refine step_value rfl ?_ (hK (.string s) w' rfl hJ (fun _ _ _ _ h => h))
                    go_simp
                  · intro a' w' hJ _ _ hf hd K hK
                    refine step_value rfl ?_ (hK (.slice (some ⟨w'.heap.size, 0, none⟩) 0 0) (w'.alloc (.cells #[] 9)) ⟨_, rfl⟩ (Below.alloc hJ hJ.out.size _) (fun j u _ _ h => F25_ext (below_alloc _ _) j u h))
                    go_simp
                  · intro a' w' hJ _ _ hf hd K hK
                    simp [frameFacts, depFacts, Op.operands, F25, Slot] at hf hd
                    refine step_value rfl ?_ (hK (.slice (some ⟨b, off, none⟩) len cap) w' rfl hJ (fun _ _ _ _ h => h))
                    go_simp
                  · intro a' w' hJ _ _ hf hd K hK
                    simp [frameFacts, depFacts, Op.operands, F25, Slot] at hf hd
                    obtain ⟨⟨u, ⟨hg, _⟩, g, rfl⟩, ⟨hl, _⟩⟩ := hd
                    obtain ⟨v', w'', hrun, h1', h2'⟩ := run_append_strs (P := Tryd.prog) 22 22 9 (.string ByteArray.empty) 16 Tryd.underlying22 info_string rfl (by decide) g b off len cap ws (hSB.below hJ.out) (by omega) (by omega)
                    refine step_value rfl ?_ (hK v' w'' (ownsRow_mono h1' hJ.out.size) (hJ.out.trans (h2'.mono hJ.out.size)) (fun j u _ _ h => F25_ext h2' j u h))
                    simp [execOp, resolve, invoke, builtin, Act.eval, hg, hl, hrun, Result.andThen]
                  · intro a' w' hJ _ _ hf hd K hK
                    simp [frameFacts, depFacts, Op.operands, F25, Slot] at hf hd
                    refine step_value rfl ?_ (hK (.slice (some ⟨b, off, none⟩) len cap) w' rfl hJ (fun _ _ _ _ h => h))
                    go_simp
                  · intro a' w' hJ _ _ hf hd K hK
                    simp [frameFacts, depFacts, Op.operands, F25, Slot] at hf hd
                    refine step_value rfl ?_ (hK (.int .i64 (i : Int)) w' rfl hJ (fun _ _ _ _ h => h))
                    go_simp
                  · intro a' w' hJ _ _ hf hd K hK
                    simp [frameFacts, depFacts, Op.operands, F25, Slot] at hf hd
                    refine step_value rfl ?_ (hK (.pointer (some ⟨b, off + i, none⟩)) w' rfl hJ (fun _ _ _ _ h => h))
                    go_simp
                  · intro a' w' hJ _ _ hf hd K hK
                    simp [frameFacts, depFacts, Op.operands, F25, Slot] at hf hd
                    have hck' : w'.cell? ⟨b, off + i, none⟩ = some (.string x) := (hJ.out.cell (p := ⟨b, off + i, none⟩) hbl4).trans hck
                    refine step_value rfl ?_ (hK (.string x) w' rfl hJ (fun _ _ _ _ h => h))
                    go_simp
                  · intro a' w' hJ _ _ hf hd K hK
                    simp [frameFacts, depFacts, Op.operands, F25, Slot] at hf hd
                    refine step_value rfl ?_ (hK (.string (withX x)) w' rfl hJ (fun _ _ _ _ h => h))
                    unfold withX
                    go_simp
                    omega
                  · intro a' w' hJ _ _ hf hd K hK
                    simp [frameFacts, depFacts, Op.operands, F25, Slot] at hf hd
                    refine step_value rfl ?_ (hK (.slice (some ⟨w'.heap.size, 0, none⟩) 1 1) (w'.alloc (.cells #[.string (withX x)] 9)) ⟨_, rfl, heap_alloc_new w' _⟩ (Below.alloc hJ hJ.out.size _) (fun j u _ _ h => F25_ext (below_alloc _ _) j u h))
                    go_simp
                  · intro a' w' hJ _ _ hf hd K hK
                    simp [frameFacts, depFacts, Op.operands, F25, Slot] at hf hd
                    obtain ⟨⟨v0, ⟨hv0, _⟩, hown⟩, ⟨u, ⟨hg, _⟩, g, rfl, hgh⟩⟩ := hd
                    obtain ⟨v', w'', hrun, h1', h2'⟩ := run_append_one (P := Tryd.prog) w4.heap.size 22 22 9 (.string ByteArray.empty) 16 Tryd.underlying22 info_string rfl (by decide) v0 len (ws.map Value.string) hown g (.string (withX x)) 9 hgh rfl (by omega) hJ.out.size
                    refine step_value rfl ?_ (hK v' w'' h1' (hJ.out.trans h2') (fun j u hne hl h => ?_))
                    · simp [execOp, resolve, invoke, builtin, Act.eval, hv0, hg, hrun, Result.andThen]
                    · have n1 : j ≠ 3 := fun e => by subst e; revert hl; decide
                      have n2 : j ≠ 9 := fun e => by subst e; revert hl; decide
                      unfold F25 at *
                      split at h
                      case h_4 => exact absurd rfl n1
                      case h_10 => exact absurd rfl n2
                      case h_11 => exact absurd rfl hne
                      all_goals exact h
                  · intro a' w' hJ _ _ hf hd K hK
                    simp [frameFacts, depFacts, Op.operands, F25, Slot] at hf hd
                    obtain ⟨hd0, v0, ⟨hv0, hv1⟩, hown⟩ := hd
                    rw [show ws.map Value.string ++ [.string (withX x)] = (ws ++ [withX x]).map Value.string by simp] at hown
                    obtain ⟨p', cap', rfl, hS'⟩ := strs_owned hown (by omega) hws4.out
                    refine step_call rfl (f := 11) (args := #[.string s, .slice p' (len + 1) cap']) ?_ ?_
                    · go_simp
                    · refine (w_match' s _ _ _ _ _ _ HO.out _ hs' hS' (by omega)).mono ?_
                      rintro e w'' ⟨rfl, hB'⟩
                      exact ⟨_, rfl, hK _ _ rfl (hJ.out.trans (hB'.mono hJ.out.size)) (fun j u _ _ h => F25_ext hB' j u h)⟩
                  · intro a' w' hJ _ _ hf hd K hK
                    simp [frameFacts, depFacts, Op.operands, F25, Slot] at hf hd
                    refine step_value rfl ?_ (hK (.tuple #[.int .i64 0, .int .i64 3]) w' rfl hJ (fun _ _ _ _ h => h))
                    go_simp
                  · intro a' w' hJ _ _ hf hd K hK
                    simp [frameFacts, depFacts, Op.operands, F25, Slot] at hf hd
                    refine step_value rfl ?_ (hK (.int .i64 0) w' rfl hJ (fun _ _ _ _ h => h))
                    go_simp
                  · intro a' w' hJ _ _ hf hd K hK
                    simp [frameFacts, depFacts, Op.operands, F25, Slot] at hf hd
                    refine step_value rfl ?_ (hK (.int .i64 3) w' rfl hJ (fun _ _ _ _ h => h))
                    go_simp
                  · intro a' w' hJ _ _ hf hd K hK
                    simp [frameFacts, depFacts, Op.operands, F25, Slot] at hf hd
                    refine step_value rfl ?_ (hK (.int .i64 0) w' rfl hJ (fun _ _ _ _ h => h))
                    go_simp
                  · intro a' w' hJ _ _ hf hd K hK
                    simp [frameFacts, depFacts, Op.operands, F25, Slot] at hf hd
                    refine step_value rfl ?_ (hK (.int .i64 3) w' rfl hJ (fun _ _ _ _ h => h))
                    go_simp
                · intro val w5 hJ hfin
                  simp [factsFrom, F25] at hfin
                  obtain ⟨e15, e16⟩ := hfin
                  have hB := hB.trans (hJ.out.mono hB.size)
                  have hj'k : j' < len := by omega
                  obtain ⟨y, hy⟩ : ∃ y, y = wAt ws j' := ⟨_, rfl⟩
                  have c1 := strs_cell (hS.below hB) hj'k
                  have c2 := strs_cell (hS.below hB) hik
                  rw [← hy] at c1
                  rw [← HX.out] at c2
                  have hyx : Hid (same y x = true) := by rw [hy]; exact HL3.out
                  have hys : y.size ≤ maxLen := by rw [hy]; exact hS.mem hj'k
                  clear hy hck hSB hwsl
                  simp [putSel, Act.put, e15, e16]
                  go_wp2_with fail
                  go_quiet ((go_at_call 17; exact Calls.quiet_of (w_sameT _ _ hyx.out _ hys (by unfold maxLen; omega))))
                  go_wp2_with fail
                  go_ret
                  exact ⟨rfl, below_drewN hB _⟩
            · have H := mt_not s ws i c hm hc
              subst H
              have hb : ((c : Int) != 0) = true := by simp; omega
              clear hm hc
              go_wp2_with fail
              refine (w_match' _ _ _ _ _ _ _ HM.out _ hs' (hS.below hB) (by omega)).mono ?_
              rintro e w1 ⟨rfl, hB1⟩
              have hB := hB.trans (hB1.mono hB.size)
              go_wp2_with fail
              go_ret
              exact ⟨rfl, hB⟩
end Go.Proofs.YtefkdjikbdgidaaDoor
