/-
  The reference's Match: it tells what the plain law says.
-/
import Derived.Test.YtnchnnbggfeknaaDoorWordsBegins
namespace Go.Proofs.YtnchnnbggfeknaaDoor
open Go.RowKit Nt Nt.Words

set_option maxRecDepth 100000 in
set_option maxHeartbeats 1000000 in
theorem r_match (s : ByteArray) (p : Option Addr) (len cap : Nat) (ws : List ByteArray) (w : World) (hs : s.size ≤ maxLen) (hS : Strs w p len ws) (hlen : len ≤ 8796093022208) :
    Calls Tryd.prog 117 #[.string s, .slice p len cap] w fun e w' => e = .returned (.tuple #[.int .i64 ↑(mt s ws).1, .int .i64 ↑(mt s ws).2]) ∧ ∃ n, w' = w.drewN n := by
  have hs' := hs
  unfold maxLen at hs
  obtain ⟨hl1, hl2⟩ : ws.length ≤ len ∧ len ≤ ws.length := by have := hS.1; omega
  by_cases h0 : s.size = 0
  · have h1 := isEmpty_yes s h0
    have H := Lib.hid (mt_nil s ws h0)
    clear h0
    go_enter Tryd.func117, Tryd.ntmps117
    go_wp2_with fail
    go_ret2
    exact ⟨by rw [H.out]; rfl, 0, rfl⟩
  · have h1 := isEmpty_no s h0
    have h0' := Lib.hid h0
    clear h0
    go_enter Tryd.func117, Tryd.ntmps117
    go_wp2_with fail
    go_loopw [15] (fun i wr => ∃ k : Nat, k ≤ len ∧ i = .int .i64 k ∧ Hid (∃ m, wr = w.drewN m) ∧ Hid (∀ i, i < k → same (wAt ws i) s = false)) (fun i _ => len - (intOf i).toNat)
    case atStart => exact ⟨0, Nat.zero_le _, rfl, ⟨0, rfl⟩, fun i hi => by omega⟩
    case round =>
      obtain ⟨k, hk, rfl, ⟨m, rfl⟩, hno⟩ := hrel
      by_cases hlt : k < len
      · obtain ⟨b, off, rfl, hb, hc⟩ := hS.2.2 (by omega)
        obtain ⟨x, hx⟩ : ∃ x, x = wAt ws k := ⟨_, rfl⟩
        have hck : w.cell? ⟨b, off + k, none⟩ = some (.string x) := by rw [hx]; exact hc k hlt
        have hxs : x.size ≤ maxLen := by rw [hx]; exact hS.mem hlt
        have HX := Lib.hid hx
        clear hx hc
        by_cases hsame : same x s = true
        · have hr := Lib.hid (mt_hit s ws k h0'.out (by omega) (by rw [← HX.out]; exact hsame) hno.out)
          go_wp2_with (go_at_call 82; refine (r_same _ _ _ hxs hs').mono ?_; rintro e w' ⟨rfl, n, rfl⟩)
          go_ret2
          exact ⟨by rw [hr.out]; rfl, _, rfl⟩
        · have hsame : same x s = false := by simpa using hsame
          have hno' : Hid (∀ i, i < k + 1 → same (wAt ws i) s = false) := fun i hi => by
            by_cases h : i = k
            · rw [h, ← HX.out]; exact hsame
            · exact hno.out i (by omega)
          go_wp2_with (go_at_call 82; refine (r_same _ _ _ hxs hs').mono ?_; rintro e w' ⟨rfl, n, rfl⟩)
          go_roundw
          case rel => exact ⟨k + 1, by omega, by go_num, ⟨_, rfl⟩, hno'⟩
          case measure => simp [intOf]; omega
      · obtain rfl : k = len := by omega
        have hlw : Hid (ws.length = k) := hS.1
        have hno2 : Hid (∀ i, i < ws.length → same (wAt ws i) s = false) := fun i hi => hno.out i (by have := hlw.out; omega)
        clear hno hlt
        go_wp2_with fail
        go_loopw [8, 27] (fun v i w2 => ∃ j : Nat, j ≤ k ∧ i = .int .i64 j ∧ v = .int .i64 (headOr (found s ws j)) ∧ Hid (∃ n, w2 = w.drewN n) ∧ Hid (∀ f r, found s ws j = f :: r → ∀ i ∈ f :: r, same (wAt ws i) (wAt ws f) = true)) (fun _ i _ => k - (intOf i).toNat)
        case atStart => exact ⟨0, Nat.zero_le _, rfl, rfl, ⟨m, rfl⟩, fun f r h => by simp [found] at h⟩
        case round =>
          obtain ⟨j, hj, rfl, rfl, ⟨n, rfl⟩, hall⟩ := hrel
          by_cases hjk : j < k
          · obtain ⟨b, off, rfl, hb, hc⟩ := hS.2.2 (by omega)
            obtain ⟨x, hx⟩ : ∃ x, x = wAt ws j := ⟨_, rfl⟩
            have hck : w.cell? ⟨b, off + j, none⟩ = some (.string x) := by rw [hx]; exact hc j hjk
            have hxs : x.size ≤ maxLen := by rw [hx]; exact hS.mem hjk
            have HX := Lib.hid hx
            clear hx
            by_cases hbeg : begins x s = true
            · have hf := found_yes s ws j (by rw [← HX.out]; exact hbeg)
              cases e : found s ws j with
              | nil =>
                rw [e] at hf
                have HF := Lib.hid hf
                have hh : headOr ([] : List Nat) = -1 := rfl
                have hrel2 : Hid (∀ f r, found s ws (j + 1) = f :: r → ∀ i ∈ f :: r, same (wAt ws i) (wAt ws f) = true) := by
                  intro f r h i hi
                  rw [HF.out] at h
                  simp at h
                  obtain ⟨rfl, rfl⟩ := h
                  simp at hi
                  subst hi
                  simp [same, begins]
                  intro i _; simp [alike]
                clear hc e hf hall
                go_wp2_with (go_at_call 127; refine (r_begins _ _ _ hxs hs').mono ?_; rintro e w' ⟨rfl, n', rfl⟩)
                go_roundw
                case rel => exact ⟨j + 1, by omega, by go_num, by rw [HF.out]; rfl, ⟨_, rfl⟩, hrel2⟩
                case measure => simp [intOf]; omega
              | cons f r =>
                rw [e] at hf
                have HF := Lib.hid hf
                have hfj : f < j := found_lt s ws j f (by rw [e]; simp)
                obtain ⟨xf, hxf⟩ : ∃ x, x = wAt ws f := ⟨_, rfl⟩
                have hcf : w.cell? ⟨b, off + f, none⟩ = some (.string xf) := by rw [hxf]; exact hc f (by omega)
                have hxfs : xf.size ≤ maxLen := by rw [hxf]; exact hS.mem (by omega)
                have HXF := Lib.hid hxf
                have hh : headOr (f :: r) = (f : Int) := rfl
                by_cases hsm : same xf x = true
                · have hrel2 : Hid (∀ f r, found s ws (j + 1) = f :: r → ∀ i ∈ f :: r, same (wAt ws i) (wAt ws f) = true) := by
                    intro f' r' h i hi
                    rw [HF.out] at h
                    simp at h
                    obtain ⟨rfl, rfl⟩ := h
                    simp only [List.mem_cons, List.mem_append, List.mem_nil_iff, or_false] at hi
                    rcases hi with rfl | hi | rfl
                    · exact hall.out _ _ e _ (by simp)
                    · exact hall.out _ _ e _ (by simp [hi])
                    · rw [← HX.out, ← HXF.out, same_comm]; exact hsm
                  clear hc e hf hall hxf
                  go_wp2_with (first
                    | (go_at_call 127; refine (r_begins _ _ _ hxs hs').mono ?_; rintro e w' ⟨rfl, n', rfl⟩)
                    | (go_at_call 82; refine (r_same _ _ _ hxfs hxs).mono ?_; rintro e w' ⟨rfl, n', rfl⟩))
                  go_roundw
                  case rel => exact ⟨j + 1, by omega, by go_num, by rw [HF.out]; rfl, ⟨_, rfl⟩, hrel2⟩
                  case measure => simp [intOf]; omega
                · have hsm : same xf x = false := by simpa using hsm
                  obtain ⟨t, ht⟩ := found_more s ws (j + 1) ws.length (by omega)
                  have H := Lib.hid (mt_bad2 s ws h0'.out hno2.out f ((r ++ [j]) ++ t) (by rw [ht, HF.out]; simp) j (by simp) (by rw [← HX.out, ← HXF.out, same_comm]; exact hsm))
                  clear hc e hf hall hxf ht
                  go_wp2_with (first
                    | (go_at_call 127; refine (r_begins _ _ _ hxs hs').mono ?_; rintro e w' ⟨rfl, n', rfl⟩)
                    | (go_at_call 82; refine (r_same _ _ _ hxfs hxs).mono ?_; rintro e w' ⟨rfl, n', rfl⟩))
                  go_ret2
                  exact ⟨by rw [H.out]; rfl, _, rfl⟩
            · have hbeg : begins x s = false := by simpa using hbeg
              have HF := Lib.hid (found_no s ws j (by rw [← HX.out]; exact hbeg))
              clear hc
              go_wp2_with (go_at_call 127; refine (r_begins _ _ _ hxs hs').mono ?_; rintro e w' ⟨rfl, n', rfl⟩)
              go_roundw
              case rel => exact ⟨j + 1, by omega, by go_num, by rw [HF.out], ⟨_, rfl⟩, by rw [HF.out]; exact hall⟩
              case measure => simp [intOf]; omega
          · obtain rfl : j = k := by omega
            cases e : found s ws j with
            | nil =>
              have H := Lib.hid (mt_empty s ws h0'.out hno2.out (by rw [hlw.out, e]; rfl))
              have hh : headOr ([] : List Nat) = -1 := rfl
              clear e
              go_wp2_with fail
              go_ret2
              exact ⟨by rw [H.out]; rfl, _, rfl⟩
            | cons f r =>
              have H := Lib.hid (mt_ok2 s ws h0'.out hno2.out f r (by rw [hlw.out, e]) (hall.out _ _ e))
              have hh : headOr (f :: r) = (f : Int) := rfl
              clear e
              go_wp2_with fail
              go_ret2
              exact ⟨by rw [H.out]; rfl, _, rfl⟩
end Go.Proofs.YtnchnnbggfeknaaDoor
