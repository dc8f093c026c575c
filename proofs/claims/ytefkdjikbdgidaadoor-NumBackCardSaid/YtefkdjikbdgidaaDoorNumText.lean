/-
  num.Text: a number's text.
-/
import Derived.Test.YtefkdjikbdgidaaDoorNumWalks2
import Derived.Test.YtefkdjikbdgidaaDoorNumTextPlain
set_option linter.unusedVariables false
set_option linter.unusedSimpArgs false
namespace Go.Proofs.YtefkdjikbdgidaaDoor
open Go.RowKit Nt Nt.Num

theorem info_u8 : (Tryd.prog.info? 5).map (fun i => (i.zero, i.size, i.bytes)) = some (some (.int .u8 0), 1, 1) := by kernel_rfl

def bv (b : UInt8) : Value := .int .u8 (b.toNat : Int)

/-- Twenty bytes. -/
def mk20 : Array Value := Array.replicate 20 (.int .u8 0)

theorem make20 (w : World) : (Instr.makeSlice 62 (.int .i64 0) (.int .i64 20)).run Tryd.prog w = .ok (.slice (some ⟨w.heap.size, 0, none⟩) 0 20) (w.alloc (.cells mk20 5)) := by kernel_rfl

set_option maxRecDepth 100000 in
set_option maxHeartbeats 2000000 in
theorem n_text (n : Int) (w : World) (ha : Fits n) :
    Calls Tryd.prog 28 #[.int .i64 n] w fun e w' => e = .returned (.string (bs (text n))) ∧ Below w.heap.size w w' := by
  have ha' := ha
  obtain ⟨a1, a2⟩ := ha
  obtain ⟨u, hu⟩ : ∃ u, u = n.natAbs := ⟨_, rfl⟩
  have hub : u ≤ 9223372036854775808 := by omega
  have F : Hid (∀ w, Calls Tryd.prog 55 #[.int .i64 n] w fun e w' => e = .returned (.int .u64 (u : Int)) ∧ w' = w) := fun w => by rw [hu]; exact n_far n w ha'
  have hmk := make20
  by_cases h : n < 0
  · obtain ⟨sg, hsg⟩ : ∃ sg : List UInt8, sg = [45] := ⟨_, rfl⟩
    have HT := Lib.hid (show bs (text n) = bs (sg ++ digs u) by unfold text; rw [if_pos h, hsg, hu])
    have hsl : sg.length ≤ 1 := by rw [hsg]; simp
    have HS := Lib.hid hsg
    clear hu hsg
    obtain ⟨wm, hw0⟩ : ∃ w0, w0 = w.alloc (.cells mk20 5) := ⟨_, rfl⟩
    obtain ⟨vm, hv0⟩ : ∃ v0 : Value, v0 = .slice (some ⟨w.heap.size, 0, none⟩) 0 20 := ⟨_, rfl⟩
    have hownm : wm.ownsRow w.heap.size 5 1 vm 0 [] := by rw [hw0, hv0]; exact World.ownsRow_made w mk20 20 (Nat.le_refl _) (by unfold maxLen; decide) rfl
    have hBm : Below w.heap.size w wm := by rw [hw0]; exact (Below.refl w.heap.size w).alloc (Nat.le_refl _) _
    have hmk1 : (Instr.makeSlice 62 (.int .i64 0) (.int .i64 20)).run Tryd.prog w = .ok vm wm := by rw [hw0, hv0]; exact make20 w
    clear hmk hw0 hv0
    go_enter Tryd.func28, Tryd.ntmps28
    go_wp2_with (at_builtin; refine append1 rfl _ _ 62 rfl w.heap.size 5 (.int .u8 0) 1 Tryd.underlying62 info_u8 rfl _ 0 [] _ _ 5 rfl ?c0 rfl rfl (by decide) (by decide) ?c2 ?_)
    case c0 => exact hownm
    case c2 => exact hBm.size
    intro v0 w0 hown0 hB0
    have hB : Below w.heap.size w w0 := hBm.trans hB0
    have hown : w0.ownsRow w.heap.size 5 1 v0 sg.length (sg.map bv) := by rw [HS.out]; exact hown0
    clear hown0 hB0
    go_wp2_with fail
    refine (F.out _).mono ?_
    rintro e w' ⟨rfl, rfl⟩
    go_wp2_with fail
    go_loop [5] (fun p => ∃ k P : Nat, Hid (P = 10 ^ k) ∧ k ≤ 19 ∧ 1 ≤ P ∧ (P ≤ u ∨ k = 0) ∧ P ≤ 9223372036854775808 ∧ p = .int .u64 (P : Int)) (fun p => 18446744073709551616 - (intOf p).toNat)
    case atStart => exact ⟨0, 1, rfl, by omega, by omega, .inr rfl, by omega, rfl⟩
    case round =>
      obtain ⟨k, P, hP, hk, hP1, hPu, hPb, rfl⟩ := hrel
      have hdm := Nat.div_add_mod u P
      have hwq : IntKind.u64.wrap ((u : Int) / (P : Int)) = (u : Int) / (P : Int) := IntWalk.u64_in _ ⟨Int.ediv_nonneg (by omega) (by omega), by rw [← Int.natCast_ediv]; have := Nat.div_le_self u P; omega⟩
      by_cases h10 : 10 ≤ u / P
      · have hb : P * 10 ≤ u := by
          have := (Nat.le_div_iff_mul_le (by omega : 0 < P)).1 h10
          omega
        have hk' : k + 1 ≤ 19 := by
          by_cases h19 : k = 19
          · have := hP.out
            rw [h19] at this
            omega
          · omega
        clear hdm
        have h10' : (10 : Int) ≤ (u : Int) / (P : Int) := by rw [← Int.natCast_ediv]; omega
        go_wp2
        go_round
        case rel => exact ⟨k + 1, P * 10, by rw [hP.out, Nat.pow_succ]; exact rfl, hk', by omega, .inl hb, by omega, by simp⟩
        case measure => simp [intOf]; omega
      · have h10' : (u : Int) / (P : Int) < 10 := by rw [← Int.natCast_ediv]; omega
        have hu10 : Hid (u / 10 ^ k < 10) := by rw [← hP.out]; show u / P < 10; omega
        have hl : Hid (k = 0 ∨ 10 ^ k ≤ u) := by rw [← hP.out]; rcases hPu with h | h; exact .inr h; exact .inl h
        clear hdm h10 hPu
        go_wp2
        go_loopw [3, 5] (fun v p wr => ∃ m Q : Nat, ∃ L : List UInt8, m ≤ k + 1 ∧ Hid (Q = if m = 0 then 0 else 10 ^ (m - 1)) ∧ Hid (L = sg ++ Num.ahead u k m) ∧ L.length + m ≤ k + 2 ∧ Q ≤ 9223372036854775808 ∧ p = .int .u64 (Q : Int) ∧ wr.ownsRow w.heap.size 5 1 v L.length (L.map bv) ∧ Below w.heap.size w wr) (fun _ p _ => (intOf p).toNat)
        case atStart => exact ⟨k + 1, P, sg, Nat.le_refl _, by show P = _; rw [if_neg (by omega)]; exact hP.out, by show sg = _; unfold Num.ahead; rw [if_neg (by omega), List.append_nil], by omega, hPb, rfl, hown, hB⟩
        case round =>
          clear hown hB
          obtain ⟨m, Q, L, hm, hQ, hL, hLl, hQb, rfl, hown, hB⟩ := hrel
          by_cases hm0 : m = 0
          · subst hm0
            have hQ0 : Q = 0 := by have := hQ.out; simpa using this
            subst hQ0
            have hlen := (digs_len 20 u (by omega) (by decide)).2
            have hLa : Hid (L = sg ++ digs u) := by rw [← ahead_all u k]; exact hL
            have hLp : 0 < L.length := by rw [hLa.out]; simp; omega
            obtain ⟨g, cap, rfl, hg, hgs, hgc⟩ := owned_form hown hLp
            have hcv := run_convert_bytes_back (P := Tryd.prog) wr 62 9 5 ⟨g, 0, none⟩ cap L Tryd.underlying62 Tryd.underlying5 Tryd.underlying9 (fun j hj => by
              have := hgc j hj
              rw [Nat.zero_add] at this
              by_cases h0 : j = 0
              · subst h0; simpa [Addr.add, bv, List.getD_eq_getElem?_getD, List.getElem?_eq_getElem hj] using this
              · simpa [Addr.add, h0, bv, List.getD_eq_getElem?_getD, List.getElem?_eq_getElem hj] using this)
            clear hgc hown hlen hQ
            go_wp2
            go_ret
            exact ⟨by rw [HT.out, ← hLa.out]; rfl, hB⟩
          · obtain ⟨m, rfl⟩ : ∃ m', m = m' + 1 := ⟨m - 1, by omega⟩
            have hQe : Q = 10 ^ m := by have := hQ.out; simpa using this
            have hQ1 : 1 ≤ Q := by rw [hQe]; exact Nat.pow_pos (by decide)
            have hst := Lib.hid (ahead_step u k m hu10.out hl.out (by omega))
            have hQ' : Hid (Q / 10 = if m = 0 then 0 else 10 ^ (m - 1)) := by
              rw [hQe]
              by_cases h0 : m = 0
              · subst h0; rfl
              · rw [if_neg h0]
                obtain ⟨m2, rfl⟩ : ∃ m2, m = m2 + 1 := ⟨m - 1, by omega⟩
                rw [Nat.pow_succ]
                exact Nat.mul_div_cancel _ (by decide)
            have hwq : IntKind.u64.wrap ((u : Int) / (Q : Int)) = (u : Int) / (Q : Int) := IntWalk.u64_in _ ⟨Int.ediv_nonneg (by omega) (by omega), by rw [← Int.natCast_ediv]; have := Nat.div_le_self u Q; omega⟩
            have hd10 : u / Q % 10 < 10 := Nat.mod_lt _ (by decide)
            have HQ := Lib.hid hQe
            clear hQe hQ hm0
            go_wp2_with (at_builtin; refine append1 rfl _ _ 62 rfl w.heap.size 5 (.int .u8 0) 1 Tryd.underlying62 info_u8 rfl _ L.length (L.map bv) _ _ 5 rfl ?c0 rfl rfl ?c1 (by decide) ?c2 ?_)
            case c0 => exact hown
            case c1 => omega
            case c2 => exact hB.size
            intro v' w' hown' hB'
            have hB2 : Below w.heap.size w w' := hB.trans hB'
            have hown2 : w'.ownsRow w.heap.size 5 1 v' (L ++ [digit (u / Q % 10)]).length ((L ++ [digit (u / Q % 10)]).map bv) := by
              have e : bv (digit (u / Q % 10)) = .int .u8 (48 + (u : Int) / (Q : Int) % 10) := by
                unfold bv
                rw [digit_toNat _ hd10]
                congr 1
              rw [List.map_append, List.map_cons, List.map_nil, e]
              have e3 : IntKind.u64.wrap (48 + ((u : Int) / (Q : Int)).tmod 10) % 256 = 48 + (u : Int) / (Q : Int) % 10 := by
                have h0 : 0 ≤ (u : Int) / (Q : Int) := Int.ediv_nonneg (by omega) (by omega)
                generalize (u : Int) / (Q : Int) = z at *
                rw [Int.tmod_eq_emod_of_nonneg h0, IntKind.wrap_u64]
                omega
              simpa [e3] using hown'
            clear hown hown' hB hB'
            go_wp2
            go_roundw
            case rel => exact ⟨m, Q / 10, L ++ [digit (u / Q % 10)], by omega, hQ', by show _ = _; rw [hst.out, ← List.append_assoc, ← hL.out, HQ.out], by simp; omega, by omega, by simp, hown2, hB2⟩
            case measure => simp [intOf]; omega

  · obtain ⟨sg, hsg⟩ : ∃ sg : List UInt8, sg = [] := ⟨_, rfl⟩
    have HT := Lib.hid (show bs (text n) = bs (sg ++ digs u) by unfold text; rw [if_neg h, hsg, hu])
    have hsl : sg.length ≤ 1 := by rw [hsg]; simp
    have HS := Lib.hid hsg
    clear hu hsg
    obtain ⟨w0, hw0⟩ : ∃ w0, w0 = w.alloc (.cells mk20 5) := ⟨_, rfl⟩
    obtain ⟨v0, hv0⟩ : ∃ v0 : Value, v0 = .slice (some ⟨w.heap.size, 0, none⟩) 0 20 := ⟨_, rfl⟩
    have hown : w0.ownsRow w.heap.size 5 1 v0 sg.length (sg.map bv) := by rw [HS.out, hw0, hv0]; exact World.ownsRow_made w mk20 20 (Nat.le_refl _) (by unfold maxLen; decide) rfl
    have hB : Below w.heap.size w w0 := by rw [hw0]; exact (Below.refl w.heap.size w).alloc (Nat.le_refl _) _
    have hmk1 : (Instr.makeSlice 62 (.int .i64 0) (.int .i64 20)).run Tryd.prog w = .ok v0 w0 := by rw [hw0, hv0]; exact make20 w
    clear hmk hw0 hv0
    go_enter Tryd.func28, Tryd.ntmps28
    go_wp2_with fail
    refine (F.out _).mono ?_
    rintro e w' ⟨rfl, rfl⟩
    go_wp2_with fail
    go_loop [5] (fun p => ∃ k P : Nat, Hid (P = 10 ^ k) ∧ k ≤ 19 ∧ 1 ≤ P ∧ (P ≤ u ∨ k = 0) ∧ P ≤ 9223372036854775808 ∧ p = .int .u64 (P : Int)) (fun p => 18446744073709551616 - (intOf p).toNat)
    case atStart => exact ⟨0, 1, rfl, by omega, by omega, .inr rfl, by omega, rfl⟩
    case round =>
      obtain ⟨k, P, hP, hk, hP1, hPu, hPb, rfl⟩ := hrel
      have hdm := Nat.div_add_mod u P
      have hwq : IntKind.u64.wrap ((u : Int) / (P : Int)) = (u : Int) / (P : Int) := IntWalk.u64_in _ ⟨Int.ediv_nonneg (by omega) (by omega), by rw [← Int.natCast_ediv]; have := Nat.div_le_self u P; omega⟩
      by_cases h10 : 10 ≤ u / P
      · have hb : P * 10 ≤ u := by
          have := (Nat.le_div_iff_mul_le (by omega : 0 < P)).1 h10
          omega
        have hk' : k + 1 ≤ 19 := by
          by_cases h19 : k = 19
          · have := hP.out
            rw [h19] at this
            omega
          · omega
        clear hdm
        have h10' : (10 : Int) ≤ (u : Int) / (P : Int) := by rw [← Int.natCast_ediv]; omega
        go_wp2
        go_round
        case rel => exact ⟨k + 1, P * 10, by rw [hP.out, Nat.pow_succ]; exact rfl, hk', by omega, .inl hb, by omega, by simp⟩
        case measure => simp [intOf]; omega
      · have h10' : (u : Int) / (P : Int) < 10 := by rw [← Int.natCast_ediv]; omega
        have hu10 : Hid (u / 10 ^ k < 10) := by rw [← hP.out]; show u / P < 10; omega
        have hl : Hid (k = 0 ∨ 10 ^ k ≤ u) := by rw [← hP.out]; rcases hPu with h | h; exact .inr h; exact .inl h
        clear hdm h10 hPu
        go_wp2
        go_loopw [3, 5] (fun v p wr => ∃ m Q : Nat, ∃ L : List UInt8, m ≤ k + 1 ∧ Hid (Q = if m = 0 then 0 else 10 ^ (m - 1)) ∧ Hid (L = sg ++ Num.ahead u k m) ∧ L.length + m ≤ k + 2 ∧ Q ≤ 9223372036854775808 ∧ p = .int .u64 (Q : Int) ∧ wr.ownsRow w.heap.size 5 1 v L.length (L.map bv) ∧ Below w.heap.size w wr) (fun _ p _ => (intOf p).toNat)
        case atStart => exact ⟨k + 1, P, sg, Nat.le_refl _, by show P = _; rw [if_neg (by omega)]; exact hP.out, by show sg = _; unfold Num.ahead; rw [if_neg (by omega), List.append_nil], by omega, hPb, rfl, hown, hB⟩
        case round =>
          clear hown hB
          obtain ⟨m, Q, L, hm, hQ, hL, hLl, hQb, rfl, hown, hB⟩ := hrel
          by_cases hm0 : m = 0
          · subst hm0
            have hQ0 : Q = 0 := by have := hQ.out; simpa using this
            subst hQ0
            have hlen := (digs_len 20 u (by omega) (by decide)).2
            have hLa : Hid (L = sg ++ digs u) := by rw [← ahead_all u k]; exact hL
            have hLp : 0 < L.length := by rw [hLa.out]; simp; omega
            obtain ⟨g, cap, rfl, hg, hgs, hgc⟩ := owned_form hown hLp
            have hcv := run_convert_bytes_back (P := Tryd.prog) wr 62 9 5 ⟨g, 0, none⟩ cap L Tryd.underlying62 Tryd.underlying5 Tryd.underlying9 (fun j hj => by
              have := hgc j hj
              rw [Nat.zero_add] at this
              by_cases h0 : j = 0
              · subst h0; simpa [Addr.add, bv, List.getD_eq_getElem?_getD, List.getElem?_eq_getElem hj] using this
              · simpa [Addr.add, h0, bv, List.getD_eq_getElem?_getD, List.getElem?_eq_getElem hj] using this)
            clear hgc hown hlen hQ
            go_wp2
            go_ret
            exact ⟨by rw [HT.out, ← hLa.out]; rfl, hB⟩
          · obtain ⟨m, rfl⟩ : ∃ m', m = m' + 1 := ⟨m - 1, by omega⟩
            have hQe : Q = 10 ^ m := by have := hQ.out; simpa using this
            have hQ1 : 1 ≤ Q := by rw [hQe]; exact Nat.pow_pos (by decide)
            have hst := Lib.hid (ahead_step u k m hu10.out hl.out (by omega))
            have hQ' : Hid (Q / 10 = if m = 0 then 0 else 10 ^ (m - 1)) := by
              rw [hQe]
              by_cases h0 : m = 0
              · subst h0; rfl
              · rw [if_neg h0]
                obtain ⟨m2, rfl⟩ : ∃ m2, m = m2 + 1 := ⟨m - 1, by omega⟩
                rw [Nat.pow_succ]
                exact Nat.mul_div_cancel _ (by decide)
            have hwq : IntKind.u64.wrap ((u : Int) / (Q : Int)) = (u : Int) / (Q : Int) := IntWalk.u64_in _ ⟨Int.ediv_nonneg (by omega) (by omega), by rw [← Int.natCast_ediv]; have := Nat.div_le_self u Q; omega⟩
            have hd10 : u / Q % 10 < 10 := Nat.mod_lt _ (by decide)
            have HQ := Lib.hid hQe
            clear hQe hQ hm0
            go_wp2_with (at_builtin; refine append1 rfl _ _ 62 rfl w.heap.size 5 (.int .u8 0) 1 Tryd.underlying62 info_u8 rfl _ L.length (L.map bv) _ _ 5 rfl ?c0 rfl rfl ?c1 (by decide) ?c2 ?_)
            case c0 => exact hown
            case c1 => omega
            case c2 => exact hB.size
            intro v' w' hown' hB'
            have hB2 : Below w.heap.size w w' := hB.trans hB'
            have hown2 : w'.ownsRow w.heap.size 5 1 v' (L ++ [digit (u / Q % 10)]).length ((L ++ [digit (u / Q % 10)]).map bv) := by
              have e : bv (digit (u / Q % 10)) = .int .u8 (48 + (u : Int) / (Q : Int) % 10) := by
                unfold bv
                rw [digit_toNat _ hd10]
                congr 1
              rw [List.map_append, List.map_cons, List.map_nil, e]
              have e3 : IntKind.u64.wrap (48 + ((u : Int) / (Q : Int)).tmod 10) % 256 = 48 + (u : Int) / (Q : Int) % 10 := by
                have h0 : 0 ≤ (u : Int) / (Q : Int) := Int.ediv_nonneg (by omega) (by omega)
                generalize (u : Int) / (Q : Int) = z at *
                rw [Int.tmod_eq_emod_of_nonneg h0, IntKind.wrap_u64]
                omega
              simpa [e3] using hown'
            clear hown hown' hB hB'
            go_wp2
            go_roundw
            case rel => exact ⟨m, Q / 10, L ++ [digit (u / Q % 10)], by omega, hQ', by show _ = _; rw [hst.out, ← List.append_assoc, ← hL.out, HQ.out], by simp; omega, by omega, by simp, hown2, hB2⟩
            case measure => simp [intOf]; omega

end Go.Proofs.YtefkdjikbdgidaaDoor
