/-
  words.Match: it tells what the plain law says.
-/
import Derived.Test.YtnchnnbggfeknaaDoorWordsBegins
namespace Go.Proofs.YtnchnnbggfeknaaDoor
open Go.RowKit Nt Nt.Words

theorem info_int : (Tryd.prog.info? 3).map (fun i => (i.zero, i.size, i.bytes)) = some (some (.int .i64 0), 1, 8) := by kernel_rfl

def iv (i : Nat) : Value := .int .i64 (i : Int)

set_option maxRecDepth 100000 in
set_option maxHeartbeats 1000000 in
theorem w_match (s : ByteArray) (p : Option Addr) (len cap : Nat) (ws : List ByteArray) (w : World) (hs : s.size ≤ maxLen) (hS : Strs w p len ws) (hlen : len ≤ 8796093022208) :
    Calls Tryd.prog 115 #[.string s, .slice p len cap] w fun e w' => e = .returned (.tuple #[.int .i64 ↑(mt s ws).1, .int .i64 ↑(mt s ws).2]) ∧ Below w.heap.size w w' := by
  have hs' := hs
  unfold maxLen at hs
  obtain ⟨hl1, hl2⟩ : ws.length ≤ len ∧ len ≤ ws.length := by have := hS.1; omega
  by_cases h0 : s.size = 0
  · have h1 := isEmpty_yes s h0
    have H := Lib.hid (mt_nil s ws h0)
    clear h0
    go_enter Tryd.func115, Tryd.ntmps115
    go_wp2_with fail
    go_ret2
    exact ⟨by rw [H.out]; rfl, Below.refl _ _⟩
  · have h1 := isEmpty_no s h0
    have h0' := Lib.hid h0
    clear h0
    go_enter Tryd.func115, Tryd.ntmps115
    go_wp2_with fail
    go_loopw [6, 15] (fun v i wr => ∃ k : Nat, k ≤ len ∧ i = .int .i64 k ∧ wr.ownsRow w.heap.size 3 1 v (found s ws k).length ((found s ws k).map iv) ∧ Below w.heap.size w wr ∧ Hid (∀ i, i < k → same (wAt ws i) s = false)) (fun _ i _ => len - (intOf i).toNat)
    case atStart => exact ⟨0, Nat.zero_le _, rfl, World.ownsRow_nil _ _ _ _, Below.refl _ _, fun i hi => by omega⟩
    case round =>
      obtain ⟨k, hk, rfl, hown, hB, hno⟩ := hrel
      by_cases hlt : k < len
      · obtain ⟨b, off, rfl, hb, hc⟩ := (hS.below hB).2.2 (by omega)
        obtain ⟨x, hx⟩ : ∃ x, x = wAt ws k := ⟨_, rfl⟩
        have hck : wr.cell? ⟨b, off + k, none⟩ = some (.string x) := by rw [hx]; exact hc k hlt
        have hxs : x.size ≤ maxLen := by rw [hx]; exact hS.mem hlt
        have HX := Lib.hid hx
        clear hx hc
        by_cases hsame : same x s = true
        · have hr := Lib.hid (mt_hit s ws k h0'.out (by omega) (by rw [← HX.out]; exact hsame) hno.out)
          go_wp2_with (go_at_call 123; refine (w_same _ _ _ hxs hs').mono ?_; rintro e w' ⟨rfl, n, rfl⟩)
          go_ret2
          exact ⟨by rw [hr.out]; rfl, below_drewN hB _⟩
        · have hsame : same x s = false := by simpa using hsame
          have hno' : Hid (∀ i, i < k + 1 → same (wAt ws i) s = false) := fun i hi => by
            by_cases h : i = k
            · rw [h, ← HX.out]; exact hsame
            · exact hno.out i (by omega)
          have hfl := found_le s ws k
          by_cases hbeg : begins x s = true
          · have hf := Lib.hid (found_yes s ws k (by rw [← HX.out]; exact hbeg))
            go_wp2_with (first
              | (go_at_call 123; refine (w_same _ _ _ hxs hs').mono ?_; rintro e w' ⟨rfl, n, rfl⟩)
              | (go_at_call 156; refine (w_begins _ _ _ hxs hs').mono ?_; rintro e w' ⟨rfl, n, rfl⟩)
              | (at_builtin; refine append1 rfl _ _ 89 rfl w.heap.size 3 (.int .i64 0) 8 Tryd.underlying89 info_int rfl _ (found s ws k).length ((found s ws k).map iv) _ (iv k) 3 rfl ?c1 rfl rfl ?c2 (by decide) ?c3 ?_))
            case c1 => exact ownsRow_drewN hown _
            case c2 => omega
            case c3 => have := hB.size; simp; omega
            intro v' w' hown' hB'
            have hown2 : w'.ownsRow w.heap.size 3 1 v' (found s ws (k + 1)).length ((found s ws (k + 1)).map iv) := by rw [hf.out]; simpa using hown'
            have hB2 : Below w.heap.size w w' := (below_drewN hB _).trans hB'
            clear hown hown' hB hB' hf
            go_wp2_with fail
            go_roundw
            case rel => exact ⟨k + 1, by omega, by go_num, hown2, hB2, hno'⟩
            case measure => simp [intOf]; omega
          · have hbeg : begins x s = false := by simpa using hbeg
            have hf := Lib.hid (found_no s ws k (by rw [← HX.out]; exact hbeg))
            go_wp2_with (first
              | (go_at_call 123; refine (w_same _ _ _ hxs hs').mono ?_; rintro e w' ⟨rfl, n, rfl⟩)
              | (go_at_call 156; refine (w_begins _ _ _ hxs hs').mono ?_; rintro e w' ⟨rfl, n, rfl⟩))
            go_roundw
            case rel => exact ⟨k + 1, by omega, by go_num, by rw [hf.out]; exact ownsRow_drewN hown _, below_drewN hB _, hno'⟩
            case measure => simp [intOf]; omega
      · obtain rfl : k = len := by omega
        have hlw : Hid (ws.length = k) := hS.1
        have hno2 : Hid (∀ i, i < ws.length → same (wAt ws i) s = false) := fun i hi => hno.out i (by have := hlw.out; omega)
        obtain ⟨fl, hfl⟩ : ∃ fl, fl = found s ws k := ⟨_, rfl⟩
        have hfle := found_le s ws k
        rw [← hfl] at hown hfle
        have hmem : Hid (∀ i ∈ fl, i < k) := fun i hi => by rw [hfl] at hi; exact found_lt s ws k i hi
        have HF : Hid (found s ws ws.length = fl) := by rw [hlw.out]; exact hfl.symm
        clear hfl hno hlt
        obtain ⟨n, hn⟩ : ∃ n, n = fl.length := ⟨_, rfl⟩
        rw [← hn] at hown hfle
        have Hn := Lib.hid hn
        clear hn
        obtain ⟨pf, cf, rfl⟩ := owned_len hown
        go_wp2_with fail
        go_loopw [36] (fun i w2 => ∃ j : Nat, j ≤ n ∧ i = .int .i64 j ∧ Hid (∃ m, w2 = wr.drewN m) ∧ Hid (∀ i, i < j → same (wAt ws (fl.getD i 0)) (wAt ws (fl.getD 0 0)) = true)) (fun i _ => n - (intOf i).toNat)
        case atStart => exact ⟨0, Nat.zero_le _, rfl, ⟨0, rfl⟩, fun i hi => by omega⟩
        case round =>
          obtain ⟨j, hj, rfl, ⟨m, rfl⟩, hall⟩ := hrel
          by_cases hjn : j < n
          · obtain ⟨g, cap', e, hg, hgs, hgc⟩ := owned_form hown (by omega)
            obtain ⟨b, off, rfl, hb, hc⟩ := (hS.below hB).2.2 (by omega)
            simp only [Value.slice.injEq, true_and] at e
            obtain ⟨rfl, rfl⟩ := e
            have gm : ∀ i, i < n → ∃ y, y = fl.getD i 0 ∧ y < k ∧ wr.cell? ⟨g, i, none⟩ = some (.int .i64 ↑y) := fun i hi => by
              have hi' : i < fl.length := by rw [← Hn.out]; exact hi
              refine ⟨_, rfl, ?_, ?_⟩
              · rw [List.getD_eq_getElem?_getD, List.getElem?_eq_getElem hi']
                exact hmem.out _ (List.getElem_mem _)
              · have := hgc i hi
                rw [Nat.zero_add] at this
                rw [this]
                simp [List.getD_eq_getElem?_getD, List.getElem?_eq_getElem hi', iv]
            obtain ⟨y, hy, hyk, cy⟩ := gm j hjn
            obtain ⟨z, hz, hzk, cz⟩ := gm 0 (by omega)
            obtain ⟨xy, hxy⟩ : ∃ x, x = wAt ws y := ⟨_, rfl⟩
            obtain ⟨xz, hxz⟩ : ∃ x, x = wAt ws z := ⟨_, rfl⟩
            have wy : wr.cell? ⟨b, off + y, none⟩ = some (.string xy) := by rw [hxy]; exact hc y hyk
            have wz : wr.cell? ⟨b, off + z, none⟩ = some (.string xz) := by rw [hxz]; exact hc z hzk
            have sy : xy.size ≤ maxLen := by rw [hxy]; exact hS.mem hyk
            have sz : xz.size ≤ maxLen := by rw [hxz]; exact hS.mem hzk
            have HY := Lib.hid hy
            have HZ := Lib.hid hz
            have HXY := Lib.hid hxy
            have HXZ := Lib.hid hxz
            clear gm hgc hc hy hz hxy hxz
            by_cases hsm : same xy xz = true
            · go_wp2_with fail
              go_quiet ((go_at_call 123; exact quiet2 (w_same _ _ _ sy sz)))
              go_wp2_with fail
              go_roundw
              case rel =>
                refine ⟨j + 1, by omega, by go_num, ⟨_, rfl⟩, fun i hi => ?_⟩
                by_cases h : i = j
                · rw [h, ← HY.out, ← HZ.out, ← HXY.out, ← HXZ.out]; exact hsm
                · exact hall.out i (by omega)
              case measure => simp [intOf]; omega
            · have hsm : same xy xz = false := by simpa using hsm
              have H := Lib.hid (mt_bad s ws h0'.out hno2.out j (by rw [HF.out, ← Hn.out]; exact hjn) (by rw [HF.out, ← HY.out, ← HZ.out, ← HXY.out, ← HXZ.out]; exact hsm))
              go_wp2_with fail
              go_quiet ((go_at_call 123; exact quiet2 (w_same _ _ _ sy sz)))
              go_wp2_with fail
              go_ret2
              exact ⟨by rw [H.out]; rfl, below_drewN (below_drewN hB _) _⟩
          · obtain rfl : j = n := by omega
            by_cases hn0 : 0 < j
            · obtain ⟨g, cap', e, hg, hgs, hgc⟩ := owned_form hown hn0
              simp only [Value.slice.injEq, true_and] at e
              obtain ⟨rfl, rfl⟩ := e
              have H := Lib.hid (mt_ok s ws h0'.out hno2.out (by rw [HF.out, ← Hn.out]; exact hn0) (by rw [HF.out, ← Hn.out]; exact hall.out))
              obtain ⟨y, hy⟩ : ∃ y, y = fl.getD 0 0 := ⟨_, rfl⟩
              have cz : wr.cell? ⟨g, 0, none⟩ = some (.int .i64 ↑y) := by
                have := hgc 0 hn0
                rw [Nat.zero_add] at this
                rw [this, hy]
                have hi' : 0 < fl.length := by rw [← Hn.out]; exact hn0
                simp [List.getD_eq_getElem?_getD, List.getElem?_eq_getElem hi', iv]
              have HY := Lib.hid hy
              have hj0 : ((j : Int) == 0) = false := by simp; omega
              clear hy hgc
              go_wp2_with fail
              go_ret2
              exact ⟨by rw [H.out, HF.out, ← HY.out]; rfl, below_drewN hB _⟩
            · obtain rfl : j = 0 := by omega
              have H := Lib.hid (mt_empty s ws h0'.out hno2.out (by rw [HF.out, ← Hn.out]))
              go_wp2_with fail
              go_ret2
              exact ⟨by rw [H.out]; rfl, below_drewN hB _⟩
end Go.Proofs.YtnchnnbggfeknaaDoor
