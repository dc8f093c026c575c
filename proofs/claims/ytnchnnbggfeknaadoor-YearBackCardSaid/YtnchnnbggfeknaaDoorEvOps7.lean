/-
  append, conversions, calls; and all operations together.
-/
import Derived.Test.YtnchnnbggfeknaaDoorEvOps6
set_option linter.unusedVariables false
set_option linter.unusedSimpArgs false
namespace Nt.Ev
open Go Go.RowKit
section
variable {P : Program} {ρ : Operand → Value} {o : Oper} {B : Nat} {w : World} {g : Gh} {bx : List (Nat × List V)} {E : Env} {fr : List V} {ac : Act}

/-- Nothing is appended. -/
theorem append_nothing {t e ty : TypeId} {n : Nat} {p q : Option Addr} {len cap c : Nat} (hu : P.underlying t = some (.slice e)) (hs : sizeT P e = some n) (hle : len ≤ cap) :
    (Builtin.append_ #[t, t] ty #[.slice p len cap, .slice q 0 c]).run P w = .ok (.slice p len cap) w := by
  have hf : (Builtin.firstCells n 0 (.slice q 0 c)).run P w = .ok #[] w := by
    cases q <;> simp [Builtin.firstCells, loadCells, loadCellsFrom]
  cases p <;> simp [Builtin.append_, run_underlying hu, sizeT_run hs, Builtin.lenOf, hle, hf, storeCells]

theorem grownCap_maxLen {need old : Nat} {e : TypeId} (h : need ≤ 33554432) : grownCap w need old e ≤ maxLen := grownCap_le_maxLen w need old e (by unfold maxLen; omega)

/-- The rows behind a tail. -/
theorem tail_row {sh : List Kd} {X : V} {ys : List V} {u : Value} (hX : trep g X u) (h : tailV sh X = some ys) : ∃ p cap, u = .slice p ys.length cap ∧ (ys = [] ∨ ∃ b off l, p = some ⟨b, off, none⟩ ∧ g.G b = some l ∧ repE g.G sh ys (l.drop off)) := by
  unfold tailV at h
  split at h
  · rename_i e sh' ow zs
    have hh := cond_some h
    obtain ⟨h1, h2⟩ := hh
    simp only [Option.some.injEq] at h2
    subst h2
    obtain rfl := Kd.eqL_sound _ _ h1
    have hr := trep_slice hX
    unfold rep at hr
    obtain ⟨p, cap, hv, _, hr⟩ := hr
    exact ⟨p, cap, hv, hr⟩
  · simp only [Option.some.injEq] at h
    subst h
    rw [trep_nilsl] at hX
    exact ⟨none, 0, hX, .inl rfl⟩
  · cases h

theorem size_drew_alloc (w : World) (o : Obj) : (w.drew.alloc o).heap[w.heap.size]? = some o := heap_alloc_new w.drew o
theorem below_drew_alloc (w : World) (o : Obj) : Below w.heap.size w (w.drew.alloc o) := by
  have h := below_alloc w.drew o
  exact ⟨h.os, h.tape, h.output, h.size, h.block⟩

theorem zero_one {i : TypeInfo} {zv : Value} (n : Nat) : (Builtin.zeroCells zv.cells n).size = n * zv.cells.size := size_zeroCells _ _

theorem append_sound {c : Call} {s x : Operand} {S X : V} {eff : Eff} (ho : o.op = .call c) (hc : c.callee = .builtin .append) (ha : c.args.toList = [s, x]) (hG : GOk g.G w) (hO : OOk B g w) (hB : B ≤ w.heap.size)
    (hs : trep g S (ρ s)) (hx : trep g X (ρ x)) (h : appendV P c.argTypes.toList S X = some (true, eff)) : Does P ρ o B w g bx eff := by
  obtain ⟨callee, args, argTypes⟩ := c
  simp only at hc ha h
  subst hc
  obtain rfl : args = #[s, x] := by rw [← Array.toList_inj]; simpa using ha
  unfold appendV at h
  split at h
  · rename_i t u htu
    obtain rfl : argTypes = #[t, u] := by rw [← Array.toList_inj]; simpa using htu
    have hh := cond_some h
    clear h
    obtain ⟨hc, h⟩ := hh
    obtain rfl : t = u := by simpa using hc
    have key : ∀ v w', (Builtin.append_ #[t, t] o.type #[ρ s, ρ x]).run P w = .ok v w' → (execOp ρ o).run P w = .ok (.value v) w' := by
      intro v w' hu
      simp [execOp, ho, resolve, invoke, builtin, hu]
    split at h
    · cases h
    · rename_i e sh z hel
      obtain ⟨hu, i, zv, hi, hz, _, _, hsz, h0, hzc, hby, hfit⟩ := elemOf_spec hel
      have hsT : sizeT P e = some sh.length := by unfold sizeT; rw [hi]; simp [hsz]
      split at h
      · cases h
      · rename_i ys hty
        obtain ⟨q, cY, hxv, hrow⟩ := tail_row hx hty
        -- the new cells
        have hnews : ys ≠ [] → ∃ b off l, q = some ⟨b, off, none⟩ ∧ g.G b = some l ∧ repE g.G sh ys ((l.drop off).take (ys.length * sh.length)) ∧ ((l.drop off).take (ys.length * sh.length)).length = ys.length * sh.length ∧
            (∀ j v, ((l.drop off).take (ys.length * sh.length))[j]? = some v → w.cell? ((⟨b, off, none⟩ : Addr).add j) = some v) ∧ ∀ v ∈ (l.drop off).take (ys.length * sh.length), v.oneCell' = true := by
          intro hne
          rcases hrow with hrow | ⟨b, off, l, rfl, hl, hE⟩
          · exact absurd hrow hne
          · obtain ⟨k1, k2⟩ := repE_cells _ _ hE
            refine ⟨b, off, l, rfl, hl, k2, by rw [List.length_take]; omega, fun j v hv => ?_, repE_one _ _ hE⟩
            rw [Addr.add_mid]
            rw [List.getElem?_take] at hv
            split at hv
            · rw [List.getElem?_drop] at hv; exact known_cell hG hl hv
            · cases hv
        split at h
        · -- onto nil
          simp only [Option.some.injEq, Prod.mk.injEq] at h
          obtain ⟨hle, rfl⟩ := h
          have hle : ys.length ≤ 16777216 := of_decide_eq_true hle
          rw [trep_nilsl] at hs
          by_cases hne : ys = []
          · subst hne
            refine ⟨.slice none 0 0, w, g.G, key _ _ ?_, ⟨Below.refl _ _, fun _ _ => rfl, hG⟩, h0, .inl ⟨rfl, rfl⟩⟩
            rw [hs, hxv]
            exact append_nothing hu hsT (Nat.le_refl _)
          · obtain ⟨b, off, l, rfl, hl, hE, hlen, hcell, hone⟩ := hnews hne
            have hpos : 0 < ys.length := List.length_pos_iff.2 hne
            have hr := run_append_nil (P := P) w t o.type e i zv hu hi hz ⟨b, off, none⟩ ys.length cY _ (by rw [hlen, hsz]) hcell hpos (by omega) (by
              calc ys.length * i.bytes ≤ 16777216 * 8388608 := Nat.mul_le_mul hle hby
                _ ≤ 281474976710656 := by decide)
            have hge := grownCap_ge w ys.length 0 e
            generalize hcells : (l.drop off).take (ys.length * sh.length) = news at *
            have hap := own_new (e := e) (sh := sh) (xs := ys) (cap := grownCap w ys.length 0 e) (c := news.toArray ++ Builtin.zeroCells zv.cells (grownCap w ys.length 0 e - ys.length)) (w' := w.drew.alloc (.cells (news.toArray ++ Builtin.zeroCells zv.cells (grownCap w ys.length 0 e - ys.length)) e)) hG
              (below_drew_alloc w _) (size_drew_alloc w _) h0 hge (grownCap_maxLen (by omega)) (by
                simp only [Array.size_append, List.size_toArray, size_zeroCells, hzc, hlen, ← Nat.add_mul]
                congr 1; omega) (by
                simp only [Array.toList_append, ← hlen, List.take_left]
                exact hE)
            obtain ⟨G', hN, hF⟩ := hap
            exact ⟨_, _, G', key _ _ (by rw [hs, hxv]; exact hr), hN, hF⟩
        · -- onto a slice that the call owns
          rename_i e' sh' L xs
          have hh := cond_some h
          clear h
          obtain ⟨hc2, h⟩ := hh
          simp only [Option.some.injEq, Prod.mk.injEq] at h
          obtain ⟨hle, rfl⟩ := h
          have hle : xs.length + ys.length ≤ 16777216 := of_decide_eq_true hle
          simp only [Bool.and_eq_true, beq_iff_eq] at hc2
          obtain ⟨rfl, hsh⟩ := hc2
          obtain rfl := Kd.eqL_sound _ _ hsh
          obtain ⟨hOL, hown⟩ := hs
          have hbytes : (xs.length + ys.length) * i.bytes ≤ 140737488355328 := by
            calc (xs.length + ys.length) * i.bytes ≤ 16777216 * 8388608 := Nat.mul_le_mul hle hby
              _ ≤ 140737488355328 := by decide
          obtain ⟨_, hOv⟩ := hO.1 L _ _ _ hOL
          have refl_case : ∀ (G' : Known), G' = g.G → ys = [] → Does P ρ o B w g bx (.app L e sh (lcat xs ys)) := by
            rintro G' rfl rfl
            have hxe : lcat xs [] = xs := by unfold lcat; simp
            rw [hxe]
            have hlc : ∃ p cap, ρ s = .slice p xs.length cap ∧ xs.length ≤ cap := by
              rcases hown with ⟨hv, hx0⟩ | ⟨b, cap, l, hv, hcap, _⟩
              · exact ⟨none, 0, by rw [hv, hx0]; rfl, by rw [hx0]; exact Nat.le_refl _⟩
              · exact ⟨_, cap, hv, hcap⟩
            obtain ⟨p, cap, hv, hcap⟩ := hlc
            refine ⟨ρ s, ρ s, w, g.G, hOL, key _ _ (by rw [hv, hxv]; exact append_nothing hu hsT hcap), ⟨rfl, rfl, rfl, Nat.le_refl _, fun _ _ _ => rfl⟩, fun _ _ _ => rfl, .refl _, hG, ⟨h0, ?_⟩, .inl rfl⟩
            rcases hown with ⟨hv, hx0⟩ | ⟨b, cap, l, hv, hcap, hGb, hl, hE⟩
            · exact .inl ⟨hv, hx0⟩
            · rcases hOv with hOv | ⟨b', n, cap', cur, l', hv', hBb, hh, hn, hcm, hcs, hGb', hl'⟩
              · rw [hv] at hOv; cases hOv
              · rw [hv] at hv'
                simp only [Value.slice.injEq, Option.some.injEq, Addr.mk.injEq] at hv'
                obtain ⟨⟨rfl, _, _⟩, hn2, rfl⟩ := hv'
                exact .inr ⟨b, cap, cur, l, hv, hBb, hh, hcap, hcm, hcs, hGb, hl, hE⟩
          by_cases hne : ys = []
          · exact refl_case _ rfl hne
          · obtain ⟨b2, off, l2, rfl, hl2, hE2, hlen, hcell, hone⟩ := hnews hne
            have hpos : 0 < ys.length := List.length_pos_iff.2 hne
            generalize hcells : (l2.drop off).take (ys.length * sh.length) = news at *
            have hcat : (lcat xs ys).length = xs.length + ys.length := by unfold lcat; simp
            rcases hown with ⟨hv, hx0⟩ | ⟨b, cap, l, hv, hcap, hGb, hl, hE⟩
            · -- nil, owned
              subst hx0
              have hle' : ys.length ≤ 16777216 := by simpa using hle
              have hr := run_append_nil (P := P) w t o.type e i zv hu hi hz ⟨b2, off, none⟩ ys.length cY _ (by rw [hlen, hsz]) hcell hpos (by omega) (by
                calc ys.length * i.bytes ≤ 16777216 * 8388608 := Nat.mul_le_mul hle' hby
                  _ ≤ 281474976710656 := by decide)
              have hge := grownCap_ge w ys.length 0 e
              have hxe : lcat [] ys = ys := rfl
              rw [hxe]
              obtain ⟨G', hN, hF⟩ := own_new (e := e) (sh := sh) (xs := ys) (cap := grownCap w ys.length 0 e) (c := news.toArray ++ Builtin.zeroCells zv.cells (grownCap w ys.length 0 e - ys.length)) (w' := w.drew.alloc (.cells (news.toArray ++ Builtin.zeroCells zv.cells (grownCap w ys.length 0 e - ys.length)) e)) hG
                (below_drew_alloc w _) (size_drew_alloc w _) h0 hge (grownCap_maxLen (by omega)) (by
                  simp only [Array.size_append, List.size_toArray, size_zeroCells, hzc, hlen, ← Nat.add_mul]
                  congr 1; omega) (by
                  simp only [Array.toList_append, ← hlen, List.take_left]
                  exact hE2)
              obtain ⟨hb, hGs, hGk⟩ := hN
              refine ⟨ρ s, _, _, G', hOL, key _ _ (by rw [hv, hxv]; exact hr), ⟨hb.os, hb.tape, hb.output, hb.size, fun k hk _ => hb.block k hk⟩, fun k hk _ => hGs k hk, fun k m hk => ⟨m, by rw [hGs k (known_lt hG hk)]; exact hk, List.prefix_refl _⟩, hGk, ⟨hF.1, ?_⟩, .inr ?_⟩
              · rcases hF.2 with hF | ⟨b', cap', cur, l', hv', hBb, rest⟩
                · exact .inl hF
                · exact .inr ⟨b', cap', cur, l', hv', by omega, rest⟩
              · intro k hk
                simp [Value.ownBlock] at hk
                omega
            · rcases hOv with hOv | ⟨b', n, cap', cur, l', hv', hBb, hh, hn, hcm, hcs, hGb', hl'⟩
              · rw [hv] at hOv; cases hOv
              · rw [hv] at hv'
                simp only [Value.slice.injEq, Option.some.injEq, Addr.mk.injEq] at hv'
                obtain ⟨⟨rfl, _, _⟩, hn2, rfl⟩ := hv'
                obtain ⟨cur', e2, fr2, hh2, htk⟩ := hG b l hGb
                rw [hh] at hh2
                simp only [Option.some.injEq, Obj.cells.injEq] at hh2
                obtain ⟨rfl, _, _⟩ := hh2
                rw [hl] at htk
                have hcatE : ∀ G', More g.G G' → repE G' sh (lcat xs ys) (l ++ news) := fun G' hm => repE_append xs ys l news (repE_more hm sh xs _ _ hE (List.prefix_refl _)) (repE_more hm sh ys _ _ hE2 (List.prefix_refl _)) hl
                have hcatl : (l ++ news).length = (lcat xs ys).length * sh.length := by rw [List.length_append, hl, hlen, hcat, Nat.add_mul]
                by_cases hroom : xs.length + ys.length ≤ cap
                · -- there is room
                  have hfit : xs.length * i.size + news.length ≤ cur.size := by rw [hlen, hcs, hsz, ← Nat.add_mul]; exact Nat.mul_le_mul_right _ hroom
                  have hr := run_append_room (P := P) w t o.type e i hu hi b xs.length cap cur hh ⟨b2, off, none⟩ ys.length cY news (by rw [hlen, hsz]) hcell hone hroom hfit
                  rw [hsz, htk] at hr
                  have hblt : b < w.heap.size := (Array.getElem?_eq_some_iff.1 hh).1
                  have hset := setRow_heap w b cur (l ++ news ++ cur.toList.drop (xs.length * sh.length + news.length)).toArray e (0, 0) hh
                  have hmore : More g.G (upd g.G b (l ++ news)) := by
                    intro k m hk
                    by_cases ek : k = b
                    · subst ek
                      rw [hGb] at hk
                      simp only [Option.some.injEq] at hk
                      subst hk
                      exact ⟨_, upd_same _ _ _, List.prefix_append _ _⟩
                    · exact ⟨m, by rw [upd_other _ _ _ _ ek]; exact hk, List.prefix_refl _⟩
                  refine ⟨ρ s, _, _, upd g.G b (l ++ news), hOL, key _ _ (by rw [hv, hxv]; exact hr), ?_, ?_, hmore, ?_, ⟨h0, .inr ⟨b, cap, _, l ++ news, by rw [hcat], hBb, hset, by rw [hcat]; exact hroom, hcm, ?_, upd_same _ _ _, hcatl, hcatE _ hmore⟩⟩, ?_⟩
                  · exact ⟨rfl, rfl, rfl, by simp, fun k _ hk => setRow_other w b k _ (fun ek => hk (by rw [hv, ek]; rfl))⟩
                  · intro k hk hne2
                    exact upd_other _ _ _ _ (fun ek => hne2 (by rw [hv, ek]; rfl))
                  · intro k m hk
                    by_cases ek : k = b
                    · subst ek
                      rw [upd_same] at hk
                      simp only [Option.some.injEq] at hk
                      subst hk
                      exact ⟨_, e, (0, 0), hset, by rw [List.append_assoc, ← List.append_assoc l, List.take_left]⟩
                    · rw [upd_other _ _ _ _ ek] at hk
                      obtain ⟨c3, e3, f3, hc3, ht3⟩ := hG k m hk
                      exact ⟨c3, e3, f3, by rw [setRow_other w b k _ ek]; exact hc3, ht3⟩
                  · simp only [List.size_toArray, List.length_append, List.length_drop, Array.length_toList]
                    rw [hl]
                    have h5 : (xs.length + ys.length) * sh.length ≤ cap * sh.length := Nat.mul_le_mul_right _ hroom
                    rw [Nat.add_mul] at h5
                    have e1 : cur.toList.length = cur.size := by simp
                    omega
                  · refine .inl ?_
                    rw [hv]; rfl
                · -- a new row
                  have holds : ∀ j v, l[j]? = some v → w.cell? ((⟨b, 0, none⟩ : Addr).add j) = some v := by
                    intro j v hjv
                    rw [Addr.add_mid, Nat.zero_add]
                    exact known_cell hG hGb hjv
                  have hr := run_append_grow (P := P) w t o.type e i zv hu hi hz ⟨b, 0, none⟩ xs.length cap l (by rw [hl, hsz]) holds ⟨b2, off, none⟩ ys.length cY news (by rw [hlen, hsz]) hcell (by omega) (by omega) (growslice_fits (by omega) hbytes)
                  have hge := grownCap_ge w (xs.length + ys.length) cap e
                  obtain ⟨G', hN, hF⟩ := own_new (e := e) (sh := sh) (xs := lcat xs ys) (cap := grownCap w (xs.length + ys.length) cap e) (c := l.toArray ++ news.toArray ++ Builtin.zeroCells zv.cells (grownCap w (xs.length + ys.length) cap e - (xs.length + ys.length)))
                    (w' := w.drew.alloc (.cells (l.toArray ++ news.toArray ++ Builtin.zeroCells zv.cells (grownCap w (xs.length + ys.length) cap e - (xs.length + ys.length))) e)) hG (below_drew_alloc w _) (size_drew_alloc w _) h0 (by rw [hcat]; exact hge) (grownCap_maxLen (by omega)) (by
                      simp only [Array.size_append, List.size_toArray, size_zeroCells, hzc, hlen, hl, ← Nat.add_mul]
                      congr 1; omega) (by
                      simp only [Array.toList_append, ← hcatl, List.take_left]
                      exact hcatE _ (.refl _))
                  obtain ⟨hb, hGs, hGk⟩ := hN
                  refine ⟨ρ s, _, _, G', hOL, key _ _ (by rw [hv, hxv]; exact hr), ⟨hb.os, hb.tape, hb.output, hb.size, fun k hk _ => hb.block k hk⟩, fun k hk _ => hGs k hk, fun k m hk => ⟨m, by rw [hGs k (known_lt hG hk)]; exact hk, List.prefix_refl _⟩, hGk, ⟨hF.1, ?_⟩, .inr ?_⟩
                  · rcases hF.2 with ⟨hF, _⟩ | ⟨b', cap', cur', l', hv', hBb', rest⟩
                    · cases hF
                    · rw [hcat] at hv'
                      exact .inr ⟨b', cap', cur', l', by rw [hcat]; exact hv', by omega, rest⟩
                  · intro k hk
                    simp [Value.ownBlock] at hk
                    omega
        · cases h
  · cases h
end
end Nt.Ev
