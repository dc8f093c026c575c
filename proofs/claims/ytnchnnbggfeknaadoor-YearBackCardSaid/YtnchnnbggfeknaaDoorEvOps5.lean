/-
  The evaluator's operations, the last: what makes or writes memory; all of them together.
-/
import Derived.Test.YtnchnnbggfeknaaDoorEvOps4
set_option linter.unusedVariables false
set_option linter.unusedSimpArgs false
namespace Nt.Ev
open Go Go.RowKit
section
variable {P : Program} {ρ : Operand → Value} {o : Oper} {B : Nat} {w : World} {g : Gh} {bx : List (Nat × List V)}

/-- One row more is known. -/
def upd (G : Known) (b : Nat) (l : List Value) : Known := fun k => if k = b then some l else G k
theorem upd_same (G : Known) (b : Nat) (l : List Value) : upd G b l b = some l := by simp [upd]
theorem upd_other (G : Known) (b k : Nat) (l : List Value) (h : k ≠ b) : upd G b l k = G k := by simp [upd, h]

theorem known_lt {G : Known} (hG : GOk G w) {b : Nat} {l : List Value} (h : G b = some l) : b < w.heap.size := by
  obtain ⟨c, e, fr, hc, _⟩ := hG b l h
  exact (Array.getElem?_eq_some_iff.1 hc).1

theorem more_upd_new {G : Known} (hG : GOk G w) (l : List Value) : More G (upd G w.heap.size l) := by
  intro b m h
  have := known_lt hG h
  exact ⟨m, by rw [upd_other _ _ _ _ (by omega)]; exact h, List.prefix_refl _⟩

/-- A new block of cells: what is known is still so, and the new row is known. -/
theorem new_row {G : Known} (hG : GOk G w) {w' : World} {c : Array Value} {e : TypeId} {fr : Nat × Nat} (hB : Below w.heap.size w w') (hh : w'.heap[w.heap.size]? = some (.cells c e fr)) (n : Nat) (hn : n ≤ c.size) :
    New w w' G (upd G w.heap.size (c.toList.take n)) := by
  refine ⟨hB, fun b hb => upd_other _ _ _ _ (by omega), ?_⟩
  intro b l h
  by_cases e' : b = w.heap.size
  · subst e'
    rw [upd_same] at h
    simp only [Option.some.injEq] at h
    subst h
    refine ⟨c, e, fr, hh, ?_⟩
    have e1 : c.toList.length = c.size := by simp
    rw [List.length_take, e1, Nat.min_eq_left hn]
  · rw [upd_other _ _ _ _ e'] at h
    obtain ⟨c', e2, fr', hc, ht⟩ := hG b l h
    exact ⟨c', e2, fr', by rw [hB.block b (known_lt hG h)]; exact hc, ht⟩

theorem below_alloc (w : World) (o : Obj) : Below w.heap.size w (w.alloc o) := (Below.refl _ _).alloc (Nat.le_refl _) o

theorem elemOf_spec {t e : TypeId} {sh : List Kd} {z : V} (h : elemOf P t = some (e, sh, z)) : P.underlying t = some (.slice e) ∧ ∃ i zv, P.info? e = some i ∧ i.zero = some zv ∧ z = absV zv ∧ sh = shapeT P 8 e ∧ i.size = sh.length ∧ 0 < sh.length ∧ zv.cells.size = sh.length ∧ i.bytes ≤ 8388608 ∧ fitsE sh z = true := by
  unfold elemOf at h
  split at h
  · cases h
  · rename_i e' he
    split at h
    · cases h
    · rename_i i hi
      split at h
      · cases h
      · rename_i zv hz
        have hh := cond_some h
        clear h
        obtain ⟨hc, h⟩ := hh
        simp only [Option.some.injEq, Prod.mk.injEq] at h
        obtain ⟨rfl, rfl, rfl⟩ := h
        simp only [Bool.and_eq_true, beq_iff_eq, Nat.blt_eq] at hc
        obtain ⟨⟨⟨⟨h1, h2⟩, h3⟩, h4⟩, h5⟩ := hc
        exact ⟨elemT_spec he, i, zv, hi, hz, rfl, rfl, h1, by omega, by omega, Nat.le_of_ble_eq_true h4, h5⟩

theorem own_new {G : Known} {e : Nat} {sh : List Kd} {xs : List V} {cap : Nat} {c : Array Value} {w' : World} (hG : GOk G w) (hB : Below w.heap.size w w') (hh : w'.heap[w.heap.size]? = some (.cells c e (0, 0))) (h0 : 0 < sh.length)
    (hcap : xs.length ≤ cap) (hm : cap ≤ maxLen) (hc : c.size = cap * sh.length) (hE : repE G sh xs (c.toList.take (xs.length * sh.length))) :
    ∃ G', New w w' G G' ∧ ownFacts G' w' w.heap.size e sh xs (.slice (some ⟨w.heap.size, 0, none⟩) xs.length cap) := by
  have hle : xs.length * sh.length ≤ c.size := by rw [hc]; exact Nat.mul_le_mul_right _ hcap
  refine ⟨_, new_row hG hB hh (xs.length * sh.length) hle, h0, .inr ⟨w.heap.size, cap, c, _, rfl, Nat.le_refl _, hh, hcap, hm, hc, upd_same _ _ _, ?_, ?_⟩⟩
  · have e1 : c.toList.length = c.size := by simp
    rw [List.length_take, e1]; omega
  · exact repE_more (more_upd_new hG _) sh xs _ _ hE (List.prefix_refl _)

theorem makeV_sound {t : TypeId} {l c : Operand} {L C : V} {eff : Eff} (ho : o.op = .makeSlice t l c) (hG : GOk g.G w) (hl : trep g L (ρ l)) (hc : trep g C (ρ c)) (h : makeV P t L C = some (true, eff)) : Does P ρ o B w g bx eff := by
  have he : execOp ρ o = (do pure (.value (← Instr.makeSlice t (ρ l) (ρ c)))) := by simp only [execOp, ho]
  unfold makeV at h
  split at h
  · rename_i n m e sh z hel
    simp only [Option.some.injEq, Prod.mk.injEq] at h
    obtain ⟨hcd, rfl⟩ := h
    obtain ⟨c1, c23⟩ := band_true hcd
    obtain ⟨c2, c3⟩ := band_true c23
    have c1 := ile_true c1
    have c2 := ile_true c2
    have c3 := ile_true c3
    obtain ⟨hu, i, zv, hi, hz, rfl, _, hsz, h0, hzc, hby, hfit⟩ := elemOf_spec hel
    rw [trep_int] at hl hc
    have hm64 : m ≤ 9223372036854775807 := by omega
    have hcells : m.toNat * i.size ≤ m.toNat * i.size := Nat.le_refl _
    have hbytes : (i.bytes : Int) * m ≤ 281474976710656 := by
      have h1 : (i.bytes : Int) ≤ 8388608 := by omega
      calc (i.bytes : Int) * m ≤ 8388608 * m := Int.mul_le_mul_of_nonneg_right h1 (by omega)
        _ ≤ 8388608 * 16777216 := by omega
        _ ≤ 281474976710656 := by decide
    have hr := run_make (P := P) w t e i zv hu hi hz .i64 .i64 n m c1 c2 hbytes hm64
    have hzs : (madeCells zv.cells (m.toNat * i.size)).size = m.toNat * sh.length := by rw [size_madeCells, hsz]
    have hE : repE g.G sh (lrep n (absV zv)) ((madeCells zv.cells (m.toNat * i.size)).toList.take ((lrep n (absV zv)).length * sh.length)) := by
      have hx : absV zv ≠ .any := fun e => by rw [e, fitsE_any] at hfit; cases hfit
      have key : ∀ (k : Nat) (cells : List Value), k * sh.length ≤ cells.length → (∀ j, j < k * sh.length → cells[j]? = some (zv.cells[j % zv.cells.size]!)) → repE g.G sh (List.replicate k (absV zv)) cells := by
        intro k
        induction k with
        | zero => intro cells _ _; exact repE_nil
        | succ k ih =>
          intro cells hle hj
          have e1 : (k + 1) * sh.length = sh.length + k * sh.length := by rw [Nat.add_mul, Nat.one_mul, Nat.add_comm]
          rw [List.replicate_succ]
          unfold repE
          refine ⟨hfit, ⟨zv, absV_rep _ _, ?_⟩, ih _ (by rw [List.length_drop]; omega) ?_⟩
          · apply List.ext_getElem?
            intro j
            rw [List.getElem?_take]
            by_cases hjl : j < sh.length
            · rw [if_pos hjl, hj j (by omega), Nat.mod_eq_of_lt (by omega)]
              have : j < zv.cells.size := by omega
              simp [this]
            · rw [if_neg hjl, List.getElem?_eq_none (by simp; omega)]
          · intro j hjk
            rw [List.getElem?_drop, hj _ (by omega), hzc, Nat.add_mod_left]
      have hle : n.toNat ≤ m.toNat := by omega
      have hlen : (lrep n (absV zv)).length = n.toNat := by unfold lrep; simp
      rw [hlen]
      refine key n.toNat _ ?_ ?_
      · have e1 : (madeCells zv.cells (m.toNat * i.size)).toList.length = m.toNat * sh.length := by rw [← hzs]; simp
        rw [List.length_take, e1]
        have := Nat.mul_le_mul_right sh.length hle
        omega
      · intro j hj
        rw [List.getElem?_take, if_pos hj]
        have hj2 : j < m.toNat * i.size := by
          have := Nat.mul_le_mul_right sh.length hle
          rw [hsz]; omega
        simp [madeCells, hj2]
    have hlen : (lrep n (absV zv)).length = n.toNat := by unfold lrep; simp
    have hap := fun hE => own_new (e := e) (sh := sh) (xs := lrep n (absV zv)) (cap := m.toNat) (c := madeCells zv.cells (m.toNat * i.size)) hG (below_alloc w (.cells (madeCells zv.cells (m.toNat * i.size)) e)) (heap_alloc_new w _) h0 (by rw [hlen]; omega) (by unfold maxLen; omega) hzs hE
    obtain ⟨G', hN, hF⟩ := hap hE
    refine ⟨_, _, G', ?_, hN, hF⟩
    rw [he, hl, hc, hlen]
    simp only [Sem.run_bind, hr, Result.andThen_ok, Sem.run_pure]
  · cases h

/-- Cells laid over others, in the model's words. -/
theorem foldl_over : ∀ (vs : List Value) (cells : Array Value) (off k : Nat), off + k + vs.length ≤ cells.size →
    ((vs.zipIdx k).foldl (fun cs (x : Value × Nat) => cs.setIfInBounds (off + x.2) x.1) cells).toList = cells.toList.take (off + k) ++ vs ++ cells.toList.drop (off + k + vs.length)
  | [], cells, off, k, h => by simp
  | v :: vs, cells, off, k, h => by
    simp only [List.length_cons] at h
    rw [List.zipIdx_cons, List.foldl_cons, foldl_over vs _ off (k + 1) (by simp; omega)]
    simp only [Array.toList_setIfInBounds]
    have h1 : off + k < cells.toList.length := by simp; omega
    rw [show off + (k + 1) = off + k + 1 by omega, List.take_add_one, List.getElem?_set_self h1, List.take_set_of_le (Nat.le_refl _), List.drop_set_of_lt (by omega)]
    simp only [Option.toList_some, List.length_cons]
    rw [show off + k + 1 + vs.length = off + k + (vs.length + 1) by omega]
    simp

theorem over_pw {R : V → Value → Prop} {cs vs : List V} {us ws : List Value} (h : PW R cs us) (k : PW R vs ws) (off : Nat) : PW R (over cs off vs) (us.take off ++ ws ++ us.drop (off + ws.length)) := by
  unfold over
  rw [← k.1]
  exact ((h.take off).append k).append (h.drop _)

theorem fill_sound {G : Known} {place : Nat → Option (Nat × Nat)} : ∀ (parts : List (Nat × V)) (vparts : List (Nat × Value)) (cs out : List V) (cells : Array Value), parts.map (·.1) = vparts.map (·.1) → (∀ (i : Nat) (x : V) (v : Value), (parts[i]?).map (fun (p : Nat × V) => p.2) = some x → (vparts[i]?).map (fun (p : Nat × Value) => p.2) = some v → ∀ y, x.deep = some y → rep G y v) →
    PW (rep G) cs cells.toList → fillV place cs parts = some out → ∃ outs, Instr.fill place cells vparts = some outs ∧ PW (rep G) out outs.toList
  | [], vparts, cs, out, cells, hm, _, hp, h => by
    cases vparts with
    | nil => simp only [fillV, Option.some.injEq] at h; subst h; exact ⟨cells, rfl, hp⟩
    | cons x l => simp at hm
  | (i, x) :: rest, vparts, cs, out, cells, hm, hr, hp, h => by
    cases vparts with
    | nil => simp at hm
    | cons y l =>
      obtain ⟨i', v⟩ := y
      simp only [List.map_cons, List.cons.injEq] at hm
      obtain ⟨rfl, hm⟩ := hm
      simp only [fillV] at h
      split at h
      · rename_i off size x' hpl hd
        have hh := cond_some h
        clear h
        obtain ⟨hc, h⟩ := hh
        simp only [Bool.and_eq_true, beq_iff_eq] at hc
        obtain ⟨hc1, hc2⟩ := hc
        have hc2 := Nat.le_of_ble_eq_true hc2
        have hrep := hr 0 x v rfl rfl x' hd
        have hne : x' ≠ .any := by
          intro e; subst e
          cases x <;> simp [V.deep] at hd
        obtain ⟨hl, hpw⟩ := rep_cells hrep hne
        have hvs : v.cells.size = size := by omega
        have hle : off + v.cells.size ≤ cells.size := by
          have h1 := hp.1
          have e1 : cells.toList.length = cells.size := by simp
          omega
        have hov : ((v.cells.toList.zipIdx 0).foldl (fun cs (x : Value × Nat) => cs.setIfInBounds (off + x.2) x.1) cells).toList = cells.toList.take off ++ v.cells.toList ++ cells.toList.drop (off + v.cells.toList.length) := by
          have := foldl_over v.cells.toList cells off 0 (by simpa using hle)
          simpa using this
        have hfold : v.cells.zipIdx.foldl (fun cs (x : Value × Nat) => cs.setIfInBounds (off + x.2) x.1) cells = (v.cells.toList.zipIdx 0).foldl (fun cs (x : Value × Nat) => cs.setIfInBounds (off + x.2) x.1) cells := by
          rw [← Array.foldl_toList]; simp
        have hp2 : PW (rep G) (over cs off x'.cells) (v.cells.zipIdx.foldl (fun cs (x : Value × Nat) => cs.setIfInBounds (off + x.2) x.1) cells).toList := by
          rw [hfold, hov]
          exact over_pw hp hpw off
        obtain ⟨outs, ho, hpo⟩ := fill_sound rest l _ out _ hm (fun j a b h1 h2 => hr (j + 1) a b h1 h2) hp2 h
        refine ⟨outs, ?_, hpo⟩
        unfold Instr.fill
        rw [hpl]
        simp only
        split
        · rename_i hbad
          exfalso
          simp at hbad
          omega
        · exact ho
      · cases h
end
end Nt.Ev
