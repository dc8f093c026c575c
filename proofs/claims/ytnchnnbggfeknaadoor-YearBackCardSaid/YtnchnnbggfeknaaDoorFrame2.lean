/-
  What a law's row gives the walk, with the form's own reach: sizes of what is read.
-/
import Derived.Test.YtnchnnbggfeknaaDoorFrame
set_option linter.unusedVariables false
set_option linter.unusedSimpArgs false
namespace Nt
open Go Go.RowKit Go.ChangeShapes Go.WideShapes Go.ChangeAt
section
variable {H : Type} {enc : TypeId × Value → H} {P : Program}

theorem weights_get {p : Nat → Bool} : ∀ (ts : List TypeId) (ds : List (DataW H)) (j : Nat) (t : TypeId) (d : DataW H), (DataW.weightsEach P ts ds).all p = true → ts[j]? = some t → ds[j]? = some d → (d.weights P t).all p = true
  | [], _, _, _, _, _, h, _ => by simp at h
  | _ :: _, [], _, _, _, _, _, h => by simp at h
  | t :: ts, d :: ds, 0, _, _, h, h1, h2 => by
    simp only [List.getElem?_cons_zero, Option.some.injEq] at h1 h2
    subst h1; subst h2
    simp only [DataW.weightsEach, List.all_append, Bool.and_eq_true] at h
    exact h.1
  | t :: ts, d :: ds, j + 1, t', d', h, h1, h2 => by
    simp only [DataW.weightsEach, List.all_append, Bool.and_eq_true] at h
    exact weights_get ts ds j t' d' h.2 (by simpa using h1) (by simpa using h2)

theorem weightsAll_get {p : Nat → Bool} {e : TypeId} : ∀ (ds : List (DataW H)) (d : DataW H), (DataW.weightsAll P e ds).all p = true → d ∈ ds → (d.weights P e).all p = true
  | [], _, _, h => by cases h
  | d :: ds, d', h, hm => by
    simp only [DataW.weightsAll, List.all_append, Bool.and_eq_true] at h
    rcases List.mem_cons.1 hm with rfl | hm
    · exact h.1
    · exact weightsAll_get ds d' h.2 hm

/-- A slice of strings among the arguments, with the sizes that the form's reach allows. -/
theorem strs_open_sized {t e : TypeId} (ht : P.underlying t = some (.slice e)) (he : P.underlying e = some .string) (hc : P.cellsOf e = 1) {W : World} {a : Option Addr} {len cap : Nat} {d : DataW H} {p : List MemPlace}
    (h : DataW.Trod enc P W 0 (fun _ => true) true t (.slice a len cap) d p) (hsz : (d.weights P t).all (fun x => decide (x ≤ reachBytes)) = true) : ∃ ss, Strs W a len ss ∧ (∀ s ∈ ss, s.size ≤ 140737488351232) ∧ len * P.bytesOf e ≤ 140737488351232 := by
  obtain ⟨fuel, hf⟩ := h
  rcases open_strings ht he hc hf with ⟨hcs, _⟩ | ⟨x, l, c, ss, hcs, _, hl, hm, hz, hx, hcell, hws⟩
  · simp [Value.cells] at hcs
    obtain ⟨rfl, rfl, rfl⟩ := hcs
    exact ⟨[], ⟨rfl, by simp, fun h => absurd h (by omega)⟩, by simp, by simp⟩
  · simp [Value.cells] at hcs
    obtain ⟨rfl, rfl, rfl⟩ := hcs
    simp only [if_true] at hz
    simp only [Prod.mk.injEq] at hx
    obtain ⟨rfl, _⟩ := hx
    have h2 : ∀ s ∈ ss.take len, s.size ≤ 140737488351232 := by
      intro s hs
      simp only [DataW.weights, ht, List.all_cons, List.all_append, Bool.and_eq_true] at hsz
      have := weightsAll_get _ (.lit (.string s.data.toList)) hsz.2.1 (List.mem_map.2 ⟨s, hs, rfl⟩)
      have h4 : s.data.toList.length ≤ reachBytes := by
        simp only [DataW.weights, List.all_cons, List.all_nil, Bool.and_true] at this
        exact of_decide_eq_true this
      have e : s.data.toList.length = s.size := by simp
      rw [e] at h4
      exact h4
    have h3 : len * P.bytesOf e ≤ 140737488351232 := by
      simp only [DataW.weights, ht, List.all_cons, List.all_append, Bool.and_eq_true, strs, List.length_map, List.length_take, List.length_drop] at hsz
      have h5 : (min len ss.length + (ss.length - len)) * P.bytesOf e ≤ reachBytes := of_decide_eq_true hsz.1
      have h6 : len ≤ min len ss.length + (ss.length - len) := by omega
      exact Nat.le_trans (Nat.mul_le_mul_right _ h6) h5
    refine ⟨ss.take len, ⟨by simp; omega, fun s hs => hws s (List.mem_of_mem_take hs), fun hp => ?_⟩, h2, h3⟩
    obtain ⟨b, off, spot⟩ := x
    have h0 := hcell 0 (by omega)
    have hspot : spot = none := by simpa [Addr.add] using World.cell?_spot h0
    subst hspot
    have h0' : W.cell? ⟨b, off, none⟩ = some (.string (ss.getD 0 ByteArray.empty)) := by simpa [Addr.add] using h0
    refine ⟨b, off, rfl, World.block_lt_of_cell? W _ h0', fun i hi => ?_⟩
    have hi' := hcell i (by omega)
    rw [List.getD_eq_getElem?_getD, List.getElem?_take_of_lt hi, ← List.getD_eq_getElem?_getD, ← hi']
    by_cases hz0 : i = 0
    · subst hz0; simp [Addr.add]
    · simp [Addr.add, hz0]

/-- A string among the arguments. -/
theorem string_sized {t : TypeId} {s : ByteArray} (hsz : ((.lit (.string s.data.toList) : DataW H).weights P t).all (fun x => decide (x ≤ reachBytes)) = true) : s.size ≤ 140737488351232 := by
  have h4 : s.data.toList.length ≤ reachBytes := by
    simp only [DataW.weights, List.all_cons, List.all_nil, Bool.and_true] at hsz
    exact of_decide_eq_true hsz
  have e : s.data.toList.length = s.size := by simp
  rw [e] at h4
  exact h4
end
end Nt
