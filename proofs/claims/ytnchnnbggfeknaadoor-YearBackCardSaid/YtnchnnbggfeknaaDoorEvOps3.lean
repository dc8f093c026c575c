/-
  The evaluator's operations, continued: rows of elements, strings, new blocks.
-/
import Derived.Test.YtnchnnbggfeknaaDoorEvOps2
set_option linter.unusedVariables false
set_option linter.unusedSimpArgs false
namespace Nt.Ev
open Go Go.RowKit

theorem repE_get {G : Known} {sh : List Kd} : ∀ (xs : List V) (cells : List Value), repE G sh xs cells → ∀ (i : Nat) x, xs[i]? = some x → fitsE sh x = true ∧ ∃ u, rep G x u ∧ (cells.drop (i * sh.length)).take sh.length = u.cells.toList
  | [], _, _, i, _, h => by simp at h
  | y :: xs, cells, h, 0, x, hx => by
    unfold repE at h
    simp at hx; subst hx
    exact ⟨h.1, by simpa using h.2.1⟩
  | y :: xs, cells, h, i + 1, x, hx => by
    unfold repE at h
    have := repE_get xs _ h.2.2 i x (by simpa using hx)
    rw [List.drop_drop] at this
    rw [show (i + 1) * sh.length = sh.length + i * sh.length by rw [Nat.add_mul, Nat.one_mul, Nat.add_comm]]
    exact this
theorem repE_drop {G : Known} {sh : List Kd} : ∀ (n : Nat) (xs : List V) (cells : List Value), repE G sh xs cells → repE G sh (xs.drop n) (cells.drop (n * sh.length))
  | 0, xs, cells, h => by simpa using h
  | n + 1, [], cells, h => by simp [repE_nil]
  | n + 1, y :: xs, cells, h => by
    unfold repE at h
    have := repE_drop n xs _ h.2.2
    rw [List.drop_drop] at this
    rw [show (n + 1) * sh.length = sh.length + n * sh.length by rw [Nat.add_mul, Nat.one_mul, Nat.add_comm], List.drop_succ_cons]
    exact this
theorem repE_take {G : Known} {sh : List Kd} : ∀ (n : Nat) (xs : List V) (cells : List Value), repE G sh xs cells → repE G sh (xs.take n) cells
  | 0, xs, cells, h => by simp [repE_nil]
  | n + 1, [], cells, h => by simp [repE_nil]
  | n + 1, y :: xs, cells, h => by
    unfold repE at h
    rw [List.take_succ_cons]
    unfold repE
    exact ⟨h.1, h.2.1, repE_take n xs _ h.2.2⟩
/-- Elements one behind the other. -/
theorem repE_append {G : Known} {sh : List Kd} : ∀ (xs ys : List V) (c d : List Value), repE G sh xs c → repE G sh ys d → c.length = xs.length * sh.length → repE G sh (xs ++ ys) (c ++ d)
  | [], ys, c, d, _, hy, hl => by
    have : c = [] := List.eq_nil_of_length_eq_zero (by simpa using hl)
    subst this; exact hy
  | x :: xs, ys, c, d, hx, hy, hl => by
    unfold repE at hx
    rw [List.cons_append]
    unfold repE
    have hl' : sh.length ≤ c.length := by rw [hl, List.length_cons, Nat.add_mul]; omega
    refine ⟨hx.1, ?_, ?_⟩
    · rw [List.take_append_of_le_length hl']; exact hx.2.1
    · rw [List.drop_append_of_le_length hl']
      exact repE_append xs ys _ d hx.2.2 hy (by rw [List.length_drop, hl, List.length_cons, Nat.add_mul]; omega)
/-- The cells that elements take. -/
theorem repE_cells {G : Known} {sh : List Kd} : ∀ (xs : List V) (cells : List Value), repE G sh xs cells → xs.length * sh.length ≤ cells.length ∧ repE G sh xs (cells.take (xs.length * sh.length))
  | [], cells, h => by simp [repE_nil]
  | x :: xs, cells, h => by
    have h' := h
    unfold repE at h
    have ⟨i1, i2⟩ := repE_cells xs _ h.2.2
    obtain ⟨u, hu, hc⟩ := h.2.1
    have hlen := fit_cells h.1 hu
    rw [← hc, List.length_take] at hlen
    have e : (x :: xs).length * sh.length = sh.length + xs.length * sh.length := by rw [List.length_cons, Nat.add_mul, Nat.one_mul, Nat.add_comm]
    rw [List.length_drop] at i1
    refine ⟨by rw [e]; omega, ?_⟩
    unfold repE
    refine ⟨h.1, ⟨u, hu, ?_⟩, ?_⟩
    · rw [List.take_take, e, Nat.min_eq_left (by omega)]; exact hc
    · rw [List.drop_take, e, Nat.add_sub_cancel_left]; exact i2
theorem repE_one {G : Known} {sh : List Kd} : ∀ (xs : List V) (cells : List Value), repE G sh xs cells → ∀ u ∈ cells.take (xs.length * sh.length), u.oneCell' = true
  | [], cells, h, u, hu => by simp at hu
  | x :: xs, cells, h, u, hu => by
    unfold repE at h
    obtain ⟨v, hv, hc⟩ := h.2.1
    have e : (x :: xs).length * sh.length = sh.length + xs.length * sh.length := by rw [List.length_cons, Nat.add_mul, Nat.one_mul, Nat.add_comm]
    rw [e, List.take_add, List.mem_append] at hu
    rcases hu with hu | hu
    · rw [hc] at hu
      have hx : x ≠ .any := fun e => by have h1 := h.1; rw [e, fitsE_any] at h1; cases h1
      obtain ⟨hl, hpw⟩ := rep_cells hv hx
      obtain ⟨j, hj, rfl⟩ := List.getElem_of_mem hu
      have hj' : j < x.cells.length := by rw [hpw.1]; exact hj
      have hs := fitsL_len _ _ h.1
      exact fits_one (fitsL_get sh x.cells h.1 j _ _ (List.getElem?_eq_getElem (by omega)) (List.getElem?_eq_getElem hj')) (hpw.2 j _ _ (List.getElem?_eq_getElem hj') (List.getElem?_eq_getElem hj))
    · exact repE_one xs _ h.2.2 u hu

theorem fitsAll_get {sh : List Kd} : ∀ (xs : List V), fitsAll sh xs = true → ∀ x ∈ xs, fitsE sh x = true
  | [], _, x, h => by cases h
  | y :: xs, h, x, hx => by
    simp only [fitsAll, band] at h
    split at h
    · rcases List.mem_cons.1 hx with rfl | hx
      · assumption
      · exact fitsAll_get xs h x hx
    · cases h

theorem cells_agg (a : List Value) : (Value.agg a.toArray).cells.toList = a := by simp [Value.cells]

/-- An array's cells, as elements. -/
theorem chunks_repE {G : Known} {sh : List Kd} {ag : Bool} (hag : (ag || sh.length == 1) = true) : ∀ (n : Nat) (cs : List V) (us : List Value), PW (rep G) cs us → cs.length = n * sh.length → 0 < sh.length → fitsAll sh (chunks ag sh.length n cs) = true →
    repE G sh (chunks ag sh.length n cs) us
  | 0, cs, us, _, _, _, _ => by unfold chunks; exact repE_nil
  | n + 1, cs, us, hp, hl, h0, hf => by
    unfold chunks at hf ⊢
    simp only [fitsAll, band] at hf
    split at hf
    · rename_i hf1
      unfold repE
      have e : (n + 1) * sh.length = sh.length + n * sh.length := by rw [Nat.add_mul, Nat.one_mul, Nat.add_comm]
      refine ⟨hf1, ?_, chunks_repE hag n _ _ (hp.drop _) (by rw [List.length_drop, hl, e]; omega) h0 hf⟩
      cases ag with
      | true =>
        refine ⟨.agg (us.take sh.length).toArray, ?_, by rw [cells_agg]⟩
        show rep G (.agg _) _
        unfold rep
        exact ⟨_, rfl, (repL_iff _ _).2 (hp.take _)⟩
      | false =>
        simp only [Bool.false_or, beq_iff_eq] at hag
        have hlt : 0 < cs.length := by rw [hl, e]; omega
        obtain ⟨v, hv, hr⟩ := hp.get (getD_some (l := cs) (i := 0) hlt)
        generalize cs.getD 0 .any = x at hr hf1 ⊢
        have hf2 : fitsE sh (cellOne x) = true := hf1
        have hne : cellOne x ≠ .any := by
          intro e
          rw [e, fitsE_any] at hf2
          exact absurd hf2 (by decide)
        have hx : cellOne x = x ∧ v.cells = #[v] := by
          cases x with
          | agg ds => exact absurd rfl hne
          | tup ds => exact absurd rfl hne
          | any => exact absurd rfl hne
          | bool b => unfold rep at hr; subst hr; exact ⟨rfl, rfl⟩
          | int k m => unfold rep at hr; subst hr; exact ⟨rfl, rfl⟩
          | str l => unfold rep at hr; subst hr; exact ⟨rfl, rfl⟩
          | nilsl => unfold rep at hr; subst hr; exact ⟨rfl, rfl⟩
          | sl e s2 o xs => unfold rep at hr; obtain ⟨p, cap, rfl, _⟩ := hr; exact ⟨rfl, rfl⟩
          | rptr s2 x off => unfold rep at hr; obtain ⟨b, o, l, rfl, _⟩ := hr; exact ⟨rfl, rfl⟩
          | box k o => unfold rep at hr; exact hr.elim
          | fn f c => unfold rep at hr; exact hr.elim
        show ∃ u, rep G (cellOne x) u ∧ _
        refine ⟨v, by rw [hx.1]; exact hr, ?_⟩
        rw [hx.2, hag]
        cases us with
        | nil => simp at hv
        | cons u us => simp at hv; subst hv; rfl
    · cases hf
end Nt.Ev
