/-
  The plain law of words, more of it: a longer beginning of the same word means the same.
-/
import Derived.Test.YtnchnnbggfeknaaDoorWordsPlain
set_option linter.unusedVariables false
namespace Nt.Words
open Go Nt

theorem alike_trans {x y z : UInt8} (h : alike x y = true) (k : alike y z = true) : alike x z = true := by
  unfold alike at *
  rw [beq_iff_eq] at *
  exact h.trans k

theorem begins_spec (a s : ByteArray) : begins a s = true ↔ s.size ≤ a.size ∧ ∀ i, i < s.size → alike (at_ a i) (at_ s i) = true := by
  unfold begins; simp

theorem same_spec (a s : ByteArray) : same a s = true ↔ s.size = a.size ∧ ∀ i, i < s.size → alike (at_ a i) (at_ s i) = true := by
  unfold same
  rw [Bool.and_eq_true, begins_spec, decide_eq_true_eq]
  constructor
  · rintro ⟨h1, h2, h3⟩; exact ⟨h1.symm, h3⟩
  · rintro ⟨h1, h3⟩; exact ⟨h1.symm, by omega, h3⟩

theorem same_begins {a s : ByteArray} (h : same a s = true) : begins a s = true := by
  rw [same_spec] at h
  rw [begins_spec]
  exact ⟨by omega, h.2⟩

theorem begins_same {a s : ByteArray} (h : begins a s = true) (e : a.size = s.size) : same a s = true := by
  rw [begins_spec] at h
  rw [same_spec]
  exact ⟨e.symm, h.2⟩

theorem same_trans {a b c : ByteArray} (h : same a b = true) (k : same b c = true) : same a c = true := by
  rw [same_spec] at *
  exact ⟨by omega, fun i hi => alike_trans (h.2 i (by omega)) (k.2 i hi)⟩

/-- What a match that is told says. -/
theorem mt_told (s : ByteArray) (ws : List ByteArray) (i : Nat) (h : mt s ws = (i, 0)) :
    s.size ≠ 0 ∧ i < ws.length ∧ begins (wAt ws i) s = true ∧
    ((same (wAt ws i) s = true) ∨ ((∀ j, j < ws.length → same (wAt ws j) s = false) ∧ ∃ r, found s ws ws.length = i :: r ∧ ∀ j ∈ i :: r, same (wAt ws j) (wAt ws i) = true)) := by
  by_cases h0 : s.size = 0
  · rw [mt_nil s ws h0] at h; simp at h
  refine ⟨h0, ?_⟩
  unfold mt at h
  rw [if_neg h0] at h
  cases e : (List.range ws.length).find? (fun i => same (wAt ws i) s) with
  | some k =>
    rw [e] at h
    simp only [Prod.mk.injEq, and_true] at h
    subst h
    have h1 := List.mem_of_find?_eq_some e
    have h2 := List.find?_some e
    simp only [List.mem_range] at h1
    exact ⟨h1, same_begins h2, .inl h2⟩
  | none =>
    rw [e] at h
    rw [List.find?_eq_none] at e
    have hn : ∀ j, j < ws.length → same (wAt ws j) s = false := fun j hj => by
      have := e j (by simpa using hj)
      simpa using this
    simp only at h
    cases ef : found s ws ws.length with
    | nil => rw [ef] at h; simp at h
    | cons f r =>
      rw [ef] at h
      simp only at h
      split at h
      · rename_i hall
        simp only [Prod.mk.injEq, and_true] at h
        subst h
        have hm : f ∈ found s ws ws.length := by rw [ef]; simp
        have hl := found_lt s ws _ _ hm
        have hb : begins (wAt ws f) s = true := by simp [found] at hm; exact hm.2
        exact ⟨hl, hb, .inr ⟨hn, r, rfl, List.all_eq_true.1 hall⟩⟩
      · simp at h

theorem mt_not (s : ByteArray) (ws : List ByteArray) (i c : Nat) (h : mt s ws = (i, c)) (hc : c ≠ 0) : i = 0 := by
  unfold mt at h
  (repeat' split at h) <;> simp_all

/-- A text and the word's next letter. -/
def longer (s x : ByteArray) : ByteArray := s ++ x.extract s.size (s.size + 1)

theorem longer_size (s x : ByteArray) (h : s.size < x.size) : (longer s x).size = s.size + 1 := by
  unfold longer
  rw [ByteArray.size_append, ByteArray.size_extract]
  omega

theorem longer_at (s x : ByteArray) (h : s.size < x.size) (i : Nat) (hi : i ≤ s.size) : at_ (longer s x) i = if i < s.size then at_ s i else at_ x i := by
  unfold at_ longer
  simp only [ByteArray.data_append, Array.toList_append, ByteArray.data_extract, Array.toList_extract, List.getD_eq_getElem?_getD]
  have hs : s.data.toList.length = s.size := by simp
  split
  · rename_i hlt
    rw [List.getElem?_append_left (by omega)]
  · rename_i hge
    have : i = s.size := by omega
    subst this
    rw [List.getElem?_append_right (by omega)]
    simp [hs, List.extract]

theorem begins_longer (w s x : ByteArray) (h : s.size < x.size) (hx : begins x s = true) :
    begins w (longer s x) = true ↔ (s.size < w.size ∧ begins w s = true ∧ alike (at_ w s.size) (at_ x s.size) = true) := by
  rw [begins_spec, begins_spec, longer_size s x h]
  rw [begins_spec] at hx
  constructor
  · rintro ⟨h1, h2⟩
    refine ⟨by omega, ⟨by omega, fun i hi => ?_⟩, ?_⟩
    · have := h2 i (by omega)
      rwa [longer_at s x h i (by omega), if_pos hi] at this
    · have := h2 s.size (by omega)
      rwa [longer_at s x h s.size (by omega), if_neg (by omega)] at this
  · rintro ⟨h1, ⟨h2, h3⟩, h4⟩
    refine ⟨by omega, fun i hi => ?_⟩
    rw [longer_at s x h i (by omega)]
    split
    · exact h3 i (by assumption)
    · have : i = s.size := by omega
      subst this; exact h4

/-- With the word's next letter behind: it means the same word. -/
theorem mt_longer (s : ByteArray) (ws : List ByteArray) (i : Nat) (h : mt s ws = (i, 0)) (hl : (wAt ws i).size ≠ s.size) :
    s.size < (wAt ws i).size ∧ ∃ j, mt (longer s (wAt ws i)) ws = (j, 0) ∧ j < ws.length ∧ same (wAt ws j) (wAt ws i) = true := by
  obtain ⟨h0, hi, hb, hc⟩ := mt_told s ws i h
  have hb' := (begins_spec _ _).1 hb
  have hlt : s.size < (wAt ws i).size := by omega
  refine ⟨hlt, ?_⟩
  rcases hc with hc | ⟨hn, r, hf, hall⟩
  · rw [same_spec] at hc; omega
  -- all that begin with the longer text are the same as the word
  have hsub : ∀ j, j < ws.length → begins (wAt ws j) (longer s (wAt ws i)) = true → same (wAt ws j) (wAt ws i) = true := fun j hj hbj => by
    have := ((begins_longer _ _ _ hlt hb).1 hbj).2.1
    exact hall j (by rw [← hf]; simp [found, hj, this])
  have hself : begins (wAt ws i) (longer s (wAt ws i)) = true := (begins_longer _ _ _ hlt hb).2 ⟨hlt, hb, by unfold alike; simp⟩
  have hl0 : (longer s (wAt ws i)).size ≠ 0 := by rw [longer_size _ _ hlt]; omega
  cases e : (List.range ws.length).find? (fun j => same (wAt ws j) (longer s (wAt ws i))) with
  | some k =>
    have h1 := List.mem_of_find?_eq_some e
    have h2 := List.find?_some e
    simp only [List.mem_range] at h1
    refine ⟨k, ?_, h1, hsub k h1 (same_begins h2)⟩
    unfold mt
    rw [if_neg hl0, e]
  | none =>
    rw [List.find?_eq_none] at e
    have hn' : ∀ j, j < ws.length → same (wAt ws j) (longer s (wAt ws i)) = false := fun j hj => by
      have := e j (by simpa using hj)
      simpa using this
    cases ef : found (longer s (wAt ws i)) ws ws.length with
    | nil =>
      have : i ∈ found (longer s (wAt ws i)) ws ws.length := by simp [found, hi, hself]
      rw [ef] at this; cases this
    | cons f r' =>
      have hm : ∀ j ∈ f :: r', j < ws.length ∧ begins (wAt ws j) (longer s (wAt ws i)) = true := fun j hj => by
        rw [← ef] at hj; simp [found] at hj; exact hj
      have hff := hsub f (hm f (by simp)).1 (hm f (by simp)).2
      refine ⟨f, mt_ok2 _ ws hl0 hn' f r' ef (fun j hj => same_trans (hsub j (hm j hj).1 (hm j hj).2) (by rw [same_comm]; exact hff)), (hm f (by simp)).1, hff⟩

/-- The word and an x. -/
def withX (x : ByteArray) : ByteArray := x ++ ⟨#[120]⟩

theorem withX_size (x : ByteArray) : (withX x).size = x.size + 1 := by unfold withX; rw [ByteArray.size_append]; rfl

theorem withX_at (x : ByteArray) (i : Nat) (h : i < x.size) : at_ (withX x) i = at_ x i := by
  unfold at_ withX
  simp only [ByteArray.data_append, Array.toList_append, List.getD_eq_getElem?_getD]
  rw [List.getElem?_append_left (by simpa using h)]

theorem wAt_snoc_lt (ws : List ByteArray) (y : ByteArray) (j : Nat) (h : j < ws.length) : wAt (ws ++ [y]) j = wAt ws j := by
  unfold wAt
  rw [List.getD_eq_getElem?_getD, List.getD_eq_getElem?_getD, List.getElem?_append_left h]

theorem wAt_snoc_eq (ws : List ByteArray) (y : ByteArray) : wAt (ws ++ [y]) ws.length = y := by
  unfold wAt
  rw [List.getD_eq_getElem?_getD, List.getElem?_append_right (by omega)]
  simp

/-- Another word that begins so and goes on otherwise: then nothing is meant. -/
theorem mt_other (s : ByteArray) (ws : List ByteArray) (i : Nat) (h : mt s ws = (i, 0)) (hl : (wAt ws i).size ≠ s.size) :
    mt s (ws ++ [withX (wAt ws i)]) = (0, 3) := by
  obtain ⟨h0, hi, hb, hc⟩ := mt_told s ws i h
  have hb' := (begins_spec _ _).1 hb
  have hlt : s.size < (wAt ws i).size := by omega
  rcases hc with hc | ⟨hn, r, hf, hall⟩
  · rw [same_spec] at hc; omega
  have hlen : (ws ++ [withX (wAt ws i)]).length = ws.length + 1 := by simp
  have hbx : begins (withX (wAt ws i)) s = true := by
    rw [begins_spec, withX_size]
    exact ⟨by omega, fun j hj => by rw [withX_at _ _ (by omega)]; exact hb'.2 j hj⟩
  have hn' : ∀ j, j < (ws ++ [withX (wAt ws i)]).length → same (wAt (ws ++ [withX (wAt ws i)]) j) s = false := fun j hj => by
    rw [hlen] at hj
    by_cases hjl : j < ws.length
    · rw [wAt_snoc_lt _ _ _ hjl]; exact hn j hjl
    · obtain rfl : j = ws.length := by omega
      rw [wAt_snoc_eq]
      cases hs : same (withX (wAt ws i)) s with
      | false => rfl
      | true => rw [same_spec, withX_size] at hs; omega
  have hf' : found s (ws ++ [withX (wAt ws i)]) (ws ++ [withX (wAt ws i)]).length = i :: (r ++ [ws.length]) := by
    rw [hlen, found_yes _ _ _ (by rw [wAt_snoc_eq]; exact hbx)]
    have : found s (ws ++ [withX (wAt ws i)]) ws.length = found s ws ws.length := by
      unfold found
      apply List.filter_congr
      intro j hj
      rw [wAt_snoc_lt _ _ _ (by simpa using hj)]
    rw [this, hf]; rfl
  refine mt_bad2 s _ h0 hn' i (r ++ [ws.length]) hf' ws.length (by simp) ?_
  rw [wAt_snoc_eq, wAt_snoc_lt _ _ _ hi]
  cases hs : same (withX (wAt ws i)) (wAt ws i) with
  | false => rfl
  | true => rw [same_spec, withX_size] at hs; omega

end Nt.Words
