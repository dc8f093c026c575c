/-
  The plain law of words: what it means that a word begins with a text, large and small letters alike.
-/
import Derived.Test.YtnchnnbggfeknaaDoorBase
namespace Nt.Words
open Go Nt

/-- Two bytes are alike, large and small letters alike: as the reference says it. -/
def low (c : UInt8) : UInt8 := if 65 ≤ c.toNat ∧ c.toNat ≤ 90 then UInt8.ofNat (c.toNat + 32) else c

def lowI (n : Nat) : Nat := if 65 ≤ n ∧ n ≤ 90 then n + 32 else n

theorem lowI_of (c : UInt8) : lowI c.toNat = (low c).toNat := by
  have h : ∀ x : Fin 256, lowI x = (low (UInt8.ofNat x)).toNat := by decide +kernel
  have := h ⟨c.toNat, c.toNat_lt⟩
  simpa using this

def alike (x y : UInt8) : Bool := low x == low y

/-- As the program says it. -/
def alikeP (x y : Nat) : Bool := x == y || (x ||| 32 == y ||| 32 && decide (97 ≤ x ||| 32) && decide (x ||| 32 ≤ 122))

theorem lowN : ∀ x : Fin 256, (low (UInt8.ofNat x)).toNat = if 97 ≤ (x : Nat) ||| 32 ∧ (x : Nat) ||| 32 ≤ 122 then (x : Nat) ||| 32 else x := by decide +kernel
theorem lowK : ∀ x : Fin 256, ¬ (97 ≤ (x : Nat) ||| 32 ∧ (x : Nat) ||| 32 ≤ 122) → ¬ (97 ≤ (x : Nat) ∧ (x : Nat) ≤ 122) := by decide +kernel

theorem low_toNat (x : UInt8) : (low x).toNat = if 97 ≤ x.toNat ||| 32 ∧ x.toNat ||| 32 ≤ 122 then x.toNat ||| 32 else x.toNat := by
  have := lowN ⟨x.toNat, x.toNat_lt⟩
  simpa using this

theorem alike_eq (x y : UInt8) : alike x y = alikeP x.toNat y.toNat := by
  have h1 := low_toNat x
  have h2 := low_toNat y
  have k1 := lowK ⟨x.toNat, x.toNat_lt⟩
  have k2 := lowK ⟨y.toNat, y.toNat_lt⟩
  simp only at k1 k2
  have e : alike x y = decide ((low x).toNat = (low y).toNat) := by
    unfold alike
    rw [Bool.eq_iff_iff]
    simp [UInt8.toNat_inj]
  rw [e, h1, h2, Bool.eq_iff_iff]
  simp only [alikeP, decide_eq_true_eq, Bool.or_eq_true, Bool.and_eq_true, beq_iff_eq]
  have hxy : x.toNat = y.toNat → x.toNat ||| 32 = y.toNat ||| 32 := fun h => by rw [h]
  clear h1 h2 e
  generalize x.toNat ||| 32 = u at *
  generalize y.toNat ||| 32 = v at *
  split <;> split <;> omega

/-- A word begins with a text. -/
def begins (a s : ByteArray) : Bool := decide (s.size ≤ a.size) && decide (∀ i, i < s.size → alike (at_ a i) (at_ s i) = true)

def same (a b : ByteArray) : Bool := decide (a.size = b.size) && begins a b

theorem begins_long (a s : ByteArray) (h : a.size < s.size) : begins a s = false := by
  unfold begins; simp; omega

theorem begins_yes (a s : ByteArray) (h : s.size ≤ a.size) (k : ∀ i, i < s.size → alike (at_ a i) (at_ s i) = true) : begins a s = true := by
  unfold begins; simp [h]; exact k

theorem begins_no (a s : ByteArray) (i : Nat) (hi : i < s.size) (k : alike (at_ a i) (at_ s i) = false) : begins a s = false := by
  unfold begins
  simp only [Bool.and_eq_false_iff, decide_eq_false_iff_not]
  right
  intro h
  have := h i hi
  rw [k] at this
  cases this

theorem alike_low (x y : UInt8) : alike x y = (lowI x.toNat == lowI y.toNat) := by
  rw [lowI_of, lowI_of]
  unfold alike
  rw [Bool.eq_iff_iff]
  simp [UInt8.toNat_inj]

/-- The word at a place. -/
def wAt (ws : List ByteArray) (i : Nat) : ByteArray := ws.getD i ByteArray.empty

/-- The places of the first k words that begin with a text. -/
def found (s : ByteArray) (ws : List ByteArray) (k : Nat) : List Nat := (List.range k).filter fun i => begins (wAt ws i) s

/-- What is meant, and why not. -/
def mt (s : ByteArray) (ws : List ByteArray) : Nat × Nat :=
  if s.size = 0 then (0, 3) else
  match (List.range ws.length).find? (fun i => same (wAt ws i) s) with
  | some i => (i, 0)
  | none => match found s ws ws.length with
    | [] => (0, 3)
    | f :: r => if (f :: r).all (fun i => same (wAt ws i) (wAt ws f)) then (f, 0) else (0, 3)

theorem found_yes (s : ByteArray) (ws : List ByteArray) (k : Nat) (h : begins (wAt ws k) s = true) : found s ws (k + 1) = found s ws k ++ [k] := by
  simp [found, List.range_succ, List.filter_append, h]

theorem found_no (s : ByteArray) (ws : List ByteArray) (k : Nat) (h : begins (wAt ws k) s = false) : found s ws (k + 1) = found s ws k := by
  simp [found, List.range_succ, List.filter_append, h]

theorem found_le (s : ByteArray) (ws : List ByteArray) (k : Nat) : (found s ws k).length ≤ k := by
  have := List.length_filter_le (fun i => begins (wAt ws i) s) (List.range k)
  simpa [found] using this

theorem found_lt (s : ByteArray) (ws : List ByteArray) (k i : Nat) (h : i ∈ found s ws k) : i < k := by
  simp [found] at h; exact h.1

theorem mt_nil (s : ByteArray) (ws : List ByteArray) (h : s.size = 0) : mt s ws = (0, 3) := by simp [mt, h]

theorem find_range_none {p : Nat → Bool} {n : Nat} (h : ∀ i, i < n → p i = false) : (List.range n).find? p = none := by
  rw [List.find?_eq_none]
  intro x hx
  simp at hx
  simp [h x hx]

theorem find_range_some {p : Nat → Bool} {n k : Nat} (hk : k < n) (hp : p k = true) (h : ∀ i, i < k → p i = false) : (List.range n).find? p = some k := by
  rw [List.find?_eq_some_iff_append]
  refine ⟨hp, List.range k, (List.range (n - (k + 1))).map (k + 1 + ·), ?_, ?_⟩
  · have e : n = (k + 1) + (n - (k + 1)) := by omega
    conv => lhs; rw [e, List.range_add]
    rw [List.range_succ]
    simp
  · intro a ha
    simp at ha
    simp [h a ha]

theorem mt_hit (s : ByteArray) (ws : List ByteArray) (k : Nat) (h : s.size ≠ 0) (hk : k < ws.length) (hp : same (wAt ws k) s = true) (hn : ∀ i, i < k → same (wAt ws i) s = false) : mt s ws = (k, 0) := by
  simp only [mt, if_neg h]
  rw [find_range_some hk hp hn]

theorem mt_rest (s : ByteArray) (ws : List ByteArray) (h : s.size ≠ 0) (hn : ∀ i, i < ws.length → same (wAt ws i) s = false) :
    mt s ws = match found s ws ws.length with
    | [] => (0, 3)
    | f :: r => if (f :: r).all (fun i => same (wAt ws i) (wAt ws f)) then (f, 0) else (0, 3) := by
  simp only [mt, if_neg h]
  rw [find_range_none hn]

theorem mt_empty (s : ByteArray) (ws : List ByteArray) (h : s.size ≠ 0) (hn : ∀ i, i < ws.length → same (wAt ws i) s = false) (hf : (found s ws ws.length).length = 0) : mt s ws = (0, 3) := by
  rw [mt_rest s ws h hn, List.length_eq_zero_iff.1 hf]

theorem mt_bad (s : ByteArray) (ws : List ByteArray) (h : s.size ≠ 0) (hn : ∀ i, i < ws.length → same (wAt ws i) s = false) (k : Nat) (hk : k < (found s ws ws.length).length)
    (hb : same (wAt ws ((found s ws ws.length).getD k 0)) (wAt ws ((found s ws ws.length).getD 0 0)) = false) : mt s ws = (0, 3) := by
  rw [mt_rest s ws h hn]
  generalize found s ws ws.length = l at *
  match l, hk, hb with
  | f :: r, hk, hb =>
    simp only
    rw [if_neg]
    intro ha
    rw [List.all_eq_true] at ha
    have := ha ((f :: r).getD k 0) (by rw [List.getD_eq_getElem?_getD, List.getElem?_eq_getElem hk]; exact List.getElem_mem _)
    simp only [List.getD_cons_zero] at hb
    rw [hb] at this
    cases this

theorem mt_ok (s : ByteArray) (ws : List ByteArray) (h : s.size ≠ 0) (hn : ∀ i, i < ws.length → same (wAt ws i) s = false) (hk : 0 < (found s ws ws.length).length)
    (hb : ∀ k, k < (found s ws ws.length).length → same (wAt ws ((found s ws ws.length).getD k 0)) (wAt ws ((found s ws ws.length).getD 0 0)) = true) : mt s ws = ((found s ws ws.length).getD 0 0, 0) := by
  rw [mt_rest s ws h hn]
  generalize found s ws ws.length = l at *
  match l, hk, hb with
  | f :: r, hk, hb =>
    simp only
    rw [if_pos]
    · rfl
    · rw [List.all_eq_true]
      intro x hx
      obtain ⟨i, hi, e⟩ := List.getElem_of_mem hx
      have := hb i hi
      rw [List.getD_eq_getElem?_getD, List.getElem?_eq_getElem hi] at this
      simp only [Option.getD_some, List.getD_cons_zero] at this
      rw [← e]; exact this

theorem mt_ok2 (s : ByteArray) (ws : List ByteArray) (h : s.size ≠ 0) (hn : ∀ i, i < ws.length → same (wAt ws i) s = false) (f : Nat) (r : List Nat) (e : found s ws ws.length = f :: r)
    (hb : ∀ i ∈ f :: r, same (wAt ws i) (wAt ws f) = true) : mt s ws = (f, 0) := by
  rw [mt_rest s ws h hn, e]
  simp only
  rw [if_pos (List.all_eq_true.2 hb)]

theorem mt_bad2 (s : ByteArray) (ws : List ByteArray) (h : s.size ≠ 0) (hn : ∀ i, i < ws.length → same (wAt ws i) s = false) (f : Nat) (r : List Nat) (e : found s ws ws.length = f :: r)
    (i : Nat) (hi : i ∈ f :: r) (hb : same (wAt ws i) (wAt ws f) = false) : mt s ws = (0, 3) := by
  rw [mt_rest s ws h hn, e]
  simp only
  rw [if_neg]
  intro ha
  have := List.all_eq_true.1 ha i hi
  rw [hb] at this
  cases this

theorem found_more (s : ByteArray) (ws : List ByteArray) (k m : Nat) (h : k ≤ m) : ∃ t, found s ws m = found s ws k ++ t := by
  obtain ⟨d, rfl⟩ : ∃ d, m = k + d := ⟨m - k, by omega⟩
  refine ⟨((List.range d).map (k + ·)).filter fun i => begins (wAt ws i) s, ?_⟩
  simp only [found, List.range_add, List.filter_append]

theorem alike_comm (x y : UInt8) : alike x y = alike y x := by unfold alike; rw [Bool.eq_iff_iff, beq_iff_eq, beq_iff_eq]; exact ⟨Eq.symm, Eq.symm⟩

theorem same_comm (a b : ByteArray) : same a b = same b a := by
  rw [Bool.eq_iff_iff]
  simp only [same, begins, Bool.and_eq_true, decide_eq_true_eq]
  constructor
  · rintro ⟨h1, h2, h3⟩
    exact ⟨h1.symm, by omega, fun i hi => by rw [alike_comm]; exact h3 i (by omega)⟩
  · rintro ⟨h1, h2, h3⟩
    exact ⟨h1.symm, by omega, fun i hi => by rw [alike_comm]; exact h3 i (by omega)⟩

/-- The first of some places, -1 if there is none. -/
def headOr (l : List Nat) : Int := match l with | [] => -1 | f :: _ => (f : Int)

/-- The month that is meant; the text of a word's first letters. -/
def month (s : ByteArray) (ws : List ByteArray) : Nat × Nat := if (mt s ws).2 = 0 then ((mt s ws).1 + 1, 0) else (0, (mt s ws).2)

/-- The months, the weekdays. -/
def months : List ByteArray := [⟨#[74, 97, 110, 117, 97, 114, 121]⟩, ⟨#[70, 101, 98, 114, 117, 97, 114, 121]⟩, ⟨#[77, 97, 114, 99, 104]⟩, ⟨#[65, 112, 114, 105, 108]⟩, ⟨#[77, 97, 121]⟩, ⟨#[74, 117, 110, 101]⟩, ⟨#[74, 117, 108, 121]⟩, ⟨#[65, 117, 103, 117, 115, 116]⟩, ⟨#[83, 101, 112, 116, 101, 109, 98, 101, 114]⟩, ⟨#[79, 99, 116, 111, 98, 101, 114]⟩, ⟨#[78, 111, 118, 101, 109, 98, 101, 114]⟩, ⟨#[68, 101, 99, 101, 109, 98, 101, 114]⟩]
def weekdays : List ByteArray := [⟨#[83, 117, 110, 100, 97, 121]⟩, ⟨#[77, 111, 110, 100, 97, 121]⟩, ⟨#[84, 117, 101, 115, 100, 97, 121]⟩, ⟨#[87, 101, 100, 110, 101, 115, 100, 97, 121]⟩, ⟨#[84, 104, 117, 114, 115, 100, 97, 121]⟩, ⟨#[70, 114, 105, 100, 97, 121]⟩, ⟨#[83, 97, 116, 117, 114, 100, 97, 121]⟩]

theorem mt_le (s : ByteArray) (ws : List ByteArray) : (mt s ws).1 ≤ ws.length := by
  unfold mt
  split
  · simp
  · split
    · rename_i i h
      have := List.mem_of_find?_eq_some h
      simp at this ⊢
      omega
    · split
      · simp
      · rename_i f r e
        have hf : f < ws.length := found_lt s ws ws.length f (by rw [e]; simp)
        split <;> simp
        omega

theorem mt_err (s : ByteArray) (ws : List ByteArray) : (mt s ws).2 = 0 ∨ (mt s ws).2 = 3 := by
  unfold mt
  (repeat' split) <;> simp

/-- A text of a word's first letters. -/
def wtext (ws : List ByteArray) (i : Int) : ByteArray := if 0 ≤ i ∧ i < ws.length then (wAt ws i.toNat).extract 0 3 else ByteArray.empty

theorem months_long : ∀ i, i < 12 → 3 ≤ (wAt months i).size ∧ (wAt months i).size ≤ 9 := by decide
theorem weekdays_long : ∀ i, i < 7 → 3 ≤ (wAt weekdays i).size ∧ (wAt weekdays i).size ≤ 9 := by decide
theorem months_mem : ∀ s ∈ months, s.size ≤ maxLen := fun s hs => by
  have h : ∀ s ∈ months, s.size ≤ 9 := by decide
  have := h s hs
  unfold maxLen; omega
theorem weekdays_mem : ∀ s ∈ weekdays, s.size ≤ maxLen := fun s hs => by
  have h : ∀ s ∈ weekdays, s.size ≤ 9 := by decide
  have := h s hs
  unfold maxLen; omega

end Nt.Words
