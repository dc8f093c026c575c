/-
  The plain law of formats: what is a name, where it is cut, which kind it is. Formats, further: how a difference is written; what the document's check asks. Format: equations of functions, as the evaluator prints them. Formats: what the program's functions and the document's answer. Formats: what a time is called, both sides. FormatLaw: equations of functions, as the evaluator prints them. Formats: the statements FormatTells and FormatHangs.
-/
import Derived.Lib.IndexMore
import Derived.Test.YtjkfndcpiihniaaGreatDoorME
namespace Nt.Fmt
open Go
def letB (c : UInt8) : Bool := decide ((65 ≤ c.toNat ∧ c.toNat ≤ 90) ∨ (97 ≤ c.toNat ∧ c.toNat ≤ 122) ∨ (48 ≤ c.toNat ∧ c.toNat ≤ 57) ∨ c.toNat = 43 ∨ c.toNat = 45)
def wordB (s : List UInt8) : Bool := s.all letB
def kindR (s w : List UInt8) : List UInt8 → Int × List UInt8 × List UInt8
  | [] => if w = [] then (0, [], []) else (1, s, [])
  | c :: t =>
    if c = 37 then
      match t with
      | [] => (0, [], [])
      | x :: b => if x = 115 then (if wordB b = true then (2, w, b) else (0, [], [])) else if x = 122 ∧ b = [] ∧ w = [] then (3, [], []) else (0, [], [])
    else if c = 47 then (if w ≠ [] ∧ t ≠ [] ∧ wordB t = true then (4, w, t) else (0, [], [])) else (0, [], [])
def kindQ (s : List UInt8) : Int × List UInt8 × List UInt8 := kindR s (s.takeWhile letB) (s.dropWhile letB)
theorem split_word : ∀ s : List UInt8, s = s.takeWhile letB ++ s.dropWhile letB ∧ wordB (s.takeWhile letB) = true ∧ (s.dropWhile letB = [] ∨ ∃ c t, s.dropWhile letB = c :: t ∧ letB c = false)
  | [] => ⟨rfl, rfl, .inl rfl⟩
  | c :: l => by
    obtain ⟨h1, h2, h3⟩ := split_word l
    cases hc : letB c with
    | true =>
      rw [List.takeWhile_cons, List.dropWhile_cons, hc]
      simp only [if_true]
      refine ⟨by rw [List.cons_append, ← h1], ?_, h3⟩
      unfold wordB at h2 ⊢
      rw [List.all_cons, hc, h2]; rfl
    | false =>
      rw [List.takeWhile_cons, List.dropWhile_cons, hc]
      simp only [Bool.false_eq_true, if_false]
      exact ⟨rfl, rfl, .inr ⟨c, l, rfl, hc⟩⟩
theorem parts_of (w r : List UInt8) (hw : wordB w = true) (hr : r = [] ∨ ∃ c t, r = c :: t ∧ letB c = false) : (w ++ r).takeWhile letB = w ∧ (w ++ r).dropWhile letB = r := by
  induction w with
  | nil =>
    rcases hr with rfl | ⟨c, t, rfl, hc⟩
    · exact ⟨rfl, rfl⟩
    · simp [List.takeWhile_cons, List.dropWhile_cons, hc]
  | cons a w ih =>
    unfold wordB at hw
    rw [List.all_cons, Bool.and_eq_true] at hw
    obtain ⟨i1, i2⟩ := ih hw.2
    rw [List.cons_append, List.takeWhile_cons, List.dropWhile_cons, hw.1, i1, i2]
    simp
theorem kind_of (w r : List UInt8) (hw : wordB w = true) (hr : r = [] ∨ ∃ c t, r = c :: t ∧ letB c = false) : kindQ (w ++ r) = kindR (w ++ r) w r := by
  unfold kindQ
  obtain ⟨h1, h2⟩ := parts_of w r hw hr
  rw [h1, h2]
theorem word_mem {w : List UInt8} (h : wordB w = true) {c : UInt8} (hc : c ∈ w) : letB c = true := List.all_eq_true.1 h c hc
theorem word_app (a b : List UInt8) : wordB (a ++ b) = (wordB a && wordB b) := by unfold wordB; rw [List.all_append]
theorem cut_word (w r : List UInt8) (x : UInt8) (sep : List UInt8) (hw : wordB w = true) (hx : letB x = false) :
    (∃ b, r = x :: sep ++ b ∧ Lib.cut (w ++ r) (x :: sep) = (w, b, true)) ∨
    ((x :: sep).isPrefixOf r = false ∧ (Lib.cut (w ++ r) (x :: sep) = (w ++ r, [], false) ∨ ∃ a b, Lib.cut (w ++ r) (x :: sep) = (a, b, true) ∧ w.length < a.length ∧ a <+: w ++ r)) := by
  have hbef : ∀ j, j < w.length → Lib.occAt (w ++ r) (x :: sep) j = false := by
    intro j hj
    unfold Lib.occAt
    rw [List.drop_append_of_le_length (by omega), List.drop_eq_getElem_cons hj, List.cons_append, List.isPrefixOf]
    have : (x == w[j]) = false := by
      rw [beq_eq_false_iff_ne]
      intro e
      have := word_mem hw (List.getElem_mem hj)
      rw [← e, hx] at this
      cases this
    rw [this]; rfl
  by_cases hp : (x :: sep).isPrefixOf r = true
  · left
    rw [List.isPrefixOf_iff_prefix] at hp
    obtain ⟨b, hb⟩ := hp
    refine ⟨b, hb.symm, ?_⟩
    have hi : Lib.index (w ++ r) (x :: sep) = (w.length : Nat) := Lib.index_first (by simp) (by
      unfold Lib.occAt
      rw [List.drop_left, List.isPrefixOf_iff_prefix]
      exact ⟨b, hb⟩) hbef
    unfold Lib.cut
    rw [hi, if_pos (by omega), Int.toNat_natCast, List.take_left, ← List.drop_drop, List.drop_left, ← hb, List.drop_left]
  · right
    have hp : (x :: sep).isPrefixOf r = false := Bool.eq_false_iff.2 hp
    refine ⟨hp, ?_⟩
    rcases Lib.index_spec (w ++ r) (x :: sep) with ⟨h1, _⟩ | ⟨i, h1, h2, h3, _⟩
    · left
      unfold Lib.cut
      rw [h1, if_neg (by decide)]
    · right
      have hge : w.length < i := by
        rcases Nat.lt_trichotomy i w.length with hlt | heq | hgt
        · rw [hbef i hlt] at h3; cases h3
        · subst heq
          unfold Lib.occAt at h3
          rw [List.drop_left, hp] at h3; cases h3
        · exact hgt
      refine ⟨(w ++ r).take i, (w ++ r).drop (i + (x :: sep).length), ?_, ?_, List.take_prefix _ _⟩
      · unfold Lib.cut
        rw [h1, if_pos (by omega), Int.toNat_natCast]
      · rw [List.length_take]; omega
theorem long_word (w r a : List UInt8) (hr : r = [] ∨ ∃ c t, r = c :: t ∧ letB c = false) (hl : w.length < a.length) (hp : a <+: w ++ r) : wordB a = false := by
  obtain ⟨t, ht⟩ := hp
  have hlen := congrArg List.length ht
  rw [List.length_append, List.length_append] at hlen
  rcases hr with rfl | ⟨c, t', rfl, hc⟩
  · simp at hlen; omega
  · have h1 : (a ++ t)[w.length]? = some c := by rw [ht]; simp
    rw [List.getElem?_append_left hl] at h1
    cases hw : wordB a with
    | false => rfl
    | true =>
      have := word_mem hw (List.mem_of_getElem? h1)
      rw [hc] at this; cases this
def cutA (s c : List UInt8) : List UInt8 := (Lib.cut s c).1
def cutZ (s c : List UInt8) : List UInt8 := (Lib.cut s c).2.1
def cutIs (s c : List UInt8) : Bool := (Lib.cut s c).2.2
def slash (s : List UInt8) : Prop := cutIs s [47] = true ∧ cutA s [47] ≠ [] ∧ cutZ s [47] ≠ [] ∧ wordB (cutA s [47]) = true ∧ wordB (cutZ s [47]) = true
def perc (s : List UInt8) : Prop := cutIs s [37, 115] = true ∧ wordB (cutA s [37, 115]) = true ∧ wordB (cutZ s [37, 115]) = true
instance (s) : Decidable (slash s) := inferInstanceAs (Decidable (_ ∧ _))
instance (s) : Decidable (perc s) := inferInstanceAs (Decidable (_ ∧ _))
def kindP (s : List UInt8) : Int × List UInt8 × List UInt8 :=
  if s = [37, 122] then (3, [], []) else if perc s then (2, cutA s [37, 115], cutZ s [37, 115]) else if slash s then (4, cutA s [47], cutZ s [47]) else if s ≠ [] ∧ wordB s = true then (1, s, []) else (0, [], [])
theorem perc_iff (w r : List UInt8) (hw : wordB w = true) (hr : r = [] ∨ ∃ c t, r = c :: t ∧ letB c = false) :
    (∃ b, r = 37 :: 115 :: b ∧ wordB b = true ∧ perc (w ++ r) ∧ cutA (w ++ r) [37, 115] = w ∧ cutZ (w ++ r) [37, 115] = b) ∨ (¬ perc (w ++ r) ∧ ∀ b, r = 37 :: 115 :: b → wordB b = false) := by
  rcases cut_word w r 37 [115] hw (by decide) with ⟨b, rfl, hc⟩ | ⟨hp, hc⟩
  · have h1 : cutA (w ++ (37 :: [115] ++ b)) [37, 115] = w := by unfold cutA; rw [hc]
    have h2 : cutZ (w ++ (37 :: [115] ++ b)) [37, 115] = b := by unfold cutZ; rw [hc]
    have h3 : cutIs (w ++ (37 :: [115] ++ b)) [37, 115] = true := by unfold cutIs; rw [hc]
    cases hb : wordB b with
    | true => exact .inl ⟨b, rfl, hb, ⟨h3, by rw [h1]; exact hw, by rw [h2]; exact hb⟩, h1, h2⟩
    | false =>
      refine .inr ⟨fun h => ?_, fun b' e => ?_⟩
      · have := h.2.2
        rw [h2, hb] at this; cases this
      · simp at e; rw [← e]; exact hb
  · refine .inr ⟨fun h => ?_, fun b e => ?_⟩
    · rcases hc with hc | ⟨a, b, hc, hl, hpre⟩
      · have := h.1; unfold cutIs at this; rw [hc] at this; cases this
      · have h2 := h.2.1
        unfold cutA at h2
        rw [hc] at h2
        rw [long_word w r a hr hl hpre] at h2; cases h2
    · rw [e] at hp; simp [List.isPrefixOf] at hp
theorem slash_iff (w r : List UInt8) (hw : wordB w = true) (hr : r = [] ∨ ∃ c t, r = c :: t ∧ letB c = false) :
    (∃ b, r = 47 :: b ∧ b ≠ [] ∧ w ≠ [] ∧ wordB b = true ∧ slash (w ++ r) ∧ cutA (w ++ r) [47] = w ∧ cutZ (w ++ r) [47] = b) ∨ (¬ slash (w ++ r) ∧ ∀ b, r = 47 :: b → ¬ (w ≠ [] ∧ b ≠ [] ∧ wordB b = true)) := by
  rcases cut_word w r 47 [] hw (by decide) with ⟨b, rfl, hc⟩ | ⟨hp, hc⟩
  · have h1 : cutA (w ++ (47 :: [] ++ b)) [47] = w := by unfold cutA; rw [hc]
    have h2 : cutZ (w ++ (47 :: [] ++ b)) [47] = b := by unfold cutZ; rw [hc]
    have h3 : cutIs (w ++ (47 :: [] ++ b)) [47] = true := by unfold cutIs; rw [hc]
    by_cases hb : w ≠ [] ∧ b ≠ [] ∧ wordB b = true
    · exact .inl ⟨b, rfl, hb.2.1, hb.1, hb.2.2, ⟨h3, by rw [h1]; exact hb.1, by rw [h2]; exact hb.2.1, by rw [h1]; exact hw, by rw [h2]; exact hb.2.2⟩, h1, h2⟩
    · refine .inr ⟨fun h => hb ?_, fun b' e => ?_⟩
      · obtain ⟨_, k1, k2, _, k4⟩ := h
        rw [h1] at k1
        rw [h2] at k2 k4
        exact ⟨k1, k2, k4⟩
      · simp at e; rw [← e]; exact hb
  · refine .inr ⟨fun h => ?_, fun b e => ?_⟩
    · rcases hc with hc | ⟨a, b, hc, hl, hpre⟩
      · have := h.1; unfold cutIs at this; rw [hc] at this; cases this
      · have h2 := h.2.2.2.1
        unfold cutA at h2
        rw [hc] at h2
        rw [long_word w r a hr hl hpre] at h2; cases h2
    · rw [e] at hp; simp [List.isPrefixOf] at hp
theorem kindP_eq (s : List UInt8) : kindP s = kindQ s := by
  obtain ⟨h1, hw, hr⟩ := split_word s
  generalize s.takeWhile letB = w at *
  generalize s.dropWhile letB = r at *
  subst h1
  rw [kind_of w r hw hr]
  unfold kindP
  by_cases hz : w ++ r = [37, 122]
  · rw [if_pos hz]
    have hw0 : w = [] := by
      cases w with
      | nil => rfl
      | cons a w =>
        have : a = 37 := by simpa using (List.cons.inj hz).1
        subst this
        have := word_mem hw (List.mem_cons_self)
        exact absurd this (by decide)
    subst hw0
    have : r = [37, 122] := hz
    subst this
    rfl
  · rw [if_neg hz]
    rcases perc_iff w r hw hr with ⟨b, rfl, hb, hp, e1, e2⟩ | ⟨hp, hpn⟩
    · rw [if_pos hp, e1, e2]
      simp [kindR, hb]
    · rw [if_neg hp]
      rcases slash_iff w r hw hr with ⟨b, rfl, hb0, hw0, hb, hs, e1, e2⟩ | ⟨hs, hsn⟩
      · rw [if_pos hs, e1, e2]
        simp [kindR, hw0, hb0, hb]
      · rw [if_neg hs]
        rcases hr with rfl | ⟨c, t, rfl, hc⟩
        · rw [List.append_nil]
          by_cases h0 : w = []
          · simp [kindR, h0]
          · simp [kindR, h0, hw]
        · have hnw : wordB (w ++ c :: t) = false := by
            rw [word_app]
            unfold wordB
            rw [List.all_cons, hc]; simp
          rw [if_neg (fun h => by rw [hnw] at h; cases h.2)]
          by_cases h37 : c = 37
          · subst h37
            cases t with
            | nil => simp [kindR]
            | cons x b =>
              by_cases hx : x = 115
              · subst hx
                simp [kindR, hpn b rfl]
              · have : ¬ (x = 122 ∧ b = [] ∧ w = []) := by
                  rintro ⟨rfl, rfl, rfl⟩
                  exact hz rfl
                simp [kindR, hx]
                intro h1 h2 h3
                exact absurd ⟨h1, h2, h3⟩ this
          · by_cases h47 : c = 47
            · subst h47
              have := hsn t rfl
              simp [kindR]
              intro h1 h2
              cases hb : wordB t with
              | false => rfl
              | true => exact absurd ⟨h1, h2, hb⟩ this
            · simp [kindR, h37, h47]
def findP (s : List UInt8) (c : UInt8) : Int := if s.contains c = true then (if (s.drop (s.idxOf c + 1)).contains c = true then -2 else (s.idxOf c : Int)) else -1
theorem find_none {s : List UInt8} {c : UInt8} (h : c ∉ s) : findP s c = -1 := by
  unfold findP
  rw [if_neg (by simpa using h)]
theorem find_one {a b : List UInt8} {c : UInt8} (ha : c ∉ a) (hb : c ∉ b) : findP (a ++ c :: b) c = (a.length : Int) := by
  have hi : (a ++ c :: b).idxOf c = a.length := by
    rw [List.idxOf_append, if_neg ha]; simp
  unfold findP
  rw [if_pos (by simp), hi, if_neg]
  rw [show a.length + 1 = (a ++ [c]).length by simp, show a ++ c :: b = (a ++ [c]) ++ b by simp, List.drop_left]
  simpa using hb
theorem find_inv (s : List UInt8) (c : UInt8) : (findP s c = -1 ∧ c ∉ s) ∨ findP s c = -2 ∨ ∃ a b, s = a ++ c :: b ∧ c ∉ a ∧ c ∉ b ∧ findP s c = (a.length : Int) := by
  by_cases h : c ∈ s
  · obtain ⟨a, b, rfl, ha⟩ := List.eq_append_cons_of_mem h
    by_cases hb : c ∈ b
    · right; left
      have hi : (a ++ c :: b).idxOf c = a.length := by
        rw [List.idxOf_append, if_neg ha]; simp
      unfold findP
      rw [if_pos (by simp), hi, if_pos]
      rw [show a.length + 1 = (a ++ [c]).length by simp, show a ++ c :: b = (a ++ [c]) ++ b by simp, List.drop_left]
      simpa using hb
    · exact .inr (.inr ⟨a, b, rfl, ha, hb, find_one ha hb⟩)
  · exact .inl ⟨find_none h, h⟩
end Nt.Fmt

namespace Nt.Fmt
open Go
theorem find_two {s : List UInt8} {c : UInt8} (h : findP s c = -2) : ∃ a b, s = a ++ c :: b ∧ c ∈ b := by
  by_cases hc : c ∈ s
  · obtain ⟨a, b, rfl, ha⟩ := List.eq_append_cons_of_mem hc
    by_cases hb : c ∈ b
    · exact ⟨a, b, rfl, hb⟩
    · rw [find_one ha hb] at h; omega
  · rw [find_none hc] at h; omega
theorem kind_two {a b : List UInt8} {c y : UInt8} (ha : wordB a = true) (hc : letB c = false) (hy : y ∈ b) (hl : letB y = false) : (kindQ (a ++ c :: b)).1 = 0 := by
  rw [kind_of a (c :: b) ha (.inr ⟨c, b, rfl, hc⟩)]
  have hwb : wordB b = false := by
    cases h : wordB b with
    | false => rfl
    | true => rw [word_mem h hy] at hl; cases hl
  unfold kindR; dsimp only
  by_cases h1 : c = 37
  · rw [if_pos h1]
    cases b with
    | nil => cases hy
    | cons x b' =>
      dsimp only
      by_cases h2 : x = 115
      · subst h2
        rw [if_pos rfl]
        have : wordB b' = false := by
          unfold wordB at hwb ⊢
          rw [List.all_cons, show letB 115 = true by decide, Bool.true_and] at hwb
          exact hwb
        rw [this]; rfl
      · rw [if_neg h2, if_neg]
        rintro ⟨rfl, rfl, _⟩
        rw [List.mem_singleton] at hy
        subst hy
        revert hl; decide
  · rw [if_neg h1]
    by_cases h2 : c = 47
    · rw [if_pos h2, if_neg (by rw [hwb]; simp)]
    · rw [if_neg h2]
theorem kind_bad {a b : List UInt8} {c y : UInt8} (hc : letB c = false) (hy : y ∈ b) (hl : letB y = false) : (kindQ (a ++ c :: b)).1 = 0 := by
  obtain ⟨h1, h2, h3⟩ := split_word a
  rcases h3 with h3 | ⟨d, t, h3, hd⟩
  · rw [h3, List.append_nil] at h1
    rw [← h1] at h2
    exact kind_two h2 hc hy hl
  · rw [h3] at h1
    rw [h1, List.append_assoc, List.cons_append]
    exact kind_two h2 hd (y := c) (by simp) hc
theorem kind_pair {s : List UInt8} {c d : UInt8} (h1 : c ∈ s) (h2 : d ∈ s) (hne : c ≠ d) (hc : letB c = false) (hd : letB d = false) : (kindQ s).1 = 0 := by
  obtain ⟨a, b, rfl, ha⟩ := List.eq_append_cons_of_mem h1
  rw [List.mem_append, List.mem_cons] at h2
  rcases h2 with h2 | h2 | h2
  · obtain ⟨a1, a2, rfl⟩ := List.append_of_mem h2
    rw [List.append_assoc, List.cons_append]
    exact kind_bad hd (y := c) (by simp) hc
  · exact absurd h2.symm hne
  · exact kind_bad hc h2 hd
theorem kind_char {s : List UInt8} {c : UInt8} (h : c ∈ s) (hl : letB c = false) (h1 : c ≠ 37) (h2 : c ≠ 47) : (kindQ s).1 = 0 := by
  obtain ⟨a, b, rfl, ha⟩ := List.eq_append_cons_of_mem h
  obtain ⟨e1, e2, e3⟩ := split_word a
  rcases e3 with e3 | ⟨d, t, e3, hd⟩
  · rw [e3, List.append_nil] at e1
    rw [← e1] at e2
    rw [kind_of a (c :: b) e2 (.inr ⟨c, b, rfl, hl⟩)]
    unfold kindR; dsimp only
    rw [if_neg h1, if_neg h2]
  · rw [e3] at e1
    rw [e1, List.append_assoc, List.cons_append]
    exact kind_two e2 hd (y := c) (by simp) hl
def okC (c : UInt8) : Bool := letB c || decide (c = 37) || decide (c = 47)
theorem word_of {l : List UInt8} (h : ∀ c ∈ l, okC c = true) (h1 : (37 : UInt8) ∉ l) (h2 : (47 : UInt8) ∉ l) : wordB l = true := by
  unfold wordB
  rw [List.all_eq_true]
  intro c hc
  have := h c hc
  unfold okC at this
  rw [Bool.or_eq_true, Bool.or_eq_true, decide_eq_true_iff, decide_eq_true_iff] at this
  rcases this with (h | h) | h
  · exact h
  · subst h; exact absurd hc h1
  · subst h; exact absurd hc h2
theorem kind_ask (s : List UInt8) (hZ : s ≠ [37, 122]) (h : ∀ c ∈ s, okC c = true) :
    (kindQ s).1 = 0 ↔ ¬ ((0 < (s.length : Int) ∧ findP s 37 = -1 ∧ findP s 47 = -1) ∨ (0 ≤ findP s 37 ∧ findP s 47 = -1 ∧ findP s 37 + 1 < s.length ∧ ((s.getD (findP s 37 + 1).toNat 0).toNat : Int) = 115) ∨ (findP s 37 = -1 ∧ 0 < findP s 47 ∧ findP s 47 < (s.length : Int) - 1)) := by
  have l37 : letB 37 = false := by decide
  have l47 : letB 47 = false := by decide
  rcases find_inv s 47 with ⟨hq, hq'⟩ | hq | ⟨a, b, rfl, ha, hb, hq⟩
  · rcases find_inv s 37 with ⟨hp, hp'⟩ | hp | ⟨a, b, rfl, ha, hb, hp⟩
    · have hw := word_of h hp' hq'
      have := kind_of s [] hw (.inl rfl)
      rw [List.append_nil] at this
      rw [this, hp, hq]
      unfold kindR; dsimp only
      by_cases h0 : s = []
      · subst h0; simp
      · rw [if_neg h0]
        have : 0 < s.length := List.length_pos_iff.2 h0
        simp <;> omega
    · obtain ⟨a, b, rfl, hb⟩ := find_two hp
      rw [kind_bad l37 hb l37, hp]; simp
    · have wa := word_of (l := a) (fun c hc => h c (by simp [hc])) ha (fun e => hq' (by simp [e]))
      have wb := word_of (l := b) (fun c hc => h c (by simp [hc])) hb (fun e => hq' (by simp [e]))
      rw [kind_of a (37 :: b) wa (.inr ⟨37, b, rfl, l37⟩), hp, hq]
      unfold kindR; dsimp only
      rw [if_pos rfl]
      have hn : ((a.length : Int) + 1).toNat = a.length + 1 := by omega
      cases b with
      | nil => simp <;> omega
      | cons x b' =>
        have hx : (a ++ 37 :: x :: b').getD (a.length + 1) 0 = x := by
          rw [List.getD_eq_getElem?_getD, List.getElem?_append_right (by omega)]
          simp
        rw [hn, hx]
        dsimp only
        by_cases h2 : x = 115
        · subst h2
          have wb' : wordB b' = true := by
            unfold wordB at wb ⊢
            rw [List.all_cons, Bool.and_eq_true] at wb
            exact wb.2
          rw [if_pos rfl, if_pos wb']
          refine ⟨fun h => (by simp at h), fun h => (h (.inr (.inl ⟨by omega, rfl, ?_, rfl⟩))).elim⟩
          simp <;> omega
        · rw [if_neg h2, if_neg]
          · refine ⟨fun _ h => ?_, fun _ => rfl⟩
            rcases h with ⟨_, h, _⟩ | ⟨_, _, _, h⟩ | ⟨h, _⟩
            · omega
            · exact h2 (UInt8.toNat_inj.1 (by rw [show (115 : UInt8).toNat = 115 from rfl]; omega))
            · omega
          · rintro ⟨rfl, rfl, rfl⟩
            exact hZ rfl
  · obtain ⟨a, b, rfl, hb⟩ := find_two hq
    rw [kind_bad l47 hb l47, hq]; simp
  · by_cases h37 : (37 : UInt8) ∈ a ++ 47 :: b
    · rw [kind_pair (c := 37) (d := 47) h37 (by simp) (by decide) l37 l47, hq]
      rcases find_inv (a ++ 47 :: b) 37 with ⟨hp, hp'⟩ | hp | ⟨_, _, _, _, _, hp⟩
      · exact absurd h37 hp'
      · rw [hp]; simp <;> omega
      · rw [hp]; simp <;> omega
    · have hp := find_none h37
      have wa := word_of (l := a) (fun c hc => h c (by simp [hc])) (fun e => h37 (by simp [e])) ha
      have wb := word_of (l := b) (fun c hc => h c (by simp [hc])) (fun e => h37 (by simp [e])) hb
      rw [kind_of a (47 :: b) wa (.inr ⟨47, b, rfl, l47⟩), hp, hq]
      unfold kindR; dsimp only
      rw [if_neg (by decide), if_pos rfl, wb]
      by_cases h1 : a = []
      · subst h1; simp
      · by_cases h2 : b = []
        · subst h2; simp
        · rw [if_pos ⟨h1, h2, rfl⟩]
          have := List.length_pos_iff.2 h1
          have := List.length_pos_iff.2 h2
          simp <;> omega
def findG (c : Int) : List UInt8 → Nat → Int → Int
  | [], _, a => a
  | x :: l, i, a => if (x.toNat : Int) = c then (if 0 ≤ a then -2 else findG c l (i + 1) i) else findG c l (i + 1) a
theorem findG_off (c : UInt8) : ∀ (l : List UInt8) (i : Nat) (a : Int), c ∉ l → findG c.toNat l i a = a
  | [], _, _, _ => rfl
  | x :: l, i, a, h => by
    rw [List.mem_cons, not_or] at h
    unfold findG
    rw [if_neg (fun e => h.1 (UInt8.toNat_inj.1 (by omega))), findG_off c l (i + 1) a h.2]
theorem findG_in (c : UInt8) : ∀ (l : List UInt8) (i : Nat) (a : Int), 0 ≤ a → c ∈ l → findG c.toNat l i a = -2
  | [], _, _, _, h => by cases h
  | x :: l, i, a, h0, h => by
    unfold findG
    by_cases e : x = c
    · subst e; rw [if_pos rfl, if_pos h0]
    · rw [if_neg (fun e' => e (UInt8.toNat_inj.1 (by omega)))]
      rw [List.mem_cons] at h
      exact findG_in c l (i + 1) a h0 (h.resolve_left fun e' => e e'.symm)
theorem findG_first (c : UInt8) (b : List UInt8) : ∀ (l : List UInt8) (i : Nat), c ∉ l → findG c.toNat (l ++ c :: b) i (-1) = findG c.toNat b (i + l.length + 1) (i + l.length : Nat)
  | [], i, _ => by
    rw [List.nil_append]
    conv => lhs; unfold findG
    rw [if_pos rfl, if_neg (by omega)]; rfl
  | x :: l, i, h => by
    rw [List.mem_cons, not_or] at h
    rw [List.cons_append]
    conv => lhs; unfold findG
    rw [if_neg (fun e => h.1 (UInt8.toNat_inj.1 (by omega))), findG_first c b l (i + 1) h.2, List.length_cons]
    congr 1 <;> omega
theorem findG_P (s : List UInt8) (c : UInt8) : findG c.toNat s 0 (-1) = findP s c := by
  by_cases hc : c ∈ s
  · obtain ⟨a, b, rfl, ha⟩ := List.eq_append_cons_of_mem hc
    rw [findG_first c b a 0 ha]
    by_cases hb : c ∈ b
    · rw [findG_in c b _ _ (by omega) hb]
      have hi : (a ++ c :: b).idxOf c = a.length := by
        rw [List.idxOf_append, if_neg ha]; simp
      unfold findP
      rw [if_pos (by simp), hi, if_pos]
      rw [show a.length + 1 = (a ++ [c]).length by simp, show a ++ c :: b = (a ++ [c]) ++ b by simp, List.drop_left]
      simpa using hb
    · rw [findG_off c b _ _ hb, find_one ha hb]; omega
  · rw [findG_off c s _ _ hc, find_none hc]
end Nt.Fmt

set_option linter.unusedVariables false
set_option linter.unusedSimpArgs false
set_option linter.unusedSectionVars false
namespace Nt.Ev.YtjkfndcpiihniaaGreatDoor
set_option maxRecDepth 100000
open Go Nt.Num Go.Proofs.YtjkfndcpiihniaaGreatDoor
variable [MLen]
noncomputable def fE : Env := ⟨Go.Proofs.Tryz.prog, fun g => bif g == 3 then some (.rptr [.int .i64] (.int .i64 MLen.val) 0) else none⟩
def asciiB (l : List UInt8) : Bool := l.all fun c => decide (c.toNat < 128)
def trimC (s c : List UInt8) : List UInt8 := Lib.trimS s c
def cutA (s c : List UInt8) : List UInt8 := (Lib.cut s c).1
def cutZ (s c : List UInt8) : List UInt8 := (Lib.cut s c).2.1
def cutIs (s c : List UInt8) : Bool := (Lib.cut s c).2.2
noncomputable def fTextS : FSpec := fun a => match a with | [.int .i64 m] => some (band (ile (-9223372036854775808) m) (ile m 9223372036854775807), .str (text m)) | _ => none
noncomputable def trimS1 : FSpec := fun a => match a with | [.str s, .str c] => some (band (ile (slen s) 1000) (band (ile (slen c) 1000) (asciiB c)), .str (trimC s c)) | _ => none
noncomputable def cutS1 : FSpec := fun a => match a with | [.str s, .str c] => some (band (ile (slen s) 1000) (band (ile 1 (slen c)) (ile (slen c) 2)), .tup [.str (cutA s c), .str (cutZ s c), .bool (cutIs s c)]) | _ => none
noncomputable def fS : List (Nat × FSpec) := (58, fTextS) :: (109, trimS1) :: (134, cutS1) :: []
open Nt.Fmt
noncomputable def fWordS : FSpec := fun a => match a with | [.str s] => some (ile (slen s) 1000, .bool (wordB s)) | _ => none
noncomputable def fS2 : List (Nat × FSpec) := (92, fWordS) :: fS
def fkK (s : List UInt8) : Int := (Fmt.kindQ s).1
def fkA (s : List UInt8) : List UInt8 := (Fmt.kindQ s).2.1
def fkZ (s : List UInt8) : List UInt8 := (Fmt.kindQ s).2.2
def findI (s : List UInt8) (c : Int) : Int := Fmt.findG c s 0 (-1)
noncomputable def fCutS : FSpec := fun a => match a with | [.str s] => some (ile (slen s) 1000, .tup [.int .i64 (fkK s), .str (fkA s), .str (fkZ s)]) | _ => none
noncomputable def findS : FSpec := fun a => match a with | [.str s, .int .u8 c] => some (ile (slen s) 1000, .int .i64 (findI s c)) | _ => none
def letCf (c : Int) : Bool := decide ((65 ≤ c ∧ c ≤ 90) ∨ (97 ≤ c ∧ c ≤ 122) ∨ (48 ≤ c ∧ c ≤ 57) ∨ c = 43 ∨ c = 45)
noncomputable def letterCS : FSpec := fun a => match a with | [.int .u8 c] => some (true, .bool (letCf c)) | _ => none
noncomputable def fSl : List (Nat × FSpec) := (104, letterCS) :: fS2
noncomputable def fS3 : List (Nat × FSpec) := (113, fCutS) :: (106, findS) :: fSl
def ckW (s : List UInt8) : Int := if 16 < s.length then 9 else if fkK s = 0 then 4 else 0
noncomputable def checkS : FSpec := fun a => match a with | [.str s] => some (ile (slen s) 1000, .int .i64 (ckW s)) | _ => none
def leP (s : List UInt8) : List UInt8 × Int := if s = [45] then ([], 0) else if 6 < s.length then ([], 9) else if s = [] ∨ wordB s = false then ([], 4) else (s, 0)
def leT (s : List UInt8) : List UInt8 := (leP s).1
def leW (s : List UInt8) : Int := (leP s).2
noncomputable def letterS : FSpec := fun a => match a with | [.str s] => some (ile (slen s) 1000, .tup [.str (leT s), .int .i64 (leW s)]) | _ => none
noncomputable def fS4 : List (Nat × FSpec) := (98, checkS) :: (85, checkS) :: (69, letterS) :: (82, letterS) :: fS3
theorem fWord_top (F : Nat) (s : List UInt8) (K : V → Option V) :
 evBd fE (evFn fE fS F 2) F 92 [(V.str s)] K =
 sel (band (ile (slen s) 1000) (band (ile (slen [65, 66, 67, 68, 69, 70, 71, 72, 73, 74, 75, 76, 77, 78, 79, 80, 81, 82, 83, 84, 85, 86, 87, 88, 89, 90, 97, 98, 99, 100, 101, 102, 103, 104, 105, 106, 107, 108, 109, 110, 111, 112, 113, 114, 115, 116, 117, 118, 119, 120, 121, 122, 48, 49, 50, 51, 52, 53, 54, 55, 56, 57, 43, 45]) 1000) (asciiB [65, 66, 67, 68, 69, 70, 71, 72, 73, 74, 75, 76, 77, 78, 79, 80, 81, 82, 83, 84, 85, 86, 87, 88, 89, 90, 97, 98, 99, 100, 101, 102, 103, 104, 105, 106, 107, 108, 109, 110, 111, 112, 113, 114, 115, 116, 117, 118, 119, 120, 121, 122, 48, 49, 50, 51, 52, 53, 54, 55, 56, 57, 43, 45])))
 (K (V.bool (seq (trimC s [65, 66, 67, 68, 69, 70, 71, 72, 73, 74, 75, 76, 77, 78, 79, 80, 81, 82, 83, 84, 85, 86, 87, 88, 89, 90, 97, 98, 99, 100, 101, 102, 103, 104, 105, 106, 107, 108, 109, 110, 111, 112, 113, 114, 115, 116, 117, 118, 119, 120, 121, 122, 48, 49, 50, 51, 52, 53, 54, 55, 56, 57, 43, 45]) [])))
 (none) := by kernel_rfl
theorem fCut_top (F : Nat) (s : List UInt8) (K : V → Option V) :
 evBd fE (evFn fE fS2 F 2) F 113 [(V.str s)] K =
 sel (seq s [37, 122])
 (K (V.tup [(V.int .i64 3), (V.str []), (V.str [])]))
 (sel (band (ile (slen s) 1000) (band (ile 1 (slen [37, 115])) (ile (slen [37, 115]) 2)))
 (sel (cutIs s [37, 115])
 (sel (ile (slen (cutA s [37, 115])) 1000)
 (sel (wordB (cutA s [37, 115]))
 (sel (ile (slen (cutZ s [37, 115])) 1000)
 (sel (wordB (cutZ s [37, 115]))
 (K (V.tup [(V.int .i64 2), (V.str (cutA s [37, 115])), (V.str (cutZ s [37, 115]))]))
 (sel (band (ile (slen s) 1000) (band (ile 1 (slen [47])) (ile (slen [47]) 2)))
 (sel (cutIs s [47])
 (sel (bnot (seq (cutA s [47]) []))
 (sel (bnot (seq (cutZ s [47]) []))
 (sel (ile (slen (cutA s [47])) 1000)
 (sel (wordB (cutA s [47]))
 (sel (ile (slen (cutZ s [47])) 1000)
 (sel (wordB (cutZ s [47]))
 (K (V.tup [(V.int .i64 4), (V.str (cutA s [47])), (V.str (cutZ s [47]))]))
 (sel (bnot (seq s []))
 (sel (ile (slen s) 1000)
 (sel (wordB s)
 (K (V.tup [(V.int .i64 1), (V.str s), (V.str [])]))
 (K (V.tup [(V.int .i64 0), (V.str []), (V.str [])])))
 (none))
 (K (V.tup [(V.int .i64 0), (V.str []), (V.str [])]))))
 (none))
 (sel (bnot (seq s []))
 (sel (ile (slen s) 1000)
 (sel (wordB s)
 (K (V.tup [(V.int .i64 1), (V.str s), (V.str [])]))
 (K (V.tup [(V.int .i64 0), (V.str []), (V.str [])])))
 (none))
 (K (V.tup [(V.int .i64 0), (V.str []), (V.str [])]))))
 (none))
 (sel (bnot (seq s []))
 (sel (ile (slen s) 1000)
 (sel (wordB s)
 (K (V.tup [(V.int .i64 1), (V.str s), (V.str [])]))
 (K (V.tup [(V.int .i64 0), (V.str []), (V.str [])])))
 (none))
 (K (V.tup [(V.int .i64 0), (V.str []), (V.str [])]))))
 (sel (bnot (seq s []))
 (sel (ile (slen s) 1000)
 (sel (wordB s)
 (K (V.tup [(V.int .i64 1), (V.str s), (V.str [])]))
 (K (V.tup [(V.int .i64 0), (V.str []), (V.str [])])))
 (none))
 (K (V.tup [(V.int .i64 0), (V.str []), (V.str [])]))))
 (sel (bnot (seq s []))
 (sel (ile (slen s) 1000)
 (sel (wordB s)
 (K (V.tup [(V.int .i64 1), (V.str s), (V.str [])]))
 (K (V.tup [(V.int .i64 0), (V.str []), (V.str [])])))
 (none))
 (K (V.tup [(V.int .i64 0), (V.str []), (V.str [])]))))
 (none)))
 (none))
 (sel (band (ile (slen s) 1000) (band (ile 1 (slen [47])) (ile (slen [47]) 2)))
 (sel (cutIs s [47])
 (sel (bnot (seq (cutA s [47]) []))
 (sel (bnot (seq (cutZ s [47]) []))
 (sel (ile (slen (cutA s [47])) 1000)
 (sel (wordB (cutA s [47]))
 (sel (ile (slen (cutZ s [47])) 1000)
 (sel (wordB (cutZ s [47]))
 (K (V.tup [(V.int .i64 4), (V.str (cutA s [47])), (V.str (cutZ s [47]))]))
 (sel (bnot (seq s []))
 (sel (ile (slen s) 1000)
 (sel (wordB s)
 (K (V.tup [(V.int .i64 1), (V.str s), (V.str [])]))
 (K (V.tup [(V.int .i64 0), (V.str []), (V.str [])])))
 (none))
 (K (V.tup [(V.int .i64 0), (V.str []), (V.str [])]))))
 (none))
 (sel (bnot (seq s []))
 (sel (ile (slen s) 1000)
 (sel (wordB s)
 (K (V.tup [(V.int .i64 1), (V.str s), (V.str [])]))
 (K (V.tup [(V.int .i64 0), (V.str []), (V.str [])])))
 (none))
 (K (V.tup [(V.int .i64 0), (V.str []), (V.str [])]))))
 (none))
 (sel (bnot (seq s []))
 (sel (ile (slen s) 1000)
 (sel (wordB s)
 (K (V.tup [(V.int .i64 1), (V.str s), (V.str [])]))
 (K (V.tup [(V.int .i64 0), (V.str []), (V.str [])])))
 (none))
 (K (V.tup [(V.int .i64 0), (V.str []), (V.str [])]))))
 (sel (bnot (seq s []))
 (sel (ile (slen s) 1000)
 (sel (wordB s)
 (K (V.tup [(V.int .i64 1), (V.str s), (V.str [])]))
 (K (V.tup [(V.int .i64 0), (V.str []), (V.str [])])))
 (none))
 (K (V.tup [(V.int .i64 0), (V.str []), (V.str [])]))))
 (sel (bnot (seq s []))
 (sel (ile (slen s) 1000)
 (sel (wordB s)
 (K (V.tup [(V.int .i64 1), (V.str s), (V.str [])]))
 (K (V.tup [(V.int .i64 0), (V.str []), (V.str [])])))
 (none))
 (K (V.tup [(V.int .i64 0), (V.str []), (V.str [])]))))
 (none)))
 (none))
 (sel (band (ile (slen s) 1000) (band (ile 1 (slen [47])) (ile (slen [47]) 2)))
 (sel (cutIs s [47])
 (sel (bnot (seq (cutA s [47]) []))
 (sel (bnot (seq (cutZ s [47]) []))
 (sel (ile (slen (cutA s [47])) 1000)
 (sel (wordB (cutA s [47]))
 (sel (ile (slen (cutZ s [47])) 1000)
 (sel (wordB (cutZ s [47]))
 (K (V.tup [(V.int .i64 4), (V.str (cutA s [47])), (V.str (cutZ s [47]))]))
 (sel (bnot (seq s []))
 (sel (ile (slen s) 1000)
 (sel (wordB s)
 (K (V.tup [(V.int .i64 1), (V.str s), (V.str [])]))
 (K (V.tup [(V.int .i64 0), (V.str []), (V.str [])])))
 (none))
 (K (V.tup [(V.int .i64 0), (V.str []), (V.str [])]))))
 (none))
 (sel (bnot (seq s []))
 (sel (ile (slen s) 1000)
 (sel (wordB s)
 (K (V.tup [(V.int .i64 1), (V.str s), (V.str [])]))
 (K (V.tup [(V.int .i64 0), (V.str []), (V.str [])])))
 (none))
 (K (V.tup [(V.int .i64 0), (V.str []), (V.str [])]))))
 (none))
 (sel (bnot (seq s []))
 (sel (ile (slen s) 1000)
 (sel (wordB s)
 (K (V.tup [(V.int .i64 1), (V.str s), (V.str [])]))
 (K (V.tup [(V.int .i64 0), (V.str []), (V.str [])])))
 (none))
 (K (V.tup [(V.int .i64 0), (V.str []), (V.str [])]))))
 (sel (bnot (seq s []))
 (sel (ile (slen s) 1000)
 (sel (wordB s)
 (K (V.tup [(V.int .i64 1), (V.str s), (V.str [])]))
 (K (V.tup [(V.int .i64 0), (V.str []), (V.str [])])))
 (none))
 (K (V.tup [(V.int .i64 0), (V.str []), (V.str [])]))))
 (sel (bnot (seq s []))
 (sel (ile (slen s) 1000)
 (sel (wordB s)
 (K (V.tup [(V.int .i64 1), (V.str s), (V.str [])]))
 (K (V.tup [(V.int .i64 0), (V.str []), (V.str [])])))
 (none))
 (K (V.tup [(V.int .i64 0), (V.str []), (V.str [])]))))
 (none)))
 (none)) := by kernel_rfl
theorem fLetter_top (F : Nat) (s : List UInt8) (K : V → Option V) :
 evBd fE (evFn fE fS2 F 2) F 69 [(V.str s)] K =
 sel (seq s [45])
 (K (V.tup [(V.str []), (V.int .i64 0)]))
 (sel (ilt 6 (slen s))
 (K (V.tup [(V.str []), (V.int .i64 9)]))
 (sel (seq s [])
 (K (V.tup [(V.str []), (V.int .i64 4)]))
 (sel (ile (slen s) 1000)
 (sel (bnot (wordB s))
 (K (V.tup [(V.str []), (V.int .i64 4)]))
 (K (V.tup [(V.str s), (V.int .i64 0)])))
 (none)))) := by kernel_rfl
noncomputable def rFind_L0 (F : Nat) (ns : List Nat) (n : Nat) (x0 : List UInt8) (x1 : Int) (x4 : Int) (x5 : Int) (x6 : Int) (K : V → Option V) : Option V :=
 loopAt fE fS2 F 2 106 [1, 1, 0, 1, 0] ns K n (mkSt 22 [(0, V.str x0), (1, V.int .u8 x1), (4, V.int .i64 x4), (5, V.int .i64 x5), (6, V.int .i64 x6)] [])
theorem rFind_top (F : Nat) (s : List UInt8) (c : Int) (K : V → Option V) :
 evBd fE (evFn fE fS2 F 2) F 106 [(V.str s), (V.int .u8 c)] K =
 rFind_L0 F [] F s c 0 (-1) 0 K := by kernel_rfl
theorem rFind_L0_succ (F : Nat) (n : Nat) (x0 : List UInt8) (x1 : Int) (x4 : Int) (x5 : Int) (x6 : Int) (K : V → Option V) :
 rFind_L0 F [] (n + 1) x0 x1 x4 x5 x6 K =
 sel (ilt x6 (slen x0))
 (sel (band (ile 0 x6) (ilt x6 (slen x0)))
 (sel (bnot (ieq (sat x0 x6) x1))
 (rFind_L0 F [] n x0 x1 x4 x5 (iadd .i64 x6 1) K)
 (sel (ile 0 x5)
 (K (V.int .i64 (-2)))
 (rFind_L0 F [] n x0 x1 x4 x6 (iadd .i64 x6 1) K)))
 (none))
 (K (V.int .i64 x5)) := by kernel_rfl
noncomputable def rLetter20_L0 (F : Nat) (ns : List Nat) (n : Nat) (x0 : List UInt8) (x2 : List UInt8) (x3 : Int) (x4 : Int) (K : V → Option V) : Option V :=
 loopAt fE fSl F 2 82 [1, 1, 1, 0, 1, 0] ns K n (mkSt 24 [(0, V.str x0), (2, V.str x2), (3, V.int .i64 x3), (4, V.int .i64 x4)] [])
theorem rLetter20_top (F : Nat) (s : List UInt8) (K : V → Option V) :
 evBd fE (evFn fE fSl F 2) F 82 [(V.str s)] K =
 sel (seq s [45])
 (K (V.tup [(V.str []), (V.int .i64 0)]))
 (sel (ilt 6 (slen s))
 (K (V.tup [(V.str []), (V.int .i64 9)]))
 (rLetter20_L0 F [] F s [] 0 0 K)) := by kernel_rfl
theorem rLetter20_L0_succ (F : Nat) (n : Nat) (x0 : List UInt8) (x2 : List UInt8) (x3 : Int) (x4 : Int) (K : V → Option V) :
 rLetter20_L0 F [] (n + 1) x0 x2 x3 x4 K =
 sel (ilt x4 (slen x0))
 (sel (band (ile 0 x4) (ilt x4 (slen x0)))
 (sel (bnot (letCf (sat x0 x4)))
 (K (V.tup [(V.str []), (V.int .i64 4)]))
 (rLetter20_L0 F [] n x0 x2 x3 (iadd .i64 x4 1) K))
 (none))
 (sel (seq x0 [])
 (K (V.tup [(V.str []), (V.int .i64 4)]))
 (K (V.tup [(V.str x0), (V.int .i64 0)]))) := by kernel_rfl
theorem rLetterC_top (F : Nat) (c : Int) (K : V → Option V) :
 evBd fE (evFn fE fS2 F 2) F 104 [(V.int .u8 c)] K =
 sel (ile 65 c)
 (sel (ile c 90)
 (K (V.bool true))
 (sel (ile 97 c)
 (sel (ile c 122)
 (K (V.bool true))
 (sel (ile 48 c)
 (sel (ile c 57)
 (K (V.bool true))
 (sel (ieq c 43)
 (K (V.bool true))
 (K (V.bool (ieq c 45)))))
 (sel (ieq c 43)
 (K (V.bool true))
 (K (V.bool (ieq c 45))))))
 (sel (ile 48 c)
 (sel (ile c 57)
 (K (V.bool true))
 (sel (ieq c 43)
 (K (V.bool true))
 (K (V.bool (ieq c 45)))))
 (sel (ieq c 43)
 (K (V.bool true))
 (K (V.bool (ieq c 45)))))))
 (sel (ile 97 c)
 (sel (ile c 122)
 (K (V.bool true))
 (sel (ile 48 c)
 (sel (ile c 57)
 (K (V.bool true))
 (sel (ieq c 43)
 (K (V.bool true))
 (K (V.bool (ieq c 45)))))
 (sel (ieq c 43)
 (K (V.bool true))
 (K (V.bool (ieq c 45))))))
 (sel (ile 48 c)
 (sel (ile c 57)
 (K (V.bool true))
 (sel (ieq c 43)
 (K (V.bool true))
 (K (V.bool (ieq c 45)))))
 (sel (ieq c 43)
 (K (V.bool true))
 (K (V.bool (ieq c 45)))))) := by kernel_rfl
theorem fCheck_top (F : Nat) (s : List UInt8) (K : V → Option V) :
 evBd fE (evFn fE fS3 F 2) F 98 [(V.str s)] K =
 sel (ilt 16 (slen s))
 (K (V.int .i64 9))
 (sel (ile (slen s) 1000)
 (sel (ieq (fkK s) 0)
 (K (V.int .i64 4))
 (K (V.int .i64 0)))
 (none)) := by kernel_rfl
noncomputable def rCheck20_L0 (F : Nat) (ns : List Nat) (n : Nat) (x0 : List UInt8) (x2 : Int) (x3 : Int) (x4 : Int) (K : V → Option V) : Option V :=
 loopAt fE fS3 F 2 85 [1, 1, 1, 0, 1, 0] ns K n (mkSt 92 [(0, V.str x0), (2, V.int .i64 x2), (3, V.int .i64 x3), (4, V.int .i64 x4), (5, V.tup []), (6, V.tup []), (7, V.tup []), (8, V.tup []), (9, V.tup [])] [])
theorem rCheck20_top (F : Nat) (s : List UInt8) (K : V → Option V) :
 evBd fE (evFn fE fS3 F 2) F 85 [(V.str s)] K =
 sel (ilt 16 (slen s))
 (K (V.int .i64 9))
 (rCheck20_L0 F [] F s 0 (slen s) 0 K) := by kernel_rfl
theorem rCheck20_L0_succ (F : Nat) (n : Nat) (x0 : List UInt8) (x2 : Int) (x3 : Int) (x4 : Int) (K : V → Option V) :
 rCheck20_L0 F [] (n + 1) x0 x2 x3 x4 K =
 sel (ilt x4 x3)
 (sel (band (ile 0 x4) (ilt x4 (slen x0)))
 (sel (bnot (letCf (sat x0 x4)))
 (sel (band (ile 0 x4) (ilt x4 (slen x0)))
 (sel (bnot (ieq (sat x0 x4) 37))
 (sel (band (ile 0 x4) (ilt x4 (slen x0)))
 (sel (bnot (ieq (sat x0 x4) 47))
 (K (V.int .i64 4))
 (rCheck20_L0 F [] n x0 x2 x3 (iadd .i64 x4 1) K))
 (none))
 (rCheck20_L0 F [] n x0 x2 x3 (iadd .i64 x4 1) K))
 (none))
 (rCheck20_L0 F [] n x0 x2 x3 (iadd .i64 x4 1) K))
 (none))
 (sel (ile (slen x0) 1000)
 (sel (ile (slen x0) 1000)
 (sel (ilt 0 x3)
 (sel (ieq (findI x0 37) (-1))
 (sel (ile 0 (findI x0 37))
 (sel (ieq (findI x0 47) (-1))
 (sel (ilt (iadd .i64 (findI x0 37) 1) x3)
 (sel (band (ile 0 (iadd .i64 (findI x0 37) 1)) (ilt (iadd .i64 (findI x0 37) 1) (slen x0)))
 (sel (ieq (findI x0 37) (-1))
 (sel (ilt 0 (findI x0 47))
 (sel (ieq (findI x0 47) (-1))
 (K (V.int .i64 0))
 (sel (ieq (sat x0 (iadd .i64 (findI x0 37) 1)) 115)
 (K (V.int .i64 0))
 (sel (ilt (findI x0 47) (isub .i64 x3 1))
 (K (V.int .i64 0))
 (sel (seq x0 [37, 122])
 (K (V.int .i64 0))
 (K (V.int .i64 4))))))
 (sel (ieq (findI x0 47) (-1))
 (K (V.int .i64 0))
 (sel (ieq (sat x0 (iadd .i64 (findI x0 37) 1)) 115)
 (K (V.int .i64 0))
 (sel (seq x0 [37, 122])
 (K (V.int .i64 0))
 (K (V.int .i64 4))))))
 (sel (ieq (findI x0 47) (-1))
 (K (V.int .i64 0))
 (sel (ieq (sat x0 (iadd .i64 (findI x0 37) 1)) 115)
 (K (V.int .i64 0))
 (sel (seq x0 [37, 122])
 (K (V.int .i64 0))
 (K (V.int .i64 4))))))
 (none))
 (sel (ieq (findI x0 37) (-1))
 (sel (ilt 0 (findI x0 47))
 (sel (ieq (findI x0 47) (-1))
 (K (V.int .i64 0))
 (sel (ilt (findI x0 47) (isub .i64 x3 1))
 (K (V.int .i64 0))
 (sel (seq x0 [37, 122])
 (K (V.int .i64 0))
 (K (V.int .i64 4)))))
 (sel (ieq (findI x0 47) (-1))
 (K (V.int .i64 0))
 (sel (seq x0 [37, 122])
 (K (V.int .i64 0))
 (K (V.int .i64 4)))))
 (sel (ieq (findI x0 47) (-1))
 (K (V.int .i64 0))
 (sel (seq x0 [37, 122])
 (K (V.int .i64 0))
 (K (V.int .i64 4))))))
 (sel (ieq (findI x0 37) (-1))
 (sel (ilt 0 (findI x0 47))
 (sel (ieq (findI x0 47) (-1))
 (K (V.int .i64 0))
 (sel (ilt (findI x0 47) (isub .i64 x3 1))
 (K (V.int .i64 0))
 (sel (seq x0 [37, 122])
 (K (V.int .i64 0))
 (K (V.int .i64 4)))))
 (sel (ieq (findI x0 47) (-1))
 (K (V.int .i64 0))
 (sel (seq x0 [37, 122])
 (K (V.int .i64 0))
 (K (V.int .i64 4)))))
 (sel (ieq (findI x0 47) (-1))
 (K (V.int .i64 0))
 (sel (seq x0 [37, 122])
 (K (V.int .i64 0))
 (K (V.int .i64 4))))))
 (sel (ieq (findI x0 37) (-1))
 (sel (ilt 0 (findI x0 47))
 (sel (ieq (findI x0 47) (-1))
 (K (V.int .i64 0))
 (sel (ilt (findI x0 47) (isub .i64 x3 1))
 (K (V.int .i64 0))
 (sel (seq x0 [37, 122])
 (K (V.int .i64 0))
 (K (V.int .i64 4)))))
 (sel (ieq (findI x0 47) (-1))
 (K (V.int .i64 0))
 (sel (seq x0 [37, 122])
 (K (V.int .i64 0))
 (K (V.int .i64 4)))))
 (sel (ieq (findI x0 47) (-1))
 (K (V.int .i64 0))
 (sel (seq x0 [37, 122])
 (K (V.int .i64 0))
 (K (V.int .i64 4))))))
 (sel (ile 0 (findI x0 37))
 (sel (ieq (findI x0 47) (-1))
 (sel (ilt (iadd .i64 (findI x0 37) 1) x3)
 (sel (band (ile 0 (iadd .i64 (findI x0 37) 1)) (ilt (iadd .i64 (findI x0 37) 1) (slen x0)))
 (sel (ieq (findI x0 37) (-1))
 (sel (ilt 0 (findI x0 47))
 (sel (ieq (sat x0 (iadd .i64 (findI x0 37) 1)) 115)
 (K (V.int .i64 0))
 (sel (ilt (findI x0 47) (isub .i64 x3 1))
 (K (V.int .i64 0))
 (sel (seq x0 [37, 122])
 (K (V.int .i64 0))
 (K (V.int .i64 4)))))
 (sel (ieq (sat x0 (iadd .i64 (findI x0 37) 1)) 115)
 (K (V.int .i64 0))
 (sel (seq x0 [37, 122])
 (K (V.int .i64 0))
 (K (V.int .i64 4)))))
 (sel (ieq (sat x0 (iadd .i64 (findI x0 37) 1)) 115)
 (K (V.int .i64 0))
 (sel (seq x0 [37, 122])
 (K (V.int .i64 0))
 (K (V.int .i64 4)))))
 (none))
 (sel (ieq (findI x0 37) (-1))
 (sel (ilt 0 (findI x0 47))
 (sel (ilt (findI x0 47) (isub .i64 x3 1))
 (K (V.int .i64 0))
 (sel (seq x0 [37, 122])
 (K (V.int .i64 0))
 (K (V.int .i64 4))))
 (sel (seq x0 [37, 122])
 (K (V.int .i64 0))
 (K (V.int .i64 4))))
 (sel (seq x0 [37, 122])
 (K (V.int .i64 0))
 (K (V.int .i64 4)))))
 (sel (ieq (findI x0 37) (-1))
 (sel (ilt 0 (findI x0 47))
 (sel (ilt (findI x0 47) (isub .i64 x3 1))
 (K (V.int .i64 0))
 (sel (seq x0 [37, 122])
 (K (V.int .i64 0))
 (K (V.int .i64 4))))
 (sel (seq x0 [37, 122])
 (K (V.int .i64 0))
 (K (V.int .i64 4))))
 (sel (seq x0 [37, 122])
 (K (V.int .i64 0))
 (K (V.int .i64 4)))))
 (sel (ieq (findI x0 37) (-1))
 (sel (ilt 0 (findI x0 47))
 (sel (ilt (findI x0 47) (isub .i64 x3 1))
 (K (V.int .i64 0))
 (sel (seq x0 [37, 122])
 (K (V.int .i64 0))
 (K (V.int .i64 4))))
 (sel (seq x0 [37, 122])
 (K (V.int .i64 0))
 (K (V.int .i64 4))))
 (sel (seq x0 [37, 122])
 (K (V.int .i64 0))
 (K (V.int .i64 4))))))
 (sel (ile 0 (findI x0 37))
 (sel (ieq (findI x0 47) (-1))
 (sel (ilt (iadd .i64 (findI x0 37) 1) x3)
 (sel (band (ile 0 (iadd .i64 (findI x0 37) 1)) (ilt (iadd .i64 (findI x0 37) 1) (slen x0)))
 (sel (ieq (findI x0 37) (-1))
 (sel (ilt 0 (findI x0 47))
 (sel (ieq (sat x0 (iadd .i64 (findI x0 37) 1)) 115)
 (K (V.int .i64 0))
 (sel (ilt (findI x0 47) (isub .i64 x3 1))
 (K (V.int .i64 0))
 (sel (seq x0 [37, 122])
 (K (V.int .i64 0))
 (K (V.int .i64 4)))))
 (sel (ieq (sat x0 (iadd .i64 (findI x0 37) 1)) 115)
 (K (V.int .i64 0))
 (sel (seq x0 [37, 122])
 (K (V.int .i64 0))
 (K (V.int .i64 4)))))
 (sel (ieq (sat x0 (iadd .i64 (findI x0 37) 1)) 115)
 (K (V.int .i64 0))
 (sel (seq x0 [37, 122])
 (K (V.int .i64 0))
 (K (V.int .i64 4)))))
 (none))
 (sel (ieq (findI x0 37) (-1))
 (sel (ilt 0 (findI x0 47))
 (sel (ilt (findI x0 47) (isub .i64 x3 1))
 (K (V.int .i64 0))
 (sel (seq x0 [37, 122])
 (K (V.int .i64 0))
 (K (V.int .i64 4))))
 (sel (seq x0 [37, 122])
 (K (V.int .i64 0))
 (K (V.int .i64 4))))
 (sel (seq x0 [37, 122])
 (K (V.int .i64 0))
 (K (V.int .i64 4)))))
 (sel (ieq (findI x0 37) (-1))
 (sel (ilt 0 (findI x0 47))
 (sel (ilt (findI x0 47) (isub .i64 x3 1))
 (K (V.int .i64 0))
 (sel (seq x0 [37, 122])
 (K (V.int .i64 0))
 (K (V.int .i64 4))))
 (sel (seq x0 [37, 122])
 (K (V.int .i64 0))
 (K (V.int .i64 4))))
 (sel (seq x0 [37, 122])
 (K (V.int .i64 0))
 (K (V.int .i64 4)))))
 (sel (ieq (findI x0 37) (-1))
 (sel (ilt 0 (findI x0 47))
 (sel (ilt (findI x0 47) (isub .i64 x3 1))
 (K (V.int .i64 0))
 (sel (seq x0 [37, 122])
 (K (V.int .i64 0))
 (K (V.int .i64 4))))
 (sel (seq x0 [37, 122])
 (K (V.int .i64 0))
 (K (V.int .i64 4))))
 (sel (seq x0 [37, 122])
 (K (V.int .i64 0))
 (K (V.int .i64 4))))))
 (none))
 (none)) := by kernel_rfl
theorem fLText_top (F : Nat) (s : List UInt8) (K : V → Option V) :
 evBd fE (evFn fE fS4 F 2) F 40 [(V.str s)] K =
 sel (seq s [])
 (K (V.tup [(V.str [45]), (V.int .i64 0)]))
 (sel (ile (slen s) 1000)
 (sel (bnot (ieq (leW s) 0))
 (K (V.tup [(V.str []), (V.int .i64 4)]))
 (sel (bnot (seq (leT s) s))
 (K (V.tup [(V.str []), (V.int .i64 4)]))
 (K (V.tup [(V.str s), (V.int .i64 0)]))))
 (none)) := by kernel_rfl
theorem rLText_top (F : Nat) (s : List UInt8) (K : V → Option V) :
 evBd fE (evFn fE fS4 F 2) F 54 [(V.str s)] K =
 sel (seq s [])
 (K (V.tup [(V.str [45]), (V.int .i64 0)]))
 (sel (ile (slen s) 1000)
 (sel (bnot (ieq (leW s) 0))
 (K (V.tup [(V.str []), (V.int .i64 4)]))
 (sel (bnot (seq (leT s) s))
 (K (V.tup [(V.str []), (V.int .i64 4)]))
 (K (V.tup [(V.str (leT s)), (V.int .i64 0)]))))
 (none)) := by kernel_rfl
end Nt.Ev.YtjkfndcpiihniaaGreatDoor

namespace Nt.Ev.YtjkfndcpiihniaaGreatDoor
open Go Go.RowKit Nt Nt.Num Nt.Fmt Go.Proofs.YtjkfndcpiihniaaGreatDoor
variable [MLen]
theorem fE_ok : EOk fE := ⟨by kernel_rfl, by kernel_rfl⟩
theorem toF {f : Nat} {args : List V} {r : V} (h : Contract nE f args r) : Contract fE f args r := Contract.env (E := nE) rfl (fun n v h => by cases h) h
theorem len_f {s : List UInt8} (h : ile (slen s) 1000 = true) : s.length ≤ 1000 := by rw [ile_iff, slen_nat] at h; omega
theorem fits_f {m : Int} (h : band (ile (-9223372036854775808) m) (ile m 9223372036854775807) = true) : Fits m := by rw [band_iff, ile_iff, ile_iff] at h; exact h
theorem fTextS_ok (m : Int) (hc : band (ile (-9223372036854775808) m) (ile m 9223372036854775807) = true) : Contract fE 58 [.int .i64 m] (.str (text m)) := toF (rText_ev m (fits_f hc))
theorem trimS1_ok (s c : List UInt8) (hc : band (ile (slen s) 1000) (band (ile (slen c) 1000) (asciiB c)) = true) : Contract fE 109 [.str s, .str c] (.str (trimC s c)) := by
  obtain ⟨h1, h2⟩ := band_true hc
  obtain ⟨h2, h3⟩ := band_true h2
  have h1 := len_f h1
  have h2 := len_f h2
  refine contract_old fun G w vs hG hg hp => ?_
  obtain ⟨x, y, rfl, hx, hy⟩ := PW_two hp
  unfold rep at hx hy
  subst hx; subst hy
  refine (Go.Proofs.Tryz.strings_Trim ⟨s.toArray⟩ ⟨c.toArray⟩ w (show s.toArray.size ≤ _ by simp; omega) (show c.toArray.size < _ by simp; omega) (fun j b hb => ?_)).mono ?_
  · have h3 : (c.all fun c => decide (c.toNat < 128)) = true := h3
    have := List.all_eq_true.1 h3 b (List.mem_of_getElem? hb)
    exact of_decide_eq_true this
  · rintro e w' ⟨rfl, hb⟩
    exact ⟨_, rfl, hb, res_str _⟩
theorem cutS1_ok (s c : List UInt8) (hc : band (ile (slen s) 1000) (band (ile 1 (slen c)) (ile (slen c) 2)) = true) : Contract fE 134 [.str s, .str c] (.tup [.str (cutA s c), .str (cutZ s c), .bool (cutIs s c)]) := by
  obtain ⟨h1, _⟩ := band_true hc
  have h1 := len_f h1
  refine contract_old fun G w vs hG hg hp => ?_
  obtain ⟨x, y, rfl, hx, hy⟩ := PW_two hp
  unfold rep at hx hy
  subst hx; subst hy
  have hm := glob_int (E := fE) hG hg (n := 3) (k := .i64) (m := MLen.val) rfl
  refine (Go.Proofs.Tryz.strings_Cut ⟨s.toArray⟩ ⟨c.toArray⟩ _ w (show s.toArray.size < _ by simp; omega) hm).mono ?_
  rintro e w' ⟨rfl, n, rfl⟩
  exact ⟨_, rfl, Nt.below_drewN (Below.refl _ _) n, res_tup (vs := [_, _, _]) (.cons (same_str _) (.cons (same_str _) (.cons (same_bool _) .nil)))⟩
theorem fS_ok : SOk fE fS := by
  unfold fS
  refine SOk.cons (fun args r h => ?_) (SOk.cons (fun args r h => ?_) (SOk.cons (fun args r h => ?_) (SOk.nil)))
  · unfold fTextS at h
    split at h
    · simp only [Option.some.injEq, Prod.mk.injEq] at h
      obtain ⟨hc, rfl⟩ := h
      exact fTextS_ok _ hc
    · cases h
  · unfold trimS1 at h
    split at h
    · simp only [Option.some.injEq, Prod.mk.injEq] at h
      obtain ⟨hc, rfl⟩ := h
      exact trimS1_ok _ _ hc
    · cases h
  · unfold cutS1 at h
    split at h
    · simp only [Option.some.injEq, Prod.mk.injEq] at h
      obtain ⟨hc, rfl⟩ := h
      exact cutS1_ok _ _ hc
    · cases h
def lettersF : List UInt8 := [65, 66, 67, 68, 69, 70, 71, 72, 73, 74, 75, 76, 77, 78, 79, 80, 81, 82, 83, 84, 85, 86, 87, 88, 89, 90, 97, 98, 99, 100, 101, 102, 103, 104, 105, 106, 107, 108, 109, 110, 111, 112, 113, 114, 115, 116, 117, 118, 119, 120, 121, 122, 48, 49, 50, 51, 52, 53, 54, 55, 56, 57, 43, 45]
theorem letters_let (c : UInt8) : lettersF.contains c = letB c := by
  have h : ∀ n : Fin 256, lettersF.contains (UInt8.ofNat n) = letB (UInt8.ofNat n) := by decide +kernel
  have := h ⟨c.toNat, c.toNat_lt⟩
  simpa using this
theorem drop_nil (p : UInt8 → Bool) : ∀ l : List UInt8, l.dropWhile p = [] ↔ ∀ x ∈ l, p x = true
  | [] => by simp
  | x :: l => by
    rw [List.dropWhile_cons]
    cases h : p x with
    | true => simp [h, drop_nil p l]
    | false => simp [h]
theorem take_all (p : UInt8 → Bool) : ∀ (l : List UInt8) (x : UInt8), x ∈ l.takeWhile p → p x = true
  | [], _, h => by cases h
  | y :: l, x, h => by
    rw [List.takeWhile_cons] at h
    cases hy : p y with
    | true =>
      rw [hy, if_pos rfl, List.mem_cons] at h
      rcases h with rfl | h
      · exact hy
      · exact take_all p l x h
    | false => rw [hy] at h; cases h
theorem trim_word (s : List UInt8) : seq (trimC s lettersF) [] = wordB s := by
  unfold seq trimC Lib.trimS Lib.trimLeftS Lib.trimRightS
  simp only [letters_let]
  rw [Bool.eq_iff_iff, beq_iff_eq, drop_nil]
  unfold wordB
  rw [List.all_eq_true]
  constructor
  · intro h x hx
    have hx : x ∈ s.reverse := by simpa using hx
    rw [← List.takeWhile_append_dropWhile (p := fun x => letB x) (l := s.reverse), List.mem_append] at hx
    rcases hx with hx | hx
    · exact take_all _ _ _ hx
    · exact h x (by simpa using hx)
  · intro h x hx
    rw [List.mem_reverse] at hx
    have := (List.dropWhile_sublist (fun x => letB x)).subset hx
    exact h x (by simpa using this)
theorem fWordS_ok (s : List UInt8) (hc : ile (slen s) 1000 = true) : Contract fE 92 [.str s] (.bool (wordB s)) := by
  refine contract_of_body fE_ok fS_ok 5 2 ?_
  rw [fWord_top]
  have h2 := trim_word s
  unfold lettersF at h2
  rw [h2, hc, sel_pos (by decide)]
theorem fS2_ok : SOk fE fS2 := by
  unfold fS2
  refine SOk.cons (fun args r h => ?_) (fS_ok)
  · unfold fWordS at h
    split at h
    · simp only [Option.some.injEq, Prod.mk.injEq] at h
      obtain ⟨hc, rfl⟩ := h
      exact fWordS_ok _ hc
    · cases h
theorem selT (x y : Option V) : sel true x y = x := rfl
theorem selF (x y : Option V) : sel false x y = y := rfl
theorem sel_and2 (b c : Bool) (X T : Option V) : sel (bnot b) (sel c X T) T = if ¬ (b = true) ∧ c = true then X else T := by cases b <;> cases c <;> rfl
theorem sel_and3 (a b c : Bool) (X T : Option V) : sel a (sel b (sel c X T) T) T = if a = true ∧ b = true ∧ c = true then X else T := by cases a <;> cases b <;> cases c <;> rfl
theorem sel_and5 (a b c d e : Bool) (X T : Option V) : sel a (sel (bnot b) (sel (bnot c) (sel d (sel e X T) T) T) T) T = if a = true ∧ ¬ (b = true) ∧ ¬ (c = true) ∧ d = true ∧ e = true then X else T := by cases a <;> cases b <;> cases c <;> cases d <;> cases e <;> rfl
theorem cut_len (s c : List UInt8) : (cutA s c).length ≤ s.length ∧ (cutZ s c).length ≤ s.length := by
  unfold cutA cutZ Lib.cut
  split <;> simp <;> omega
theorem fCutS_ok (s : List UInt8) (hc : ile (slen s) 1000 = true) : Contract fE 113 [.str s] (.tup [.int .i64 (fkK s), .str (fkA s), .str (fkZ s)]) := by
  refine contract_of_body fE_ok fS2_ok 5 2 ?_
  rw [fCut_top]
  have hl := len_f hc
  have a1 : ile (slen (cutA s [37, 115])) 1000 = true := ile_t (by have := (cut_len s [37, 115]).1; rw [slen_nat]; omega)
  have a2 : ile (slen (cutZ s [37, 115])) 1000 = true := ile_t (by have := (cut_len s [37, 115]).2; rw [slen_nat]; omega)
  have a3 : ile (slen (cutA s [47])) 1000 = true := ile_t (by have := (cut_len s [47]).1; rw [slen_nat]; omega)
  have a4 : ile (slen (cutZ s [47])) 1000 = true := ile_t (by have := (cut_len s [47]).2; rw [slen_nat]; omega)
  have a5 : band (ile (slen s) 1000) (band (ile 1 (slen [37, 115])) (ile (slen [37, 115]) 2)) = true := by rw [hc]; rfl
  have a6 : band (ile (slen s) 1000) (band (ile 1 (slen [47])) (ile (slen [47]) 2)) = true := by rw [hc]; rfl
  simp only [a5, a6]
  simp only [hc, a1, a2, a3, a4, selT]
  unfold fkK fkA fkZ
  rw [← kindP_eq]
  unfold kindP perc slash
  rw [sel_and5, sel_and3, sel_and2, sel_if]
  simp only [seq_iff, show @Fmt.cutA = @Nt.Ev.YtjkfndcpiihniaaGreatDoor.cutA from rfl, show @Fmt.cutZ = @Nt.Ev.YtjkfndcpiihniaaGreatDoor.cutZ from rfl, show @Fmt.cutIs = @Nt.Ev.YtjkfndcpiihniaaGreatDoor.cutIs from rfl]
  split
  · rfl
  · split
    · rfl
    · split
      · rfl
      · split <;> rfl
theorem sat_at (s : List UInt8) (i : Nat) (h : i < s.length) : sat s (i : Int) = (s[i].toNat : Int) := by
  rw [sat_nat, List.getD_eq_getElem?_getD, List.getElem?_eq_getElem h]; rfl
theorem letC_b (c : UInt8) : letCf (c.toNat : Int) = letB c := by
  unfold letCf letB
  congr 1
  simp only [eq_iff_iff]
  omega
theorem letterCS_ok (c : Int) (hc : true = true) : Contract fE 104 [.int .u8 c] (.bool (letCf c)) := by
  refine contract_of_body fE_ok fS2_ok 5 2 ?_
  rw [rLetterC_top]
  simp only [sel_if, ile_iff, ieq_iff]
  unfold letCf
  repeat' split
  all_goals first | (exfalso; omega) | (rw [decide_eq_true (by omega)]; done) | (congr 2; unfold ieq; rw [Bool.eq_iff_iff]; simp; omega)
theorem fSl_ok : SOk fE fSl := by
  unfold fSl
  refine SOk.cons (fun args r h => ?_) (fS2_ok)
  · unfold letterCS at h
    split at h
    · simp only [Option.some.injEq, Prod.mk.injEq] at h
      obtain ⟨hc, rfl⟩ := h
      exact letterCS_ok _ rfl
    · cases h
theorem find_loop (F : Nat) (s : List UInt8) (c : Int) (hs : s.length ≤ 1000) : ∀ (n i : Nat) (at' : Int), i ≤ s.length → s.length ≤ i + n → at' ≤ i → -1 ≤ at' →
    rFind_L0 F [] (n + 1) s c 0 at' i some = some (.int .i64 (findG c (s.drop i) i at')) := by
  intro n
  induction n with
  | zero =>
    intro i a h1 h2 h3 h4
    rw [rFind_L0_succ, sel_neg (ilt_f (by rw [slen_nat]; omega)), List.drop_eq_nil_of_le (by omega)]
    rfl
  | succ n ih =>
    intro i a h1 h2 h3 h4
    rw [rFind_L0_succ]
    by_cases hi : i < s.length
    · rw [sel_pos (ilt_t (by rw [slen_nat]; omega)), sel_pos (by rw [band_iff, ile_iff, ilt_iff, slen_nat]; omega), sat_at s i hi, iadd64 (by omega), List.drop_eq_getElem_cons hi]
      have e1 : ((i : Int) + 1) = ((i + 1 : Nat) : Int) := by omega
      rw [e1]
      unfold findG
      by_cases hc : (s[i].toNat : Int) = c
      · rw [if_pos hc, sel_neg (by rw [hc]; unfold bnot ieq; simp)]
        by_cases h0 : 0 ≤ a
        · rw [if_pos h0, sel_pos (ile_t h0)]
        · rw [if_neg h0, sel_neg (ile_f (by omega))]
          have := ih (i + 1) (i : Int) (by omega) (by omega) (by omega) (by omega)
          rw [this]
      · rw [if_neg hc, sel_pos (by unfold bnot ieq; simpa using hc)]
        have := ih (i + 1) a (by omega) (by omega) (by omega) (by omega)
        rw [this]
    · rw [sel_neg (ilt_f (by rw [slen_nat]; omega)), List.drop_eq_nil_of_le (by omega)]
      rfl
theorem findS_ok (s : List UInt8) (c : Int) (hc : ile (slen s) 1000 = true) : Contract fE 106 [.str s, .int .u8 c] (.int .i64 (findI s c)) := by
  have hl := len_f hc
  refine contract_of_body fE_ok fS2_ok 1001 2 ?_
  rw [rFind_top]
  exact find_loop 1001 s c hl 1000 0 (-1) (by omega) (by omega) (by omega) (by omega)
section
variable (F n : Nat) (a : Nat) (xs : List V) (hx : xs.length ≤ 10) (K : V → Option V)
end
theorem fS3_ok : SOk fE fS3 := by
  unfold fS3
  refine SOk.cons (fun args r h => ?_) (SOk.cons (fun args r h => ?_) (fSl_ok))
  · unfold fCutS at h
    split at h
    · simp only [Option.some.injEq, Prod.mk.injEq] at h
      obtain ⟨hc, rfl⟩ := h
      exact fCutS_ok _ hc
    · cases h
  · unfold findS at h
    split at h
    · simp only [Option.some.injEq, Prod.mk.injEq] at h
      obtain ⟨hc, rfl⟩ := h
      exact findS_ok _ _ hc
    · cases h
theorem kind_word (s : List UInt8) (p q : Int) (hp : findP s 37 = p) (hq : findP s 47 = q) (hZ : s ≠ [37, 122]) (h : ∀ c ∈ s, okC c = true) :
    fkK s = 0 ↔ ¬ ((0 < (s.length : Int) ∧ p = -1 ∧ q = -1) ∨ (0 ≤ p ∧ q = -1 ∧ p + 1 < s.length ∧ sat s (p + 1) = 115) ∨ (p = -1 ∧ 0 < q ∧ q < (s.length : Int) - 1)) := by
  subst hp; subst hq
  exact kind_ask s hZ h
theorem find_bd (s : List UInt8) (c : UInt8) : -2 ≤ findP s c ∧ findP s c < s.length := by
  rcases find_inv s c with ⟨h, _⟩ | h | ⟨a, b, rfl, _, _, h⟩ <;> rw [h]
  · omega
  · omega
  · simp; omega
theorem findI37 (s : List UInt8) : findI s 37 = findP s 37 := findG_P s 37
theorem findI47 (s : List UInt8) : findI s 47 = findP s 47 := findG_P s 47
theorem okC_let {c : UInt8} (h : letB c = true) : okC c = true := by unfold okC; rw [h]; rfl
theorem check_loop (F : Nat) (s : List UInt8) (hs : s.length ≤ 16) : ∀ (n i : Nat), i ≤ s.length → s.length ≤ i + n → (∀ c ∈ s.take i, okC c = true) →
    rCheck20_L0 F [] (n + 1) s 0 (slen s) i some = some (.int .i64 (if fkK s = 0 then 4 else 0)) := by
  have fin : ∀ i n : Nat, s.length ≤ i → (∀ c ∈ s.take i, okC c = true) → rCheck20_L0 F [] (n + 1) s 0 (slen s) i some = some (.int .i64 (if fkK s = 0 then 4 else 0)) := by
    intro i n h1 h3
    rw [List.take_of_length_le h1] at h3
    have k1 : ilt (i : Int) (slen s) = false := ilt_f (by rw [slen_nat]; omega)
    have k2 : ile (slen s) 1000 = true := ile_t (by rw [slen_nat]; omega)
    rw [rCheck20_L0_succ, k1, k2]
    simp only [selT, selF, findI37, findI47]
    have b1 := find_bd s 37
    have b2 := find_bd s 47
    by_cases hZ : s = [37, 122]
    · subst hZ
      rw [show findP [37, 122] 37 = 0 by decide, show findP [37, 122] 47 = -1 by decide, show fkK [37, 122] = 3 by decide]
      first | rfl | decide
    · have kz : seq s [37, 122] = false := by rw [Bool.eq_false_iff]; intro e; rw [seq_iff] at e; exact hZ e
      have key := kind_word s _ _ rfl rfl hZ h3
      generalize findP s 37 = p at *
      generalize findP s 47 = q at *
      have hl : 0 ≤ slen s := by rw [slen_nat]; omega
      have hl2 : slen s ≤ 1000 := by rw [slen_nat]; omega
      rw [← slen_nat] at key b1 b2
      rw [iadd64 (by omega), isub64 (by omega), kz]
      simp only [selT, selF]
      generalize slen s = m at *
      generalize sat s (p + 1) = z at *
      generalize fkK s = k at *
      clear k1 k2 kz h3 hZ
      have b4 : (if k = 0 then (4 : Int) else 0) = 4 ∧ k = 0 ∨ (if k = 0 then (4 : Int) else 0) = 0 ∧ k ≠ 0 := by
        by_cases h : k = 0
        · rw [if_pos h]; exact .inl ⟨rfl, h⟩
        · rw [if_neg h]; exact .inr ⟨rfl, h⟩
      generalize (if k = 0 then (4 : Int) else 0) = u at *
      have t1 := ilt_iff 0 m
      have t2 := ieq_iff p (-1)
      have t3 := ile_iff 0 p
      have t4 := ieq_iff q (-1)
      have t5 := ilt_iff (p + 1) m
      have t6 := ile_iff 0 (p + 1)
      have t7 := ilt_iff 0 q
      have t8 := ieq_iff z 115
      have t9 := ilt_iff q (m - 1)
      revert t1 t2 t3 t4 t5 t6 t7 t8 t9
      cases ilt 0 m <;> cases ieq p (-1) <;> cases ile 0 p <;> cases ieq q (-1) <;> cases ilt (p + 1) m <;> cases ile 0 (p + 1) <;> cases ilt 0 q <;> cases ieq z 115 <;> cases ilt q (m - 1) <;> intro t1 t2 t3 t4 t5 t6 t7 t8 t9 <;>
        simp only [selT, selF, Bool.false_eq_true, eq_iff_iff, true_iff, false_iff, show band true true = true from rfl, show band false true = false from rfl, show band true false = false from rfl, show band false false = false from rfl] at t1 t2 t3 t4 t5 t6 t7 t8 t9 ⊢
      all_goals first | (exfalso; clear b4; omega) | (congr 2; omega)
  intro n
  induction n with
  | zero =>
    intro i h1 h2 h3
    exact fin i 0 (by omega) h3
  | succ n ih =>
    intro i h1 h2 h3
    by_cases hi : i < s.length
    · have k1 : ilt (i : Int) (slen s) = true := ilt_t (by rw [slen_nat]; omega)
      have k2 : band (ile 0 (i : Int)) (ilt (i : Int) (slen s)) = true := by rw [k1, ile_t (by omega)]; rfl
      have hnext := ih (i + 1) (by omega) (by omega)
      have ht : s.take (i + 1) = s.take i ++ [s[i]] := by rw [List.take_add_one, List.getElem?_eq_getElem hi]; rfl
      have e1 : ((i : Int) + 1) = ((i + 1 : Nat) : Int) := by omega
      have hgo : okC s[i] = true → rCheck20_L0 F [] (n + 1) s 0 (slen s) ((i + 1 : Nat) : Int) some = some (.int .i64 (if fkK s = 0 then 4 else 0)) := by
        intro hok
        refine hnext fun c hc => ?_
        rw [ht, List.mem_append, List.mem_singleton] at hc
        rcases hc with hc | rfl
        · exact h3 c hc
        · exact hok
      rw [rCheck20_L0_succ, k2, k1, sat_at s i hi, letC_b, iadd64 (by omega), e1]
      simp only [selT]
      by_cases c1 : letB s[i] = true
      · rw [c1, show bnot true = false from rfl, selF]
        exact hgo (okC_let c1)
      · rw [sel_pos (by rw [bnot_iff]; exact c1)]
        by_cases c2 : s[i] = 37
        · rw [show bnot (ieq (s[i].toNat : Int) 37) = false by rw [c2]; rfl, selF]
          exact hgo (by rw [c2]; rfl)
        · rw [sel_pos (by rw [bnot_iff, ieq_iff]; intro e; exact c2 (UInt8.toNat_inj.1 (by rw [show (37 : UInt8).toNat = 37 from rfl]; omega)))]
          by_cases c3 : s[i] = 47
          · rw [show bnot (ieq (s[i].toNat : Int) 47) = false by rw [c3]; rfl, selF]
            exact hgo (by rw [c3]; rfl)
          · rw [sel_pos (by rw [bnot_iff, ieq_iff]; intro e; exact c3 (UInt8.toNat_inj.1 (by rw [show (47 : UInt8).toNat = 47 from rfl]; omega)))]
            have h0 : fkK s = 0 := kind_char (List.getElem_mem hi) (Bool.eq_false_iff.2 c1) c2 c3
            rw [h0]; rfl
    · exact fin i (n + 1) (by omega) h3
theorem checkS_ok (s : List UInt8) (hc : ile (slen s) 1000 = true) : Contract fE 98 [.str s] (.int .i64 (ckW s)) := by
  refine contract_of_body fE_ok fS3_ok 5 2 ?_
  rw [fCheck_top, hc]
  unfold ckW
  by_cases h : 16 < s.length
  · rw [sel_pos (ilt_t (by rw [slen_nat]; omega)), if_pos h]
  · rw [sel_neg (ilt_f (by rw [slen_nat]; omega)), if_neg h, selT]
    by_cases h2 : fkK s = 0
    · rw [if_pos h2, sel_pos (ieq_t h2)]
    · rw [if_neg h2, sel_neg (ieq_f h2)]
theorem checkS_ok_noontideref20_Check (s : List UInt8) (hc : ile (slen s) 1000 = true) : Contract fE 85 [.str s] (.int .i64 (ckW s)) := by
  refine contract_of_body fE_ok fS3_ok 17 2 ?_
  rw [rCheck20_top]
  unfold ckW
  by_cases h : 16 < s.length
  · rw [sel_pos (ilt_t (by rw [slen_nat]; omega)), if_pos h]
  · rw [sel_neg (ilt_f (by rw [slen_nat]; omega)), if_neg h]
    exact check_loop 17 s (by omega) 16 0 (by omega) (by omega) (by simp)
theorem letterS_ok (s : List UInt8) (hc : ile (slen s) 1000 = true) : Contract fE 69 [.str s] (.tup [.str (leT s), .int .i64 (leW s)]) := by
  refine contract_of_body fE_ok fS2_ok 5 2 ?_
  rw [fLetter_top, hc]
  unfold leT leW leP
  simp only [selT, sel_if, ilt_iff, seq_iff, slen_nat, bnot_iff]
  by_cases h1 : s = [45]
  · rw [if_pos h1, if_pos h1]
  · rw [if_neg h1, if_neg h1]
    by_cases h2 : 6 < s.length
    · rw [if_pos (by omega), if_pos h2]
    · rw [if_neg (by omega), if_neg h2]
      by_cases h3 : s = []
      · rw [if_pos h3, if_pos (.inl h3)]
      · rw [if_neg h3]
        cases h4 : Fmt.wordB s with
        | true => simp [h3]
        | false => simp
theorem rletter_loop (F : Nat) (s : List UInt8) (hs : s.length ≤ 6) : ∀ (n i : Nat), i ≤ s.length → s.length ≤ i + n → wordB (s.take i) = true →
    rLetter20_L0 F [] (n + 1) s [] 0 i some = some (if s = [] ∨ wordB s = false then .tup [.str [], .int .i64 4] else .tup [.str s, .int .i64 0]) := by
  have fin : ∀ i n : Nat, s.length ≤ i → wordB (s.take i) = true → rLetter20_L0 F [] (n + 1) s [] 0 i some = some (if s = [] ∨ wordB s = false then .tup [.str [], .int .i64 4] else .tup [.str s, .int .i64 0]) := by
    intro i n h1 h3
    rw [List.take_of_length_le h1] at h3
    rw [rLetter20_L0_succ, sel_neg (ilt_f (by rw [slen_nat]; omega)), h3]
    simp only [sel_if, seq_iff]
    by_cases h : s = []
    · rw [if_pos h, if_pos (.inl h)]
    · rw [if_neg h, if_neg (by simp [h])]
  intro n
  induction n with
  | zero =>
    intro i h1 h2 h3
    exact fin i 0 (by omega) h3
  | succ n ih =>
    intro i h1 h2 h3
    by_cases hi : i < s.length
    · have ht : s.take (i + 1) = s.take i ++ [s[i]] := by rw [List.take_add_one, List.getElem?_eq_getElem hi]; rfl
      have e1 : ((i : Int) + 1) = ((i + 1 : Nat) : Int) := by omega
      rw [rLetter20_L0_succ, sel_pos (ilt_t (by rw [slen_nat]; omega)), sel_pos (by rw [band_iff, ile_iff, ilt_iff, slen_nat]; omega), sat_at s i hi, letC_b, iadd64 (by omega), e1]
      cases c1 : letB s[i] with
      | true =>
        rw [show bnot true = false from rfl, selF]
        refine ih (i + 1) (by omega) (by omega) ?_
        rw [ht, word_app, h3]
        unfold wordB
        simp [c1]
      | false =>
        rw [show bnot false = true from rfl, selT, if_pos]
        right
        cases hw : wordB s with
        | false => rfl
        | true => have := word_mem hw (List.getElem_mem hi); rw [c1] at this; cases this
    · exact fin i (n + 1) (by omega) h3
theorem letterS_ok_noontideref20_Letter (s : List UInt8) (hc : ile (slen s) 1000 = true) : Contract fE 82 [.str s] (.tup [.str (leT s), .int .i64 (leW s)]) := by
  refine contract_of_body fE_ok fSl_ok 7 2 ?_
  rw [rLetter20_top]
  unfold leT leW leP
  simp only [sel_if, ilt_iff, seq_iff, slen_nat]
  by_cases h1 : s = [45]
  · rw [if_pos h1, if_pos h1]
  · rw [if_neg h1, if_neg h1]
    by_cases h2 : 6 < s.length
    · rw [if_pos (by omega), if_pos h2]
    · rw [if_neg (by omega), if_neg h2]
      have := rletter_loop 7 s (by omega) 6 0 (by omega) (by omega) rfl
      rw [show ((0 : Nat) : Int) = 0 from rfl] at this
      rw [this]
      split <;> rfl
theorem fS4_ok : SOk fE fS4 := by
  unfold fS4
  refine SOk.cons (fun args r h => ?_) (SOk.cons (fun args r h => ?_) (SOk.cons (fun args r h => ?_) (SOk.cons (fun args r h => ?_) (fS3_ok))))
  · unfold checkS at h
    split at h
    · simp only [Option.some.injEq, Prod.mk.injEq] at h
      obtain ⟨hc, rfl⟩ := h
      exact checkS_ok _ hc
    · cases h
  · unfold checkS at h
    split at h
    · simp only [Option.some.injEq, Prod.mk.injEq] at h
      obtain ⟨hc, rfl⟩ := h
      exact checkS_ok_noontideref20_Check _ hc
    · cases h
  · unfold letterS at h
    split at h
    · simp only [Option.some.injEq, Prod.mk.injEq] at h
      obtain ⟨hc, rfl⟩ := h
      exact letterS_ok _ hc
    · cases h
  · unfold letterS at h
    split at h
    · simp only [Option.some.injEq, Prod.mk.injEq] at h
      obtain ⟨hc, rfl⟩ := h
      exact letterS_ok_noontideref20_Letter _ hc
    · cases h
end Nt.Ev.YtjkfndcpiihniaaGreatDoor

namespace Nt.Fmt
end Nt.Fmt
namespace Nt.Ev.YtjkfndcpiihniaaGreatDoor
open Go Go.RowKit Nt Nt.Num Nt.Fmt Go.Proofs.YtjkfndcpiihniaaGreatDoor
variable [MLen]
def ltP (s : List UInt8) : List UInt8 × Int := if s = [] then ([45], 0) else if leW s ≠ 0 ∨ leT s ≠ s then ([], 4) else (s, 0)
def ltT (s : List UInt8) : List UInt8 := (ltP s).1
def ltW (s : List UInt8) : Int := (ltP s).2
theorem fLText_ev (s : List UInt8) (hs : s.length ≤ 1000) : Contract fE 40 [.str s] (.tup [.str (ltT s), .int .i64 (ltW s)]) := by
  refine contract_of_body fE_ok fS4_ok 5 2 ?_
  have hc : ile (slen s) 1000 = true := ile_t (by rw [slen_nat]; omega)
  rw [fLText_top, hc, selT]
  unfold ltT ltW ltP
  simp only [sel_if, seq_iff, bnot_iff, ieq_iff]
  by_cases h1 : s = []
  · rw [if_pos h1, if_pos h1]
  · rw [if_neg h1, if_neg h1]
    by_cases h2 : leW s = 0
    · rw [if_neg (by simpa using h2)]
      by_cases h3 : leT s = s
      · rw [if_neg (by simpa using h3), if_neg (by simp [h2, h3])]
      · rw [if_pos h3, if_pos (.inr h3)]
    · rw [if_pos h2, if_pos (.inl h2)]
theorem rLText_ev (s : List UInt8) (hs : s.length ≤ 1000) : Contract fE 54 [.str s] (.tup [.str (ltT s), .int .i64 (ltW s)]) := by
  refine contract_of_body fE_ok fS4_ok 5 2 ?_
  have hc : ile (slen s) 1000 = true := ile_t (by rw [slen_nat]; omega)
  rw [rLText_top, hc, selT]
  unfold ltT ltW ltP
  simp only [sel_if, seq_iff, bnot_iff, ieq_iff]
  by_cases h1 : s = []
  · rw [if_pos h1, if_pos h1]
  · rw [if_neg h1, if_neg h1]
    by_cases h2 : leW s = 0
    · rw [if_neg (by simpa using h2)]
      by_cases h3 : leT s = s
      · rw [if_neg (by simpa using h3), if_neg (by simp [h2, h3])]
        simp only [h3]
      · rw [if_pos h3, if_pos (.inr h3)]
    · rw [if_pos h2, if_pos (.inl h2)]
end Nt.Ev.YtjkfndcpiihniaaGreatDoor

namespace Nt.Ev.YtjkfndcpiihniaaGreatDoor
open Go Nt.Num Go.Proofs.YtjkfndcpiihniaaGreatDoor
variable [MLen]
end Nt.Ev.YtjkfndcpiihniaaGreatDoor

namespace Nt.Ev.YtjkfndcpiihniaaGreatDoor
open Go Go.RowKit Nt Nt.Num Nt.Fmt Go.Proofs.YtjkfndcpiihniaaGreatDoor
variable [MLen]
theorem lt_back (t : List UInt8) (h : ltW t = 0) : leW (ltT t) = 0 ∧ leT (ltT t) = t := by
  unfold ltW ltP at h
  unfold ltT ltP
  by_cases h1 : t = []
  · rw [if_pos h1]; subst h1; decide
  · rw [if_neg h1] at h ⊢
    by_cases h2 : leW t ≠ 0 ∨ leT t ≠ t
    · rw [if_pos h2] at h; cases h
    · rw [if_neg h2]
      rw [not_or, Decidable.not_not, Decidable.not_not] at h2
      exact h2
end Nt.Ev.YtjkfndcpiihniaaGreatDoor
