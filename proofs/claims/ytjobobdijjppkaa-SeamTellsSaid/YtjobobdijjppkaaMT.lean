/-
  Sets of seconds as spans, plain: a list of spans in order, with gaps between, is told by its seconds. Along the edges of two lists of spans, plain. Where a second lies, and how many seconds there are, plain. Spans as values of the evaluator. Spans: equations of functions, as the evaluator prints them. spans.edges, walked: the edges of two lists of spans, sorted by slices.SortFunc. Spans: the small functions of both sides, and the edges, as contracts. Spans2: equations of functions, as the evaluator prints them. Spans: the document's sets as contracts. Spans: the document's sets as contracts: Of, Or, And, Less, Find, Total. The walk along the edges, whatever functions run it. Spans3: equations of functions, as the evaluator prints them. Spans: the program's sets as contracts. Spans4: equations of functions, as the evaluator prints them. Spans: Or, And, Less, Of, Gaps, Find, Total: both sides. Spans: Find and Total: both sides.
-/
import Derived.Test.YtjobobdijjppkaaMC
import Derived.Test.YtjobobdijjppkaaMS
import Derived.Shelf.SlSortCmp.WholeK
import Derived.Shelf.SlSortCmp.NoneTotal
import Derived.WalkKit
import Derived.Laws.AppendOwn
import Derived.Test.YtjobobdijjppkaaMZ
import Derived.Test.YtjobobdijjppkaaME
set_option linter.unusedVariables false
set_option linter.unusedSimpArgs false
namespace Nt.Sps
abbrev Sp := Int × Int
def has1 (s : Sp) (t : Int) : Bool := decide (s.1 ≤ t) && decide (t < s.2)
def hasL (l : List Sp) (t : Int) : Bool := l.any fun s => has1 s t
theorem has1_iff {s : Sp} {t : Int} : has1 s t = true ↔ s.1 ≤ t ∧ t < s.2 := by unfold has1; simp
theorem hasL_iff {l : List Sp} {t : Int} : hasL l t = true ↔ ∃ s ∈ l, s.1 ≤ t ∧ t < s.2 := by
  unfold hasL; rw [List.any_eq_true]
  exact ⟨fun ⟨s, h, k⟩ => ⟨s, h, has1_iff.1 k⟩, fun ⟨s, h, k⟩ => ⟨s, h, has1_iff.2 k⟩⟩
theorem hasL_cons (s : Sp) (l : List Sp) (t : Int) : hasL (s :: l) t = (has1 s t || hasL l t) := rfl
theorem hasL_nil (t : Int) : hasL [] t = false := rfl
theorem hasL_append (l m : List Sp) (t : Int) : hasL (l ++ m) t = (hasL l t || hasL m t) := by unfold hasL; rw [List.any_append]
def Canon : List Sp → Prop
  | [] => True
  | s :: r => s.1 < s.2 ∧ (∀ x ∈ r, s.2 < x.1) ∧ Canon r
theorem hasL_out {l : List Sp} {t c : Int} (h : ∀ x ∈ l, c < x.1) (ht : t ≤ c) : hasL l t = false := by
  rw [← Bool.not_eq_true, hasL_iff]
  rintro ⟨s, hs, h1, _⟩
  have := h s hs
  omega
theorem hasL_bool {p : Bool} {q : Prop} (h : p = true ↔ q) (hq : ¬ q) : p = false := by rw [← Bool.not_eq_true, h]; exact hq
theorem canon_ext : ∀ {l m : List Sp}, Canon l → Canon m → (∀ t, hasL l t = hasL m t) → l = m
  | [], [], _, _, _ => rfl
  | [], b :: m, _, hm, h => by
    have h1 : hasL (b :: m) b.1 = true := hasL_iff.2 ⟨b, by simp, Int.le_refl _, hm.1⟩
    rw [← h b.1] at h1
    exact nomatch h1
  | a :: l, [], hl, _, h => by
    have h1 : hasL (a :: l) a.1 = true := hasL_iff.2 ⟨a, by simp, Int.le_refl _, hl.1⟩
    rw [h a.1] at h1
    exact nomatch h1
  | a :: l, b :: m, hl, hm, h => by
    have fst : ∀ {a b : Sp} {l m : List Sp}, Canon (a :: l) → Canon (b :: m) → (∀ t, hasL (a :: l) t = hasL (b :: m) t) → b.1 ≤ a.1 := by
      intro a b l m hl hm h
      have h1 : hasL (a :: l) a.1 = true := hasL_iff.2 ⟨a, by simp, Int.le_refl _, hl.1⟩
      rw [h a.1, hasL_iff] at h1
      obtain ⟨s, hs, h2, h3⟩ := h1
      rcases List.mem_cons.1 hs with rfl | hs
      · exact h2
      · have := hm.2.1 s hs
        have := hm.1
        omega
    have e1 : a.1 = b.1 := Int.le_antisymm (fst hm hl fun t => (h t).symm) (fst hl hm h)
    have snd : ∀ {a b : Sp} {l m : List Sp}, Canon (a :: l) → Canon (b :: m) → a.1 = b.1 → (∀ t, hasL (a :: l) t = hasL (b :: m) t) → b.2 ≤ a.2 := by
      intro a b l m hl hm e h
      apply Classical.byContradiction
      intro hn
      have h1 : hasL (b :: m) a.2 = true := hasL_iff.2 ⟨b, by simp, by have := hl.1; omega, by omega⟩
      rw [← h a.2, hasL_iff] at h1
      obtain ⟨s, hs, h2, h3⟩ := h1
      rcases List.mem_cons.1 hs with rfl | hs
      · omega
      · have := hl.2.1 s hs
        omega
    have e2 : a.2 = b.2 := Int.le_antisymm (snd hm hl e1.symm fun t => (h t).symm) (snd hl hm e1 h)
    have e : a = b := Prod.ext e1 e2
    subst e
    have := canon_ext hl.2.2 hm.2.2 (fun t => by
      have ht := h t
      rw [hasL_cons, hasL_cons] at ht
      cases hc : has1 a t with
      | false => rw [hc, Bool.false_or, Bool.false_or] at ht; exact ht
      | true =>
        have := (has1_iff.1 hc).2
        rw [hasL_out hl.2.1 (by omega), hasL_out hm.2.1 (by omega)])
    rw [this]
theorem canon_append : ∀ {l m : List Sp}, Canon l → Canon m → (∀ x ∈ l, ∀ y ∈ m, x.2 < y.1) → Canon (l ++ m)
  | [], _, _, hm, _ => hm
  | a :: l, m, hl, hm, h => ⟨hl.1, fun x hx => by
      rcases List.mem_append.1 hx with hx | hx
      · exact hl.2.1 x hx
      · exact h a (by simp) x hx, canon_append hl.2.2 hm (fun x hx => h x (List.mem_cons_of_mem _ hx))⟩
theorem canon_right : ∀ {l : List Sp}, Canon l → ∀ x ∈ l, x.1 < x.2
  | _ :: _, h, x, hx => by
    rcases List.mem_cons.1 hx with rfl | hx
    · exact h.1
    · exact canon_right h.2.2 x hx
def rtR (p : Int) : List Sp → Bool
  | [] => true
  | s :: r => (decide (s.1 < s.2) && decide (p < s.1)) && rtR s.2 r
def rtL : List Sp → Bool
  | [] => true
  | s :: r => decide (s.1 < s.2) && rtR s.2 r
theorem rtR_iff : ∀ {l : List Sp} {p : Int}, rtR p l = true ↔ Canon l ∧ ∀ x ∈ l, p < x.1
  | [], p => by simp [rtR, Canon]
  | s :: r, p => by
    unfold rtR
    rw [Bool.and_eq_true, Bool.and_eq_true, decide_eq_true_eq, decide_eq_true_eq, rtR_iff]
    constructor
    · rintro ⟨⟨h1, h2⟩, h3, h4⟩
      refine ⟨⟨h1, h4, h3⟩, fun x hx => ?_⟩
      rcases List.mem_cons.1 hx with rfl | hx
      · exact h2
      · have := h4 x hx; omega
    · rintro ⟨⟨h1, h4, h3⟩, h2⟩
      exact ⟨⟨h1, h2 s (by simp)⟩, h3, h4⟩
theorem rtL_iff : ∀ {l : List Sp}, rtL l = true ↔ Canon l
  | [] => by simp [rtL, Canon]
  | s :: r => by
    unfold rtL
    rw [Bool.and_eq_true, decide_eq_true_eq, rtR_iff]
    exact ⟨fun ⟨h1, h2, h3⟩ => ⟨h1, h3, h2⟩, fun ⟨h1, h3, h2⟩ => ⟨h1, h2, h3⟩⟩
def meetB (a b : Sp) : Bool := (decide (a.1 < a.2) && decide (b.1 < b.2)) && (has1 a b.1 || has1 b a.1)
def touchB (a b : Sp) : Bool := (decide (a.1 < a.2) && decide (b.1 < b.2)) && (decide (a.2 = b.1) || decide (b.2 = a.1))
def joinB (a b : Sp) : Bool := meetB a b || touchB a b
def joinS (a b : Sp) : Sp := (min a.1 b.1, max a.2 b.2)
def bothS (a b : Sp) : Sp := (max a.1 b.1, min a.2 b.2)
theorem meetB_iff {a b : Sp} : meetB a b = true ↔ a.1 < a.2 ∧ b.1 < b.2 ∧ a.1 < b.2 ∧ b.1 < a.2 := by
  unfold meetB
  rw [Bool.and_eq_true, Bool.and_eq_true, Bool.or_eq_true, has1_iff, has1_iff, decide_eq_true_eq, decide_eq_true_eq]
  omega
theorem joinB_iff {a b : Sp} : joinB a b = true ↔ a.1 < a.2 ∧ b.1 < b.2 ∧ a.1 ≤ b.2 ∧ b.1 ≤ a.2 := by
  unfold joinB touchB
  rw [Bool.or_eq_true, meetB_iff, Bool.and_eq_true, Bool.and_eq_true, Bool.or_eq_true, decide_eq_true_eq, decide_eq_true_eq, decide_eq_true_eq, decide_eq_true_eq]
  omega
def scan : List Sp → Sp → Sp × List Sp
  | [], s => (s, [])
  | x :: r, s => if joinB x s then scan r (joinS x s) else if x.2 < s.1 then ((scan r s).1, x :: (scan r s).2) else scan r s
def putL (l : List Sp) (s : Sp) : List Sp :=
  if s.1 < s.2 then (scan l s).2 ++ (scan l s).1 :: l.filter (fun x => decide ((scan l s).1.2 < x.1)) else l
theorem scan_far : ∀ {l : List Sp} {s : Sp}, s.1 < s.2 → (∀ x ∈ l, s.2 < x.1) → Canon l → scan l s = (s, [])
  | [], s, _, _, _ => rfl
  | x :: r, s, hs, h, hc => by
    have h1 := h x (by simp)
    unfold scan
    rw [if_neg (by rw [joinB_iff]; omega), if_neg (by have := hc.1; omega)]
    exact scan_far hs (fun y hy => h y (List.mem_cons_of_mem _ hy)) hc.2.2
structure PutOk (l : List Sp) (s : Sp) (s' : Sp) (pre post : List Sp) : Prop where
  lo : s'.1 ≤ s.1
  hi : s.2 ≤ s'.2
  canon : Canon (pre ++ s' :: post)
  mem : ∀ t, hasL (pre ++ s' :: post) t = (hasL l t || has1 s t)
  low : ∀ c, (∀ x ∈ l, c < x.1) → c < s.1 → ∀ x ∈ pre ++ s' :: post, c < x.1
  len : pre.length + post.length ≤ l.length
theorem has_join {x s : Sp} (h : joinB x s = true) (t : Int) : has1 (joinS x s) t = (has1 x t || has1 s t) := by
  rw [joinB_iff] at h
  rw [Bool.eq_iff_iff, Bool.or_eq_true, has1_iff, has1_iff, has1_iff]
  show min x.1 s.1 ≤ t ∧ t < max x.2 s.2 ↔ _
  omega
theorem scan_ok : ∀ {l : List Sp} {s : Sp}, s.1 < s.2 → Canon l → PutOk l s (scan l s).1 (scan l s).2 (l.filter (fun x => decide ((scan l s).1.2 < x.1)))
  | [], s, hs, _ => ⟨Int.le_refl _, Int.le_refl _, ⟨hs, (fun x h => nomatch h), trivial⟩, fun t => by
      show (has1 s t || false) = (false || has1 s t)
      rw [Bool.or_false, Bool.false_or], fun c _ h x hx => by
      have : x = s := by simpa [scan] using hx
      rw [this]; exact h, Nat.le_refl _⟩
  | x :: r, s, hs, hc => by
    by_cases hj : joinB x s = true
    · have hj' := joinB_iff.1 hj
      have e : scan (x :: r) s = scan r (joinS x s) := by
        conv => lhs; unfold scan
        rw [if_pos hj]
      have hs1 : (joinS x s).1 < (joinS x s).2 := by show min x.1 s.1 < max x.2 s.2; omega
      have ih := scan_ok (l := r) hs1 hc.2.2
      have j1 : (joinS x s).1 = min x.1 s.1 := rfl
      have j2 : (joinS x s).2 = max x.2 s.2 := rfl
      rw [e, List.filter_cons_of_neg (by rw [decide_eq_true_eq]; have := ih.hi; omega)]
      refine ⟨by have := ih.lo; omega, by have := ih.hi; omega, ih.canon, fun t => ?_, fun c h1 h2 => ih.low c (fun y hy => h1 y (List.mem_cons_of_mem _ hy)) (by have := h1 x (by simp); omega), by have := ih.len; rw [List.length_cons]; omega⟩
      rw [ih.mem t, has_join hj, hasL_cons]
      cases has1 x t <;> cases has1 s t <;> cases hasL r t <;> rfl
    · by_cases hb : x.2 < s.1
      · have e : scan (x :: r) s = ((scan r s).1, x :: (scan r s).2) := by
          conv => lhs; unfold scan
          rw [if_neg hj, if_pos hb]
        have ih := scan_ok (l := r) hs hc.2.2
        have hf : (x :: r).filter (fun y => decide ((scan r s).1.2 < y.1)) = r.filter (fun y => decide ((scan r s).1.2 < y.1)) :=
          List.filter_cons_of_neg (by rw [decide_eq_true_eq]; have := ih.hi; have := hc.1; omega)
        rw [e]
        show PutOk (x :: r) s (scan r s).1 (x :: (scan r s).2) ((x :: r).filter (fun y => decide ((scan r s).1.2 < y.1)))
        rw [hf]
        refine ⟨ih.lo, ih.hi, ⟨hc.1, ih.low x.2 hc.2.1 hb, ih.canon⟩, fun t => ?_, fun c h1 h2 y hy => ?_, by have := ih.len; rw [List.length_cons, List.length_cons]; omega⟩
        · have hm := ih.mem t
          rw [List.cons_append, hasL_cons, hm, hasL_cons, Bool.or_assoc]
        · rcases List.mem_cons.1 hy with rfl | hy
          · exact h1 y (by simp)
          · exact ih.low c (fun z hz => h1 z (List.mem_cons_of_mem _ hz)) h2 y hy
      · have hfar : s.2 < x.1 := by
          apply Classical.byContradiction
          intro hn
          exact hj (joinB_iff.2 ⟨hc.1, hs, by omega, by omega⟩)
        have hall : ∀ y ∈ x :: r, s.2 < y.1 := fun y hy => by
          rcases List.mem_cons.1 hy with rfl | hy
          · exact hfar
          · have := hc.2.1 y hy; have := hc.1; omega
        rw [scan_far hs hall hc, List.filter_eq_self.2 (fun y hy => by rw [decide_eq_true_eq]; exact hall y hy)]
        refine ⟨Int.le_refl _, Int.le_refl _, ⟨hs, hall, hc⟩, fun t => ?_, fun c h1 h2 y hy => ?_, by simp⟩
        · show (has1 s t || hasL (x :: r) t) = _
          rw [Bool.or_comm]
        · rcases List.mem_cons.1 hy with rfl | hy
          · exact h2
          · exact h1 y hy
theorem put_canon {l : List Sp} (s : Sp) (h : Canon l) : Canon (putL l s) := by
  unfold putL
  split
  · exact (scan_ok (by assumption) h).canon
  · exact h
theorem put_has {l : List Sp} (s : Sp) (h : Canon l) (t : Int) : hasL (putL l s) t = (hasL l t || has1 s t) := by
  unfold putL
  split
  · exact (scan_ok (by assumption) h).mem t
  · rename_i hn
    have : has1 s t = false := hasL_bool has1_iff (by omega)
    rw [this, Bool.or_false]
theorem put_len {l : List Sp} (s : Sp) (h : Canon l) : (putL l s).length ≤ l.length + 1 := by
  unfold putL
  split
  · have := (scan_ok (by assumption) h).len
    rw [List.length_append, List.length_cons]; omega
  · omega
def ofL (l : List Sp) : List Sp := l.foldl putL []
theorem of_fold : ∀ (l acc : List Sp), Canon acc → Canon (l.foldl putL acc) ∧ ∀ t, hasL (l.foldl putL acc) t = (hasL acc t || hasL l t)
  | [], acc, h => ⟨h, fun t => by rw [hasL_nil, Bool.or_false]; rfl⟩
  | s :: l, acc, h => by
    obtain ⟨h1, h2⟩ := of_fold l (putL acc s) (put_canon s h)
    exact ⟨h1, fun t => by rw [List.foldl_cons, h2 t, put_has s h, hasL_cons, Bool.or_assoc]⟩
theorem of_canon (l : List Sp) : Canon (ofL l) := (of_fold l [] trivial).1
theorem of_has (l : List Sp) (t : Int) : hasL (ofL l) t = hasL l t := by rw [ofL, (of_fold l [] trivial).2 t, hasL_nil, Bool.false_or]
def orL (a b : List Sp) : List Sp := ofL (a ++ b)
theorem or_has (a b : List Sp) (t : Int) : hasL (orL a b) t = (hasL a t || hasL b t) := by rw [orL, of_has, hasL_append]
def boths (a b : List Sp) : List Sp := a.flatMap fun x => b.flatMap fun y => if meetB x y then [bothS x y] else []
def andL (a b : List Sp) : List Sp := ofL (boths a b)
theorem hasL_flatMap {α : Type} (f : α → List Sp) (l : List α) (t : Int) : hasL (l.flatMap f) t = l.any fun x => hasL (f x) t := by
  induction l with
  | nil => rfl
  | cons x l ih => rw [List.flatMap_cons, hasL_append, ih]; rfl
theorem boths_has (a b : List Sp) (t : Int) : hasL (boths a b) t = (hasL a t && hasL b t) := by
  unfold boths
  rw [hasL_flatMap, Bool.eq_iff_iff, List.any_eq_true, Bool.and_eq_true, hasL_iff, hasL_iff]
  constructor
  · rintro ⟨x, hx, h⟩
    rw [hasL_flatMap, List.any_eq_true] at h
    obtain ⟨y, hy, h⟩ := h
    split at h
    · rw [hasL_cons, hasL_nil, Bool.or_false, has1_iff] at h
      have h : max x.1 y.1 ≤ t ∧ t < min x.2 y.2 := h
      exact ⟨⟨x, hx, by omega, by omega⟩, ⟨y, hy, by omega, by omega⟩⟩
    · exact nomatch h
  · rintro ⟨⟨x, hx, h1, h2⟩, ⟨y, hy, h3, h4⟩⟩
    refine ⟨x, hx, ?_⟩
    rw [hasL_flatMap, List.any_eq_true]
    refine ⟨y, hy, ?_⟩
    rw [if_pos (meetB_iff.2 (by omega)), hasL_cons, has1_iff.2 (show max x.1 y.1 ≤ t ∧ t < min x.2 y.2 by omega)]
    rfl
theorem and_has (a b : List Sp) (t : Int) : hasL (andL a b) t = (hasL a t && hasL b t) := by rw [andL, of_has, boths_has]
def less1 (x y : Sp) : List Sp :=
  if x.1 < x.2 then (if meetB x y then (if x.1 < y.1 then [(x.1, y.1)] else []) ++ (if y.2 < x.2 then [(y.2, x.2)] else []) else [x]) else []
theorem less1_ok (x y : Sp) : Canon (less1 x y) ∧ (∀ z ∈ less1 x y, x.1 ≤ z.1 ∧ z.2 ≤ x.2) ∧ ∀ t, hasL (less1 x y) t = (has1 x t && !has1 y t) := by
  unfold less1
  by_cases h0 : x.1 < x.2
  · rw [if_pos h0]
    by_cases hm : meetB x y = true
    · rw [if_pos hm]
      rw [meetB_iff] at hm
      have key : ∀ t, (has1 x t && !has1 y t) = ((decide (x.1 < y.1) && (decide (x.1 ≤ t) && decide (t < y.1))) || (decide (y.2 < x.2) && (decide (y.2 ≤ t) && decide (t < x.2)))) := by
        intro t
        unfold has1
        rw [Bool.eq_iff_iff]
        simp only [Bool.and_eq_true, Bool.or_eq_true, Bool.not_eq_true', decide_eq_true_eq, Bool.and_eq_false_iff, decide_eq_false_iff_not]
        omega
      by_cases h1 : x.1 < y.1 <;> by_cases h2 : y.2 < x.2
      · rw [if_pos h1, if_pos h2]
        refine ⟨⟨h1, fun z hz => ?_, h2, (fun z hz => nomatch hz), trivial⟩, fun z hz => ?_, fun t => ?_⟩
        · have : z = (y.2, x.2) := by simpa using hz
          subst this; show y.1 < y.2; omega
        · have : z = (x.1, y.1) ∨ z = (y.2, x.2) := by simpa using hz
          rcases this with rfl | rfl
          · exact ⟨Int.le_refl _, by show y.1 ≤ x.2; omega⟩
          · exact ⟨by show x.1 ≤ y.2; omega, Int.le_refl _⟩
        · rw [key t]; simp [hasL, has1, h1, h2]
      · rw [if_pos h1, if_neg h2]
        refine ⟨⟨h1, (fun z hz => nomatch hz), trivial⟩, fun z hz => ?_, fun t => ?_⟩
        · have : z = (x.1, y.1) := by simpa using hz
          subst this; exact ⟨Int.le_refl _, by show y.1 ≤ x.2; omega⟩
        · rw [key t]; simp [hasL, has1, h1, h2]
      · rw [if_neg h1, if_pos h2]
        refine ⟨⟨h2, (fun z hz => nomatch hz), trivial⟩, fun z hz => ?_, fun t => ?_⟩
        · have : z = (y.2, x.2) := by simpa using hz
          subst this; exact ⟨by show x.1 ≤ y.2; omega, Int.le_refl _⟩
        · rw [key t]; simp [hasL, has1, h1, h2]
      · rw [if_neg h1, if_neg h2]
        refine ⟨trivial, fun z hz => by simp at hz, fun t => ?_⟩
        rw [key t]; simp [hasL, h1, h2]
    · rw [if_neg hm]
      rw [meetB_iff] at hm
      refine ⟨⟨h0, (fun z hz => nomatch hz), trivial⟩, fun z hz => ?_, fun t => ?_⟩
      · have : z = x := by simpa using hz
        subst this; exact ⟨Int.le_refl _, Int.le_refl _⟩
      · rw [hasL_cons, hasL_nil, Bool.or_false, Bool.eq_iff_iff, Bool.and_eq_true, Bool.not_eq_true', ← Bool.not_eq_true, has1_iff, has1_iff]
        omega
  · rw [if_neg h0]
    refine ⟨trivial, (fun z hz => nomatch hz), fun t => ?_⟩
    have : has1 x t = false := hasL_bool has1_iff (by omega)
    rw [this, hasL_nil]; rfl
theorem canon_flatMap {f : Sp → List Sp} (hf : ∀ x, Canon (f x) ∧ ∀ z ∈ f x, x.1 ≤ z.1 ∧ z.2 ≤ x.2) : ∀ {l : List Sp}, Canon l → Canon (l.flatMap f)
  | [], _ => trivial
  | x :: l, h => by
    rw [List.flatMap_cons]
    refine canon_append (hf x).1 (canon_flatMap hf h.2.2) fun y hy z hz => ?_
    obtain ⟨w, hw, hz⟩ := List.mem_flatMap.1 hz
    have h1 := (hf x).2 y hy
    have h2 := (hf w).2 z hz
    have h3 := h.2.1 w hw
    omega
def less2 (l : List Sp) (y : Sp) : List Sp := l.flatMap fun x => less1 x y
theorem less2_ok {l : List Sp} (y : Sp) (h : Canon l) : Canon (less2 l y) ∧ ∀ t, hasL (less2 l y) t = (hasL l t && !has1 y t) := by
  refine ⟨canon_flatMap (fun x => ⟨(less1_ok x y).1, (less1_ok x y).2.1⟩) h, fun t => ?_⟩
  unfold less2
  rw [hasL_flatMap]
  have : (fun x => hasL (less1 x y) t) = fun x => has1 x t && !has1 y t := by funext x; exact (less1_ok x y).2.2 t
  rw [this]
  unfold hasL
  induction l with
  | nil => rfl
  | cons a l ih => rw [List.any_cons, List.any_cons, ih h.2.2]; cases has1 a t <;> cases has1 y t <;> simp
theorem less1_len (x y : Sp) : (less1 x y).length ≤ 2 := by
  unfold less1
  repeat' split
  all_goals simp
theorem less1_far {x y : Sp} (h : y.2 ≤ x.1) : (less1 x y).length ≤ 1 := by
  unfold less1
  split
  · split
    · rename_i hm
      rw [meetB_iff] at hm
      omega
    · simp
  · simp
theorem less2_far {y : Sp} : ∀ {l : List Sp}, (∀ z ∈ l, y.2 ≤ z.1) → (less2 l y).length ≤ l.length
  | [], _ => Nat.le_refl _
  | x :: r, h => by
    have h1 := less1_far (h x (by simp))
    have h2 := less2_far (l := r) (y := y) (fun z hz => h z (List.mem_cons_of_mem _ hz))
    show (List.flatMap (fun x => less1 x y) (x :: r)).length ≤ _
    rw [List.flatMap_cons, List.length_append, List.length_cons]
    unfold less2 at h2
    omega
theorem less2_len {y : Sp} : ∀ {l : List Sp}, Canon l → (less2 l y).length ≤ l.length + 1
  | [], _ => by simp [less2]
  | x :: r, hc => by
    have h2 := less2_len (y := y) hc.2.2
    have hb := less1_len x y
    show (List.flatMap (fun x => less1 x y) (x :: r)).length ≤ _
    rw [List.flatMap_cons, List.length_append, List.length_cons]
    by_cases h1 : (less1 x y).length ≤ 1
    · unfold less2 at h2; omega
    · have hy : y.2 < x.2 := by
        apply Classical.byContradiction
        intro hn
        apply h1
        unfold less1
        split
        · split
          · split <;> simp
          · simp
        · simp
      have h3 := less2_far (l := r) (y := y) (fun z hz => by have := hc.2.1 z hz; omega)
      unfold less2 at h3
      omega
def lessL (a b : List Sp) : List Sp := b.foldl less2 (ofL a)
theorem less_fold : ∀ (b acc : List Sp), Canon acc → Canon (b.foldl less2 acc) ∧ ∀ t, hasL (b.foldl less2 acc) t = (hasL acc t && !hasL b t)
  | [], acc, h => ⟨h, fun t => by rw [hasL_nil]; simp⟩
  | y :: b, acc, h => by
    obtain ⟨h1, h2⟩ := less_fold b (less2 acc y) (less2_ok y h).1
    refine ⟨h1, fun t => ?_⟩
    rw [List.foldl_cons, h2 t, (less2_ok y h).2 t, hasL_cons]
    cases hasL acc t <;> cases has1 y t <;> cases hasL b t <;> rfl
theorem less_canon (a b : List Sp) : Canon (lessL a b) := (less_fold b (ofL a) (of_canon a)).1
theorem less_has (a b : List Sp) (t : Int) : hasL (lessL a b) t = (hasL a t && !hasL b t) := by rw [lessL, (less_fold b (ofL a) (of_canon a)).2 t, of_has]
theorem or_canon (a b : List Sp) : Canon (orL a b) := of_canon _
theorem and_canon (a b : List Sp) : Canon (andL a b) := of_canon _
end Nt.Sps

set_option linter.unusedVariables false
set_option linter.unusedSimpArgs false
namespace Nt.Sps
abbrev Ed := Int × Int × Int
def dSt (k : Int) (e : Ed) : Int := if e.2.2 = k then e.2.1 else 0
def tot (k : Int) : List Ed → Int
  | [] => 0
  | e :: r => dSt k e + tot k r
def dep (k : Int) (t : Int) : List Ed → Int
  | [] => 0
  | e :: r => (if e.1 ≤ t then dSt k e else 0) + dep k t r
def nextIs (a : Int) : List Ed → Bool
  | [] => false
  | e :: _ => decide (e.1 = a)
def sw (keep : Bool → Bool → Bool) : List Ed → Int → Int → Option Int → List Sp
  | [], _, _, none => []
  | [], _, _, some f => [(f, 0)]
  | e :: r, d0, d1, op =>
    if nextIs e.1 r then sw keep r (d0 + dSt 0 e) (d1 + dSt 1 e) op
    else match op with
      | none => if keep (decide (0 < d0 + dSt 0 e)) (decide (0 < d1 + dSt 1 e)) then sw keep r (d0 + dSt 0 e) (d1 + dSt 1 e) (some e.1) else sw keep r (d0 + dSt 0 e) (d1 + dSt 1 e) none
      | some f => if keep (decide (0 < d0 + dSt 0 e)) (decide (0 < d1 + dSt 1 e)) then sw keep r (d0 + dSt 0 e) (d1 + dSt 1 e) (some f) else (f, e.1) :: sw keep r (d0 + dSt 0 e) (d1 + dSt 1 e) none
def SortE : Int → List Ed → Prop
  | _, [] => True
  | a, e :: r => a ≤ e.1 ∧ SortE e.1 r
theorem SortE.mono : ∀ {l : List Ed} {a b : Int}, SortE a l → b ≤ a → SortE b l
  | [], _, _, _, _ => trivial
  | e :: r, a, b, h, hb => ⟨by have := h.1; omega, h.2⟩
theorem dep_zero : ∀ {l : List Ed} {a t : Int} (k : Int), SortE a l → t < a → dep k t l = 0
  | [], _, _, _, _, _ => rfl
  | e :: r, a, t, k, h, ht => by
    unfold dep
    rw [if_neg (by have := h.1; omega), dep_zero k h.2 (by have := h.1; omega)]; rfl
structure SwOk (keep : Bool → Bool → Bool) (a d0 d1 : Int) (op : Option Int) (rest : List Ed) (out : List Sp) : Prop where
  canon : Canon out
  low : ∀ c, (op = none → c < a) → (∀ f, op = some f → c < f) → ∀ x ∈ out, c < x.1
  mem : ∀ t, hasL out t = if t < a then (match op with | none => false | some f => decide (f ≤ t)) else keep (decide (0 < d0 + dep 0 t rest)) (decide (0 < d1 + dep 1 t rest))
theorem sw_ok {keep : Bool → Bool → Bool} (hk : keep false false = false) : ∀ (rest : List Ed) (e : Ed) (d0 d1 : Int) (op : Option Int), SortE e.1 rest → (∀ f, op = some f → f < e.1) → d0 + tot 0 (e :: rest) = 0 → d1 + tot 1 (e :: rest) = 0 →
    SwOk keep e.1 d0 d1 op (e :: rest) (sw keep (e :: rest) d0 d1 op)
  | [], e, d0, d1, op, hs, hf, h0, h1 => by
    have t0 : d0 + dSt 0 e = 0 := by simpa [tot] using h0
    have t1 : d1 + dSt 1 e = 0 := by simpa [tot] using h1
    have hd : ∀ t, ¬ t < e.1 → keep (decide (0 < d0 + dep 0 t [e])) (decide (0 < d1 + dep 1 t [e])) = false := by
      intro t ht
      have e0 : dep 0 t [e] = dSt 0 e := by unfold dep; rw [if_pos (by omega)]; unfold dep; omega
      have e1 : dep 1 t [e] = dSt 1 e := by unfold dep; rw [if_pos (by omega)]; unfold dep; omega
      rw [e0, e1, t0, t1]
      exact hk
    have hk0 : keep (decide (0 < d0 + dSt 0 e)) (decide (0 < d1 + dSt 1 e)) = false := by rw [t0, t1]; exact hk
    cases op with
    | none =>
      have es : sw keep [e] d0 d1 none = [] := by
        unfold sw
        rw [if_neg (show ¬ nextIs e.1 [] = true from fun h => nomatch h)]
        simp only [hk0]
        rfl
      rw [es]
      refine ⟨trivial, (fun c _ _ x hx => nomatch hx), fun t => ?_⟩
      split
      · rfl
      · rw [hd t (by assumption)]; rfl
    | some f =>
      have hfe := hf f rfl
      have es : sw keep [e] d0 d1 (some f) = [(f, e.1)] := by
        unfold sw
        rw [if_neg (show ¬ nextIs e.1 [] = true from fun h => nomatch h)]
        simp only [hk0]
        rfl
      rw [es]
      refine ⟨⟨hfe, (fun x hx => nomatch hx), trivial⟩, fun c _ h2 x hx => ?_, fun t => ?_⟩
      · have : x = (f, e.1) := by simpa using hx
        rw [this]; exact h2 f rfl
      · rw [hasL_cons, hasL_nil, Bool.or_false]
        unfold has1
        split
        · rename_i ht
          show (decide (f ≤ t) && decide (t < e.1)) = decide (f ≤ t)
          rw [decide_eq_true ht, Bool.and_true]
        · rename_i ht
          rw [hd t ht]
          show (decide (f ≤ t) && decide (t < e.1)) = false
          rw [decide_eq_false ht, Bool.and_false]
  | e' :: r, e, d0, d1, op, hs, hf, h0, h1 => by
    have t0 : d0 + dSt 0 e + tot 0 (e' :: r) = 0 := by
      have : tot 0 (e :: e' :: r) = dSt 0 e + tot 0 (e' :: r) := rfl
      rw [this] at h0; omega
    have t1 : d1 + dSt 1 e + tot 1 (e' :: r) = 0 := by
      have : tot 1 (e :: e' :: r) = dSt 1 e + tot 1 (e' :: r) := rfl
      rw [this] at h1; omega
    have hdep : ∀ k t, ¬ t < e.1 → dep k t (e :: e' :: r) = dSt k e + dep k t (e' :: r) := by
      intro k t ht
      show (if e.1 ≤ t then dSt k e else 0) + dep k t (e' :: r) = _
      rw [if_pos (by omega)]
    have hle : e.1 ≤ e'.1 := hs.1
    by_cases hn : e'.1 = e.1
    · have es : sw keep (e :: e' :: r) d0 d1 op = sw keep (e' :: r) (d0 + dSt 0 e) (d1 + dSt 1 e) op := by
        conv => lhs; unfold sw
        rw [if_pos (by unfold nextIs; exact decide_eq_true hn)]
      have ih := sw_ok hk r e' (d0 + dSt 0 e) (d1 + dSt 1 e) op hs.2 (fun f h => by rw [hn]; exact hf f h) t0 t1
      rw [es]
      rw [hn] at ih
      refine ⟨ih.canon, ih.low, fun t => ?_⟩
      rw [ih.mem t]
      split
      · rfl
      · rename_i ht
        rw [hdep 0 t ht, hdep 1 t ht, Int.add_assoc, Int.add_assoc]
    · have hlt : e.1 < e'.1 := by omega
      have hng : ¬ nextIs e.1 (e' :: r) = true := by unfold nextIs; rw [decide_eq_true_eq]; exact hn
      have hmid : ∀ t, ¬ t < e.1 → t < e'.1 → keep (decide (0 < d0 + dep 0 t (e :: e' :: r))) (decide (0 < d1 + dep 1 t (e :: e' :: r))) = keep (decide (0 < d0 + dSt 0 e)) (decide (0 < d1 + dSt 1 e)) := by
        intro t h2 h3
        rw [hdep 0 t h2, hdep 1 t h2, dep_zero (a := e'.1) 0 (show SortE e'.1 (e' :: r) from ⟨Int.le_refl _, hs.2⟩) h3, dep_zero (a := e'.1) 1 (show SortE e'.1 (e' :: r) from ⟨Int.le_refl _, hs.2⟩) h3, Int.add_zero, Int.add_zero]
      have hfar : ∀ t, ¬ t < e'.1 → keep (decide (0 < d0 + dSt 0 e + dep 0 t (e' :: r))) (decide (0 < d1 + dSt 1 e + dep 1 t (e' :: r))) = keep (decide (0 < d0 + dep 0 t (e :: e' :: r))) (decide (0 < d1 + dep 1 t (e :: e' :: r))) := by
        intro t h2
        rw [hdep 0 t (by omega), hdep 1 t (by omega), Int.add_assoc, Int.add_assoc]
      have ih := fun op' h => sw_ok hk r e' (d0 + dSt 0 e) (d1 + dSt 1 e) op' hs.2 h t0 t1
      cases hK : keep (decide (0 < d0 + dSt 0 e)) (decide (0 < d1 + dSt 1 e)) with
      | true =>
        cases op with
        | none =>
          have es : sw keep (e :: e' :: r) d0 d1 none = sw keep (e' :: r) (d0 + dSt 0 e) (d1 + dSt 1 e) (some e.1) := by
            conv => lhs; unfold sw
            rw [if_neg hng]
            simp only [hK, if_true]
          have ih := ih (some e.1) (fun f h => by cases h; exact hlt)
          rw [es]
          refine ⟨ih.canon, fun c h2 h3 => ih.low c (fun h => nomatch h) (fun f h => by cases h; exact h2 rfl), fun t => ?_⟩
          rw [ih.mem t]
          by_cases ht : t < e'.1
          · rw [if_pos ht]
            by_cases ht2 : t < e.1
            · rw [if_pos ht2]; exact decide_eq_false (by omega)
            · rw [if_neg ht2, hmid t ht2 ht, hK]; exact decide_eq_true (by omega)
          · rw [if_neg ht, if_neg (by omega), hfar t ht]
        | some f =>
          have es : sw keep (e :: e' :: r) d0 d1 (some f) = sw keep (e' :: r) (d0 + dSt 0 e) (d1 + dSt 1 e) (some f) := by
            conv => lhs; unfold sw
            rw [if_neg hng]
            simp only [hK, if_true]
          have hfe := hf f rfl
          have ih := ih (some f) (fun g h => by cases h; omega)
          rw [es]
          refine ⟨ih.canon, fun c h2 h3 => ih.low c (fun h => nomatch h) h3, fun t => ?_⟩
          rw [ih.mem t]
          by_cases ht : t < e'.1
          · rw [if_pos ht]
            by_cases ht2 : t < e.1
            · rw [if_pos ht2]
            · rw [if_neg ht2, hmid t ht2 ht, hK]; exact decide_eq_true (by omega)
          · rw [if_neg ht, if_neg (by omega), hfar t ht]
      | false =>
        have ih := ih none (fun f h => nomatch h)
        cases op with
        | none =>
          have es : sw keep (e :: e' :: r) d0 d1 none = sw keep (e' :: r) (d0 + dSt 0 e) (d1 + dSt 1 e) none := by
            conv => lhs; unfold sw
            rw [if_neg hng]
            simp only [hK]
            rfl
          rw [es]
          refine ⟨ih.canon, fun c h2 h3 => ih.low c (fun h => by have := h2 rfl; omega) (fun f h => nomatch h), fun t => ?_⟩
          rw [ih.mem t]
          by_cases ht : t < e'.1
          · rw [if_pos ht]
            by_cases ht2 : t < e.1
            · rw [if_pos ht2]
            · rw [if_neg ht2, hmid t ht2 ht, hK]
          · rw [if_neg ht, if_neg (by omega), hfar t ht]
        | some f =>
          have es : sw keep (e :: e' :: r) d0 d1 (some f) = (f, e.1) :: sw keep (e' :: r) (d0 + dSt 0 e) (d1 + dSt 1 e) none := by
            conv => lhs; unfold sw
            rw [if_neg hng]
            simp only [hK]
            rfl
          have hfe := hf f rfl
          rw [es]
          refine ⟨⟨hfe, ih.low e.1 (fun _ => hlt) (fun f h => nomatch h), ih.canon⟩, fun c h2 h3 x hx => ?_, fun t => ?_⟩
          · rcases List.mem_cons.1 hx with rfl | hx
            · exact h3 f rfl
            · exact ih.low c (fun _ => by have := h3 f rfl; omega) (fun f h => nomatch h) x hx
          · rw [hasL_cons, ih.mem t]
            by_cases ht : t < e'.1
            · rw [if_pos ht]
              by_cases ht2 : t < e.1
              · rw [if_pos ht2]
                show ((decide (f ≤ t) && decide (t < e.1)) || false) = decide (f ≤ t)
                rw [decide_eq_true ht2, Bool.and_true, Bool.or_false]
              · rw [if_neg ht2, hmid t ht2 ht, hK]
                show ((decide (f ≤ t) && decide (t < e.1)) || false) = false
                rw [decide_eq_false ht2, Bool.and_false]; rfl
            · rw [if_neg ht, if_neg (by omega), hfar t ht]
              show ((decide (f ≤ t) && decide (t < e.1)) || _) = _
              rw [decide_eq_false (show ¬ t < e.1 by omega), Bool.and_false, Bool.false_or]
def edOf (k : Int) : List Sp → List Ed
  | [] => []
  | s :: r => (if s.1 < s.2 then [(s.1, 1, k), (s.2, -1, k)] else []) ++ edOf k r
def edAB (a b : List Sp) : List Ed := edOf 0 a ++ edOf 1 b
theorem tot_append (k : Int) : ∀ (l m : List Ed), tot k (l ++ m) = tot k l + tot k m
  | [], m => by show _ = 0 + _; rw [Int.zero_add]; rfl
  | e :: l, m => by show dSt k e + tot k (l ++ m) = dSt k e + tot k l + tot k m; rw [tot_append k l m]; omega
theorem dep_append (k t : Int) : ∀ (l m : List Ed), dep k t (l ++ m) = dep k t l + dep k t m
  | [], m => by show _ = 0 + _; rw [Int.zero_add]; rfl
  | e :: l, m => by
    have e1 : dep k t (e :: l ++ m) = (if e.1 ≤ t then dSt k e else 0) + dep k t (l ++ m) := rfl
    have e2 : dep k t (e :: l) = (if e.1 ≤ t then dSt k e else 0) + dep k t l := rfl
    rw [e1, e2, dep_append k t l m]; omega
theorem tot_perm (k : Int) {l m : List Ed} (h : l.Perm m) : tot k l = tot k m := by
  induction h with
  | nil => rfl
  | cons x _ ih => show dSt k x + _ = dSt k x + _; rw [ih]
  | swap x y l => show dSt k y + (dSt k x + _) = dSt k x + (dSt k y + _); omega
  | trans _ _ ih1 ih2 => exact ih1.trans ih2
theorem dep_perm (k t : Int) {l m : List Ed} (h : l.Perm m) : dep k t l = dep k t m := by
  induction h with
  | nil => rfl
  | cons x _ ih => show (if x.1 ≤ t then dSt k x else 0) + _ = (if x.1 ≤ t then dSt k x else 0) + _; rw [ih]
  | swap x y l => show (if y.1 ≤ t then dSt k y else 0) + ((if x.1 ≤ t then dSt k x else 0) + _) = (if x.1 ≤ t then dSt k x else 0) + ((if y.1 ≤ t then dSt k y else 0) + _); omega
  | trans _ _ ih1 ih2 => exact ih1.trans ih2
theorem tot_ed (k j : Int) : ∀ (l : List Sp), tot k (edOf j l) = 0
  | [] => rfl
  | s :: r => by
    show tot k ((if s.1 < s.2 then [(s.1, 1, j), (s.2, -1, j)] else []) ++ edOf j r) = 0
    rw [tot_append, tot_ed k j r]
    split
    · show dSt k (s.1, 1, j) + (dSt k (s.2, -1, j) + 0) + 0 = 0
      unfold dSt
      by_cases e : j = k
      · rw [if_pos e, if_pos e]; rfl
      · rw [if_neg e, if_neg e]; rfl
    · rfl
theorem dep_other {k j : Int} (h : j ≠ k) (t : Int) : ∀ (l : List Sp), dep k t (edOf j l) = 0
  | [] => rfl
  | s :: r => by
    show dep k t ((if s.1 < s.2 then [(s.1, 1, j), (s.2, -1, j)] else []) ++ edOf j r) = 0
    rw [dep_append, dep_other h t r]
    split
    · show (if s.1 ≤ t then dSt k (s.1, 1, j) else 0) + ((if s.2 ≤ t then dSt k (s.2, -1, j) else 0) + 0) + 0 = 0
      unfold dSt
      rw [if_neg h, if_neg h]
      split <;> split <;> rfl
    · rfl
theorem dep_own (k t : Int) : ∀ (l : List Sp), 0 ≤ dep k t (edOf k l) ∧ (0 < dep k t (edOf k l) ↔ hasL l t = true)
  | [] => ⟨Int.le_refl _, by show (0 : Int) < 0 ↔ false = true; simp⟩
  | s :: r => by
    obtain ⟨h1, h2⟩ := dep_own k t r
    have e : dep k t (edOf k (s :: r)) = (if has1 s t then 1 else 0) + dep k t (edOf k r) := by
      show dep k t ((if s.1 < s.2 then [(s.1, 1, k), (s.2, -1, k)] else []) ++ edOf k r) = _
      rw [dep_append]
      congr 1
      by_cases hs : s.1 < s.2
      · rw [if_pos hs]
        show (if s.1 ≤ t then dSt k (s.1, 1, k) else 0) + ((if s.2 ≤ t then dSt k (s.2, -1, k) else 0) + 0) = _
        unfold dSt
        rw [if_pos rfl, if_pos rfl]
        by_cases ha : s.1 ≤ t
        · by_cases hb : s.2 ≤ t
          · rw [if_pos ha, if_pos hb, if_neg (by rw [has1_iff]; omega)]; rfl
          · rw [if_pos ha, if_neg hb, if_pos (by rw [has1_iff]; omega)]; rfl
        · rw [if_neg ha, if_neg (by omega), if_neg (by rw [has1_iff]; omega)]; rfl
      · rw [if_neg hs, if_neg (by rw [has1_iff]; omega)]; rfl
    rw [e, hasL_cons]
    cases hc : has1 s t with
    | true =>
      rw [if_pos rfl]
      exact ⟨by omega, by simp; omega⟩
    | false =>
      rw [if_neg (by decide), Int.zero_add, Bool.false_or]
      exact ⟨h1, h2⟩
theorem sweep_ok {keep : Bool → Bool → Bool} (hk : keep false false = false) (a b : List Sp) (E : List Ed) (hp : E.Perm (edAB a b)) (hs : ∀ e r, E = e :: r → SortE e.1 r) :
    Canon (sw keep E 0 0 none) ∧ ∀ t, hasL (sw keep E 0 0 none) t = keep (hasL a t) (hasL b t) := by
  have T0 : tot 0 E = 0 := by rw [tot_perm 0 hp, edAB, tot_append, tot_ed, tot_ed]; rfl
  have T1 : tot 1 E = 0 := by rw [tot_perm 1 hp, edAB, tot_append, tot_ed, tot_ed]; rfl
  have D0 : ∀ t, decide (0 < dep 0 t E) = hasL a t := fun t => by
    rw [dep_perm 0 t hp, edAB, dep_append, dep_other (k := 0) (j := 1) (by decide), Int.add_zero, Bool.eq_iff_iff, decide_eq_true_eq]
    exact (dep_own 0 t a).2
  have D1 : ∀ t, decide (0 < dep 1 t E) = hasL b t := fun t => by
    rw [dep_perm 1 t hp, edAB, dep_append, dep_other (k := 1) (j := 0) (by decide), Int.zero_add, Bool.eq_iff_iff, decide_eq_true_eq]
    exact (dep_own 1 t b).2
  cases E with
  | nil =>
    refine ⟨trivial, fun t => ?_⟩
    rw [← D0 t, ← D1 t]
    exact hk.symm
  | cons e r =>
    have h := sw_ok hk r e 0 0 none (hs e r rfl) (fun f h => nomatch h) (by rw [T0]; rfl) (by rw [T1]; rfl)
    refine ⟨h.canon, fun t => ?_⟩
    rw [h.mem t, ← D0 t, ← D1 t]
    split
    · rename_i ht
      rw [dep_zero (a := e.1) 0 (show SortE e.1 (e :: r) from ⟨Int.le_refl _, hs e r rfl⟩) ht, dep_zero (a := e.1) 1 (show SortE e.1 (e :: r) from ⟨Int.le_refl _, hs e r rfl⟩) ht]
      exact hk.symm
    · rw [Int.zero_add, Int.zero_add]
end Nt.Sps

set_option linter.unusedVariables false
set_option linter.unusedSimpArgs false
namespace Nt.Sps
def cntE (t : Int) : List Sp → Nat
  | [] => 0
  | s :: r => (if s.2 ≤ t then 1 else 0) + cntE t r
theorem cnt_far {t : Int} : ∀ {l : List Sp}, (∀ x ∈ l, t < x.2) → cntE t l = 0
  | [], _ => rfl
  | s :: r, h => by
    unfold cntE
    rw [if_neg (by have := h s (by simp); omega), cnt_far (fun x hx => h x (List.mem_cons_of_mem _ hx))]
theorem far_of {s : Sp} {r : List Sp} (h : Canon (s :: r)) {t : Int} (ht : t < s.2) : ∀ x ∈ r, t < x.2 := fun x hx => by
  have h1 := h.2.1 x hx
  have h2 := canon_right h.2.2 x hx
  omega
theorem cnt_le (t : Int) : ∀ (l : List Sp), cntE t l ≤ l.length
  | [] => Nat.le_refl _
  | s :: r => by
    unfold cntE
    have := cnt_le t r
    rw [List.length_cons]
    split <;> omega
theorem cnt_iff {t : Int} : ∀ {l : List Sp}, Canon l → ∀ (i : Nat) (h : i < l.length), (l[i]).2 ≤ t ↔ i < cntE t l
  | s :: r, hc, 0, _ => by
    show s.2 ≤ t ↔ 0 < (if s.2 ≤ t then 1 else 0) + cntE t r
    by_cases h : s.2 ≤ t
    · rw [if_pos h]; exact ⟨fun _ => by omega, fun _ => h⟩
    · rw [if_neg h, cnt_far (far_of hc (by omega))]; exact ⟨fun e => absurd e h, fun e => absurd e (by omega)⟩
  | s :: r, hc, i + 1, h => by
    have h' : i < r.length := by simpa using h
    have ih := cnt_iff (t := t) hc.2.2 i (by simpa using h)
    show (r[i]).2 ≤ t ↔ i + 1 < (if s.2 ≤ t then 1 else 0) + cntE t r
    by_cases hs : s.2 ≤ t
    · rw [if_pos hs, ih]; omega
    · have hf := far_of hc (t := t) (by omega)
      rw [if_neg hs, cnt_far hf]
      have := hf r[i] (List.getElem_mem _)
      omega
def findS (t : Int) : List Sp → Option Sp
  | [] => none
  | s :: r => if has1 s t then some s else findS t r
theorem find_none {t : Int} : ∀ {l : List Sp}, (∀ x ∈ l, t < x.1) → findS t l = none
  | [], _ => rfl
  | s :: r, h => by
    unfold findS
    rw [if_neg (by rw [has1_iff]; have := h s (by simp); omega)]
    exact find_none fun x hx => h x (List.mem_cons_of_mem _ hx)
theorem find_cnt {t : Int} : ∀ {l : List Sp}, Canon l → findS t l = match l[cntE t l]? with | none => none | some s => if has1 s t then some s else none
  | [], _ => rfl
  | s :: r, hc => by
    unfold findS cntE
    by_cases h : s.2 ≤ t
    · rw [if_neg (by rw [has1_iff]; omega), if_pos h, find_cnt hc.2.2, Nat.add_comm, List.getElem?_cons_succ]
    · rw [if_neg h, cnt_far (far_of hc (by omega))]
      show _ = if has1 s t then some s else none
      by_cases h2 : has1 s t = true
      · rw [if_pos h2, if_pos h2]
      · rw [if_neg h2, if_neg h2]
        refine find_none fun x hx => ?_
        rw [has1_iff] at h2
        have := hc.2.1 x hx
        have := hc.1
        omega
theorem of_len (l : List Sp) : (ofL l).length ≤ l.length := by
  have : ∀ (l A : List Sp), Canon A → (l.foldl putL A).length ≤ A.length + l.length := by
    intro l
    induction l with
    | nil => intro A _; simp
    | cons x l ih =>
      intro A hA
      have k1 := ih (putL A x) (put_canon x hA)
      have k2 := put_len x hA
      rw [List.foldl_cons, List.length_cons]; omega
  have := this l [] trivial
  rw [List.length_nil, Nat.zero_add] at this
  exact this
end Nt.Sps

set_option linter.unusedVariables false
set_option linter.unusedSimpArgs false
namespace Nt.Ev.Ytjobobdijjppkaa.Sp
open Go Nt Nt.Num Nt.Sps
def spsOf (xs : List V) : List Sp := xs.map fun x => (asInt (acell x 0), asInt (acell x 1))
def spV (l : List Sp) : List V := l.map fun p => .agg [.int .i64 p.1, .int .i64 p.2]
theorem sps_V (l : List Sp) : spsOf (spV l) = l := by
  unfold spsOf spV
  rw [List.map_map]
  exact (List.map_congr_left fun _ _ => rfl).trans (List.map_id _)
theorem sps_len (xs : List V) : (spsOf xs).length = xs.length := by unfold spsOf; simp
theorem spV_len (l : List Sp) : (spV l).length = l.length := by unfold spV; simp
theorem sps_drop (xs : List V) (k : Nat) (h : k < xs.length) : (spsOf xs).drop k = (asInt (acell (lget xs (k : Int)) 0), asInt (acell (lget xs (k : Int)) 1)) :: (spsOf xs).drop (k + 1) := by
  have hl : k < (spsOf xs).length := by rw [sps_len]; exact h
  rw [List.drop_eq_getElem_cons hl, lget_nat]
  congr 1
  simp [spsOf, h]
theorem sps_get (xs : List V) (k : Nat) (h : k < xs.length) : (spsOf xs)[k]'(by rw [sps_len]; exact h) = (asInt (acell (lget xs (k : Int)) 0), asInt (acell (lget xs (k : Int)) 1)) := by
  rw [lget_nat]
  simp [spsOf, h]
theorem spV_append (l m : List Sp) : spV (l ++ m) = spV l ++ spV m := by unfold spV; rw [List.map_append]
theorem sps_append (l m : List V) : spsOf (l ++ m) = spsOf l ++ spsOf m := by unfold spsOf; rw [List.map_append]
noncomputable def meB (a b c d : Int) : Bool := meetB (a, b) (c, d)
noncomputable def toB (a b c d : Int) : Bool := touchB (a, b) (c, d)
noncomputable def joB (a b c d : Int) : Bool := joinB (a, b) (c, d)
noncomputable def joA (a b c d : Int) : Int := if joB a b c d then min a c else 0
noncomputable def joZ (a b c d : Int) : Int := if joB a b c d then max b d else 0
noncomputable def btB (a b c d : Int) : Bool := meetB (a, b) (c, d)
noncomputable def btA (a b c d : Int) : Int := if btB a b c d then max a c else 0
noncomputable def btZ (a b c d : Int) : Int := if btB a b c d then min b d else 0
noncomputable def puV (xs : List V) (a b : Int) : List V := spV (putL (spsOf xs) (a, b))
noncomputable def lsV (a b c d : Int) : List V := spV (less1 (a, b) (c, d))
noncomputable def ofV (xs : List V) : List V := spV (ofL (spsOf xs))
noncomputable def orV (xs ys : List V) : List V := spV (orL (spsOf xs) (spsOf ys))
noncomputable def anV (xs ys : List V) : List V := spV (andL (spsOf xs) (spsOf ys))
noncomputable def leV (xs ys : List V) : List V := spV (lessL (spsOf xs) (spsOf ys))
noncomputable def adI (a b : Int) : Int := (told (a + b)).1
noncomputable def adE (a b : Int) : Int := (told (a + b)).2
noncomputable def suI (a b : Int) : Int := (told (a - b)).1
noncomputable def suE (a b : Int) : Int := (told (a - b)).2
noncomputable def ln10 (a b : Int) : Int := if a < b then suI b a else 0
noncomputable def le10 (a b : Int) : Int := if a < b then suE b a else 1
noncomputable def fI (a : Int) : Bool := decide (Fits a)
noncomputable def biI (xs : List V) (t : Int) : Int := ((cntE t (spsOf xs) : Nat) : Int)
noncomputable def biB (xs : List V) (t : Int) : Bool := false
noncomputable def rtV (xs : List V) : Bool := rtL (spsOf xs)
end Nt.Ev.Ytjobobdijjppkaa.Sp

set_option linter.unusedVariables false
set_option linter.unusedSimpArgs false
set_option linter.unusedSectionVars false
namespace Nt.Ev.Ytjobobdijjppkaa.Sp
open Go Nt.Num Go.Proofs.Ytjobobdijjppkaa
noncomputable def sE : Env := ⟨Go.Proofs.Try.prog, fun _ => none⟩
noncomputable def sS : List (Nat × FSpec) := []
noncomputable def sMeS : FSpec := fun a => match a with | [.agg [.int .i64 a, .int .i64 b], .agg [.int .i64 c, .int .i64 d]] => some (true, .bool (meB a b c d)) | _ => none
noncomputable def sToS : FSpec := fun a => match a with | [.agg [.int .i64 a, .int .i64 b], .agg [.int .i64 c, .int .i64 d]] => some (true, .bool (toB a b c d)) | _ => none
noncomputable def sS1 : List (Nat × FSpec) := (65, sMeS) :: (68, sToS) :: []
set_option maxRecDepth 100000 in
theorem pRight_top (F : Nat) (a : Int) (b : Int) (K : V → Option V) :
 evBd sE (evFn sE sS F 2) F 49 [(V.agg [(V.int .i64 a), (V.int .i64 b)])] K =
 K (V.bool (ilt a b)) := by kernel_rfl
set_option maxRecDepth 100000 in
theorem pRight10_top (F : Nat) (a : Int) (b : Int) (K : V → Option V) :
 evBd sE (evFn sE sS F 2) F 50 [(V.agg [(V.int .i64 a), (V.int .i64 b)])] K =
 K (V.bool (ilt a b)) := by kernel_rfl
set_option maxRecDepth 100000 in
theorem pHas_top (F : Nat) (a : Int) (b : Int) (t : Int) (K : V → Option V) :
 evBd sE (evFn sE sS F 2) F 28 [(V.agg [(V.int .i64 a), (V.int .i64 b)]), (V.int .i64 t)] K =
 sel (ile a t)
 (K (V.bool (ilt t b)))
 (K (V.bool false)) := by kernel_rfl
set_option maxRecDepth 100000 in
theorem pHas10_top (F : Nat) (a : Int) (b : Int) (t : Int) (K : V → Option V) :
 evBd sE (evFn sE sS F 2) F 44 [(V.agg [(V.int .i64 a), (V.int .i64 b)]), (V.int .i64 t)] K =
 sel (ile a t)
 (K (V.bool (ilt t b)))
 (K (V.bool false)) := by kernel_rfl
set_option maxRecDepth 100000 in
theorem pBoth_top (F : Nat) (a : Int) (b : Int) (c : Int) (d : Int) (K : V → Option V) :
 evBd sE (evFn sE sS F 3) F 60 [(V.agg [(V.int .i64 a), (V.int .i64 b)]), (V.agg [(V.int .i64 c), (V.int .i64 d)])] K =
 sel (bnot (ilt a b))
 (K (V.tup [(V.agg [(V.int .i64 0), (V.int .i64 0)]), (V.bool false)]))
 (sel (bnot (ilt c d))
 (K (V.tup [(V.agg [(V.int .i64 0), (V.int .i64 0)]), (V.bool false)]))
 (sel (bnot (ilt (imax a c) (imin b d)))
 (K (V.tup [(V.agg [(V.int .i64 0), (V.int .i64 0)]), (V.bool false)]))
 (K (V.tup [(V.agg [(V.int .i64 (imax a c)), (V.int .i64 (imin b d))]), (V.bool true)])))) := by kernel_rfl
set_option maxRecDepth 100000 in
theorem pMeet10_top (F : Nat) (a : Int) (b : Int) (c : Int) (d : Int) (K : V → Option V) :
 evBd sE (evFn sE sS F 3) F 65 [(V.agg [(V.int .i64 a), (V.int .i64 b)]), (V.agg [(V.int .i64 c), (V.int .i64 d)])] K =
 sel (ilt a b)
 (sel (ilt c d)
 (sel (ile a c)
 (sel (ilt c b)
 (K (V.bool true))
 (sel (ile c a)
 (K (V.bool (ilt a d)))
 (K (V.bool false))))
 (sel (ile c a)
 (K (V.bool (ilt a d)))
 (K (V.bool false))))
 (K (V.bool false)))
 (K (V.bool false)) := by kernel_rfl
set_option maxRecDepth 100000 in
theorem pTouch10_top (F : Nat) (a : Int) (b : Int) (c : Int) (d : Int) (K : V → Option V) :
 evBd sE (evFn sE sS F 3) F 68 [(V.agg [(V.int .i64 a), (V.int .i64 b)]), (V.agg [(V.int .i64 c), (V.int .i64 d)])] K =
 sel (ilt a b)
 (sel (ilt c d)
 (sel (ieq b c)
 (K (V.bool true))
 (K (V.bool (ieq d a))))
 (K (V.bool false)))
 (K (V.bool false)) := by kernel_rfl
noncomputable def pSame10_L0 (F : Nat) (ns : List Nat) (n : Nat) (x0 : List V) (x1 : List V) (x4 : Bool) (x12 : Int) (x13 : Int) (K : V → Option V) : Option V :=
 loopAt sE sS F 2 16 [1, 1, 0, 1, 0] ns K n (mkSt 26 [(0, V.sl 24 [(Kd.int .i64), (Kd.int .i64)] none x0), (1, V.sl 24 [(Kd.int .i64), (Kd.int .i64)] none x1), (4, V.bool x4), (12, V.int .i64 x12), (13, V.int .i64 x13)] [])
set_option maxRecDepth 100000 in
theorem pSame10_top (F : Nat) (xs : List V) (ys : List V) (K : V → Option V) :
 evBd sE (evFn sE sS F 2) F 16 [(V.sl 24 [(Kd.int .i64), (Kd.int .i64)] none xs), (V.sl 24 [(Kd.int .i64), (Kd.int .i64)] none ys)] K =
 sel (bnot (ieq (llen xs) (llen ys)))
 (K (V.bool false))
 (pSame10_L0 F [] F xs ys false (llen xs) 0 K) := by kernel_rfl
set_option maxRecDepth 100000 in
theorem pSame10_L0_succ (F : Nat) (n : Nat) (x0 : List V) (x1 : List V) (x4 : Bool) (x12 : Int) (x13 : Int) (K : V → Option V) :
 pSame10_L0 F [] (n + 1) x0 x1 x4 x12 x13 K =
 sel (ilt x13 x12)
 (sel (band (ile 0 x13) (ilt x13 (llen x0)))
 (sel (band (ile 0 x13) (ilt x13 (llen x1)))
 (sel (bnot (band (ieq (asInt (acell (lget x0 x13) 0)) (asInt (acell (lget x1 x13) 0))) (ieq (asInt (acell (lget x0 x13) 1)) (asInt (acell (lget x1 x13) 1)))))
 (K (V.bool false))
 (pSame10_L0 F [] n x0 x1 x4 x12 (iadd .i64 x13 1) K))
 (none))
 (none))
 (K (V.bool true)) := by kernel_rfl
set_option maxRecDepth 100000 in
theorem pOr1_top (F : Nat) (a : Bool) (b : Bool) (K : V → Option V) :
 evBd sE (evFn sE sS F 2) F 53 [(V.bool a), (V.bool b)] K =
 sel a
 (K (V.bool true))
 (K (V.bool b)) := by kernel_rfl
set_option maxRecDepth 100000 in
theorem pAnd1_top (F : Nat) (a : Bool) (b : Bool) (K : V → Option V) :
 evBd sE (evFn sE sS F 2) F 54 [(V.bool a), (V.bool b)] K =
 sel a
 (K (V.bool b))
 (K (V.bool false)) := by kernel_rfl
set_option maxRecDepth 100000 in
theorem pLess1_top (F : Nat) (a : Bool) (b : Bool) (K : V → Option V) :
 evBd sE (evFn sE sS F 2) F 56 [(V.bool a), (V.bool b)] K =
 sel a
 (K (V.bool (bnot b)))
 (K (V.bool false)) := by kernel_rfl
set_option maxRecDepth 100000 in
theorem pJoin10_top (F : Nat) (a : Int) (b : Int) (c : Int) (d : Int) (K : V → Option V) :
 evBd sE (evFn sE sS1 F 2) F 63 [(V.agg [(V.int .i64 a), (V.int .i64 b)]), (V.agg [(V.int .i64 c), (V.int .i64 d)])] K =
 sel (bnot (meB a b c d))
 (sel (bnot (toB a b c d))
 (K (V.tup [(V.agg [(V.int .i64 0), (V.int .i64 0)]), (V.bool false)]))
 (K (V.tup [(V.agg [(V.int .i64 (imin a c)), (V.int .i64 (imax b d))]), (V.bool true)])))
 (K (V.tup [(V.agg [(V.int .i64 (imin a c)), (V.int .i64 (imax b d))]), (V.bool true)])) := by kernel_rfl
set_option maxRecDepth 100000 in
theorem pBoth10_top (F : Nat) (a : Int) (b : Int) (c : Int) (d : Int) (K : V → Option V) :
 evBd sE (evFn sE sS1 F 2) F 55 [(V.agg [(V.int .i64 a), (V.int .i64 b)]), (V.agg [(V.int .i64 c), (V.int .i64 d)])] K =
 sel (bnot (meB a b c d))
 (K (V.tup [(V.agg [(V.int .i64 0), (V.int .i64 0)]), (V.bool false)]))
 (K (V.tup [(V.agg [(V.int .i64 (imax a c)), (V.int .i64 (imin b d))]), (V.bool true)])) := by kernel_rfl
set_option maxRecDepth 100000 in
theorem pLess10_top (F : Nat) (a : Int) (b : Int) (c : Int) (d : Int) (K : V → Option V) :
 evBd sE (evFn sE sS1 F 2) F 57 [(V.agg [(V.int .i64 a), (V.int .i64 b)]), (V.agg [(V.int .i64 c), (V.int .i64 d)])] K =
 sel (bnot (ilt a b))
 (K (V.sl 24 [(Kd.int .i64), (Kd.int .i64)] (some 4) []))
 (sel (bnot (meB a b c d))
 (K (V.sl 24 [(Kd.int .i64), (Kd.int .i64)] (some 14) [(V.agg [(V.int .i64 a), (V.int .i64 b)])]))
 (sel (ilt a c)
 (sel (okApp [] [(V.agg [(V.int .i64 a), (V.int .i64 c)])])
 (sel (ilt d b)
 (sel (okApp (lcat [] [(V.agg [(V.int .i64 a), (V.int .i64 c)])]) [(V.agg [(V.int .i64 d), (V.int .i64 b)])])
 (K (V.sl 24 [(Kd.int .i64), (Kd.int .i64)] (some 40) (lcat (lcat [] [(V.agg [(V.int .i64 a), (V.int .i64 c)])]) [(V.agg [(V.int .i64 d), (V.int .i64 b)])])))
 (none))
 (K (V.sl 24 [(Kd.int .i64), (Kd.int .i64)] (some 27) (lcat [] [(V.agg [(V.int .i64 a), (V.int .i64 c)])]))))
 (none))
 (sel (ilt d b)
 (sel (okApp [] [(V.agg [(V.int .i64 d), (V.int .i64 b)])])
 (K (V.sl 24 [(Kd.int .i64), (Kd.int .i64)] (some 40) (lcat [] [(V.agg [(V.int .i64 d), (V.int .i64 b)])])))
 (none))
 (K (V.sl 24 [(Kd.int .i64), (Kd.int .i64)] (some 5) []))))) := by kernel_rfl
end Nt.Ev.Ytjobobdijjppkaa.Sp

set_option linter.unusedVariables false
set_option linter.unusedSimpArgs false
namespace Go.Proofs.Ytjobobdijjppkaa
open Go Go.RowKit Go.Shelf Nt Nt.Sps
open Go.Sort hiding Below
abbrev encE (e : Ed) : List Value := [.int .i64 e.1, .int .i64 e.2.1, .int .i64 e.2.2]
def edC (l : List Ed) : List Value := l.flatMap encE
theorem edC_append (l m : List Ed) : edC (l ++ m) = edC l ++ edC m := by unfold edC; rw [List.flatMap_append]
theorem edC_len (l : List Ed) : (edC l).length = l.length * 3 := by
  induction l with
  | nil => rfl
  | cons e l ih =>
    have : edC (e :: l) = encE e ++ edC l := rfl
    rw [this, List.length_append, ih, List.length_cons]; simp; omega
def cmpI (a b : Int) : Int := if a < b then -1 else if b < a then 1 else 0
def cmpE (x y : Ed) : Int := cmpI x.1 y.1
theorem cmp_walk (a b : Int) (w : World) : Calls Try.prog 66 #[.int .i64 a, .int .i64 b] w fun e w' => e = .returned (.int .i64 (cmpI a b)) ∧ w' = w := by
  have hn := fun x W => Try.cmp_isNaN_int2 x W
  go_enter Try.func66, Try.ntmps66
  by_cases h1 : a < b
  · go_wp2_with (go_at_call 71; refine (hn _ _).mono ?_; rintro e w' ⟨rfl, rfl⟩)
    go_ret
    exact ⟨by unfold cmpI; rw [if_pos (by omega)]; rfl, rfl⟩
  · by_cases h2 : b < a
    · go_wp2_with (go_at_call 71; refine (hn _ _).mono ?_; rintro e w' ⟨rfl, rfl⟩)
      go_ret
      exact ⟨by unfold cmpI; rw [if_neg (by omega), if_pos (by omega)]; rfl, rfl⟩
    · go_wp2_with (go_at_call 71; refine (hn _ _).mono ?_; rintro e w' ⟨rfl, rfl⟩)
      go_ret
      exact ⟨by unfold cmpI; rw [if_neg (by omega), if_neg (by omega)]; rfl, rfl⟩
theorem right_walk (a b : Int) (w : World) : Calls Try.prog 49 #[.agg #[.int .i64 a, .int .i64 b]] w fun e w' => e = .returned (.bool (decide (a < b))) ∧ w' = w.alloc (.cells #[.int .i64 a, .int .i64 b] 24) := by
  go_enter Try.func49, Try.ntmps49
  go_wp2
  go_ret
  exact ⟨rfl, rfl⟩
theorem closure_walk (x y : Ed) (W : World) : Calls Try.prog 70 #[.agg (encE x).toArray, .agg (encE y).toArray] W fun e w' => e = .returned (.int .i64 (cmpE x y)) ∧ ∃ q os', w' = Sort.grow (W.drewN q) os' := by
  have hcon := fun W' => cmp_walk x.1 y.1 W'
  unfold cmpE
  generalize cmpI x.1 y.1 = r at hcon ⊢
  go_enter Try.func70, Try.ntmps70
  go_wp2_with (go_at_call 66; refine (hcon _).mono ?_; rintro e w' ⟨rfl, rfl⟩)
  go_ret
  exact ⟨rfl, 0, _, by rw [Sort.alloc_eq_grow, Sort.alloc_eq_grow, Sort.grow_grow]; rfl⟩
theorem edC_cons (e : Ed) (l : List Ed) : edC (e :: l) = encE e ++ edC l := rfl
theorem edC_get : ∀ (l : List Ed) (t : Nat), t < l.length * 3 → (edC l)[t]? = some ((encE l[t / 3]!)[t % 3]!)
  | [], t, h => by simp at h
  | e :: l, t, h => by
    rw [edC_cons]
    match t, h with
    | 0, _ => rfl
    | 1, _ => rfl
    | 2, _ => rfl
    | t + 3, h =>
      have h' : t < l.length * 3 := by rw [List.length_cons] at h; omega
      have ih := edC_get l t h'
      rw [List.getElem?_append_right (by simp)]
      have e1 : (t + 3) / 3 = t / 3 + 1 := by omega
      have e2 : (t + 3) % 3 = t % 3 := by omega
      rw [e1, e2, show t + 3 - (encE e).length = t by simp, ih]
      simp
theorem arr_bang {α : Type} [Inhabited α] (a : Array α) (k : Nat) : a.toList[k]! = a[k]! := by
  by_cases h : k < a.size
  · rw [getElem!_pos a.toList k (by simpa using h), getElem!_pos a k h, Array.getElem_toList]
  · rw [getElem!_neg a.toList k (by simpa using h), getElem!_neg a k h]
theorem flat_edC (d : Array Ed) : (flatK encE 3 d).toList = edC d.toList := by
  refine List.ext_getElem? fun t => ?_
  by_cases h : t < d.size * 3
  · rw [edC_get d.toList t (by simpa using h), Array.getElem?_toList, Array.getElem?_eq_getElem (by simpa using h), ← getElem!_pos _ t (by simpa using h), get_flatK encE 3 d t h, arr_bang d (t / 3)]
  · rw [List.getElem?_eq_none (by simpa using h), List.getElem?_eq_none (by rw [edC_len]; simpa using h)]
def srtE (l : List Ed) : List Ed := (Sort.pdq (ltOf cmpE) l.toArray 0 l.length (Lib.bitLen l.length) true true).toList
theorem ltE (x y : Ed) : ltOf cmpE x y = decide (x.1 < y.1) := by
  unfold ltOf cmpE cmpI
  by_cases h1 : x.1 < y.1
  · simp [h1]
  · by_cases h2 : y.1 < x.1 <;> simp [h1, h2]
theorem swoE : Sort.SWO (ltOf cmpE) where
  irrefl x := by rw [ltE]; simp
  trans x y z h1 h2 := by rw [ltE] at *; simp at *; omega
  ntrans x y z h1 h2 := by rw [ltE] at *; simp at *; omega
theorem srt_ok (l : List Ed) : (srtE l).Perm l ∧ (srtE l).length = l.length ∧ ∀ i j, i < j → j < l.length → ((srtE l)[i]!).1 ≤ ((srtE l)[j]!).1 := by
  have h := Sort.pdq_sorts (ltOf cmpE) swoE l.toArray 0 l.length (Lib.bitLen l.length) true true (Nat.zero_le _) (by simp) (Or.inl rfl)
  obtain ⟨⟨hs, _, hp⟩, ho⟩ := h
  have hlen : (srtE l).length = l.length := by unfold srtE; simpa using hs
  refine ⟨?_, hlen, fun i j hij hj => ?_⟩
  · have e1 : ((Sort.pdq (ltOf cmpE) l.toArray 0 l.length (Lib.bitLen l.length) true true).extract 0 l.length).toList = srtE l := by
      unfold srtE
      rw [Array.toList_extract]
      have : (Sort.pdq (ltOf cmpE) l.toArray 0 l.length (Lib.bitLen l.length) true true).toList.length = l.length := hlen
      simp [List.take_of_length_le, this]
    have e2 : (l.toArray.extract 0 l.length).toList = l := by simp
    rw [e1, e2] at hp
    exact hp
  · have := ho i j (Nat.zero_le _) hij hj
    rw [ltE, decide_eq_false_iff_not] at this
    have f : ∀ k, (srtE l)[k]! = (Sort.pdq (ltOf cmpE) l.toArray 0 l.length (Lib.bitLen l.length) true true)[k]! := fun k => arr_bang _ k
    rw [f i, f j]
    omega
theorem sorted_of : ∀ {l : List Ed}, (∀ i j, i < j → j < l.length → (l[i]!).1 ≤ (l[j]!).1) → ∀ {e : Ed} {r : List Ed}, l = e :: r → SortE e.1 r
  | _, _, e, [], _ => trivial
  | l, h, e, f :: r, hl => by
    subst hl
    have h0 := h 0 1 (by omega) (by simp)
    refine ⟨by simpa using h0, sorted_of (l := f :: r) (fun i j hij hj => ?_) rfl⟩
    have := h (i + 1) (j + 1) (by omega) (by simpa using hj)
    simpa using this
theorem isAggE (w : World) : (isAgg 73).run Try.prog w = .ok true w := Try.isAgg73 w
theorem sizeE (w : World) : (Go.sizeOf 73).run Try.prog w = .ok 3 w := Try.sizeOf73 w
theorem holds_of {w : World} {base blk cap : Nat} {d : Array Ed} (h : w.ownsRow base 73 3 (.slice (some ⟨blk, 0, none⟩) d.size cap) d.size (edC d.toList)) : HoldsK encE 3 w blk 0 d := by
  intro t ht
  rw [size_flatK] at ht
  rcases h.2 with ⟨h1, _⟩ | ⟨g, cap', cur, h1, hb, hh, hc, hm, hs, htk⟩
  · cases h1
  · cases h1
    have e1 : (edC d.toList)[t]? = cur.toList[t]? := by rw [← htk, List.getElem?_take, if_pos ht]
    have e2 : (flatK encE 3 d)[t]! = (edC d.toList)[t]! := by
      rw [← flat_edC, arr_bang]
    have e3 : (edC d.toList)[t]? = some ((edC d.toList)[t]!) := by
      rw [List.getElem!_eq_getElem?_getD, edC_get _ _ (by simpa using ht)]; rfl
    refine ⟨?_, ?_⟩
    · show w.cell? ⟨blk, 0 + t, none⟩ = some (id (flatK encE 3 d)[t]!)
      rw [Nat.zero_add, id, e2, ← e3, e1]
      simp [World.cell?, hh]
    · simp [World.frozen?, hh]
theorem row_after {w : World} {base blk cap : Nat} {d d' : Array Ed} (h : w.ownsRow base 73 3 (.slice (some ⟨blk, 0, none⟩) d.size cap) d.size (edC d.toList)) (hs : d'.size = d.size) (n : Nat) (os : Array Obj) :
    (sortWorldK encE 3 w blk 0 n d' os).ownsRow base 73 3 (.slice (some ⟨blk, 0, none⟩) d.size cap) d.size (edC d'.toList) ∧ (base ≤ w.heap.size → Below base w (sortWorldK encE 3 w blk 0 n d' os)) := by
  rcases h.2 with ⟨h1, _⟩ | ⟨g, cap', cur, h1, hb, hh, hc, hm, hsz, htk⟩
  · cases h1
  · cases h1
    have hlt : blk < w.heap.size := (Array.getElem?_eq_some_iff.1 hh).1
    have hH := holdsK_sortWorldK encE 3 w blk 0 n d d' os hlt (holds_of h) hs
    have hblk : (sortWorldK encE 3 w blk 0 n d' os).heap[blk]? = some (.cells (Sort.putCells id 0 (flatK encE 3 d') cur) 73 (0, 0)) := by
      unfold sortWorldK putRowK Sort.putRow Sort.mapBlock Sort.grow Sort.ahead
      show (w.heap.modify blk _ ++ os)[blk]? = _
      rw [Array.getElem?_append_left (by simpa using hlt), Array.getElem?_modify, if_pos rfl, hh]
      rfl
    refine ⟨⟨by rw [edC_len]; simp [hs], .inr ⟨blk, cap, _, rfl, hb, hblk, hc, hm, by simp [Sort.putCells, hsz], ?_⟩⟩, fun hbase => ?_⟩
    · refine List.ext_getElem? fun t => ?_
      rw [List.getElem?_take]
      by_cases ht : t < d.size * 3
      · rw [if_pos ht]
        have := (hH t (by rw [size_flatK, hs]; exact ht)).1
        rw [Nat.zero_add] at this
        have e1 : (Sort.putCells id 0 (flatK encE 3 d') cur).toList[t]? = some (id (flatK encE 3 d')[t]!) := by
          have h2 : (sortWorldK encE 3 w blk 0 n d' os).cell? ⟨blk, t, none⟩ = (Sort.putCells id 0 (flatK encE 3 d') cur).toList[t]? := by simp [World.cell?, hblk]
          rw [← h2]; exact this
        rw [e1, ← flat_edC]
        have ht' : t < (flatK encE 3 d').size := by rw [size_flatK, hs]; exact ht
        rw [Array.getElem?_toList, Array.getElem?_eq_getElem ht', getElem!_pos _ t ht']
        rfl
      · rw [if_neg ht, List.getElem?_eq_none (by rw [edC_len]; simp [hs]; omega)]
    · refine ⟨rfl, rfl, rfl, ?_, fun i hi => ?_⟩
      · simp [sortWorldK, putRowK, Sort.putRow, Sort.mapBlock, Sort.grow, Sort.ahead]
      · unfold sortWorldK putRowK Sort.putRow Sort.mapBlock Sort.grow Sort.ahead
        show (w.heap.modify blk _ ++ os)[i]? = _
        rw [Array.getElem?_append_left (by simp; omega), Array.getElem?_modify, if_neg (by omega)]
theorem sort_walk {base blk cap : Nat} {d : Array Ed} {w : World} (h : w.ownsRow base 73 3 (.slice (some ⟨blk, 0, none⟩) d.size cap) d.size (edC d.toList)) (hd : d.size < 4611686018427387904) (hbase : base ≤ w.heap.size) :
    Calls Try.prog 69 #[.slice (some ⟨blk, 0, none⟩) d.size cap, .func (.func 70) #[] #[]] w fun e w' =>
      e = .returned (.tuple #[]) ∧ w'.ownsRow base 73 3 (.slice (some ⟨blk, 0, none⟩) d.size cap) d.size (edC (srtE d.toList)) ∧ Below base w w' := by
  have eg : ∀ args w, (callFunc 70 args).run Try.prog w = .ok (.enter 70 args) w := enters_of Try.func70 (by kernel_rfl) rfl
  have hlt : blk < w.heap.size := (h.lt blk rfl).2
  have hcon := AnyQ.slices_SortFunc_eq Try.sort69 3 isAggE sizeE encE (fun _ => rfl) (fun x v hv => by simp [encE] at hv; rcases hv with rfl | rfl | rfl <;> rfl) cmpE swoE 70 #[] blk 0 cap d w eg (fun _ _ _ _ x y => closure_walk x y _) (holds_of h) hlt hd
  change Calls Try.prog 69 _ _ _ at hcon
  refine hcon.mono ?_
  rintro e w' ⟨rfl, n, os, rfl⟩
  have hsz : (Sort.pdq (ltOf cmpE) d 0 d.size (Lib.bitLen d.size) true true).size = d.size := (Sort.pdq_sorts (ltOf cmpE) swoE d 0 d.size (Lib.bitLen d.size) true true (Nat.zero_le _) (Nat.le_refl _) (Or.inl rfl)).1.1
  obtain ⟨r1, r2⟩ := row_after h hsz n os
  refine ⟨rfl, ?_, r2 hbase⟩
  have e : (Sort.pdq (ltOf cmpE) d 0 d.size (Lib.bitLen d.size) true true).toList = srtE d.toList := by
    unfold srtE
    simp
  rw [e] at r1
  exact r1
theorem sort_any {base : Nat} {l : List Ed} {v : Value} {w : World} (h : w.ownsRow base 73 3 v l.length (edC l)) (hd : l.length < 4611686018427387904) (hbase : base ≤ w.heap.size) :
    Calls Try.prog 69 #[v, .func (.func 70) #[] #[]] w fun e w' =>
      e = .returned (.tuple #[]) ∧ w'.ownsRow base 73 3 v l.length (edC (srtE l)) ∧ Below base w w' := by
  rcases h.2 with ⟨rfl, h0⟩ | ⟨g, cap', cur, rfl, _⟩
  · have hl : l = [] := List.eq_nil_of_length_eq_zero h0
    subst hl
    have hcon := AnyF.slices_SortFunc_none Try.sort69 none 0 (.func (.func 70) #[] #[]) w
    change Calls Try.prog 69 _ _ _ at hcon
    refine hcon.mono ?_
    rintro e w' ⟨rfl, rfl⟩
    have : srtE [] = [] := List.eq_nil_of_length_eq_zero (srt_ok []).2.1
    rw [this]
    exact ⟨rfl, h, .refl _ _⟩
  · have := sort_walk (d := l.toArray) (base := base) (blk := g) (cap := cap') (w := w) (by simpa using h) (by simpa using hd) hbase
    simpa using this
def RowAt (w : World) (p : Option Addr) (L : List Sp) : Prop := ∀ (j : Nat) (h : j < L.length), ∃ b off, p = some ⟨b, off, none⟩ ∧ b < w.heap.size ∧ w.cell? ⟨b, off + j * 2, none⟩ = some (.int .i64 (L[j]).1) ∧ w.cell? ⟨b, off + j * 2 + 1, none⟩ = some (.int .i64 (L[j]).2)
def eds (S : Nat → List Sp) : Nat → List Ed
  | 0 => []
  | k + 1 => eds S k ++ edOf (k : Int) (S k)
theorem edOf_append (k : Int) : ∀ (l m : List Sp), edOf k (l ++ m) = edOf k l ++ edOf k m
  | [], m => rfl
  | s :: l, m => by
    show (if s.1 < s.2 then [(s.1, 1, k), (s.2, -1, k)] else []) ++ edOf k (l ++ m) = ((if s.1 < s.2 then [(s.1, 1, k), (s.2, -1, k)] else []) ++ edOf k l) ++ edOf k m
    rw [edOf_append k l m, List.append_assoc]
theorem edOf_len (k : Int) : ∀ (l : List Sp), (edOf k l).length ≤ 2 * l.length
  | [] => Nat.le_refl _
  | s :: l => by
    show ((if s.1 < s.2 then [(s.1, 1, k), (s.2, -1, k)] else []) ++ edOf k l).length ≤ _
    have := edOf_len k l
    rw [List.length_append, List.length_cons]
    split <;> simp <;> omega
theorem edOf_take (k : Int) (l : List Sp) (j : Nat) (h : j < l.length) : edOf k (l.take (j + 1)) = edOf k (l.take j) ++ (if (l[j]).1 < (l[j]).2 then [((l[j]).1, 1, k), ((l[j]).2, -1, k)] else []) := by
  rw [List.take_succ_eq_append_getElem h, edOf_append]
  congr 1
  show (if (l[j]).1 < (l[j]).2 then [((l[j]).1, 1, k), ((l[j]).2, -1, k)] else []) ++ [] = _
  rw [List.append_nil]
theorem infoE : (Try.prog.info? 73).map (fun i => (i.zero, i.size, i.bytes)) = some (some (.agg #[.int .i64 0, .int .i64 0, .int .i64 0]), 3, 24) := by kernel_rfl
theorem append2 {ops : Array Oper} {rest : List Oper} {o : Oper} {a : Act} {Q : Exit → Act → World → Prop} (hgd : o.guard = none) (s x : Operand)
    (ho : o.op = .call { callee := .builtin .append, args := #[s, x], argTypes := #[70, 70] })
    (base : Nat) (v : Value) (E : List Ed) (W : World) (e1 e2 : Ed) (e' : TypeId) (hs : a.eval s = v) (hown : W.ownsRow base 73 3 v E.length (edC E))
    (B : Nat) (hx : a.eval x = .slice (some ⟨B, 0, none⟩) 2 2) (hWB : W.heap.size = B) (hn : E.length ≤ 4000000) (hbase : base ≤ W.heap.size)
    (h : ∀ v' w', w'.ownsRow base 73 3 v' (E ++ [e1, e2]).length (edC (E ++ [e1, e2])) → Below base W w' → wpList Try.prog ops Q rest (a.put o.dst v') w') :
    wpList Try.prog ops Q (o :: rest) a (W.alloc (.cells #[.int .i64 e1.1, .int .i64 e1.2.1, .int .i64 e1.2.2, .int .i64 e2.1, .int .i64 e2.2.1, .int .i64 e2.2.2] e')) := by
  subst hWB
  obtain ⟨i0, hi, hz0, hz1, hz2⟩ := info_parts infoE
  refine wpList_append_own _ hgd s x 70 ho base 73 i0 _ 3 24 Try.underlying70 hi hz0 hz1 hz2 rfl (by decide) v E.length (edC E) hs (hown.alloc _) ⟨W.heap.size, 0, none⟩ 2 2 (edC [e1, e2]) hx rfl ?_ ?_ ?_ (by omega) (by simp; omega) ?_
  · intro j u hj
    have e : edC [e1, e2] = [.int .i64 e1.1, .int .i64 e1.2.1, .int .i64 e1.2.2, .int .i64 e2.1, .int .i64 e2.2.1, .int .i64 e2.2.2] := rfl
    rw [e] at hj
    match j, hj with
    | 0, hj => simp at hj; subst hj; simp [Addr.add]
    | 1, hj => simp at hj; subst hj; simp [Addr.add]
    | 2, hj => simp at hj; subst hj; simp [Addr.add]
    | 3, hj => simp at hj; subst hj; simp [Addr.add]
    | 4, hj => simp at hj; subst hj; simp [Addr.add]
    | 5, hj => simp at hj; subst hj; simp [Addr.add]
  · intro u hu
    have e : edC [e1, e2] = [.int .i64 e1.1, .int .i64 e1.2.1, .int .i64 e1.2.2, .int .i64 e2.1, .int .i64 e2.2.1, .int .i64 e2.2.2] := rfl
    rw [e] at hu
    simp only [List.mem_cons, List.mem_nil_iff, or_false] at hu
    rcases hu with rfl | rfl | rfl | rfl | rfl | rfl <;> rfl
  · unfold maxLen; omega
  · intro v' w' h2 h3 _
    refine h v' w' ?_ ?_
    · rw [edC_append, List.length_append]; exact h2
    · refine ((Below.refl base W).alloc hbase _).grown h3 (by simp; omega) ?_
      intro k hk
      exact (hown.lt k hk).1
set_option maxRecDepth 100000 in
set_option maxHeartbeats 2000000 in
theorem edges_walk (S : Nat → List Sp) (g o c : Nat) (w : World) (hS : ∀ k, k < 2 → (S k).length ≤ 1000000) (hs : ∀ k, k < 2 → ∃ p cp, w.cell? ⟨g, o + k, none⟩ = some (.slice p (S k).length cp) ∧ RowAt w p (S k)) (hg : g < w.heap.size) :
    Calls Try.prog 64 #[.slice (some ⟨g, o, none⟩) 2 c] w fun e w' => ∃ v, e = .returned v ∧ w'.ownsRow w.heap.size 73 3 v (eds S 2).length (edC (srtE (eds S 2))) ∧ Below w.heap.size w w' := by
  go_enter Try.func64, Try.ntmps64
  go_wp2
  go_loopw [10, 3] (fun i r wr => ∃ k : Nat, k ≤ 2 ∧ i = .int .i64 k ∧ wr.ownsRow w.heap.size 73 3 r (eds S k).length (edC (eds S k)) ∧ Below w.heap.size w wr)
    (fun i _ _ => 2 - (intOf i).toNat)
  case atStart => exact ⟨0, Nat.zero_le _, rfl, World.ownsRow_nil _ _ _ _, Below.refl _ _⟩
  case round =>
    obtain ⟨k, hk, rfl, hrow, hB⟩ := hrel
    by_cases hlt : k < 2
    · obtain ⟨p, cp, hcell, hat⟩ := hs k hlt
      have hlen := hS k hlt
      obtain ⟨L, hL⟩ : ∃ L, S k = L := ⟨_, rfl⟩
      rw [hL] at hcell hat hlen
      have hck := (hB.cell hg).trans hcell
      go_wp2
      rw [show decide ((k : Int) < 2) = true from decide_eq_true (by omega)]
      go_loopw [17, 3] (fun i r wq => ∃ j : Nat, j ≤ L.length ∧ i = .int .i64 j ∧ wq.ownsRow w.heap.size 73 3 r (eds S k ++ edOf k (L.take j)).length (edC (eds S k ++ edOf k (L.take j))) ∧ Below w.heap.size w wq)
        (fun i _ _ => L.length - (intOf i).toNat)
      case atStart => exact ⟨0, Nat.zero_le _, rfl, by rw [List.take_zero]; show World.ownsRow _ _ _ _ _ (eds S k ++ []).length (edC (eds S k ++ [])); rw [List.append_nil]; exact hrow, hB⟩
      case round =>
        clear hrow hB hck
        obtain ⟨j, hj, rfl, hrow, hB⟩ := hrel
        by_cases hjl : j < L.length
        · obtain ⟨b, off, rfl, hb, hc0, hc1⟩ := hat j hjl
          have htk := edOf_take k L j hjl
          obtain ⟨x, hx⟩ : ∃ x, (L[j]).1 = x := ⟨_, rfl⟩
          obtain ⟨y, hy⟩ : ∃ y, (L[j]).2 = y := ⟨_, rfl⟩
          rw [hx, hy] at htk
          rw [hx] at hc0
          rw [hy] at hc1
          have c0 := (hB.cell hb).trans hc0
          have c1 := (hB.cell hb).trans hc1
          obtain ⟨E, hE⟩ : ∃ E, eds S k ++ edOf k (L.take j) = E := ⟨_, rfl⟩
          have hEn : E.length ≤ 4000000 := by
            have h2 := edOf_len k (L.take j)
            have h3 : (L.take j).length ≤ L.length := by rw [List.length_take]; omega
            have h1 : (eds S k).length ≤ 2000000 := by
              match k, hlt with
              | 0, _ => exact Nat.zero_le _
              | 1, _ =>
                have := edOf_len 0 (S 0)
                have := hS 0 (by omega)
                show ([] ++ edOf 0 (S 0)).length ≤ _
                rw [List.nil_append]; omega
            rw [← hE, List.length_append]
            omega
          have hnext : eds S k ++ edOf k (L.take (j + 1)) = E ++ (if x < y then [(x, 1, (k : Int)), (y, -1, (k : Int))] else []) := by rw [htk, ← List.append_assoc, hE]
          rw [hE] at hrow
          clear hc0 hc1 hx hy htk hE hat hs
          by_cases hxy : x < y
          · go_wp2_with (first
              | (go_at_call 49; refine (right_walk _ _ _).mono ?_; rintro e w' ⟨rfl, rfl⟩)
              | (at_builtin; go_loud (refine append2 rfl _ _ rfl w.heap.size _ E _ (x, 1, (k : Int)) (y, -1, (k : Int)) _ rfl ((hrow.alloc _).alloc _) _ rfl (by simp) hEn (by have := hB.size; simp; omega) ?_))
              | go_in)
            intro v1 w1 h1 hB1
            have hB2 : Below w.heap.size w w1 := (((hB.alloc hB.size _).alloc (by have := hB.size; simp; omega) _).trans hB1)
            rw [if_pos hxy] at hnext
            have h2 : w1.ownsRow w.heap.size 73 3 v1 (eds S k ++ edOf k (L.take (j + 1))).length (edC (eds S k ++ edOf k (L.take (j + 1)))) := by
              rw [hnext, List.length_append]; exact h1
            clear hrow hB hB1 hnext h1
            go_wp2
            exact ⟨⟨j + 1, by omega, by go_num, h2, hB2⟩, by simp [intOf]; omega⟩
          · rw [if_neg hxy, List.append_nil] at hnext
            rw [← hnext] at hrow
            have hr2 := (hrow.alloc (.cells #[.int .i64 x, .int .i64 y] 24)).alloc (.cells #[.int .i64 x, .int .i64 y] 24)
            have hB2 : Below w.heap.size w ((wr.alloc (.cells #[.int .i64 x, .int .i64 y] 24)).alloc (.cells #[.int .i64 x, .int .i64 y] 24)) := (hB.alloc hB.size _).alloc (by have := hB.size; simp; omega) _
            go_wp2_with (first
              | (go_at_call 49; refine (right_walk _ _ _).mono ?_; rintro e w' ⟨rfl, rfl⟩)
              | go_in)
            exact ⟨⟨j + 1, by omega, by go_num, hr2, hB2⟩, by simp [intOf]; omega⟩
        · have hjL : j = L.length := by omega
          rw [hjL, List.take_of_length_le (Nat.le_refl _)] at hrow
          have hnext : eds S (k + 1) = eds S k ++ edOf k L := by show eds S k ++ edOf k (S k) = _; rw [hL]
          rw [← hnext] at hrow
          clear hnext hs hat
          go_wp2
          exact ⟨⟨k + 1, by omega, by go_num, hrow, hB⟩, by simp [intOf]; omega⟩
    · have hk2 : k = 2 := by omega
      subst hk2
      have hEn : (eds S 2).length < 4611686018427387904 := by
        have e : eds S 2 = edOf 0 (S 0) ++ edOf 1 (S 1) := rfl
        have h0 := edOf_len 0 (S 0)
        have h1 := edOf_len 1 (S 1)
        have k0 := hS 0 (by omega)
        have k1 := hS 1 (by omega)
        rw [e, List.length_append]
        omega
      have hsort := sort_any hrow hEn hB.size
      clear hs
      go_wp2_with (go_at_call 69; refine hsort.mono ?_; rintro e w1 ⟨rfl, h1, h2⟩)
      go_ret
      exact ⟨_, rfl, h1, hB.trans h2⟩
end Go.Proofs.Ytjobobdijjppkaa

set_option linter.unusedVariables false
set_option linter.unusedSimpArgs false
set_option linter.unusedSectionVars false
namespace Nt.Ev.Ytjobobdijjppkaa.Sp
open Go Go.RowKit Nt Nt.Num Nt.Sps Go.Proofs.Ytjobobdijjppkaa
theorem sE_ok : EOk sE := ⟨by kernel_rfl, by kernel_rfl⟩
theorem sS_ok : SOk sE sS := SOk.nil
theorem bool_ev {b c : Bool} (h : b = true ↔ c = true) : some (V.bool b) = some (V.bool c) := by rw [Bool.eq_iff_iff.2 h]
theorem pRight_ev (a b : Int) : Contract sE 49 [.agg [.int .i64 a, .int .i64 b]] (.bool (ilt a b)) := by
  refine contract_of_body sE_ok sS_ok 5 2 ?_
  rw [pRight_top]
theorem pRight10_ev (a b : Int) : Contract sE 50 [.agg [.int .i64 a, .int .i64 b]] (.bool (ilt a b)) := by
  refine contract_of_body sE_ok sS_ok 5 2 ?_
  rw [pRight10_top]
theorem pHas_ev (a b t : Int) : Contract sE 28 [.agg [.int .i64 a, .int .i64 b], .int .i64 t] (.bool (band (ile a t) (ilt t b))) := by
  refine contract_of_body sE_ok sS_ok 5 2 ?_
  rw [pHas_top]
  cases ile a t <;> rfl
theorem pHas10_ev (a b t : Int) : Contract sE 44 [.agg [.int .i64 a, .int .i64 b], .int .i64 t] (.bool (band (ile a t) (ilt t b))) := by
  refine contract_of_body sE_ok sS_ok 5 2 ?_
  rw [pHas10_top]
  cases ile a t <;> rfl
theorem meB_iff (a b c d : Int) : meB a b c d = true ↔ a < b ∧ c < d ∧ a < d ∧ c < b := meetB_iff
theorem toB_iff (a b c d : Int) : toB a b c d = true ↔ a < b ∧ c < d ∧ (b = c ∨ d = a) := by
  unfold toB touchB
  rw [Bool.and_eq_true, Bool.and_eq_true, Bool.or_eq_true, decide_eq_true_eq, decide_eq_true_eq, decide_eq_true_eq, decide_eq_true_eq]
  exact and_assoc
theorem sMeS_ok (a b c d : Int) (hc : true = true) : Contract sE 65 [.agg [.int .i64 a, .int .i64 b], .agg [.int .i64 c, .int .i64 d]] (.bool (meB a b c d)) := by
  refine contract_of_body sE_ok sS_ok 5 3 ?_
  rw [pMeet10_top]
  simp only [sel_if, ilt_iff, ile_iff]
  repeat' split
  all_goals (apply bool_ev; rw [meB_iff]; first | (simp only [true_iff]; omega) | (simp only [ilt_iff]; omega) | (simp only [Bool.false_eq_true, false_iff]; omega))
theorem sToS_ok (a b c d : Int) (hc : true = true) : Contract sE 68 [.agg [.int .i64 a, .int .i64 b], .agg [.int .i64 c, .int .i64 d]] (.bool (toB a b c d)) := by
  refine contract_of_body sE_ok sS_ok 5 3 ?_
  rw [pTouch10_top]
  simp only [sel_if, ilt_iff, ieq_iff]
  repeat' split
  all_goals (apply bool_ev; rw [toB_iff]; first | (simp only [true_iff]; omega) | (simp only [ieq_iff]; omega) | (simp only [Bool.false_eq_true, false_iff]; omega))
theorem sS1_ok : SOk sE sS1 := by
  unfold sS1
  refine SOk.cons (fun args r h => ?_) (SOk.cons (fun args r h => ?_) (SOk.nil))
  · unfold sMeS at h
    split at h
    · simp only [Option.some.injEq, Prod.mk.injEq] at h
      obtain ⟨hc, rfl⟩ := h
      exact sMeS_ok _ _ _ _ rfl
    · cases h
  · unfold sToS at h
    split at h
    · simp only [Option.some.injEq, Prod.mk.injEq] at h
      obtain ⟨hc, rfl⟩ := h
      exact sToS_ok _ _ _ _ rfl
    · cases h
theorem imin_min (a b : Int) : imin a b = min a b := by unfold imin; rfl
theorem imax_max (a b : Int) : imax a b = max a b := by unfold imax; rfl
theorem sBoS_ok_span_Both (a b c d : Int) (hc : true = true) : Contract sE 60 [.agg [.int .i64 a, .int .i64 b], .agg [.int .i64 c, .int .i64 d]] (.tup [.agg [.int .i64 (btA a b c d), .int .i64 (btZ a b c d)], .bool (btB a b c d)]) := by
  refine contract_of_body sE_ok sS_ok 5 3 ?_
  rw [pBoth_top, imin_min, imax_max]
  unfold btA btZ
  by_cases h : btB a b c d = true
  · rw [if_pos h, if_pos h, h]
    have h' := (meB_iff a b c d).1 h
    rw [sel_neg (by rw [← Bool.not_eq_true, bnot_iff, Classical.not_not, ilt_iff]; omega), sel_neg (by rw [← Bool.not_eq_true, bnot_iff, Classical.not_not, ilt_iff]; omega), sel_neg (by rw [← Bool.not_eq_true, bnot_iff, Classical.not_not, ilt_iff]; omega)]
  · rw [if_neg h, if_neg h, Bool.not_eq_true _ |>.mp h]
    have h' : ¬ (a < b ∧ c < d ∧ a < d ∧ c < b) := fun e => h ((meB_iff a b c d).2 e)
    simp only [sel_if, bnot_iff, ilt_iff]
    repeat' split
    all_goals first | rfl | (exfalso; omega)
theorem sBoS_ok (a b c d : Int) (hc : true = true) : Contract sE 55 [.agg [.int .i64 a, .int .i64 b], .agg [.int .i64 c, .int .i64 d]] (.tup [.agg [.int .i64 (btA a b c d), .int .i64 (btZ a b c d)], .bool (btB a b c d)]) := by
  refine contract_of_body sE_ok sS1_ok 5 2 ?_
  rw [pBoth10_top, imin_min, imax_max]
  unfold btA btZ
  have e : btB a b c d = meB a b c d := rfl
  rw [e]
  cases meB a b c d <;> rfl
theorem sJoS_ok (a b c d : Int) (hc : true = true) : Contract sE 63 [.agg [.int .i64 a, .int .i64 b], .agg [.int .i64 c, .int .i64 d]] (.tup [.agg [.int .i64 (joA a b c d), .int .i64 (joZ a b c d)], .bool (joB a b c d)]) := by
  refine contract_of_body sE_ok sS1_ok 5 2 ?_
  rw [pJoin10_top, imin_min, imax_max]
  unfold joA joZ
  have e : joB a b c d = (meB a b c d || toB a b c d) := rfl
  rw [e]
  cases meB a b c d <;> cases toB a b c d <;> rfl
theorem pLess10_ev (a b c d : Int) : ∃ L, Contract sE 57 [.agg [.int .i64 a, .int .i64 b], .agg [.int .i64 c, .int .i64 d]] (.sl 24 [.int .i64, .int .i64] (some L) (lsV a b c d)) := by
  have ok1 : ∀ x : V, okApp [] [x] = true := fun x => by rw [okApp_iff]; simp
  have ok2 : ∀ x y : V, okApp (lcat [] [x]) [y] = true := fun x y => by rw [okApp_iff]; simp [lcat]
  have key : ∀ L, evBd sE (evFn sE sS1 5 2) 5 57 [.agg [.int .i64 a, .int .i64 b], .agg [.int .i64 c, .int .i64 d]] some = some (.sl 24 [.int .i64, .int .i64] (some L) (lsV a b c d)) → Contract sE 57 [.agg [.int .i64 a, .int .i64 b], .agg [.int .i64 c, .int .i64 d]] (.sl 24 [.int .i64, .int .i64] (some L) (lsV a b c d)) :=
    fun L h => contract_of_body sE_ok sS1_ok 5 2 h
  rw [pLess10_top] at key
  unfold lsV less1 at key ⊢
  have e : meetB (a, b) (c, d) = meB a b c d := rfl
  rw [e] at key ⊢
  by_cases h0 : a < b
  · have h0' : (a, b).1 < (a, b).2 := h0
    rw [if_pos h0'] at key ⊢
    rw [sel_neg (by rw [← Bool.not_eq_true, bnot_iff, Classical.not_not, ilt_iff]; exact h0)] at key
    cases hm : meB a b c d with
    | false =>
      rw [hm] at key
      exact ⟨_, key _ rfl⟩
    | true =>
      rw [hm, sel_neg (by rfl)] at key
      rw [if_pos rfl] at key ⊢
      simp only [ok1, ok2, sel_if] at key
      by_cases h1 : a < c <;> by_cases h2 : d < b
      all_goals
        have i1 : ilt a c = decide (a < c) := by rw [Bool.eq_iff_iff, ilt_iff, decide_eq_true_eq]
        have i2 : ilt d b = decide (d < b) := by rw [Bool.eq_iff_iff, ilt_iff, decide_eq_true_eq]
        rw [i1, i2] at key
        simp only [h1, h2, if_true, if_false, decide_true, decide_false, Bool.false_eq_true] at key ⊢
        exact ⟨_, key _ rfl⟩
  · have h0' : ¬ (a, b).1 < (a, b).2 := h0
    rw [if_neg h0'] at key ⊢
    rw [sel_pos (by rw [bnot_iff, ilt_iff]; exact h0)] at key
    exact ⟨_, key _ rfl⟩
end Nt.Ev.Ytjobobdijjppkaa.Sp

set_option linter.unusedVariables false
set_option linter.unusedSimpArgs false
set_option linter.unusedSectionVars false
namespace Nt.Ev.Ytjobobdijjppkaa.Sp
open Go Nt.Num Go.Proofs.Ytjobobdijjppkaa
noncomputable def sRiS : FSpec := fun a => match a with | [.agg [.int .i64 a, .int .i64 b]] => some (true, .bool (ilt a b)) | _ => none
noncomputable def sHaS : FSpec := fun a => match a with | [.agg [.int .i64 a, .int .i64 b], .int .i64 t] => some (true, .bool (band (ile a t) (ilt t b))) | _ => none
noncomputable def sJoS : FSpec := fun a => match a with | [.agg [.int .i64 a, .int .i64 b], .agg [.int .i64 c, .int .i64 d]] => some (true, .tup [.agg [.int .i64 (joA a b c d), .int .i64 (joZ a b c d)], .bool (joB a b c d)]) | _ => none
noncomputable def sBoS : FSpec := fun a => match a with | [.agg [.int .i64 a, .int .i64 b], .agg [.int .i64 c, .int .i64 d]] => some (true, .tup [.agg [.int .i64 (btA a b c d), .int .i64 (btZ a b c d)], .bool (btB a b c d)]) | _ => none
noncomputable def sLsS : FSpec := fun a => match a with | [.agg [.int .i64 a, .int .i64 b], .agg [.int .i64 c, .int .i64 d]] => some (true, .sl 24 [.int .i64, .int .i64] none (lsV a b c d)) | _ => none
noncomputable def sAdS : FSpec := fun a => match a with | [.int .i64 a, .int .i64 b] => some (band (fI a) (fI b), .tup [.int .i64 (adI a b), .int .i64 (adE a b)]) | _ => none
noncomputable def sSuS : FSpec := fun a => match a with | [.int .i64 a, .int .i64 b] => some (band (fI a) (fI b), .tup [.int .i64 (suI a b), .int .i64 (suE a b)]) | _ => none
noncomputable def sS2 : List (Nat × FSpec) := (49, sRiS) :: (50, sRiS) :: (28, sHaS) :: (44, sHaS) :: (63, sJoS) :: (55, sBoS) :: (60, sBoS) :: (57, sLsS) :: []
noncomputable def sPuS : FSpec := fun a => match a with | [.sl 24 [.int .i64, .int .i64] o xs, .agg [.int .i64 a, .int .i64 b]] => some (ile (llen xs) 1000000, .sl 24 [.int .i64, .int .i64] none (puV xs a b)) | _ => none
noncomputable def sS3 : List (Nat × FSpec) := (51, sPuS) :: sS2
noncomputable def sOfS : FSpec := fun a => match a with | [.sl 24 [.int .i64, .int .i64] o xs] => some (ile (llen xs) 100000, .sl 24 [.int .i64, .int .i64] none (ofV xs)) | _ => none
noncomputable def sS4 : List (Nat × FSpec) := (18, sOfS) :: sS3
noncomputable def sLnS : FSpec := fun a => match a with | [.agg [.int .i64 a, .int .i64 b]] => some (band (fI a) (fI b), .tup [.int .i64 (ln10 a b), .int .i64 (le10 a b)]) | _ => none
noncomputable def sS6 : List (Nat × FSpec) := (61, sSuS) :: (62, sSuS) :: (49, sRiS) :: (50, sRiS) :: []
noncomputable def pPut_L0 (F : Nat) (ns : List Nat) (n : Nat) (x0 : List V) (x1_0 : Int) (x1_1 : Int) (x5 : List V) (x16 : List V) (x17 : Int) (x18 : Int) (b3_0 : Int) (b3_1 : Int) (K : V → Option V) : Option V :=
 loopAt sE sS2 F 2 51 [1, 1, 1, 0, 1, 0] ns K n (mkSt 61 [(0, V.sl 24 [(Kd.int .i64), (Kd.int .i64)] none x0), (1, V.agg [V.int .i64 x1_0, V.int .i64 x1_1]), (3, (V.box 3 0)), (4, V.sl 24 [(Kd.int .i64), (Kd.int .i64)] (some 4) []), (5, V.sl 24 [(Kd.int .i64), (Kd.int .i64)] (some 5) x5), (11, V.tup []), (16, V.sl 24 [(Kd.int .i64), (Kd.int .i64)] none x16), (17, V.int .i64 x17), (18, V.int .i64 x18), (44, V.tup []), (45, V.tup []), (46, V.tup [])] [(3, [V.int .i64 b3_0, V.int .i64 b3_1])])
noncomputable def pPut_L1 (F : Nat) (ns : List Nat) (n : Nat) (x0 : List V) (x1_0 : Int) (x1_1 : Int) (x5 : List V) (x16 : List V) (x17 : Int) (x18 : Int) (x44 : List V) (x45 : Int) (x46 : Int) (b3_0 : Int) (b3_1 : Int) (K : V → Option V) : Option V :=
 loopAt sE sS2 F 2 51 [1, 1, 1, 1, 1, 0, 1, 0] ns K n (mkSt 61 [(0, V.sl 24 [(Kd.int .i64), (Kd.int .i64)] none x0), (1, V.agg [V.int .i64 x1_0, V.int .i64 x1_1]), (3, (V.box 3 0)), (4, V.sl 24 [(Kd.int .i64), (Kd.int .i64)] (some 4) []), (5, V.sl 24 [(Kd.int .i64), (Kd.int .i64)] (some 5) x5), (16, V.sl 24 [(Kd.int .i64), (Kd.int .i64)] none x16), (17, V.int .i64 x17), (18, V.int .i64 x18), (44, V.sl 24 [(Kd.int .i64), (Kd.int .i64)] none x44), (45, V.int .i64 x45), (46, V.int .i64 x46)] [(3, [V.int .i64 b3_0, V.int .i64 b3_1])])
set_option maxRecDepth 100000 in
theorem pPut_top (F : Nat) (xs : List V) (a : Int) (b : Int) (K : V → Option V) :
 evBd sE (evFn sE sS2 F 2) F 51 [(V.sl 24 [(Kd.int .i64), (Kd.int .i64)] none xs), (V.agg [(V.int .i64 a), (V.int .i64 b)])] K =
 sel (bnot (ilt a b))
 (K (V.sl 24 [(Kd.int .i64), (Kd.int .i64)] none xs))
 (pPut_L0 F [] F xs a b [] xs (llen xs) 0 a b K) := by kernel_rfl
set_option maxRecDepth 100000 in
theorem pPut_L0_succ (F : Nat) (n : Nat) (x0 : List V) (x1_0 : Int) (x1_1 : Int) (x5 : List V) (x16 : List V) (x17 : Int) (x18 : Int) (b3_0 : Int) (b3_1 : Int) (K : V → Option V) :
 pPut_L0 F [] (n + 1) x0 x1_0 x1_1 x5 x16 x17 x18 b3_0 b3_1 K =
 sel (ilt x18 x17)
 (sel (band (ile 0 x18) (ilt x18 (llen x16)))
 (sel (joB (asInt (acell (lget x16 x18) 0)) (asInt (acell (lget x16 x18) 1)) b3_0 b3_1)
 (pPut_L0 F [] n x0 x1_0 x1_1 x5 x16 x17 (iadd .i64 x18 1) (joA (asInt (acell (lget x16 x18) 0)) (asInt (acell (lget x16 x18) 1)) b3_0 b3_1) (joZ (asInt (acell (lget x16 x18) 0)) (asInt (acell (lget x16 x18) 1)) b3_0 b3_1) K)
 (sel (ilt (asInt (acell (lget x16 x18) 1)) b3_0)
 (sel (okApp x5 [(V.agg [(V.int .i64 (asInt (acell (lget x16 x18) 0))), (V.int .i64 (asInt (acell (lget x16 x18) 1)))])])
 (pPut_L0 F [] n x0 x1_0 x1_1 (lcat x5 [(V.agg [(V.int .i64 (asInt (acell (lget x16 x18) 0))), (V.int .i64 (asInt (acell (lget x16 x18) 1)))])]) x16 x17 (iadd .i64 x18 1) b3_0 b3_1 K)
 (none))
 (pPut_L0 F [] n x0 x1_0 x1_1 x5 x16 x17 (iadd .i64 x18 1) b3_0 b3_1 K)))
 (none))
 (sel (okApp x5 [(V.agg [(V.int .i64 b3_0), (V.int .i64 b3_1)])])
 (pPut_L1 F [] F x0 x1_0 x1_1 (lcat x5 [(V.agg [(V.int .i64 b3_0), (V.int .i64 b3_1)])]) x16 x17 x18 x0 (llen x0) 0 b3_0 b3_1 K)
 (none)) := by kernel_rfl
set_option maxRecDepth 100000 in
theorem pPut_L1_succ (F : Nat) (n : Nat) (x0 : List V) (x1_0 : Int) (x1_1 : Int) (x5 : List V) (x16 : List V) (x17 : Int) (x18 : Int) (x44 : List V) (x45 : Int) (x46 : Int) (b3_0 : Int) (b3_1 : Int) (K : V → Option V) :
 pPut_L1 F [] (n + 1) x0 x1_0 x1_1 x5 x16 x17 x18 x44 x45 x46 b3_0 b3_1 K =
 sel (ilt x46 x45)
 (sel (band (ile 0 x46) (ilt x46 (llen x44)))
 (sel (ilt b3_1 (asInt (acell (lget x44 x46) 0)))
 (sel (okApp x5 [(V.agg [(V.int .i64 (asInt (acell (lget x44 x46) 0))), (V.int .i64 (asInt (acell (lget x44 x46) 1)))])])
 (pPut_L1 F [] n x0 x1_0 x1_1 (lcat x5 [(V.agg [(V.int .i64 (asInt (acell (lget x44 x46) 0))), (V.int .i64 (asInt (acell (lget x44 x46) 1)))])]) x16 x17 x18 x44 x45 (iadd .i64 x46 1) b3_0 b3_1 K)
 (none))
 (pPut_L1 F [] n x0 x1_0 x1_1 x5 x16 x17 x18 x44 x45 (iadd .i64 x46 1) b3_0 b3_1 K))
 (none))
 (K (V.sl 24 [(Kd.int .i64), (Kd.int .i64)] (some 5) x5)) := by kernel_rfl
noncomputable def pOf11_L0 (F : Nat) (ns : List Nat) (n : Nat) (x0 : List V) (x3 : List V) (x6 : List V) (x7 : Int) (x8 : Int) (K : V → Option V) : Option V :=
 loopAt sE sS3 F 2 18 [1, 1, 0, 1, 0] ns K n (mkSt 17 [(0, V.sl 24 [(Kd.int .i64), (Kd.int .i64)] none x0), (2, V.sl 24 [(Kd.int .i64), (Kd.int .i64)] (some 2) []), (3, V.sl 24 [(Kd.int .i64), (Kd.int .i64)] (some 3) x3), (6, V.sl 24 [(Kd.int .i64), (Kd.int .i64)] none x6), (7, V.int .i64 x7), (8, V.int .i64 x8)] [])
noncomputable def pOf11_L1 (F : Nat) (ns : List Nat) (n : Nat) (x0 : List V) (x3 : List V) (x6 : List V) (x7 : Int) (x8 : Int) (K : V → Option V) : Option V :=
 loopAt sE sS3 F 2 18 [1, 1, 0, 1, 0] ns K n (mkSt 17 [(0, V.sl 24 [(Kd.int .i64), (Kd.int .i64)] none x0), (2, V.sl 24 [(Kd.int .i64), (Kd.int .i64)] (some 2) []), (3, V.sl 24 [(Kd.int .i64), (Kd.int .i64)] none x3), (6, V.sl 24 [(Kd.int .i64), (Kd.int .i64)] none x6), (7, V.int .i64 x7), (8, V.int .i64 x8)] [])
set_option maxRecDepth 100000 in
theorem pOf11_top (F : Nat) (xs : List V) (K : V → Option V) :
 evBd sE (evFn sE sS3 F 2) F 18 [(V.sl 24 [(Kd.int .i64), (Kd.int .i64)] none xs)] K =
 pOf11_L0 F [] F xs [] xs (llen xs) 0 K := by kernel_rfl
set_option maxRecDepth 100000 in
theorem pOf11_L0_succ (F : Nat) (n : Nat) (x0 : List V) (x3 : List V) (x6 : List V) (x7 : Int) (x8 : Int) (K : V → Option V) :
 pOf11_L0 F [] (n + 1) x0 x3 x6 x7 x8 K =
 sel (ilt x8 x7)
 (sel (band (ile 0 x8) (ilt x8 (llen x6)))
 (sel (ile (llen x3) 1000000)
 (pOf11_L1 F [] n x0 (puV x3 (asInt (acell (lget x6 x8) 0)) (asInt (acell (lget x6 x8) 1))) x6 x7 (iadd .i64 x8 1) K)
 (none))
 (none))
 (K (V.sl 24 [(Kd.int .i64), (Kd.int .i64)] (some 3) x3)) := by kernel_rfl
set_option maxRecDepth 100000 in
theorem pOf11_L1_succ (F : Nat) (n : Nat) (x0 : List V) (x3 : List V) (x6 : List V) (x7 : Int) (x8 : Int) (K : V → Option V) :
 pOf11_L1 F [] (n + 1) x0 x3 x6 x7 x8 K =
 sel (ilt x8 x7)
 (sel (band (ile 0 x8) (ilt x8 (llen x6)))
 (sel (ile (llen x3) 1000000)
 (pOf11_L1 F [] n x0 (puV x3 (asInt (acell (lget x6 x8) 0)) (asInt (acell (lget x6 x8) 1))) x6 x7 (iadd .i64 x8 1) K)
 (none))
 (none))
 (K (V.sl 24 [(Kd.int .i64), (Kd.int .i64)] none x3)) := by kernel_rfl
set_option maxRecDepth 100000 in
theorem pOr11_top (F : Nat) (xs : List V) (ys : List V) (K : V → Option V) :
 evBd sE (evFn sE sS4 F 2) F 20 [(V.sl 24 [(Kd.int .i64), (Kd.int .i64)] none xs), (V.sl 24 [(Kd.int .i64), (Kd.int .i64)] none ys)] K =
 sel (okApp [] xs)
 (sel (okApp (lcat [] xs) ys)
 (sel (ile (llen (lcat (lcat [] xs) ys)) 100000)
 (K (V.sl 24 [(Kd.int .i64), (Kd.int .i64)] none (ofV (lcat (lcat [] xs) ys))))
 (none))
 (none))
 (none) := by kernel_rfl
noncomputable def pAnd11_L0 (F : Nat) (ns : List Nat) (n : Nat) (x0 : List V) (x1 : List V) (x5 : List V) (x12 : List V) (x13 : Int) (x14 : Int) (K : V → Option V) : Option V :=
 loopAt sE sS4 F 2 22 [1, 1, 0, 1, 0] ns K n (mkSt 39 [(0, V.sl 24 [(Kd.int .i64), (Kd.int .i64)] none x0), (1, V.sl 24 [(Kd.int .i64), (Kd.int .i64)] none x1), (4, V.sl 24 [(Kd.int .i64), (Kd.int .i64)] (some 4) []), (5, V.sl 24 [(Kd.int .i64), (Kd.int .i64)] (some 5) x5), (12, V.sl 24 [(Kd.int .i64), (Kd.int .i64)] none x12), (13, V.int .i64 x13), (14, V.int .i64 x14)] [])
noncomputable def pAnd11_L1 (F : Nat) (ns : List Nat) (n : Nat) (x0 : List V) (x1 : List V) (x5 : List V) (x12 : List V) (x13 : Int) (x14 : Int) (x18 : List V) (x19 : Int) (x20 : Int) (b7_0 : Int) (b7_1 : Int) (K : V → Option V) : Option V :=
 loopAt sE sS4 F 2 22 [1, 1, 0, 1, 0, 0, 1, 1, 0, 0, 1, 1, 0] ns K n (mkSt 39 [(0, V.sl 24 [(Kd.int .i64), (Kd.int .i64)] none x0), (1, V.sl 24 [(Kd.int .i64), (Kd.int .i64)] none x1), (4, V.sl 24 [(Kd.int .i64), (Kd.int .i64)] (some 4) []), (5, V.sl 24 [(Kd.int .i64), (Kd.int .i64)] (some 5) x5), (7, (V.box 7 0)), (12, V.sl 24 [(Kd.int .i64), (Kd.int .i64)] none x12), (13, V.int .i64 x13), (14, V.int .i64 x14), (18, V.sl 24 [(Kd.int .i64), (Kd.int .i64)] none x18), (19, V.int .i64 x19), (20, V.int .i64 x20)] [(7, [V.int .i64 b7_0, V.int .i64 b7_1])])
set_option maxRecDepth 100000 in
theorem pAnd11_top (F : Nat) (xs : List V) (ys : List V) (K : V → Option V) :
 evBd sE (evFn sE sS4 F 2) F 22 [(V.sl 24 [(Kd.int .i64), (Kd.int .i64)] none xs), (V.sl 24 [(Kd.int .i64), (Kd.int .i64)] none ys)] K =
 pAnd11_L0 F [] F xs ys [] xs (llen xs) 0 K := by kernel_rfl
set_option maxRecDepth 100000 in
theorem pAnd11_L0_succ (F : Nat) (n : Nat) (x0 : List V) (x1 : List V) (x5 : List V) (x12 : List V) (x13 : Int) (x14 : Int) (K : V → Option V) :
 pAnd11_L0 F [] (n + 1) x0 x1 x5 x12 x13 x14 K =
 sel (ilt x14 x13)
 (sel (band (ile 0 x14) (ilt x14 (llen x12)))
 (pAnd11_L1 F [n] F x0 x1 x5 x12 x13 x14 x1 (llen x1) 0 (asInt (acell (lget x12 x14) 0)) (asInt (acell (lget x12 x14) 1)) K)
 (none))
 (sel (ile (llen x5) 100000)
 (K (V.sl 24 [(Kd.int .i64), (Kd.int .i64)] none (ofV x5)))
 (none)) := by kernel_rfl
set_option maxRecDepth 100000 in
theorem pAnd11_L1_succ (F : Nat) (m0 : Nat) (n : Nat) (x0 : List V) (x1 : List V) (x5 : List V) (x12 : List V) (x13 : Int) (x14 : Int) (x18 : List V) (x19 : Int) (x20 : Int) (b7_0 : Int) (b7_1 : Int) (K : V → Option V) :
 pAnd11_L1 F [m0] (n + 1) x0 x1 x5 x12 x13 x14 x18 x19 x20 b7_0 b7_1 K =
 sel (ilt x20 x19)
 (sel (band (ile 0 x20) (ilt x20 (llen x18)))
 (sel (btB b7_0 b7_1 (asInt (acell (lget x18 x20) 0)) (asInt (acell (lget x18 x20) 1)))
 (sel (okApp x5 [(V.agg [(V.int .i64 (btA b7_0 b7_1 (asInt (acell (lget x18 x20) 0)) (asInt (acell (lget x18 x20) 1)))), (V.int .i64 (btZ b7_0 b7_1 (asInt (acell (lget x18 x20) 0)) (asInt (acell (lget x18 x20) 1))))])])
 (pAnd11_L1 F [m0] n x0 x1 (lcat x5 [(V.agg [(V.int .i64 (btA b7_0 b7_1 (asInt (acell (lget x18 x20) 0)) (asInt (acell (lget x18 x20) 1)))), (V.int .i64 (btZ b7_0 b7_1 (asInt (acell (lget x18 x20) 0)) (asInt (acell (lget x18 x20) 1))))])]) x12 x13 x14 x18 x19 (iadd .i64 x20 1) b7_0 b7_1 K)
 (none))
 (pAnd11_L1 F [m0] n x0 x1 x5 x12 x13 x14 x18 x19 (iadd .i64 x20 1) b7_0 b7_1 K))
 (none))
 (pAnd11_L0 F [] m0 x0 x1 x5 x12 x13 (iadd .i64 x14 1) K) := by kernel_rfl
noncomputable def pLess11_L0 (F : Nat) (ns : List Nat) (n : Nat) (x0 : List V) (x1 : List V) (x5 : List V) (x13 : List V) (x14 : Int) (x15 : Int) (K : V → Option V) : Option V :=
 loopAt sE sS4 F 2 24 [1, 1, 0, 1, 0] ns K n (mkSt 34 [(0, V.sl 24 [(Kd.int .i64), (Kd.int .i64)] none x0), (1, V.sl 24 [(Kd.int .i64), (Kd.int .i64)] none x1), (4, V.sl 24 [(Kd.int .i64), (Kd.int .i64)] (some 4) []), (5, V.sl 24 [(Kd.int .i64), (Kd.int .i64)] none x5), (13, V.sl 24 [(Kd.int .i64), (Kd.int .i64)] none x13), (14, V.int .i64 x14), (15, V.int .i64 x15)] [])
noncomputable def pLess11_L1 (F : Nat) (ns : List Nat) (n : Nat) (x0 : List V) (x1 : List V) (x5 : List V) (x8 : List V) (x13 : List V) (x14 : Int) (x15 : Int) (x19 : List V) (x20 : Int) (x21 : Int) (b7_0 : Int) (b7_1 : Int) (K : V → Option V) : Option V :=
 loopAt sE sS4 F 2 24 [1, 1, 0, 1, 0, 0, 1, 1, 0, 0, 1, 1, 0, 1, 0] ns K n (mkSt 34 [(0, V.sl 24 [(Kd.int .i64), (Kd.int .i64)] none x0), (1, V.sl 24 [(Kd.int .i64), (Kd.int .i64)] none x1), (4, V.sl 24 [(Kd.int .i64), (Kd.int .i64)] (some 4) []), (5, V.sl 24 [(Kd.int .i64), (Kd.int .i64)] none x5), (7, (V.box 7 0)), (8, V.sl 24 [(Kd.int .i64), (Kd.int .i64)] (some 8) x8), (13, V.sl 24 [(Kd.int .i64), (Kd.int .i64)] none x13), (14, V.int .i64 x14), (15, V.int .i64 x15), (19, V.sl 24 [(Kd.int .i64), (Kd.int .i64)] none x19), (20, V.int .i64 x20), (21, V.int .i64 x21)] [(7, [V.int .i64 b7_0, V.int .i64 b7_1])])
noncomputable def pLess11_L2 (F : Nat) (ns : List Nat) (n : Nat) (x0 : List V) (x1 : List V) (x5 : List V) (x13 : List V) (x14 : Int) (x15 : Int) (K : V → Option V) : Option V :=
 loopAt sE sS4 F 2 24 [1, 1, 0, 1, 0] ns K n (mkSt 34 [(0, V.sl 24 [(Kd.int .i64), (Kd.int .i64)] none x0), (1, V.sl 24 [(Kd.int .i64), (Kd.int .i64)] none x1), (4, V.sl 24 [(Kd.int .i64), (Kd.int .i64)] (some 4) []), (5, V.sl 24 [(Kd.int .i64), (Kd.int .i64)] (some 5) x5), (13, V.sl 24 [(Kd.int .i64), (Kd.int .i64)] none x13), (14, V.int .i64 x14), (15, V.int .i64 x15)] [])
noncomputable def pLess11_L3 (F : Nat) (ns : List Nat) (n : Nat) (x0 : List V) (x1 : List V) (x5 : List V) (x8 : List V) (x13 : List V) (x14 : Int) (x15 : Int) (x19 : List V) (x20 : Int) (x21 : Int) (b7_0 : Int) (b7_1 : Int) (K : V → Option V) : Option V :=
 loopAt sE sS4 F 2 24 [1, 1, 0, 1, 0, 0, 1, 1, 0, 0, 1, 1, 0, 1, 0] ns K n (mkSt 34 [(0, V.sl 24 [(Kd.int .i64), (Kd.int .i64)] none x0), (1, V.sl 24 [(Kd.int .i64), (Kd.int .i64)] none x1), (4, V.sl 24 [(Kd.int .i64), (Kd.int .i64)] (some 4) []), (5, V.sl 24 [(Kd.int .i64), (Kd.int .i64)] (some 5) x5), (7, (V.box 7 0)), (8, V.sl 24 [(Kd.int .i64), (Kd.int .i64)] (some 8) x8), (13, V.sl 24 [(Kd.int .i64), (Kd.int .i64)] none x13), (14, V.int .i64 x14), (15, V.int .i64 x15), (19, V.sl 24 [(Kd.int .i64), (Kd.int .i64)] (some 5) x19), (20, V.int .i64 x20), (21, V.int .i64 x21)] [(7, [V.int .i64 b7_0, V.int .i64 b7_1])])
set_option maxRecDepth 100000 in
theorem pLess11_top (F : Nat) (xs : List V) (ys : List V) (K : V → Option V) :
 evBd sE (evFn sE sS4 F 2) F 24 [(V.sl 24 [(Kd.int .i64), (Kd.int .i64)] none xs), (V.sl 24 [(Kd.int .i64), (Kd.int .i64)] none ys)] K =
 sel (ile (llen xs) 100000)
 (pLess11_L0 F [] F xs ys (ofV xs) ys (llen ys) 0 K)
 (none) := by kernel_rfl
set_option maxRecDepth 100000 in
theorem pLess11_L0_succ (F : Nat) (n : Nat) (x0 : List V) (x1 : List V) (x5 : List V) (x13 : List V) (x14 : Int) (x15 : Int) (K : V → Option V) :
 pLess11_L0 F [] (n + 1) x0 x1 x5 x13 x14 x15 K =
 sel (ilt x15 x14)
 (sel (band (ile 0 x15) (ilt x15 (llen x13)))
 (pLess11_L1 F [n] F x0 x1 x5 [] x13 x14 x15 x5 (llen x5) 0 (asInt (acell (lget x13 x15) 0)) (asInt (acell (lget x13 x15) 1)) K)
 (none))
 (K (V.sl 24 [(Kd.int .i64), (Kd.int .i64)] none x5)) := by kernel_rfl
set_option maxRecDepth 100000 in
theorem pLess11_L1_succ (F : Nat) (m0 : Nat) (n : Nat) (x0 : List V) (x1 : List V) (x5 : List V) (x8 : List V) (x13 : List V) (x14 : Int) (x15 : Int) (x19 : List V) (x20 : Int) (x21 : Int) (b7_0 : Int) (b7_1 : Int) (K : V → Option V) :
 pLess11_L1 F [m0] (n + 1) x0 x1 x5 x8 x13 x14 x15 x19 x20 x21 b7_0 b7_1 K =
 sel (ilt x21 x20)
 (sel (band (ile 0 x21) (ilt x21 (llen x19)))
 (sel (okApp x8 (lsV (asInt (acell (lget x19 x21) 0)) (asInt (acell (lget x19 x21) 1)) b7_0 b7_1))
 (pLess11_L1 F [m0] n x0 x1 x5 (lcat x8 (lsV (asInt (acell (lget x19 x21) 0)) (asInt (acell (lget x19 x21) 1)) b7_0 b7_1)) x13 x14 x15 x19 x20 (iadd .i64 x21 1) b7_0 b7_1 K)
 (none))
 (none))
 (pLess11_L2 F [] m0 x0 x1 x8 x13 x14 (iadd .i64 x15 1) K) := by kernel_rfl
set_option maxRecDepth 100000 in
theorem pLess11_L2_succ (F : Nat) (n : Nat) (x0 : List V) (x1 : List V) (x5 : List V) (x13 : List V) (x14 : Int) (x15 : Int) (K : V → Option V) :
 pLess11_L2 F [] (n + 1) x0 x1 x5 x13 x14 x15 K =
 sel (ilt x15 x14)
 (sel (band (ile 0 x15) (ilt x15 (llen x13)))
 (pLess11_L3 F [n] F x0 x1 x5 [] x13 x14 x15 x5 (llen x5) 0 (asInt (acell (lget x13 x15) 0)) (asInt (acell (lget x13 x15) 1)) K)
 (none))
 (K (V.sl 24 [(Kd.int .i64), (Kd.int .i64)] (some 5) x5)) := by kernel_rfl
set_option maxRecDepth 100000 in
theorem pLess11_L3_succ (F : Nat) (m0 : Nat) (n : Nat) (x0 : List V) (x1 : List V) (x5 : List V) (x8 : List V) (x13 : List V) (x14 : Int) (x15 : Int) (x19 : List V) (x20 : Int) (x21 : Int) (b7_0 : Int) (b7_1 : Int) (K : V → Option V) :
 pLess11_L3 F [m0] (n + 1) x0 x1 x5 x8 x13 x14 x15 x19 x20 x21 b7_0 b7_1 K =
 sel (ilt x21 x20)
 (sel (band (ile 0 x21) (ilt x21 (llen x19)))
 (sel (okApp x8 (lsV (asInt (acell (lget x19 x21) 0)) (asInt (acell (lget x19 x21) 1)) b7_0 b7_1))
 (pLess11_L3 F [m0] n x0 x1 x5 (lcat x8 (lsV (asInt (acell (lget x19 x21) 0)) (asInt (acell (lget x19 x21) 1)) b7_0 b7_1)) x13 x14 x15 x19 x20 (iadd .i64 x21 1) b7_0 b7_1 K)
 (none))
 (none))
 (pLess11_L2 F [] m0 x0 x1 x8 x13 x14 (iadd .i64 x15 1) K) := by kernel_rfl
set_option maxRecDepth 100000 in
theorem pLen_top (F : Nat) (a : Int) (b : Int) (K : V → Option V) :
 evBd sE (evFn sE sS6 F 2) F 45 [(V.agg [(V.int .i64 a), (V.int .i64 b)])] K =
 sel (bnot (ilt a b))
 (K (V.tup [(V.int .i64 0), (V.int .i64 1)]))
 (sel (band (fI b) (fI a))
 (K (V.tup [(V.int .i64 (suI b a)), (V.int .i64 (suE b a))]))
 (none)) := by kernel_rfl
set_option maxRecDepth 100000 in
theorem pLen10_top (F : Nat) (a : Int) (b : Int) (K : V → Option V) :
 evBd sE (evFn sE sS6 F 2) F 47 [(V.agg [(V.int .i64 a), (V.int .i64 b)])] K =
 sel (bnot (ilt a b))
 (K (V.tup [(V.int .i64 0), (V.int .i64 1)]))
 (sel (band (fI b) (fI a))
 (K (V.tup [(V.int .i64 (suI b a)), (V.int .i64 (suE b a))]))
 (none)) := by kernel_rfl
end Nt.Ev.Ytjobobdijjppkaa.Sp

set_option linter.unusedVariables false
set_option linter.unusedSimpArgs false
set_option linter.unusedSectionVars false
namespace Nt.Ev.Ytjobobdijjppkaa.Sp
open Go Go.RowKit Nt Nt.Num Nt.Sps Go.Proofs.Ytjobobdijjppkaa
abbrev K2 : List Kd := [.int .i64, .int .i64]
theorem contract_drop1 {E : Env} {f : Nat} {args : List V} {e : Nat} {sh : List Kd} {o : Option Nat} {xs : List V} (h : Contract E f args (.sl e sh o xs)) : Contract E f args (.sl e sh none xs) := by
  cases o with
  | none => exact h
  | some L =>
  intro G w vs hG hg hp
  refine (h G w vs hG hg hp).mono ?_
  rintro e' w' ⟨v, G', rfl, hn, h1⟩
  refine ⟨_, G', rfl, hn, ?_⟩
  show rep G' _ _
  refine ownG_rep ?_
  rcases h1.2 with ⟨hu, hx⟩ | ⟨b, cap, cur, l, hv, _, _, hcap, _, _, hG, hl, hE⟩
  · exact .inl ⟨hu, hx⟩
  · exact .inr ⟨b, cap, l, hv, hcap, hG, hl, hE⟩
theorem contract_o1 {E : Env} {f e : Nat} {sh : List Kd} {o : Option Nat} {xs : List V} {r : V} (h : Contract E f [.sl e sh none xs] r) : Contract E f [.sl e sh o xs] r := by
  intro G w vs hG hg hp
  obtain ⟨x, rfl, hx⟩ := PW_one hp
  exact h G w _ hG hg (.cons (by unfold rep at hx ⊢; exact hx) .nil)
theorem contract_o2 {E : Env} {f e : Nat} {sh : List Kd} {o : Option Nat} {xs : List V} {y r : V} (h : Contract E f [.sl e sh none xs, y] r) : Contract E f [.sl e sh o xs, y] r := by
  intro G w vs hG hg hp
  obtain ⟨a, b, rfl, hx, hy⟩ := PW_two hp
  exact h G w _ hG hg (.cons (by unfold rep at hx ⊢; exact hx) (.cons hy .nil))
theorem contract_if {E : Env} {f : Nat} {args : List V} {r : V} {P : Prop} (h1 : ∀ G vs, PW (rep G) args vs → P) (h2 : P → Contract E f args r) : Contract E f args r := fun G w vs hG hg hp => h2 (h1 G vs hp) G w vs hG hg hp
theorem fits_sp {x : V} (h : fitsE K2 x = true) : ∃ a b, x = .agg [.int .i64 a, .int .i64 b] := by
  unfold fitsE at h
  have hl := fitsL_len _ _ h
  cases x with
  | agg cs =>
    have h : fitsL K2 cs = true := h
    obtain ⟨y, t, rfl, h1, h2⟩ := fitsL_cons h
    obtain ⟨z, u, rfl, h3, h4⟩ := fitsL_cons h2
    obtain rfl := fitsL_nil h4
    obtain ⟨a, rfl⟩ := fits_int h1
    obtain ⟨b, rfl⟩ := fits_int h3
    exact ⟨a, b, rfl⟩
  | _ => exact absurd hl (by simp [V.cells, K2])
theorem sp_form {G : Known} {e : Nat} {o : Option Nat} {xs : List V} {v : Value} (h : rep G (.sl e K2 o xs) v) : xs = spV (spsOf xs) := by
  unfold rep at h
  obtain ⟨p, cap, rfl, _, h⟩ := h
  rcases h with h | ⟨b, off, l, rfl, hGb, hE⟩
  · rw [h]; rfl
  · refine List.ext_getElem? fun i => ?_
    by_cases hi : i < xs.length
    · obtain ⟨hf, _⟩ := repE_get _ _ hE i _ (List.getElem?_eq_getElem hi)
      obtain ⟨a, c, hac⟩ := fits_sp hf
      unfold spV spsOf
      rw [List.getElem?_map, List.getElem?_map, List.getElem?_eq_getElem hi, hac]
      rfl
    · rw [List.getElem?_eq_none (by omega), List.getElem?_eq_none (by rw [spV_len, sps_len]; omega)]
theorem contract_sp2 {E : Env} {f e : Nat} {xs : List V} {y r : V} (h : xs = spV (spsOf xs) → Contract E f [.sl e K2 none xs, y] r) : Contract E f [.sl e K2 none xs, y] r :=
  contract_if (fun G vs hp => by obtain ⟨x, z, rfl, hx, _⟩ := PW_two hp; exact sp_form hx) h
theorem sRiS_ok (a b : Int) (hc : true = true) : Contract sE 49 [.agg [.int .i64 a, .int .i64 b]] (.bool (ilt a b)) := pRight_ev a b
theorem sRiS_ok_noontideref10_Right (a b : Int) (hc : true = true) : Contract sE 50 [.agg [.int .i64 a, .int .i64 b]] (.bool (ilt a b)) := pRight10_ev a b
theorem sHaS_ok (a b t : Int) (hc : true = true) : Contract sE 28 [.agg [.int .i64 a, .int .i64 b], .int .i64 t] (.bool (band (ile a t) (ilt t b))) := pHas_ev a b t
theorem sHaS_ok_noontideref10_Has (a b t : Int) (hc : true = true) : Contract sE 44 [.agg [.int .i64 a, .int .i64 b], .int .i64 t] (.bool (band (ile a t) (ilt t b))) := pHas10_ev a b t
theorem sLsS_ok (a b c d : Int) (hc : true = true) : Contract sE 57 [.agg [.int .i64 a, .int .i64 b], .agg [.int .i64 c, .int .i64 d]] (.sl 24 [.int .i64, .int .i64] none (lsV a b c d)) :=
  (pLess10_ev a b c d).elim fun _ h => contract_drop1 h
theorem sS2_ok : SOk sE sS2 := by
  unfold sS2
  refine SOk.cons (fun args r h => ?_) (SOk.cons (fun args r h => ?_) (SOk.cons (fun args r h => ?_) (SOk.cons (fun args r h => ?_) (SOk.cons (fun args r h => ?_) (SOk.cons (fun args r h => ?_) (SOk.cons (fun args r h => ?_) (SOk.cons (fun args r h => ?_) (SOk.nil))))))))
  · unfold sRiS at h
    split at h
    · simp only [Option.some.injEq, Prod.mk.injEq] at h
      obtain ⟨hc, rfl⟩ := h
      exact sRiS_ok _ _ rfl
    · cases h
  · unfold sRiS at h
    split at h
    · simp only [Option.some.injEq, Prod.mk.injEq] at h
      obtain ⟨hc, rfl⟩ := h
      exact sRiS_ok_noontideref10_Right _ _ rfl
    · cases h
  · unfold sHaS at h
    split at h
    · simp only [Option.some.injEq, Prod.mk.injEq] at h
      obtain ⟨hc, rfl⟩ := h
      exact sHaS_ok _ _ _ rfl
    · cases h
  · unfold sHaS at h
    split at h
    · simp only [Option.some.injEq, Prod.mk.injEq] at h
      obtain ⟨hc, rfl⟩ := h
      exact sHaS_ok_noontideref10_Has _ _ _ rfl
    · cases h
  · unfold sJoS at h
    split at h
    · simp only [Option.some.injEq, Prod.mk.injEq] at h
      obtain ⟨hc, rfl⟩ := h
      exact sJoS_ok _ _ _ _ rfl
    · cases h
  · unfold sBoS at h
    split at h
    · simp only [Option.some.injEq, Prod.mk.injEq] at h
      obtain ⟨hc, rfl⟩ := h
      exact sBoS_ok _ _ _ _ rfl
    · cases h
  · unfold sBoS at h
    split at h
    · simp only [Option.some.injEq, Prod.mk.injEq] at h
      obtain ⟨hc, rfl⟩ := h
      exact sBoS_ok_span_Both _ _ _ _ rfl
    · cases h
  · unfold sLsS at h
    split at h
    · simp only [Option.some.injEq, Prod.mk.injEq] at h
      obtain ⟨hc, rfl⟩ := h
      exact sLsS_ok _ _ _ _ rfl
    · cases h
theorem sp1 (xs : List V) (i : Nat) : [V.agg [.int .i64 (asInt (acell (lget xs (i : Int)) 0)), .int .i64 (asInt (acell (lget xs (i : Int)) 1))]] = spV [(asInt (acell (lget xs (i : Int)) 0), asInt (acell (lget xs (i : Int)) 1))] := rfl
theorem lcat_sp (l m : List Sp) : lcat (spV l) (spV m) = spV (l ++ m) := (spV_append l m).symm
theorem put_L1 (xs : List V) (a b : Int) (x16 : List V) (x17 x18 s0 s1 : Int) (F : Nat) (hx : xs.length ≤ 1000000) : ∀ (j i n : Nat) (o : List Sp), i + j = xs.length → j < n → o.length + j ≤ 3000000 →
    pPut_L1 F [] n xs a b (spV o) x16 x17 x18 xs (llen xs) (i : Int) s0 s1 some = some (.sl 24 K2 (some 5) (spV (o ++ ((spsOf xs).drop i).filter (fun x => decide (s1 < x.1))))) := by
  intro j
  induction j with
  | zero =>
    intro i n o hi hn ho
    obtain ⟨n, rfl⟩ : ∃ m, n = m + 1 := ⟨n - 1, by omega⟩
    rw [pPut_L1_succ, sel_neg (ilt_f (by rw [llen_nat]; omega)), List.drop_of_length_le (by rw [sps_len]; omega), List.filter_nil, List.append_nil]
  | succ j ih =>
    intro i n o hi hn ho
    obtain ⟨n, rfl⟩ : ∃ m, n = m + 1 := ⟨n - 1, by omega⟩
    rw [pPut_L1_succ, sel_pos (ilt_t (by rw [llen_nat]; omega)), sel_pos (by rw [band_iff, ile_iff, ilt_iff, llen_nat]; omega), sps_drop xs i (by omega), iadd64 (by omega), show (i : Int) + 1 = ((i + 1 : Nat) : Int) by omega, sp1, lcat_sp]
    by_cases h : s1 < asInt (acell (lget xs (i : Int)) 0)
    · rw [sel_pos (ilt_t h), sel_pos (by rw [okApp_iff, spV_len, spV_len]; simp; omega), ih (i + 1) n _ (by omega) (by omega) (by simp; omega), List.filter_cons_of_pos (by rw [decide_eq_true_eq]; exact h), List.append_assoc]
      rfl
    · rw [sel_neg (ilt_f (by omega)), ih (i + 1) n o (by omega) (by omega) (by omega), List.filter_cons_of_neg (by rw [decide_eq_true_eq]; exact h)]
theorem put_L0 (xs : List V) (a b : Int) (F : Nat) (hF : xs.length < F) (hx : xs.length ≤ 1000000) : ∀ (j i n : Nat) (o : List Sp) (s0 s1 : Int), i + j = xs.length → j < n → o.length ≤ i →
    pPut_L0 F [] n xs a b (spV o) xs (llen xs) (i : Int) s0 s1 some = some (.sl 24 K2 (some 5) (spV (o ++ (scan ((spsOf xs).drop i) (s0, s1)).2 ++ (scan ((spsOf xs).drop i) (s0, s1)).1 :: (spsOf xs).filter (fun x => decide ((scan ((spsOf xs).drop i) (s0, s1)).1.2 < x.1))))) := by
  intro j
  induction j with
  | zero =>
    intro i n o s0 s1 hi hn ho
    obtain ⟨n, rfl⟩ : ∃ m, n = m + 1 := ⟨n - 1, by omega⟩
    have e1 : [V.agg [.int .i64 s0, .int .i64 s1]] = spV [(s0, s1)] := rfl
    rw [pPut_L0_succ, sel_neg (ilt_f (by rw [llen_nat]; omega)), e1, sel_pos (by rw [okApp_iff, spV_len, spV_len]; simp; omega), lcat_sp]
    have := put_L1 xs a b xs (llen xs) (i : Int) s0 s1 F hx xs.length 0 F (o ++ [(s0, s1)]) (by omega) (by omega) (by simp; omega)
    rw [List.drop_of_length_le (by rw [sps_len]; omega)]
    show _ = some (V.sl _ _ _ (spV (o ++ [] ++ (s0, s1) :: (spsOf xs).filter (fun x => decide (s1 < x.1)))))
    rw [List.append_nil]
    rw [List.drop_zero, List.append_assoc] at this
    exact this
  | succ j ih =>
    intro i n o s0 s1 hi hn ho
    obtain ⟨n, rfl⟩ : ∃ m, n = m + 1 := ⟨n - 1, by omega⟩
    rw [pPut_L0_succ, sel_pos (ilt_t (by rw [llen_nat]; omega)), sel_pos (by rw [band_iff, ile_iff, ilt_iff, llen_nat]; omega), sps_drop xs i (by omega), iadd64 (by omega), show (i : Int) + 1 = ((i + 1 : Nat) : Int) by omega, sp1, lcat_sp]
    unfold scan
    obtain ⟨x, hx0⟩ : ∃ x, asInt (acell (lget xs (i : Int)) 0) = x := ⟨_, rfl⟩
    obtain ⟨y, hy0⟩ : ∃ y, asInt (acell (lget xs (i : Int)) 1) = y := ⟨_, rfl⟩
    rw [hx0, hy0]
    by_cases hj : joinB (x, y) (s0, s1) = true
    · have hb : joB x y s0 s1 = true := hj
      rw [sel_pos hb, if_pos hj]
      have ea : joA x y s0 s1 = (joinS (x, y) (s0, s1)).1 := by unfold joA; rw [if_pos hb]; rfl
      have ez : joZ x y s0 s1 = (joinS (x, y) (s0, s1)).2 := by unfold joZ; rw [if_pos hb]; rfl
      rw [ea, ez]
      exact ih (i + 1) n o _ _ (by omega) (by omega) (by omega)
    · have hb : joB x y s0 s1 = false := by rw [← Bool.not_eq_true]; exact hj
      rw [sel_neg hb, if_neg hj]
      by_cases hl : y < s0
      · have hl' : (x, y).2 < (s0, s1).1 := hl
        rw [sel_pos (ilt_t hl), sel_pos (by rw [okApp_iff, spV_len, spV_len]; simp; omega), if_pos hl', ih (i + 1) n (o ++ [(x, y)]) s0 s1 (by omega) (by omega) (by simp; omega)]
        simp only [List.append_assoc, List.cons_append, List.nil_append]
      · have hl' : ¬ (x, y).2 < (s0, s1).1 := hl
        rw [sel_neg (ilt_f (by omega)), if_neg hl', ih (i + 1) n o s0 s1 (by omega) (by omega) (by omega)]
theorem sPuS_ok (o : Option Nat) (xs : List V) (a b : Int) (hc : ile (llen xs) 1000000 = true) : Contract sE 51 [.sl 24 [.int .i64, .int .i64] o xs, .agg [.int .i64 a, .int .i64 b]] (.sl 24 [.int .i64, .int .i64] none (puV xs a b)) := by
  rw [ile_iff, llen_nat] at hc
  refine contract_o2 (contract_sp2 fun hx => ?_)
  unfold puV putL
  by_cases h : a < b
  · have h' : (a, b).1 < (a, b).2 := h
    rw [if_pos h']
    refine contract_drop1 (o := some 5) (contract_of_body sE_ok sS2_ok (xs.length + 2) 2 ?_)
    rw [pPut_top, sel_neg (by rw [← Bool.not_eq_true, bnot_iff, Classical.not_not, ilt_iff]; exact h)]
    have := put_L0 xs a b (xs.length + 2) (by omega) (by omega) xs.length 0 (xs.length + 2) [] a b (by omega) (by omega) (by simp)
    rw [List.drop_zero, List.nil_append] at this
    exact this
  · have h' : ¬ (a, b).1 < (a, b).2 := h
    rw [if_neg h', ← hx]
    refine contract_of_body sE_ok sS2_ok 5 2 ?_
    rw [pPut_top, sel_pos (by rw [bnot_iff, ilt_iff]; exact h)]
theorem sS3_ok : SOk sE sS3 := by
  unfold sS3
  refine SOk.cons (fun args r h => ?_) (sS2_ok)
  · unfold sPuS at h
    split at h
    · simp only [Option.some.injEq, Prod.mk.injEq] at h
      obtain ⟨hc, rfl⟩ := h
      exact sPuS_ok _ _ _ _ hc
    · cases h
end Nt.Ev.Ytjobobdijjppkaa.Sp

set_option linter.unusedVariables false
set_option linter.unusedSimpArgs false
set_option linter.unusedSectionVars false
namespace Nt.Ev.Ytjobobdijjppkaa.Sp
open Go Go.RowKit Nt Nt.Num Nt.Sps Go.Proofs.Ytjobobdijjppkaa
theorem puV_sp (A : List Sp) (a b : Int) : puV (spV A) a b = spV (putL A (a, b)) := by unfold puV; rw [sps_V]
theorem of_L1 (xs : List V) (F : Nat) (hx : xs.length ≤ 100000) : ∀ (j i n : Nat) (A : List Sp), i + j = xs.length → j < n → A.length ≤ i → Canon A →
    pOf11_L1 F [] n xs (spV A) xs (llen xs) (i : Int) some = some (.sl 24 K2 none (spV (((spsOf xs).drop i).foldl putL A))) := by
  intro j
  induction j with
  | zero =>
    intro i n A hi hn ho hA
    obtain ⟨n, rfl⟩ : ∃ m, n = m + 1 := ⟨n - 1, by omega⟩
    rw [pOf11_L1_succ, sel_neg (ilt_f (by rw [llen_nat]; omega)), List.drop_of_length_le (by rw [sps_len]; omega)]
    rfl
  | succ j ih =>
    intro i n A hi hn ho hA
    obtain ⟨n, rfl⟩ : ∃ m, n = m + 1 := ⟨n - 1, by omega⟩
    rw [pOf11_L1_succ, sel_pos (ilt_t (by rw [llen_nat]; omega)), sel_pos (by rw [band_iff, ile_iff, ilt_iff, llen_nat]; omega), sel_pos (ile_t (by rw [llen_nat, spV_len]; omega)), sps_drop xs i (by omega), iadd64 (by omega), show (i : Int) + 1 = ((i + 1 : Nat) : Int) by omega, puV_sp]
    have hl := put_len (asInt (acell (lget xs (i : Int)) 0), asInt (acell (lget xs (i : Int)) 1)) hA
    rw [ih (i + 1) n _ (by omega) (by omega) (by omega) (put_canon _ hA)]
    rfl
theorem sOfS_ok (o : Option Nat) (xs : List V) (hc : ile (llen xs) 100000 = true) : Contract sE 18 [.sl 24 [.int .i64, .int .i64] o xs] (.sl 24 [.int .i64, .int .i64] none (ofV xs)) := by
  rw [ile_iff, llen_nat] at hc
  refine contract_o1 ?_
  cases xs with
  | nil =>
    refine contract_drop1 (o := some 3) (contract_of_body sE_ok sS3_ok 5 2 ?_)
    rw [pOf11_top, pOf11_L0_succ]
    rfl
  | cons x xs =>
    refine contract_of_body sE_ok sS3_ok (xs.length + 5) 2 ?_
    obtain ⟨ys, hys⟩ : ∃ ys, x :: xs = ys := ⟨_, rfl⟩
    have hlen : ys.length = xs.length + 1 := by rw [← hys, List.length_cons]
    rw [hys] at hc ⊢
    rw [pOf11_top, pOf11_L0_succ, sel_pos (ilt_t (by rw [llen_nat]; omega)), sel_pos (by rw [band_iff, ile_iff, ilt_iff, llen_nat]; omega), sel_pos (ile_t (by rw [llen_nat]; simp))]
    have e0 : iadd .i64 0 1 = ((1 : Nat) : Int) := by decide +kernel
    have e1 : puV [] (asInt (acell (lget ys 0) 0)) (asInt (acell (lget ys 0) 1)) = spV (putL [] (asInt (acell (lget ys 0) 0), asInt (acell (lget ys 0) 1))) := puV_sp [] _ _
    rw [e0, e1]
    have hl := put_len (l := []) (asInt (acell (lget ys 0) 0), asInt (acell (lget ys 0) 1)) trivial
    rw [of_L1 ys (xs.length + 5) (by omega) xs.length 1 (xs.length + 4) _ (by omega) (by omega) (by simpa using hl) (put_canon (l := []) _ trivial)]
    have hd := sps_drop ys 0 (by omega)
    rw [List.drop_zero] at hd
    unfold ofV ofL
    conv => rhs; rw [hd]
    rfl
theorem sS4_ok : SOk sE sS4 := by
  unfold sS4
  refine SOk.cons (fun args r h => ?_) (sS3_ok)
  · unfold sOfS at h
    split at h
    · simp only [Option.some.injEq, Prod.mk.injEq] at h
      obtain ⟨hc, rfl⟩ := h
      exact sOfS_ok _ _ hc
    · cases h
theorem ofV_sp (l : List Sp) : ofV (spV l) = spV (ofL l) := by unfold ofV; rw [sps_V]
theorem pOr11_ev (xs ys : List V) (h1 : xs.length ≤ 40000) (h2 : ys.length ≤ 40000) : Contract sE 20 [.sl 24 [.int .i64, .int .i64] none xs, .sl 24 [.int .i64, .int .i64] none ys] (.sl 24 [.int .i64, .int .i64] none (orV xs ys)) := by
  refine contract_of_body sE_ok sS4_ok 5 2 ?_
  rw [pOr11_top, sel_pos (by rw [okApp_iff]; simp; omega), sel_pos (by rw [okApp_iff]; unfold lcat; simp; omega), sel_pos (ile_t (by rw [llen_nat]; unfold lcat; simp; omega))]
  unfold ofV orV orL lcat
  rw [List.nil_append, sps_append]
theorem and_L1 (xs ys : List V) (x12 : List V) (x13 x14 : Int) (s0 s1 : Int) (F m0 : Nat) (hy : ys.length ≤ 300) (R : List Sp → Option V) (hR : ∀ o, pAnd11_L0 F [] m0 xs ys (spV o) x12 x13 (iadd .i64 x14 1) some = R o) : ∀ (j i n : Nat) (o : List Sp), i + j = ys.length → j < n → o.length + j ≤ 1000000 →
    pAnd11_L1 F [m0] n xs ys (spV o) x12 x13 x14 ys (llen ys) (i : Int) s0 s1 some = R (o ++ ((spsOf ys).drop i).flatMap fun y => if meetB (s0, s1) y then [bothS (s0, s1) y] else []) := by
  intro j
  induction j with
  | zero =>
    intro i n o hi hn ho
    obtain ⟨n, rfl⟩ : ∃ m, n = m + 1 := ⟨n - 1, by omega⟩
    rw [pAnd11_L1_succ, sel_neg (ilt_f (by rw [llen_nat]; omega)), List.drop_of_length_le (by rw [sps_len]; omega), List.flatMap_nil, List.append_nil]
    exact hR o
  | succ j ih =>
    intro i n o hi hn ho
    obtain ⟨n, rfl⟩ : ∃ m, n = m + 1 := ⟨n - 1, by omega⟩
    rw [pAnd11_L1_succ, sel_pos (ilt_t (by rw [llen_nat]; omega)), sel_pos (by rw [band_iff, ile_iff, ilt_iff, llen_nat]; omega), sps_drop ys i (by omega), iadd64 (by omega), show (i : Int) + 1 = ((i + 1 : Nat) : Int) by omega, List.flatMap_cons]
    obtain ⟨x, hx0⟩ : ∃ x, asInt (acell (lget ys (i : Int)) 0) = x := ⟨_, rfl⟩
    obtain ⟨y, hy0⟩ : ∃ y, asInt (acell (lget ys (i : Int)) 1) = y := ⟨_, rfl⟩
    rw [hx0, hy0]
    by_cases hm : meetB (s0, s1) (x, y) = true
    · have hb : btB s0 s1 x y = true := hm
      have e1 : [V.agg [.int .i64 (btA s0 s1 x y), .int .i64 (btZ s0 s1 x y)]] = spV [bothS (s0, s1) (x, y)] := by
        unfold btA btZ
        rw [if_pos hb, if_pos hb]; rfl
      rw [sel_pos hb, e1, sel_pos (by rw [okApp_iff, spV_len, spV_len]; simp; omega), lcat_sp, ih (i + 1) n _ (by omega) (by omega) (by simp; omega), if_pos hm, List.append_assoc]
    · have hb : btB s0 s1 x y = false := by rw [← Bool.not_eq_true]; exact hm
      rw [sel_neg hb, ih (i + 1) n o (by omega) (by omega) (by omega), if_neg hm, List.nil_append]
theorem and_L0 (xs ys : List V) (F : Nat) (hF : ys.length < F) (hx : xs.length ≤ 300) (hy : ys.length ≤ 300) : ∀ (j i n : Nat) (o : List Sp), i + j = xs.length → j < n → o.length ≤ i * 300 →
    pAnd11_L0 F [] n xs ys (spV o) xs (llen xs) (i : Int) some = some (.sl 24 K2 none (spV (ofL (o ++ boths ((spsOf xs).drop i) (spsOf ys))))) := by
  intro j
  induction j with
  | zero =>
    intro i n o hi hn ho
    obtain ⟨n, rfl⟩ : ∃ m, n = m + 1 := ⟨n - 1, by omega⟩
    rw [pAnd11_L0_succ, sel_neg (ilt_f (by rw [llen_nat]; omega)), List.drop_of_length_le (by rw [sps_len]; omega), sel_pos (ile_t (by rw [llen_nat, spV_len]; omega)), ofV_sp]
    unfold boths
    rw [List.flatMap_nil, List.append_nil]
  | succ j ih =>
    intro i n o hi hn ho
    obtain ⟨n, rfl⟩ : ∃ m, n = m + 1 := ⟨n - 1, by omega⟩
    rw [pAnd11_L0_succ, sel_pos (ilt_t (by rw [llen_nat]; omega)), sel_pos (by rw [band_iff, ile_iff, ilt_iff, llen_nat]; omega)]
    have hadd : iadd .i64 (i : Int) 1 = ((i + 1 : Nat) : Int) := by rw [iadd64 (by omega)]; omega
    have hlen : ∀ (l : List Sp) (s : Sp), (l.flatMap fun y => if meetB s y then [bothS s y] else []).length ≤ l.length := by
      intro l s
      induction l with
      | nil => exact Nat.le_refl _
      | cons a l ih =>
        rw [List.flatMap_cons, List.length_append, List.length_cons]
        have : (if meetB s a then [bothS s a] else []).length ≤ 1 := by split <;> simp
        omega
    have hrun := and_L1 xs ys xs (llen xs) (i : Int) (asInt (acell (lget xs (i : Int)) 0)) (asInt (acell (lget xs (i : Int)) 1)) F n hy (fun o => pAnd11_L0 F [] n xs ys (spV o) xs (llen xs) ((i + 1 : Nat) : Int) some) (fun o => by rw [hadd]) ys.length 0 F o (by omega) hF (by omega)
    rw [List.drop_zero] at hrun
    refine Eq.trans hrun ?_
    have h3 := hlen (spsOf ys) (asInt (acell (lget xs (i : Int)) 0), asInt (acell (lget xs (i : Int)) 1))
    rw [sps_len] at h3
    show pAnd11_L0 F [] n xs ys (spV (o ++ _)) xs (llen xs) ((i + 1 : Nat) : Int) some = _
    rw [ih (i + 1) n _ (by omega) (by omega) (by rw [List.length_append]; omega), sps_drop xs i (by omega)]
    show _ = some (V.sl _ _ _ (spV (ofL (o ++ List.flatMap _ (_ :: _)))))
    rw [List.flatMap_cons, List.append_assoc]
    rfl
theorem pAnd11_ev (xs ys : List V) (h1 : xs.length ≤ 300) (h2 : ys.length ≤ 300) : Contract sE 22 [.sl 24 [.int .i64, .int .i64] none xs, .sl 24 [.int .i64, .int .i64] none ys] (.sl 24 [.int .i64, .int .i64] none (anV xs ys)) := by
  refine contract_of_body sE_ok sS4_ok (xs.length + ys.length + 2) 2 ?_
  rw [pAnd11_top]
  have := and_L0 xs ys (xs.length + ys.length + 2) (by omega) h1 h2 xs.length 0 (xs.length + ys.length + 2) [] (by omega) (by omega) (by simp)
  rw [List.drop_zero, List.nil_append] at this
  exact this
theorem less_in (xs ys : List V) (x5 x13 : List V) (x14 x15 : Int) (s0 s1 : Int) (F m0 : Nat) (L : List Sp) (hL : L.length ≤ 1000000) (R : List Sp → Option V) (hR : ∀ o, pLess11_L2 F [] m0 xs ys (spV o) x13 x14 (iadd .i64 x15 1) some = R o) : ∀ (j i n : Nat) (o : List Sp), i + j = L.length → j < n → o.length + 2 * j ≤ 4000000 →
    (pLess11_L1 F [m0] n xs ys x5 (spV o) x13 x14 x15 (spV L) (llen (spV L)) (i : Int) s0 s1 some = R (o ++ less2 (L.drop i) (s0, s1))) ∧ (pLess11_L3 F [m0] n xs ys x5 (spV o) x13 x14 x15 (spV L) (llen (spV L)) (i : Int) s0 s1 some = R (o ++ less2 (L.drop i) (s0, s1))) := by
  intro j
  induction j with
  | zero =>
    intro i n o hi hn ho
    obtain ⟨n, rfl⟩ : ∃ m, n = m + 1 := ⟨n - 1, by omega⟩
    have e : less2 (L.drop i) (s0, s1) = [] := by rw [List.drop_of_length_le (by omega)]; rfl
    rw [pLess11_L1_succ, pLess11_L3_succ, sel_neg (ilt_f (by rw [llen_nat, spV_len]; omega)), sel_neg (ilt_f (by rw [llen_nat, spV_len]; omega)), e, List.append_nil]
    exact ⟨hR o, hR o⟩
  | succ j ih =>
    intro i n o hi hn ho
    obtain ⟨n, rfl⟩ : ∃ m, n = m + 1 := ⟨n - 1, by omega⟩
    have hd := sps_drop (spV L) i (by rw [spV_len]; omega)
    rw [sps_V] at hd
    have hb : band (ile 0 (i : Int)) (ilt (i : Int) (llen (spV L))) = true := by rw [band_iff, ile_iff, ilt_iff, llen_nat, spV_len]; omega
    have hl : ilt (i : Int) (llen (spV L)) = true := ilt_t (by rw [llen_nat, spV_len]; omega)
    have hI : iadd .i64 (i : Int) 1 = ((i + 1 : Nat) : Int) := by rw [iadd64 (by omega)]; omega
    rw [pLess11_L1_succ, pLess11_L3_succ, hb, hl, hI, hd]
    obtain ⟨x, hx0⟩ : ∃ x, asInt (acell (lget (spV L) (i : Int)) 0) = x := ⟨_, rfl⟩
    obtain ⟨y, hy0⟩ : ∃ y, asInt (acell (lget (spV L) (i : Int)) 1) = y := ⟨_, rfl⟩
    rw [hx0, hy0]
    have hlen := less1_len (x, y) (s0, s1)
    have hok : okApp (spV o) (lsV x y s0 s1) = true := by rw [okApp_iff, spV_len]; unfold lsV; rw [spV_len]; omega
    have hcat : lcat (spV o) (lsV x y s0 s1) = spV (o ++ less1 (x, y) (s0, s1)) := by unfold lsV; rw [lcat_sp]
    have e : less2 ((x, y) :: L.drop (i + 1)) (s0, s1) = less1 (x, y) (s0, s1) ++ less2 (L.drop (i + 1)) (s0, s1) := by unfold less2; rw [List.flatMap_cons]
    obtain ⟨h1, h2⟩ := ih (i + 1) n (o ++ less1 (x, y) (s0, s1)) (by omega) (by omega) (by rw [List.length_append]; omega)
    rw [hok, hcat, e, ← List.append_assoc]
    exact ⟨h1, h2⟩
theorem less_L2 (xs ys : List V) (F : Nat) (hF : 300000 < F) (hy : ys.length ≤ 100000) : ∀ (j i n : Nat) (A : List Sp), i + j = ys.length → j < n → A.length ≤ 100000 + i → Canon A →
    ∃ o, pLess11_L2 F [] n xs ys (spV A) ys (llen ys) (i : Int) some = some (.sl 24 K2 o (spV (((spsOf ys).drop i).foldl less2 A))) := by
  intro j
  induction j with
  | zero =>
    intro i n A hi hn ho hA
    obtain ⟨n, rfl⟩ : ∃ m, n = m + 1 := ⟨n - 1, by omega⟩
    rw [pLess11_L2_succ, sel_neg (ilt_f (by rw [llen_nat]; omega)), List.drop_of_length_le (by rw [sps_len]; omega)]
    exact ⟨_, rfl⟩
  | succ j ih =>
    intro i n A hi hn ho hA
    obtain ⟨n, rfl⟩ : ∃ m, n = m + 1 := ⟨n - 1, by omega⟩
    have hadd : iadd .i64 (i : Int) 1 = ((i + 1 : Nat) : Int) := by rw [iadd64 (by omega)]; omega
    rw [pLess11_L2_succ, sel_pos (ilt_t (by rw [llen_nat]; omega)), sel_pos (by rw [band_iff, ile_iff, ilt_iff, llen_nat]; omega)]
    have hrun := (less_in xs ys (spV A) ys (llen ys) (i : Int) (asInt (acell (lget ys (i : Int)) 0)) (asInt (acell (lget ys (i : Int)) 1)) F n A (by omega) (fun o => pLess11_L2 F [] n xs ys (spV o) ys (llen ys) ((i + 1 : Nat) : Int) some) (fun o => by rw [hadd]) A.length 0 F [] (by omega) (by omega) (by simp; omega)).2
    rw [List.drop_zero, List.nil_append] at hrun
    have hl2 := less2_len (y := (asInt (acell (lget ys (i : Int)) 0), asInt (acell (lget ys (i : Int)) 1))) hA
    obtain ⟨o, ho2⟩ := ih (i + 1) n (less2 A (asInt (acell (lget ys (i : Int)) 0), asInt (acell (lget ys (i : Int)) 1))) (by omega) (by omega) (by omega) (less2_ok _ hA).1
    refine ⟨o, ?_⟩
    refine Eq.trans hrun ?_
    show pLess11_L2 F [] n xs ys (spV (less2 A _)) ys (llen ys) ((i + 1 : Nat) : Int) some = _
    rw [ho2, sps_drop ys i (by omega)]
    rfl
theorem pLess11_ev (xs ys : List V) (h1 : xs.length ≤ 100000) (h2 : ys.length ≤ 100000) : Contract sE 24 [.sl 24 [.int .i64, .int .i64] none xs, .sl 24 [.int .i64, .int .i64] none ys] (.sl 24 [.int .i64, .int .i64] none (leV xs ys)) := by
  have hof : (ofL (spsOf xs)).length ≤ 100000 := by
    have : ∀ (l A : List Sp), Canon A → (l.foldl putL A).length ≤ A.length + l.length := by
      intro l
      induction l with
      | nil => intro A _; simp
      | cons x l ih =>
        intro A hA
        have k1 := ih (putL A x) (put_canon x hA)
        have k2 := put_len x hA
        rw [List.foldl_cons, List.length_cons]; omega
    have := this (spsOf xs) [] trivial
    rw [sps_len] at this
    unfold ofL
    simpa using Nat.le_trans this (by simpa using h1)
  have key : ∀ o, evBd sE (evFn sE sS4 300001 2) 300001 24 [.sl 24 K2 none xs, .sl 24 K2 none ys] some = some (.sl 24 K2 o (leV xs ys)) → Contract sE 24 [.sl 24 K2 none xs, .sl 24 K2 none ys] (.sl 24 K2 none (leV xs ys)) :=
    fun o h => contract_drop1 (contract_of_body sE_ok sS4_ok 300001 2 h)
  rw [pLess11_top, sel_pos (ile_t (by rw [llen_nat]; omega)), pLess11_L0_succ] at key
  unfold leV lessL at key ⊢
  cases ys with
  | nil =>
    rw [sel_neg (ilt_f (by rw [llen_nat]; simp))] at key
    exact key _ rfl
  | cons y ys =>
    obtain ⟨zs, hzs⟩ : ∃ zs, y :: ys = zs := ⟨_, rfl⟩
    have hlen : zs.length = ys.length + 1 := by rw [← hzs, List.length_cons]
    rw [hzs] at h2 key ⊢
    rw [sel_pos (ilt_t (by rw [llen_nat]; omega)), sel_pos (by rw [band_iff, ile_iff, ilt_iff, llen_nat]; omega)] at key
    have e0 : iadd .i64 0 1 = ((1 : Nat) : Int) := by decide +kernel
    have hrun := (less_in xs zs (ofV xs) zs (llen zs) 0 (asInt (acell (lget zs 0) 0)) (asInt (acell (lget zs 0) 1)) 300001 300000 (ofL (spsOf xs)) (by omega) (fun o => pLess11_L2 300001 [] 300000 xs zs (spV o) zs (llen zs) ((1 : Nat) : Int) some) (fun o => by rw [e0]) (ofL (spsOf xs)).length 0 300001 [] (by omega) (by omega) (by simp; omega)).1
    rw [List.drop_zero, List.nil_append] at hrun
    have hl2 := less2_len (y := (asInt (acell (lget zs 0) 0), asInt (acell (lget zs 0) 1))) (of_canon (spsOf xs))
    obtain ⟨o, ho2⟩ := less_L2 xs zs 300001 (by omega) (by omega) ys.length 1 300000 (less2 (ofL (spsOf xs)) (asInt (acell (lget zs 0) 0), asInt (acell (lget zs 0) 1))) (by omega) (by omega) (by omega) (less2_ok _ (of_canon _)).1
    refine key o (Eq.trans hrun ?_)
    show pLess11_L2 300001 [] 300000 xs zs (spV (less2 _ _)) zs (llen zs) ((1 : Nat) : Int) some = _
    rw [ho2]
    have hd := sps_drop zs 0 (by omega)
    rw [List.drop_zero] at hd
    conv => rhs; rw [hd]
    rfl
end Nt.Ev.Ytjobobdijjppkaa.Sp

set_option linter.unusedVariables false
set_option linter.unusedSimpArgs false
set_option linter.unusedSectionVars false
namespace Nt.Ev.Ytjobobdijjppkaa.Sp
open Go Go.RowKit Nt Nt.Num Nt.Sps
def edOfV (E : List V) : List Ed := E.map fun x => (asInt (acell x 0), asInt (acell x 1), asInt (acell x 2))
def edVs (l : List Ed) : List V := l.map fun e => .agg [.int .i64 e.1, .int .i64 e.2.1, .int .i64 e.2.2]
theorem ed_V (l : List Ed) : edOfV (edVs l) = l := by
  unfold edOfV edVs
  rw [List.map_map]
  exact (List.map_congr_left fun _ _ => rfl).trans (List.map_id _)
theorem ed_len (E : List V) : (edOfV E).length = E.length := by unfold edOfV; simp
theorem ed_drop (E : List V) (k : Nat) (h : k < E.length) : (edOfV E).drop k = (asInt (acell (lget E (k : Int)) 0), asInt (acell (lget E (k : Int)) 1), asInt (acell (lget E (k : Int)) 2)) :: (edOfV E).drop (k + 1) := by
  have hl : k < (edOfV E).length := by rw [ed_len]; exact h
  rw [List.drop_eq_getElem_cons hl, lget_nat]
  congr 1
  simp [edOfV, h]
abbrev LoT := Nat → List V → Bool → Int → Int → Int → Option V
abbrev LiT := Nat → Nat → List V → Bool → Int → Int → Int → Int → Option V
def Dec (kp : Bool → Bool → Bool) (Lo Lp : LoT) (m0 : Nat) (x7 : List V) (x9 : Bool) (x11 x12 b8_0 b8_1 : Int) : Option V :=
  sel (kp (ilt 0 b8_0) (ilt 0 b8_1)) (sel (bnot x9) (sel (okApp x7 [(V.agg [(V.int .i64 x12), (V.int .i64 0)])]) (Lo m0 (lcat x7 [(V.agg [(V.int .i64 x12), (V.int .i64 0)])]) (kp (ilt 0 b8_0) (ilt 0 b8_1)) x11 b8_0 b8_1) (none)) (sel (bnot (kp (ilt 0 b8_0) (ilt 0 b8_1))) (sel x9 (sel (band (ile 0 (isub .i64 (llen x7) 1)) (ilt (isub .i64 (llen x7) 1) (llen x7))) (Lp m0 (lset x7 (isub .i64 (llen x7) 1) (aset (lget x7 (isub .i64 (llen x7) 1)) 1 (V.int .i64 x12))) (kp (ilt 0 b8_0) (ilt 0 b8_1)) x11 b8_0 b8_1) (none)) (Lo m0 x7 (kp (ilt 0 b8_0) (ilt 0 b8_1)) x11 b8_0 b8_1)) (Lo m0 x7 (kp (ilt 0 b8_0) (ilt 0 b8_1)) x11 b8_0 b8_1))) (sel (bnot (kp (ilt 0 b8_0) (ilt 0 b8_1))) (sel x9 (sel (band (ile 0 (isub .i64 (llen x7) 1)) (ilt (isub .i64 (llen x7) 1) (llen x7))) (Lp m0 (lset x7 (isub .i64 (llen x7) 1) (aset (lget x7 (isub .i64 (llen x7) 1)) 1 (V.int .i64 x12))) (kp (ilt 0 b8_0) (ilt 0 b8_1)) x11 b8_0 b8_1) (none)) (Lo m0 x7 (kp (ilt 0 b8_0) (ilt 0 b8_1)) x11 b8_0 b8_1)) (Lo m0 x7 (kp (ilt 0 b8_0) (ilt 0 b8_1)) x11 b8_0 b8_1))
def InEq (kp : Bool → Bool → Bool) (E : List V) (Lo Lp : LoT) (Li : LiT) : Prop := ∀ (m0 n : Nat) (x7 : List V) (x9 : Bool) (x11 x12 b8_0 b8_1 : Int), Li m0 (n + 1) x7 x9 x11 x12 b8_0 b8_1 =
  sel (ilt x11 (llen E)) (sel (band (ile 0 x11) (ilt x11 (llen E))) (sel (ieq (asInt (acell (lget E x11) 0)) x12) (sel (band (ile 0 x11) (ilt x11 (llen E))) (sel (ieq (asInt (acell (lget E x11) 2)) 0) (sel (band (ile 0 x11) (ilt x11 (llen E))) (sel (ieq (asInt (acell (lget E x11) 2)) 0) (Li m0 n x7 x9 (iadd .i64 x11 1) x12 (iadd .i64 b8_0 (asInt (acell (lget E x11) 1))) b8_1) (sel (ieq (asInt (acell (lget E x11) 2)) 1) (Li m0 n x7 x9 (iadd .i64 x11 1) x12 b8_0 (iadd .i64 b8_0 (asInt (acell (lget E x11) 1)))) (none))) (none)) (sel (ieq (asInt (acell (lget E x11) 2)) 1) (sel (band (ile 0 x11) (ilt x11 (llen E))) (sel (ieq (asInt (acell (lget E x11) 2)) 0) (Li m0 n x7 x9 (iadd .i64 x11 1) x12 (iadd .i64 b8_1 (asInt (acell (lget E x11) 1))) b8_1) (sel (ieq (asInt (acell (lget E x11) 2)) 1) (Li m0 n x7 x9 (iadd .i64 x11 1) x12 b8_0 (iadd .i64 b8_1 (asInt (acell (lget E x11) 1)))) (none))) (none)) (none))) (none)) (Dec kp Lo Lp m0 x7 x9 x11 x12 b8_0 b8_1)) (none)) (Dec kp Lo Lp m0 x7 x9 x11 x12 b8_0 b8_1)
def OutEq (E : List V) (Lo : LoT) (Li : LiT) (F : Nat) : Prop := ∀ (n : Nat) (x7 : List V) (x9 : Bool) (x11 b8_0 b8_1 : Int), Lo (n + 1) x7 x9 x11 b8_0 b8_1 =
  sel (ilt x11 (llen E)) (sel (band (ile 0 x11) (ilt x11 (llen E))) (Li n F x7 x9 x11 (asInt (acell (lget E x11) 0)) b8_0 b8_1) none) (some (V.sl 24 K2 (some 7) x7))
def opL : Option Int → List Sp
  | none => []
  | some f => [(f, 0)]
def swI (keep : Bool → Bool → Bool) (a : Int) (r : List Ed) (d0 d1 : Int) (op : Option Int) : List Sp :=
  if nextIs a r then sw keep r d0 d1 op
  else match op with
    | none => if keep (decide (0 < d0)) (decide (0 < d1)) then sw keep r d0 d1 (some a) else sw keep r d0 d1 none
    | some f => if keep (decide (0 < d0)) (decide (0 < d1)) then sw keep r d0 d1 (some f) else (f, a) :: sw keep r d0 d1 none
theorem sw_cons (keep : Bool → Bool → Bool) (e : Ed) (r : List Ed) (d0 d1 : Int) (op : Option Int) : sw keep (e :: r) d0 d1 op = swI keep e.1 r (d0 + dSt 0 e) (d1 + dSt 1 e) op := by
  cases op <;> rfl
theorem swI_go (keep : Bool → Bool → Bool) (e : Ed) (r : List Ed) (d0 d1 : Int) (op : Option Int) : swI keep e.1 (e :: r) d0 d1 op = swI keep e.1 r (d0 + dSt 0 e) (d1 + dSt 1 e) op := by
  conv => lhs; unfold swI
  rw [if_pos (by unfold nextIs; simp), sw_cons]
def SideOk (E : List V) : Prop := ∀ e ∈ edOfV E, (e.2.2 = 0 ∨ e.2.2 = 1) ∧ (e.2.1 = 1 ∨ e.2.1 = -1)
def OC (kp : Bool → Bool → Bool) (E : List V) (Lo : LoT) (k : Nat) : Prop := ∀ (i n : Nat) (cl : List Sp) (op : Option Int) (d0 d1 : Int), i + k = E.length → k < n → cl.length + (opL op).length ≤ i → -(i : Int) ≤ d0 ∧ d0 ≤ i → -(i : Int) ≤ d1 ∧ d1 ≤ i →
  Lo n (spV (cl ++ opL op)) op.isSome (i : Int) d0 d1 = some (.sl 24 K2 (some 7) (spV (cl ++ sw kp ((edOfV E).drop i) d0 d1 op)))
def IC (kp : Bool → Bool → Bool) (E : List V) (Li : LiT) (k : Nat) : Prop := ∀ (i m n : Nat) (cl : List Sp) (op : Option Int) (a d0 d1 : Int), i + k = E.length → k < n → k < m → cl.length + (opL op).length + 1 ≤ i → -(i : Int) ≤ d0 ∧ d0 ≤ i → -(i : Int) ≤ d1 ∧ d1 ≤ i →
  Li m n (spV (cl ++ opL op)) op.isSome (i : Int) a d0 d1 = some (.sl 24 K2 (some 7) (spV (cl ++ swI kp a ((edOfV E).drop i) d0 d1 op)))
theorem ilt_dec (a b : Int) : ilt a b = decide (a < b) := by rw [Bool.eq_iff_iff, ilt_iff, decide_eq_true_eq]
theorem set_last (cl : List Sp) (f a : Int) : lset (spV (cl ++ [(f, 0)])) (isub .i64 (llen (spV (cl ++ [(f, 0)]))) 1) (aset (lget (spV (cl ++ [(f, 0)])) (isub .i64 (llen (spV (cl ++ [(f, 0)]))) 1)) 1 (V.int .i64 a)) = spV (cl ++ [(f, a)]) ∨ 4000000 < cl.length := by
  by_cases h : 4000000 < cl.length
  · exact .inr h
  · left
    have e : isub .i64 (llen (spV (cl ++ [(f, 0)]))) 1 = (cl.length : Int) := by
      rw [llen_nat, spV_len, List.length_append, List.length_singleton, isub64 (by omega)]; omega
    rw [e, lget_nat]
    unfold lset
    rw [Int.toNat_natCast, spV_append, spV_append, List.getD_eq_getElem?_getD, List.getElem?_append_right (by rw [spV_len]; exact Nat.le_refl _), spV_len, Nat.sub_self, List.set_append, if_neg (by rw [spV_len]; omega), spV_len, Nat.sub_self]
    rfl
section
variable {kp : Bool → Bool → Bool} {E : List V} {Lo Lp : LoT} {Li : LiT} {F : Nat}
theorem in_go (hI : InEq kp E Lo Lp Li) (hs : SideOk E) (hE : E.length ≤ 4000000) {i m n : Nat} {x7 : List V} {b : Bool} {a d0 d1 : Int} (hi : i < E.length) (ha : asInt (acell (lget E (i : Int)) 0) = a) (h0 : -(i : Int) ≤ d0 ∧ d0 ≤ i) (h1 : -(i : Int) ≤ d1 ∧ d1 ≤ i) :
    Li m (n + 1) x7 b (i : Int) a d0 d1 = Li m n x7 b ((i + 1 : Nat) : Int) a (d0 + dSt 0 (asInt (acell (lget E (i : Int)) 0), asInt (acell (lget E (i : Int)) 1), asInt (acell (lget E (i : Int)) 2))) (d1 + dSt 1 (asInt (acell (lget E (i : Int)) 0), asInt (acell (lget E (i : Int)) 1), asInt (acell (lget E (i : Int)) 2))) := by
  have hd := ed_drop E i hi
  have hm : (asInt (acell (lget E (i : Int)) 0), asInt (acell (lget E (i : Int)) 1), asInt (acell (lget E (i : Int)) 2)) ∈ edOfV E := List.mem_of_mem_drop (by rw [hd]; simp)
  obtain ⟨hsd, hst⟩ := hs _ hm
  have hb : band (ile 0 (i : Int)) (ilt (i : Int) (llen E)) = true := by rw [band_iff, ile_iff, ilt_iff, llen_nat]; omega
  have hl : ilt (i : Int) (llen E) = true := ilt_t (by rw [llen_nat]; omega)
  have hI' : iadd .i64 (i : Int) 1 = ((i + 1 : Nat) : Int) := by rw [iadd64 (by omega)]; omega
  have hst : asInt (acell (lget E (i : Int)) 1) = 1 ∨ asInt (acell (lget E (i : Int)) 1) = -1 := hst
  have hsd : asInt (acell (lget E (i : Int)) 2) = 0 ∨ asInt (acell (lget E (i : Int)) 2) = 1 := hsd
  have a0 : iadd .i64 d0 (asInt (acell (lget E (i : Int)) 1)) = d0 + asInt (acell (lget E (i : Int)) 1) := iadd64 (by omega)
  have a1 : iadd .i64 d1 (asInt (acell (lget E (i : Int)) 1)) = d1 + asInt (acell (lget E (i : Int)) 1) := iadd64 (by omega)
  rw [hI, hb, hl, hI', a0, a1, ha]
  have haa : ieq a a = true := by rw [ieq_iff]
  rw [haa]
  rcases hsd with h | h
  · rw [h]
    have e0 : dSt 0 (a, asInt (acell (lget E (i : Int)) 1), 0) = asInt (acell (lget E (i : Int)) 1) := if_pos rfl
    have e1 : dSt 1 (a, asInt (acell (lget E (i : Int)) 1), 0) = 0 := if_neg (show ¬ (0 : Int) = 1 by decide)
    rw [e0, e1, Int.add_zero]
    rfl
  · rw [h]
    have e0 : dSt 0 (a, asInt (acell (lget E (i : Int)) 1), 1) = 0 := if_neg (show ¬ (1 : Int) = 0 by decide)
    have e1 : dSt 1 (a, asInt (acell (lget E (i : Int)) 1), 1) = asInt (acell (lget E (i : Int)) 1) := if_pos rfl
    rw [e0, e1, Int.add_zero]
    rfl
theorem in_end (hI : InEq kp E Lo Lp Li) {i m n : Nat} {x7 : List V} {b : Bool} {a d0 d1 : Int} (ha : ¬ (i < E.length ∧ asInt (acell (lget E (i : Int)) 0) = a)) : Li m (n + 1) x7 b (i : Int) a d0 d1 = Dec kp Lo Lp m x7 b (i : Int) a d0 d1 := by
  rw [hI]
  by_cases hi : i < E.length
  · rw [sel_pos (ilt_t (by rw [llen_nat]; omega)), sel_pos (by rw [band_iff, ile_iff, ilt_iff, llen_nat]; omega), sel_neg (by rw [← Bool.not_eq_true, ieq_iff]; exact fun h => ha ⟨hi, h⟩)]
  · rw [sel_neg (ilt_f (by rw [llen_nat]; omega))]
theorem ic_of (hI : InEq kp E Lo Lp Li) (hs : SideOk E) (hE : E.length ≤ 4000000) (k : Nat) (hO : OC kp E Lo k) (hP : OC kp E Lp k) (hk : ∀ j, j + 1 = k → IC kp E Li j) : IC kp E Li k := by
  intro i m n cl op a d0 d1 hi hn hm hc h0 h1
  obtain ⟨n, rfl⟩ : ∃ q, n = q + 1 := ⟨n - 1, by omega⟩
  by_cases hg : i < E.length ∧ asInt (acell (lget E (i : Int)) 0) = a
  · obtain ⟨hil, ha⟩ := hg
    rw [in_go hI hs hE hil ha h0 h1, ed_drop E i hil]
    have hsd : ∀ q, -1 ≤ dSt q (asInt (acell (lget E (i : Int)) 0), asInt (acell (lget E (i : Int)) 1), asInt (acell (lget E (i : Int)) 2)) ∧ dSt q (asInt (acell (lget E (i : Int)) 0), asInt (acell (lget E (i : Int)) 1), asInt (acell (lget E (i : Int)) 2)) ≤ 1 := by
      intro q
      have hm : (asInt (acell (lget E (i : Int)) 0), asInt (acell (lget E (i : Int)) 1), asInt (acell (lget E (i : Int)) 2)) ∈ edOfV E := List.mem_of_mem_drop (by rw [ed_drop E i hil]; simp)
      have := (hs _ hm).2
      unfold dSt
      split
      · rcases this with h | h <;> rw [h] <;> omega
      · omega
    have s0 := hsd 0
    have s1 := hsd 1
    rw [hk (k - 1) (by omega) (i + 1) m n cl op a _ _ (by omega) (by omega) (by omega) (by omega) (by omega) (by omega)]
    have := swI_go kp (asInt (acell (lget E (i : Int)) 0), asInt (acell (lget E (i : Int)) 1), asInt (acell (lget E (i : Int)) 2)) ((edOfV E).drop (i + 1)) d0 d1 op
    rw [show (asInt (acell (lget E (i : Int)) 0), asInt (acell (lget E (i : Int)) 1), asInt (acell (lget E (i : Int)) 2)).1 = a from ha] at this
    rw [this]
  · rw [in_end hI hg]
    have hnx : nextIs a ((edOfV E).drop i) = false := by
      by_cases hil : i < E.length
      · rw [ed_drop E i hil]
        exact decide_eq_false fun h => hg ⟨hil, h⟩
      · rw [List.drop_of_length_le (by rw [ed_len]; omega)]; rfl
    unfold swI Dec
    rw [hnx, ilt_dec, ilt_dec]
    cases hK : kp (decide (0 < d0)) (decide (0 < d1)) with
    | true =>
      cases op with
      | none =>
        have := hO i m cl (some a) d0 d1 hi hm (by simp [opL] at hc ⊢; omega) h0 h1
        have e : lcat (spV (cl ++ opL none)) [V.agg [.int .i64 a, .int .i64 0]] = spV (cl ++ opL (some a)) := by
          show lcat (spV (cl ++ [])) (spV [(a, 0)]) = _
          rw [List.append_nil, lcat_sp]; rfl
        have ho : okApp (spV (cl ++ opL none)) [V.agg [.int .i64 a, .int .i64 0]] = true := by rw [okApp_iff, spV_len]; simp [opL] at hc ⊢; omega
        rw [e, ho]
        exact this
      | some f =>
        have := hO i m cl (some f) d0 d1 hi hm (by omega) h0 h1
        exact this
    | false =>
      cases op with
      | none =>
        have := hO i m cl none d0 d1 hi hm (by omega) h0 h1
        exact this
      | some f =>
        have := hP i m (cl ++ [(f, a)]) none d0 d1 hi hm (by simp [opL] at hc ⊢; omega) h0 h1
        have e := (set_last cl f a).resolve_right (by simp [opL] at hc; omega)
        have hb : band (ile 0 (isub .i64 (llen (spV (cl ++ [(f, 0)]))) 1)) (ilt (isub .i64 (llen (spV (cl ++ [(f, 0)]))) 1) (llen (spV (cl ++ [(f, 0)])))) = true := by
          rw [llen_nat, spV_len, List.length_append, List.length_singleton, isub64 (by simp [opL] at hc; omega), band_iff, ile_iff, ilt_iff]; omega
        show sel (band (ile 0 (isub .i64 (llen (spV (cl ++ [(f, 0)]))) 1)) (ilt (isub .i64 (llen (spV (cl ++ [(f, 0)]))) 1) (llen (spV (cl ++ [(f, 0)]))))) (Lp m (lset (spV (cl ++ [(f, 0)])) (isub .i64 (llen (spV (cl ++ [(f, 0)]))) 1) (aset (lget (spV (cl ++ [(f, 0)])) (isub .i64 (llen (spV (cl ++ [(f, 0)]))) 1)) 1 (V.int .i64 a))) false (i : Int) d0 d1) none = _
        rw [hb, e]
        have e2 : spV ((cl ++ [(f, a)]) ++ opL none) = spV (cl ++ [(f, a)]) := by rw [show opL none = [] from rfl, List.append_nil]
        rw [e2] at this
        refine Eq.trans this ?_
        rw [List.append_assoc]
        rfl
theorem oc_of (hO : OutEq E Lo Li F) (hI : InEq kp E Lo Lp Li) (hs : SideOk E) (hE : E.length ≤ 4000000) (hF : E.length < F) (k : Nat) (hk : ∀ j, j + 1 = k → IC kp E Li j) : OC kp E Lo k := by
  intro i n cl op d0 d1 hi hn hc h0 h1
  obtain ⟨n, rfl⟩ : ∃ q, n = q + 1 := ⟨n - 1, by omega⟩
  rw [hO]
  by_cases hil : i < E.length
  · rw [sel_pos (ilt_t (by rw [llen_nat]; omega)), sel_pos (by rw [band_iff, ile_iff, ilt_iff, llen_nat]; omega)]
    obtain ⟨F', rfl⟩ : ∃ q, F = q + 1 := ⟨F - 1, by omega⟩
    rw [in_go hI hs hE hil rfl h0 h1, ed_drop E i hil, sw_cons]
    have hsd : ∀ q, -1 ≤ dSt q (asInt (acell (lget E (i : Int)) 0), asInt (acell (lget E (i : Int)) 1), asInt (acell (lget E (i : Int)) 2)) ∧ dSt q (asInt (acell (lget E (i : Int)) 0), asInt (acell (lget E (i : Int)) 1), asInt (acell (lget E (i : Int)) 2)) ≤ 1 := by
      intro q
      have hm : (asInt (acell (lget E (i : Int)) 0), asInt (acell (lget E (i : Int)) 1), asInt (acell (lget E (i : Int)) 2)) ∈ edOfV E := List.mem_of_mem_drop (by rw [ed_drop E i hil]; simp)
      have := (hs _ hm).2
      unfold dSt
      split
      · rcases this with h | h <;> rw [h] <;> omega
      · omega
    have s0 := hsd 0
    have s1 := hsd 1
    exact hk (k - 1) (by omega) (i + 1) n F' cl op _ _ _ (by omega) (by omega) (by omega) (by omega) (by omega) (by omega)
  · rw [sel_neg (ilt_f (by rw [llen_nat]; omega)), List.drop_of_length_le (by rw [ed_len]; omega)]
    cases op <;> rfl
end
theorem run_ok {kp : Bool → Bool → Bool} {E : List V} {Lo Lp : LoT} {Li Lj : LiT} {F : Nat} (hO : OutEq E Lo Li F) (hI : InEq kp E Lo Lp Li) (hP : OutEq E Lp Lj F) (hJ : InEq kp E Lp Lp Lj) (hs : SideOk E) (hE : E.length ≤ 4000000) (hF : E.length < F) :
    Lo F [] false 0 0 0 = some (.sl 24 K2 (some 7) (spV (sw kp (edOfV E) 0 0 none))) := by
  have hp : ∀ k, OC kp E Lp k ∧ IC kp E Lj k := by
    intro k
    induction k with
    | zero =>
      have h1 := oc_of hP hJ hs hE hF 0 (fun j h => by omega)
      exact ⟨h1, ic_of hJ hs hE 0 h1 h1 (fun j h => by omega)⟩
    | succ k ih =>
      have h1 := oc_of hP hJ hs hE hF (k + 1) (fun j h => by have e : j = k := (by omega); rw [e]; exact ih.2)
      exact ⟨h1, ic_of hJ hs hE (k + 1) h1 h1 (fun j h => by have e : j = k := (by omega); rw [e]; exact ih.2)⟩
  have ho : ∀ k, OC kp E Lo k ∧ IC kp E Li k := by
    intro k
    induction k with
    | zero =>
      have h1 := oc_of hO hI hs hE hF 0 (fun j h => by omega)
      exact ⟨h1, ic_of hI hs hE 0 h1 (hp 0).1 (fun j h => by omega)⟩
    | succ k ih =>
      have h1 := oc_of hO hI hs hE hF (k + 1) (fun j h => by have e : j = k := (by omega); rw [e]; exact ih.2)
      exact ⟨h1, ic_of hI hs hE (k + 1) h1 (hp (k + 1)).1 (fun j h => by have e : j = k := (by omega); rw [e]; exact ih.2)⟩
  have := (ho E.length).1 0 F [] none 0 0 (by omega) hF (by simp [opL]) (by simp) (by simp)
  rw [List.drop_zero, List.nil_append] at this
  exact this
end Nt.Ev.Ytjobobdijjppkaa.Sp

set_option linter.unusedVariables false
set_option linter.unusedSimpArgs false
set_option linter.unusedSectionVars false
namespace Nt.Ev.Ytjobobdijjppkaa.Sp
open Go Nt.Num Go.Proofs.Ytjobobdijjppkaa
noncomputable def xsOf : V → List V | .sl _ _ _ xs => xs | _ => []
noncomputable def isSp : V → Bool | .nilsl => true | .sl e sh o xs => e == 24 && Kd.eqL [.int .i64, .int .i64] sh | _ => false
noncomputable def edV (xs ys : List V) : List V := edVs (Go.Proofs.Ytjobobdijjppkaa.srtE (Nt.Sps.edAB (spsOf xs) (spsOf ys)))
def kp (k : Nat) (a b : Bool) : Bool := match k with | 0 => a || b | 1 => a && b | _ => a && !b
noncomputable def sEdS : FSpec := fun a => match a with | [.sl e sh o [x, y]] => some (band (band (isSp x) (isSp y)) (band (ile (llen (xsOf x)) 1000000) (ile (llen (xsOf y)) 1000000)), .sl 73 [.int .i64, .int .i64, .int .i64] (some 0) (edV (xsOf x) (xsOf y))) | _ => none
noncomputable def sK0 : FSpec := fun a => match a with | [.bool a, .bool b] => some (true, .bool (kp 0 a b)) | _ => none
noncomputable def sK1 : FSpec := fun a => match a with | [.bool a, .bool b] => some (true, .bool (kp 1 a b)) | _ => none
noncomputable def sK2 : FSpec := fun a => match a with | [.bool a, .bool b] => some (true, .bool (kp 2 a b)) | _ => none
noncomputable def sS7 : List (Nat × FSpec) := (64, sEdS) :: (53, sK0) :: (54, sK1) :: (56, sK2) :: []
noncomputable def pSw0_L0 (F : Nat) (ns : List Nat) (n : Nat) (x0 : List V) (x1 : List V) (x7 : List V) (x9 : Bool) (x10 : List V) (x11 : Int) (b8_0 : Int) (b8_1 : Int) (K : V → Option V) : Option V :=
 loopAt sE sS7 F 2 52 [1, 1, 1, 1, 1, 0, 1, 0] ns K n (mkSt 90 [(0, V.sl 24 [(Kd.int .i64), (Kd.int .i64)] none x0), (1, V.sl 24 [(Kd.int .i64), (Kd.int .i64)] none x1), (2, (V.fn 53 [])), (6, V.sl 24 [(Kd.int .i64), (Kd.int .i64)] (some 6) []), (7, V.sl 24 [(Kd.int .i64), (Kd.int .i64)] (some 7) x7), (8, (V.box 8 0)), (9, V.bool x9), (10, V.sl 73 [(Kd.int .i64), (Kd.int .i64), (Kd.int .i64)] (some 10) x10), (11, V.int .i64 x11)] [(8, [V.int .i64 b8_0, V.int .i64 b8_1])])
noncomputable def pSw0_L1 (F : Nat) (ns : List Nat) (n : Nat) (x0 : List V) (x1 : List V) (x7 : List V) (x9 : Bool) (x10 : List V) (x11 : Int) (x12 : Int) (b8_0 : Int) (b8_1 : Int) (K : V → Option V) : Option V :=
 loopAt sE sS7 F 2 52 [1, 1, 1, 1, 1, 0, 1, 0, 0, 1, 0, 1, 0, 0] ns K n (mkSt 90 [(0, V.sl 24 [(Kd.int .i64), (Kd.int .i64)] none x0), (1, V.sl 24 [(Kd.int .i64), (Kd.int .i64)] none x1), (2, (V.fn 53 [])), (6, V.sl 24 [(Kd.int .i64), (Kd.int .i64)] (some 6) []), (7, V.sl 24 [(Kd.int .i64), (Kd.int .i64)] (some 7) x7), (8, (V.box 8 0)), (9, V.bool x9), (10, V.sl 73 [(Kd.int .i64), (Kd.int .i64), (Kd.int .i64)] (some 10) x10), (11, V.int .i64 x11), (12, V.int .i64 x12)] [(8, [V.int .i64 b8_0, V.int .i64 b8_1])])
noncomputable def pSw0_L2 (F : Nat) (ns : List Nat) (n : Nat) (x7 : List V) (x9 : Bool) (x10 : List V) (x11 : Int) (b8_0 : Int) (b8_1 : Int) (K : V → Option V) : Option V :=
 loopAt sE sS7 F 2 52 [1, 1, 1, 1, 1, 0, 1, 0] ns K n (mkSt 90 [(2, (V.fn 53 [])), (6, V.sl 24 [(Kd.int .i64), (Kd.int .i64)] (some 6) []), (7, V.sl 24 [(Kd.int .i64), (Kd.int .i64)] (some 7) x7), (8, (V.box 8 0)), (9, V.bool x9), (10, V.sl 73 [(Kd.int .i64), (Kd.int .i64), (Kd.int .i64)] (some 10) x10), (11, V.int .i64 x11)] [(8, [V.int .i64 b8_0, V.int .i64 b8_1])])
noncomputable def pSw0_L3 (F : Nat) (ns : List Nat) (n : Nat) (x7 : List V) (x9 : Bool) (x10 : List V) (x11 : Int) (x12 : Int) (b8_0 : Int) (b8_1 : Int) (K : V → Option V) : Option V :=
 loopAt sE sS7 F 2 52 [1, 1, 1, 1, 1, 0, 1, 0, 0, 1, 0, 1, 0, 0] ns K n (mkSt 90 [(2, (V.fn 53 [])), (6, V.sl 24 [(Kd.int .i64), (Kd.int .i64)] (some 6) []), (7, V.sl 24 [(Kd.int .i64), (Kd.int .i64)] (some 7) x7), (8, (V.box 8 0)), (9, V.bool x9), (10, V.sl 73 [(Kd.int .i64), (Kd.int .i64), (Kd.int .i64)] (some 10) x10), (11, V.int .i64 x11), (12, V.int .i64 x12)] [(8, [V.int .i64 b8_0, V.int .i64 b8_1])])
set_option maxRecDepth 100000 in
theorem pSw0_top (F : Nat) (xs : List V) (ys : List V) (K : V → Option V) :
 evBd sE (evFn sE sS7 F 2) F 52 [(V.sl 24 [(Kd.int .i64), (Kd.int .i64)] none xs), (V.sl 24 [(Kd.int .i64), (Kd.int .i64)] none ys), (V.fn 53 [])] K =
 sel (band (band true true) (band (ile (llen xs) 1000000) (ile (llen ys) 1000000)))
 (pSw0_L0 F [] F xs ys [] false (edV xs ys) 0 0 0 K)
 (none) := by kernel_rfl
set_option maxRecDepth 100000 in
theorem pSw0_L0_succ (F : Nat) (n : Nat) (x0 : List V) (x1 : List V) (x7 : List V) (x9 : Bool) (x10 : List V) (x11 : Int) (b8_0 : Int) (b8_1 : Int) (K : V → Option V) :
 pSw0_L0 F [] (n + 1) x0 x1 x7 x9 x10 x11 b8_0 b8_1 K =
 sel (ilt x11 (llen x10))
 (sel (band (ile 0 x11) (ilt x11 (llen x10)))
 (pSw0_L1 F [n] F x0 x1 x7 x9 x10 x11 (asInt (acell (lget x10 x11) 0)) b8_0 b8_1 K)
 (none))
 (K (V.sl 24 [(Kd.int .i64), (Kd.int .i64)] (some 7) x7)) := by kernel_rfl
set_option maxRecDepth 100000 in
theorem pSw0_L1_succ (F : Nat) (m0 : Nat) (n : Nat) (x0 : List V) (x1 : List V) (x7 : List V) (x9 : Bool) (x10 : List V) (x11 : Int) (x12 : Int) (b8_0 : Int) (b8_1 : Int) (K : V → Option V) :
 pSw0_L1 F [m0] (n + 1) x0 x1 x7 x9 x10 x11 x12 b8_0 b8_1 K =
 sel (ilt x11 (llen x10))
 (sel (band (ile 0 x11) (ilt x11 (llen x10)))
 (sel (ieq (asInt (acell (lget x10 x11) 0)) x12)
 (sel (band (ile 0 x11) (ilt x11 (llen x10)))
 (sel (ieq (asInt (acell (lget x10 x11) 2)) 0)
 (sel (band (ile 0 x11) (ilt x11 (llen x10)))
 (sel (ieq (asInt (acell (lget x10 x11) 2)) 0)
 (pSw0_L1 F [m0] n x0 x1 x7 x9 x10 (iadd .i64 x11 1) x12 (iadd .i64 b8_0 (asInt (acell (lget x10 x11) 1))) b8_1 K)
 (sel (ieq (asInt (acell (lget x10 x11) 2)) 1)
 (pSw0_L1 F [m0] n x0 x1 x7 x9 x10 (iadd .i64 x11 1) x12 b8_0 (iadd .i64 b8_0 (asInt (acell (lget x10 x11) 1))) K)
 (none)))
 (none))
 (sel (ieq (asInt (acell (lget x10 x11) 2)) 1)
 (sel (band (ile 0 x11) (ilt x11 (llen x10)))
 (sel (ieq (asInt (acell (lget x10 x11) 2)) 0)
 (pSw0_L1 F [m0] n x0 x1 x7 x9 x10 (iadd .i64 x11 1) x12 (iadd .i64 b8_1 (asInt (acell (lget x10 x11) 1))) b8_1 K)
 (sel (ieq (asInt (acell (lget x10 x11) 2)) 1)
 (pSw0_L1 F [m0] n x0 x1 x7 x9 x10 (iadd .i64 x11 1) x12 b8_0 (iadd .i64 b8_1 (asInt (acell (lget x10 x11) 1))) K)
 (none)))
 (none))
 (none)))
 (none))
 (sel (kp 0 (ilt 0 b8_0) (ilt 0 b8_1))
 (sel (bnot x9)
 (sel (okApp x7 [(V.agg [(V.int .i64 x12), (V.int .i64 0)])])
 (pSw0_L0 F [] m0 x0 x1 (lcat x7 [(V.agg [(V.int .i64 x12), (V.int .i64 0)])]) (kp 0 (ilt 0 b8_0) (ilt 0 b8_1)) x10 x11 b8_0 b8_1 K)
 (none))
 (sel (bnot (kp 0 (ilt 0 b8_0) (ilt 0 b8_1)))
 (sel x9
 (sel (band (ile 0 (isub .i64 (llen x7) 1)) (ilt (isub .i64 (llen x7) 1) (llen x7)))
 (pSw0_L2 F [] m0 (lset x7 (isub .i64 (llen x7) 1) (aset (lget x7 (isub .i64 (llen x7) 1)) 1 (V.int .i64 x12))) (kp 0 (ilt 0 b8_0) (ilt 0 b8_1)) x10 x11 b8_0 b8_1 K)
 (none))
 (pSw0_L0 F [] m0 x0 x1 x7 (kp 0 (ilt 0 b8_0) (ilt 0 b8_1)) x10 x11 b8_0 b8_1 K))
 (pSw0_L0 F [] m0 x0 x1 x7 (kp 0 (ilt 0 b8_0) (ilt 0 b8_1)) x10 x11 b8_0 b8_1 K)))
 (sel (bnot (kp 0 (ilt 0 b8_0) (ilt 0 b8_1)))
 (sel x9
 (sel (band (ile 0 (isub .i64 (llen x7) 1)) (ilt (isub .i64 (llen x7) 1) (llen x7)))
 (pSw0_L2 F [] m0 (lset x7 (isub .i64 (llen x7) 1) (aset (lget x7 (isub .i64 (llen x7) 1)) 1 (V.int .i64 x12))) (kp 0 (ilt 0 b8_0) (ilt 0 b8_1)) x10 x11 b8_0 b8_1 K)
 (none))
 (pSw0_L0 F [] m0 x0 x1 x7 (kp 0 (ilt 0 b8_0) (ilt 0 b8_1)) x10 x11 b8_0 b8_1 K))
 (pSw0_L0 F [] m0 x0 x1 x7 (kp 0 (ilt 0 b8_0) (ilt 0 b8_1)) x10 x11 b8_0 b8_1 K))))
 (none))
 (sel (kp 0 (ilt 0 b8_0) (ilt 0 b8_1))
 (sel (bnot x9)
 (sel (okApp x7 [(V.agg [(V.int .i64 x12), (V.int .i64 0)])])
 (pSw0_L0 F [] m0 x0 x1 (lcat x7 [(V.agg [(V.int .i64 x12), (V.int .i64 0)])]) (kp 0 (ilt 0 b8_0) (ilt 0 b8_1)) x10 x11 b8_0 b8_1 K)
 (none))
 (sel (bnot (kp 0 (ilt 0 b8_0) (ilt 0 b8_1)))
 (sel x9
 (sel (band (ile 0 (isub .i64 (llen x7) 1)) (ilt (isub .i64 (llen x7) 1) (llen x7)))
 (pSw0_L2 F [] m0 (lset x7 (isub .i64 (llen x7) 1) (aset (lget x7 (isub .i64 (llen x7) 1)) 1 (V.int .i64 x12))) (kp 0 (ilt 0 b8_0) (ilt 0 b8_1)) x10 x11 b8_0 b8_1 K)
 (none))
 (pSw0_L0 F [] m0 x0 x1 x7 (kp 0 (ilt 0 b8_0) (ilt 0 b8_1)) x10 x11 b8_0 b8_1 K))
 (pSw0_L0 F [] m0 x0 x1 x7 (kp 0 (ilt 0 b8_0) (ilt 0 b8_1)) x10 x11 b8_0 b8_1 K)))
 (sel (bnot (kp 0 (ilt 0 b8_0) (ilt 0 b8_1)))
 (sel x9
 (sel (band (ile 0 (isub .i64 (llen x7) 1)) (ilt (isub .i64 (llen x7) 1) (llen x7)))
 (pSw0_L2 F [] m0 (lset x7 (isub .i64 (llen x7) 1) (aset (lget x7 (isub .i64 (llen x7) 1)) 1 (V.int .i64 x12))) (kp 0 (ilt 0 b8_0) (ilt 0 b8_1)) x10 x11 b8_0 b8_1 K)
 (none))
 (pSw0_L0 F [] m0 x0 x1 x7 (kp 0 (ilt 0 b8_0) (ilt 0 b8_1)) x10 x11 b8_0 b8_1 K))
 (pSw0_L0 F [] m0 x0 x1 x7 (kp 0 (ilt 0 b8_0) (ilt 0 b8_1)) x10 x11 b8_0 b8_1 K))) := by kernel_rfl
set_option maxRecDepth 100000 in
theorem pSw0_L2_succ (F : Nat) (n : Nat) (x7 : List V) (x9 : Bool) (x10 : List V) (x11 : Int) (b8_0 : Int) (b8_1 : Int) (K : V → Option V) :
 pSw0_L2 F [] (n + 1) x7 x9 x10 x11 b8_0 b8_1 K =
 sel (ilt x11 (llen x10))
 (sel (band (ile 0 x11) (ilt x11 (llen x10)))
 (pSw0_L3 F [n] F x7 x9 x10 x11 (asInt (acell (lget x10 x11) 0)) b8_0 b8_1 K)
 (none))
 (K (V.sl 24 [(Kd.int .i64), (Kd.int .i64)] (some 7) x7)) := by kernel_rfl
set_option maxRecDepth 100000 in
theorem pSw0_L3_succ (F : Nat) (m0 : Nat) (n : Nat) (x7 : List V) (x9 : Bool) (x10 : List V) (x11 : Int) (x12 : Int) (b8_0 : Int) (b8_1 : Int) (K : V → Option V) :
 pSw0_L3 F [m0] (n + 1) x7 x9 x10 x11 x12 b8_0 b8_1 K =
 sel (ilt x11 (llen x10))
 (sel (band (ile 0 x11) (ilt x11 (llen x10)))
 (sel (ieq (asInt (acell (lget x10 x11) 0)) x12)
 (sel (band (ile 0 x11) (ilt x11 (llen x10)))
 (sel (ieq (asInt (acell (lget x10 x11) 2)) 0)
 (sel (band (ile 0 x11) (ilt x11 (llen x10)))
 (sel (ieq (asInt (acell (lget x10 x11) 2)) 0)
 (pSw0_L3 F [m0] n x7 x9 x10 (iadd .i64 x11 1) x12 (iadd .i64 b8_0 (asInt (acell (lget x10 x11) 1))) b8_1 K)
 (sel (ieq (asInt (acell (lget x10 x11) 2)) 1)
 (pSw0_L3 F [m0] n x7 x9 x10 (iadd .i64 x11 1) x12 b8_0 (iadd .i64 b8_0 (asInt (acell (lget x10 x11) 1))) K)
 (none)))
 (none))
 (sel (ieq (asInt (acell (lget x10 x11) 2)) 1)
 (sel (band (ile 0 x11) (ilt x11 (llen x10)))
 (sel (ieq (asInt (acell (lget x10 x11) 2)) 0)
 (pSw0_L3 F [m0] n x7 x9 x10 (iadd .i64 x11 1) x12 (iadd .i64 b8_1 (asInt (acell (lget x10 x11) 1))) b8_1 K)
 (sel (ieq (asInt (acell (lget x10 x11) 2)) 1)
 (pSw0_L3 F [m0] n x7 x9 x10 (iadd .i64 x11 1) x12 b8_0 (iadd .i64 b8_1 (asInt (acell (lget x10 x11) 1))) K)
 (none)))
 (none))
 (none)))
 (none))
 (sel (kp 0 (ilt 0 b8_0) (ilt 0 b8_1))
 (sel (bnot x9)
 (sel (okApp x7 [(V.agg [(V.int .i64 x12), (V.int .i64 0)])])
 (pSw0_L2 F [] m0 (lcat x7 [(V.agg [(V.int .i64 x12), (V.int .i64 0)])]) (kp 0 (ilt 0 b8_0) (ilt 0 b8_1)) x10 x11 b8_0 b8_1 K)
 (none))
 (sel (bnot (kp 0 (ilt 0 b8_0) (ilt 0 b8_1)))
 (sel x9
 (sel (band (ile 0 (isub .i64 (llen x7) 1)) (ilt (isub .i64 (llen x7) 1) (llen x7)))
 (pSw0_L2 F [] m0 (lset x7 (isub .i64 (llen x7) 1) (aset (lget x7 (isub .i64 (llen x7) 1)) 1 (V.int .i64 x12))) (kp 0 (ilt 0 b8_0) (ilt 0 b8_1)) x10 x11 b8_0 b8_1 K)
 (none))
 (pSw0_L2 F [] m0 x7 (kp 0 (ilt 0 b8_0) (ilt 0 b8_1)) x10 x11 b8_0 b8_1 K))
 (pSw0_L2 F [] m0 x7 (kp 0 (ilt 0 b8_0) (ilt 0 b8_1)) x10 x11 b8_0 b8_1 K)))
 (sel (bnot (kp 0 (ilt 0 b8_0) (ilt 0 b8_1)))
 (sel x9
 (sel (band (ile 0 (isub .i64 (llen x7) 1)) (ilt (isub .i64 (llen x7) 1) (llen x7)))
 (pSw0_L2 F [] m0 (lset x7 (isub .i64 (llen x7) 1) (aset (lget x7 (isub .i64 (llen x7) 1)) 1 (V.int .i64 x12))) (kp 0 (ilt 0 b8_0) (ilt 0 b8_1)) x10 x11 b8_0 b8_1 K)
 (none))
 (pSw0_L2 F [] m0 x7 (kp 0 (ilt 0 b8_0) (ilt 0 b8_1)) x10 x11 b8_0 b8_1 K))
 (pSw0_L2 F [] m0 x7 (kp 0 (ilt 0 b8_0) (ilt 0 b8_1)) x10 x11 b8_0 b8_1 K))))
 (none))
 (sel (kp 0 (ilt 0 b8_0) (ilt 0 b8_1))
 (sel (bnot x9)
 (sel (okApp x7 [(V.agg [(V.int .i64 x12), (V.int .i64 0)])])
 (pSw0_L2 F [] m0 (lcat x7 [(V.agg [(V.int .i64 x12), (V.int .i64 0)])]) (kp 0 (ilt 0 b8_0) (ilt 0 b8_1)) x10 x11 b8_0 b8_1 K)
 (none))
 (sel (bnot (kp 0 (ilt 0 b8_0) (ilt 0 b8_1)))
 (sel x9
 (sel (band (ile 0 (isub .i64 (llen x7) 1)) (ilt (isub .i64 (llen x7) 1) (llen x7)))
 (pSw0_L2 F [] m0 (lset x7 (isub .i64 (llen x7) 1) (aset (lget x7 (isub .i64 (llen x7) 1)) 1 (V.int .i64 x12))) (kp 0 (ilt 0 b8_0) (ilt 0 b8_1)) x10 x11 b8_0 b8_1 K)
 (none))
 (pSw0_L2 F [] m0 x7 (kp 0 (ilt 0 b8_0) (ilt 0 b8_1)) x10 x11 b8_0 b8_1 K))
 (pSw0_L2 F [] m0 x7 (kp 0 (ilt 0 b8_0) (ilt 0 b8_1)) x10 x11 b8_0 b8_1 K)))
 (sel (bnot (kp 0 (ilt 0 b8_0) (ilt 0 b8_1)))
 (sel x9
 (sel (band (ile 0 (isub .i64 (llen x7) 1)) (ilt (isub .i64 (llen x7) 1) (llen x7)))
 (pSw0_L2 F [] m0 (lset x7 (isub .i64 (llen x7) 1) (aset (lget x7 (isub .i64 (llen x7) 1)) 1 (V.int .i64 x12))) (kp 0 (ilt 0 b8_0) (ilt 0 b8_1)) x10 x11 b8_0 b8_1 K)
 (none))
 (pSw0_L2 F [] m0 x7 (kp 0 (ilt 0 b8_0) (ilt 0 b8_1)) x10 x11 b8_0 b8_1 K))
 (pSw0_L2 F [] m0 x7 (kp 0 (ilt 0 b8_0) (ilt 0 b8_1)) x10 x11 b8_0 b8_1 K))) := by kernel_rfl
noncomputable def pSw1_L0 (F : Nat) (ns : List Nat) (n : Nat) (x0 : List V) (x1 : List V) (x7 : List V) (x9 : Bool) (x10 : List V) (x11 : Int) (b8_0 : Int) (b8_1 : Int) (K : V → Option V) : Option V :=
 loopAt sE sS7 F 2 52 [1, 1, 1, 1, 1, 0, 1, 0] ns K n (mkSt 90 [(0, V.sl 24 [(Kd.int .i64), (Kd.int .i64)] none x0), (1, V.sl 24 [(Kd.int .i64), (Kd.int .i64)] none x1), (2, (V.fn 54 [])), (6, V.sl 24 [(Kd.int .i64), (Kd.int .i64)] (some 6) []), (7, V.sl 24 [(Kd.int .i64), (Kd.int .i64)] (some 7) x7), (8, (V.box 8 0)), (9, V.bool x9), (10, V.sl 73 [(Kd.int .i64), (Kd.int .i64), (Kd.int .i64)] (some 10) x10), (11, V.int .i64 x11)] [(8, [V.int .i64 b8_0, V.int .i64 b8_1])])
noncomputable def pSw1_L1 (F : Nat) (ns : List Nat) (n : Nat) (x0 : List V) (x1 : List V) (x7 : List V) (x9 : Bool) (x10 : List V) (x11 : Int) (x12 : Int) (b8_0 : Int) (b8_1 : Int) (K : V → Option V) : Option V :=
 loopAt sE sS7 F 2 52 [1, 1, 1, 1, 1, 0, 1, 0, 0, 1, 0, 1, 0, 0] ns K n (mkSt 90 [(0, V.sl 24 [(Kd.int .i64), (Kd.int .i64)] none x0), (1, V.sl 24 [(Kd.int .i64), (Kd.int .i64)] none x1), (2, (V.fn 54 [])), (6, V.sl 24 [(Kd.int .i64), (Kd.int .i64)] (some 6) []), (7, V.sl 24 [(Kd.int .i64), (Kd.int .i64)] (some 7) x7), (8, (V.box 8 0)), (9, V.bool x9), (10, V.sl 73 [(Kd.int .i64), (Kd.int .i64), (Kd.int .i64)] (some 10) x10), (11, V.int .i64 x11), (12, V.int .i64 x12)] [(8, [V.int .i64 b8_0, V.int .i64 b8_1])])
noncomputable def pSw1_L2 (F : Nat) (ns : List Nat) (n : Nat) (x7 : List V) (x9 : Bool) (x10 : List V) (x11 : Int) (b8_0 : Int) (b8_1 : Int) (K : V → Option V) : Option V :=
 loopAt sE sS7 F 2 52 [1, 1, 1, 1, 1, 0, 1, 0] ns K n (mkSt 90 [(2, (V.fn 54 [])), (6, V.sl 24 [(Kd.int .i64), (Kd.int .i64)] (some 6) []), (7, V.sl 24 [(Kd.int .i64), (Kd.int .i64)] (some 7) x7), (8, (V.box 8 0)), (9, V.bool x9), (10, V.sl 73 [(Kd.int .i64), (Kd.int .i64), (Kd.int .i64)] (some 10) x10), (11, V.int .i64 x11)] [(8, [V.int .i64 b8_0, V.int .i64 b8_1])])
noncomputable def pSw1_L3 (F : Nat) (ns : List Nat) (n : Nat) (x7 : List V) (x9 : Bool) (x10 : List V) (x11 : Int) (x12 : Int) (b8_0 : Int) (b8_1 : Int) (K : V → Option V) : Option V :=
 loopAt sE sS7 F 2 52 [1, 1, 1, 1, 1, 0, 1, 0, 0, 1, 0, 1, 0, 0] ns K n (mkSt 90 [(2, (V.fn 54 [])), (6, V.sl 24 [(Kd.int .i64), (Kd.int .i64)] (some 6) []), (7, V.sl 24 [(Kd.int .i64), (Kd.int .i64)] (some 7) x7), (8, (V.box 8 0)), (9, V.bool x9), (10, V.sl 73 [(Kd.int .i64), (Kd.int .i64), (Kd.int .i64)] (some 10) x10), (11, V.int .i64 x11), (12, V.int .i64 x12)] [(8, [V.int .i64 b8_0, V.int .i64 b8_1])])
set_option maxRecDepth 100000 in
theorem pSw1_top (F : Nat) (xs : List V) (ys : List V) (K : V → Option V) :
 evBd sE (evFn sE sS7 F 2) F 52 [(V.sl 24 [(Kd.int .i64), (Kd.int .i64)] none xs), (V.sl 24 [(Kd.int .i64), (Kd.int .i64)] none ys), (V.fn 54 [])] K =
 sel (band (band true true) (band (ile (llen xs) 1000000) (ile (llen ys) 1000000)))
 (pSw1_L0 F [] F xs ys [] false (edV xs ys) 0 0 0 K)
 (none) := by kernel_rfl
set_option maxRecDepth 100000 in
theorem pSw1_L0_succ (F : Nat) (n : Nat) (x0 : List V) (x1 : List V) (x7 : List V) (x9 : Bool) (x10 : List V) (x11 : Int) (b8_0 : Int) (b8_1 : Int) (K : V → Option V) :
 pSw1_L0 F [] (n + 1) x0 x1 x7 x9 x10 x11 b8_0 b8_1 K =
 sel (ilt x11 (llen x10))
 (sel (band (ile 0 x11) (ilt x11 (llen x10)))
 (pSw1_L1 F [n] F x0 x1 x7 x9 x10 x11 (asInt (acell (lget x10 x11) 0)) b8_0 b8_1 K)
 (none))
 (K (V.sl 24 [(Kd.int .i64), (Kd.int .i64)] (some 7) x7)) := by kernel_rfl
set_option maxRecDepth 100000 in
theorem pSw1_L1_succ (F : Nat) (m0 : Nat) (n : Nat) (x0 : List V) (x1 : List V) (x7 : List V) (x9 : Bool) (x10 : List V) (x11 : Int) (x12 : Int) (b8_0 : Int) (b8_1 : Int) (K : V → Option V) :
 pSw1_L1 F [m0] (n + 1) x0 x1 x7 x9 x10 x11 x12 b8_0 b8_1 K =
 sel (ilt x11 (llen x10))
 (sel (band (ile 0 x11) (ilt x11 (llen x10)))
 (sel (ieq (asInt (acell (lget x10 x11) 0)) x12)
 (sel (band (ile 0 x11) (ilt x11 (llen x10)))
 (sel (ieq (asInt (acell (lget x10 x11) 2)) 0)
 (sel (band (ile 0 x11) (ilt x11 (llen x10)))
 (sel (ieq (asInt (acell (lget x10 x11) 2)) 0)
 (pSw1_L1 F [m0] n x0 x1 x7 x9 x10 (iadd .i64 x11 1) x12 (iadd .i64 b8_0 (asInt (acell (lget x10 x11) 1))) b8_1 K)
 (sel (ieq (asInt (acell (lget x10 x11) 2)) 1)
 (pSw1_L1 F [m0] n x0 x1 x7 x9 x10 (iadd .i64 x11 1) x12 b8_0 (iadd .i64 b8_0 (asInt (acell (lget x10 x11) 1))) K)
 (none)))
 (none))
 (sel (ieq (asInt (acell (lget x10 x11) 2)) 1)
 (sel (band (ile 0 x11) (ilt x11 (llen x10)))
 (sel (ieq (asInt (acell (lget x10 x11) 2)) 0)
 (pSw1_L1 F [m0] n x0 x1 x7 x9 x10 (iadd .i64 x11 1) x12 (iadd .i64 b8_1 (asInt (acell (lget x10 x11) 1))) b8_1 K)
 (sel (ieq (asInt (acell (lget x10 x11) 2)) 1)
 (pSw1_L1 F [m0] n x0 x1 x7 x9 x10 (iadd .i64 x11 1) x12 b8_0 (iadd .i64 b8_1 (asInt (acell (lget x10 x11) 1))) K)
 (none)))
 (none))
 (none)))
 (none))
 (sel (kp 1 (ilt 0 b8_0) (ilt 0 b8_1))
 (sel (bnot x9)
 (sel (okApp x7 [(V.agg [(V.int .i64 x12), (V.int .i64 0)])])
 (pSw1_L0 F [] m0 x0 x1 (lcat x7 [(V.agg [(V.int .i64 x12), (V.int .i64 0)])]) (kp 1 (ilt 0 b8_0) (ilt 0 b8_1)) x10 x11 b8_0 b8_1 K)
 (none))
 (sel (bnot (kp 1 (ilt 0 b8_0) (ilt 0 b8_1)))
 (sel x9
 (sel (band (ile 0 (isub .i64 (llen x7) 1)) (ilt (isub .i64 (llen x7) 1) (llen x7)))
 (pSw1_L2 F [] m0 (lset x7 (isub .i64 (llen x7) 1) (aset (lget x7 (isub .i64 (llen x7) 1)) 1 (V.int .i64 x12))) (kp 1 (ilt 0 b8_0) (ilt 0 b8_1)) x10 x11 b8_0 b8_1 K)
 (none))
 (pSw1_L0 F [] m0 x0 x1 x7 (kp 1 (ilt 0 b8_0) (ilt 0 b8_1)) x10 x11 b8_0 b8_1 K))
 (pSw1_L0 F [] m0 x0 x1 x7 (kp 1 (ilt 0 b8_0) (ilt 0 b8_1)) x10 x11 b8_0 b8_1 K)))
 (sel (bnot (kp 1 (ilt 0 b8_0) (ilt 0 b8_1)))
 (sel x9
 (sel (band (ile 0 (isub .i64 (llen x7) 1)) (ilt (isub .i64 (llen x7) 1) (llen x7)))
 (pSw1_L2 F [] m0 (lset x7 (isub .i64 (llen x7) 1) (aset (lget x7 (isub .i64 (llen x7) 1)) 1 (V.int .i64 x12))) (kp 1 (ilt 0 b8_0) (ilt 0 b8_1)) x10 x11 b8_0 b8_1 K)
 (none))
 (pSw1_L0 F [] m0 x0 x1 x7 (kp 1 (ilt 0 b8_0) (ilt 0 b8_1)) x10 x11 b8_0 b8_1 K))
 (pSw1_L0 F [] m0 x0 x1 x7 (kp 1 (ilt 0 b8_0) (ilt 0 b8_1)) x10 x11 b8_0 b8_1 K))))
 (none))
 (sel (kp 1 (ilt 0 b8_0) (ilt 0 b8_1))
 (sel (bnot x9)
 (sel (okApp x7 [(V.agg [(V.int .i64 x12), (V.int .i64 0)])])
 (pSw1_L0 F [] m0 x0 x1 (lcat x7 [(V.agg [(V.int .i64 x12), (V.int .i64 0)])]) (kp 1 (ilt 0 b8_0) (ilt 0 b8_1)) x10 x11 b8_0 b8_1 K)
 (none))
 (sel (bnot (kp 1 (ilt 0 b8_0) (ilt 0 b8_1)))
 (sel x9
 (sel (band (ile 0 (isub .i64 (llen x7) 1)) (ilt (isub .i64 (llen x7) 1) (llen x7)))
 (pSw1_L2 F [] m0 (lset x7 (isub .i64 (llen x7) 1) (aset (lget x7 (isub .i64 (llen x7) 1)) 1 (V.int .i64 x12))) (kp 1 (ilt 0 b8_0) (ilt 0 b8_1)) x10 x11 b8_0 b8_1 K)
 (none))
 (pSw1_L0 F [] m0 x0 x1 x7 (kp 1 (ilt 0 b8_0) (ilt 0 b8_1)) x10 x11 b8_0 b8_1 K))
 (pSw1_L0 F [] m0 x0 x1 x7 (kp 1 (ilt 0 b8_0) (ilt 0 b8_1)) x10 x11 b8_0 b8_1 K)))
 (sel (bnot (kp 1 (ilt 0 b8_0) (ilt 0 b8_1)))
 (sel x9
 (sel (band (ile 0 (isub .i64 (llen x7) 1)) (ilt (isub .i64 (llen x7) 1) (llen x7)))
 (pSw1_L2 F [] m0 (lset x7 (isub .i64 (llen x7) 1) (aset (lget x7 (isub .i64 (llen x7) 1)) 1 (V.int .i64 x12))) (kp 1 (ilt 0 b8_0) (ilt 0 b8_1)) x10 x11 b8_0 b8_1 K)
 (none))
 (pSw1_L0 F [] m0 x0 x1 x7 (kp 1 (ilt 0 b8_0) (ilt 0 b8_1)) x10 x11 b8_0 b8_1 K))
 (pSw1_L0 F [] m0 x0 x1 x7 (kp 1 (ilt 0 b8_0) (ilt 0 b8_1)) x10 x11 b8_0 b8_1 K))) := by kernel_rfl
set_option maxRecDepth 100000 in
theorem pSw1_L2_succ (F : Nat) (n : Nat) (x7 : List V) (x9 : Bool) (x10 : List V) (x11 : Int) (b8_0 : Int) (b8_1 : Int) (K : V → Option V) :
 pSw1_L2 F [] (n + 1) x7 x9 x10 x11 b8_0 b8_1 K =
 sel (ilt x11 (llen x10))
 (sel (band (ile 0 x11) (ilt x11 (llen x10)))
 (pSw1_L3 F [n] F x7 x9 x10 x11 (asInt (acell (lget x10 x11) 0)) b8_0 b8_1 K)
 (none))
 (K (V.sl 24 [(Kd.int .i64), (Kd.int .i64)] (some 7) x7)) := by kernel_rfl
set_option maxRecDepth 100000 in
theorem pSw1_L3_succ (F : Nat) (m0 : Nat) (n : Nat) (x7 : List V) (x9 : Bool) (x10 : List V) (x11 : Int) (x12 : Int) (b8_0 : Int) (b8_1 : Int) (K : V → Option V) :
 pSw1_L3 F [m0] (n + 1) x7 x9 x10 x11 x12 b8_0 b8_1 K =
 sel (ilt x11 (llen x10))
 (sel (band (ile 0 x11) (ilt x11 (llen x10)))
 (sel (ieq (asInt (acell (lget x10 x11) 0)) x12)
 (sel (band (ile 0 x11) (ilt x11 (llen x10)))
 (sel (ieq (asInt (acell (lget x10 x11) 2)) 0)
 (sel (band (ile 0 x11) (ilt x11 (llen x10)))
 (sel (ieq (asInt (acell (lget x10 x11) 2)) 0)
 (pSw1_L3 F [m0] n x7 x9 x10 (iadd .i64 x11 1) x12 (iadd .i64 b8_0 (asInt (acell (lget x10 x11) 1))) b8_1 K)
 (sel (ieq (asInt (acell (lget x10 x11) 2)) 1)
 (pSw1_L3 F [m0] n x7 x9 x10 (iadd .i64 x11 1) x12 b8_0 (iadd .i64 b8_0 (asInt (acell (lget x10 x11) 1))) K)
 (none)))
 (none))
 (sel (ieq (asInt (acell (lget x10 x11) 2)) 1)
 (sel (band (ile 0 x11) (ilt x11 (llen x10)))
 (sel (ieq (asInt (acell (lget x10 x11) 2)) 0)
 (pSw1_L3 F [m0] n x7 x9 x10 (iadd .i64 x11 1) x12 (iadd .i64 b8_1 (asInt (acell (lget x10 x11) 1))) b8_1 K)
 (sel (ieq (asInt (acell (lget x10 x11) 2)) 1)
 (pSw1_L3 F [m0] n x7 x9 x10 (iadd .i64 x11 1) x12 b8_0 (iadd .i64 b8_1 (asInt (acell (lget x10 x11) 1))) K)
 (none)))
 (none))
 (none)))
 (none))
 (sel (kp 1 (ilt 0 b8_0) (ilt 0 b8_1))
 (sel (bnot x9)
 (sel (okApp x7 [(V.agg [(V.int .i64 x12), (V.int .i64 0)])])
 (pSw1_L2 F [] m0 (lcat x7 [(V.agg [(V.int .i64 x12), (V.int .i64 0)])]) (kp 1 (ilt 0 b8_0) (ilt 0 b8_1)) x10 x11 b8_0 b8_1 K)
 (none))
 (sel (bnot (kp 1 (ilt 0 b8_0) (ilt 0 b8_1)))
 (sel x9
 (sel (band (ile 0 (isub .i64 (llen x7) 1)) (ilt (isub .i64 (llen x7) 1) (llen x7)))
 (pSw1_L2 F [] m0 (lset x7 (isub .i64 (llen x7) 1) (aset (lget x7 (isub .i64 (llen x7) 1)) 1 (V.int .i64 x12))) (kp 1 (ilt 0 b8_0) (ilt 0 b8_1)) x10 x11 b8_0 b8_1 K)
 (none))
 (pSw1_L2 F [] m0 x7 (kp 1 (ilt 0 b8_0) (ilt 0 b8_1)) x10 x11 b8_0 b8_1 K))
 (pSw1_L2 F [] m0 x7 (kp 1 (ilt 0 b8_0) (ilt 0 b8_1)) x10 x11 b8_0 b8_1 K)))
 (sel (bnot (kp 1 (ilt 0 b8_0) (ilt 0 b8_1)))
 (sel x9
 (sel (band (ile 0 (isub .i64 (llen x7) 1)) (ilt (isub .i64 (llen x7) 1) (llen x7)))
 (pSw1_L2 F [] m0 (lset x7 (isub .i64 (llen x7) 1) (aset (lget x7 (isub .i64 (llen x7) 1)) 1 (V.int .i64 x12))) (kp 1 (ilt 0 b8_0) (ilt 0 b8_1)) x10 x11 b8_0 b8_1 K)
 (none))
 (pSw1_L2 F [] m0 x7 (kp 1 (ilt 0 b8_0) (ilt 0 b8_1)) x10 x11 b8_0 b8_1 K))
 (pSw1_L2 F [] m0 x7 (kp 1 (ilt 0 b8_0) (ilt 0 b8_1)) x10 x11 b8_0 b8_1 K))))
 (none))
 (sel (kp 1 (ilt 0 b8_0) (ilt 0 b8_1))
 (sel (bnot x9)
 (sel (okApp x7 [(V.agg [(V.int .i64 x12), (V.int .i64 0)])])
 (pSw1_L2 F [] m0 (lcat x7 [(V.agg [(V.int .i64 x12), (V.int .i64 0)])]) (kp 1 (ilt 0 b8_0) (ilt 0 b8_1)) x10 x11 b8_0 b8_1 K)
 (none))
 (sel (bnot (kp 1 (ilt 0 b8_0) (ilt 0 b8_1)))
 (sel x9
 (sel (band (ile 0 (isub .i64 (llen x7) 1)) (ilt (isub .i64 (llen x7) 1) (llen x7)))
 (pSw1_L2 F [] m0 (lset x7 (isub .i64 (llen x7) 1) (aset (lget x7 (isub .i64 (llen x7) 1)) 1 (V.int .i64 x12))) (kp 1 (ilt 0 b8_0) (ilt 0 b8_1)) x10 x11 b8_0 b8_1 K)
 (none))
 (pSw1_L2 F [] m0 x7 (kp 1 (ilt 0 b8_0) (ilt 0 b8_1)) x10 x11 b8_0 b8_1 K))
 (pSw1_L2 F [] m0 x7 (kp 1 (ilt 0 b8_0) (ilt 0 b8_1)) x10 x11 b8_0 b8_1 K)))
 (sel (bnot (kp 1 (ilt 0 b8_0) (ilt 0 b8_1)))
 (sel x9
 (sel (band (ile 0 (isub .i64 (llen x7) 1)) (ilt (isub .i64 (llen x7) 1) (llen x7)))
 (pSw1_L2 F [] m0 (lset x7 (isub .i64 (llen x7) 1) (aset (lget x7 (isub .i64 (llen x7) 1)) 1 (V.int .i64 x12))) (kp 1 (ilt 0 b8_0) (ilt 0 b8_1)) x10 x11 b8_0 b8_1 K)
 (none))
 (pSw1_L2 F [] m0 x7 (kp 1 (ilt 0 b8_0) (ilt 0 b8_1)) x10 x11 b8_0 b8_1 K))
 (pSw1_L2 F [] m0 x7 (kp 1 (ilt 0 b8_0) (ilt 0 b8_1)) x10 x11 b8_0 b8_1 K))) := by kernel_rfl
noncomputable def pSw2_L0 (F : Nat) (ns : List Nat) (n : Nat) (x0 : List V) (x1 : List V) (x7 : List V) (x9 : Bool) (x10 : List V) (x11 : Int) (b8_0 : Int) (b8_1 : Int) (K : V → Option V) : Option V :=
 loopAt sE sS7 F 2 52 [1, 1, 1, 1, 1, 0, 1, 0] ns K n (mkSt 90 [(0, V.sl 24 [(Kd.int .i64), (Kd.int .i64)] none x0), (1, V.sl 24 [(Kd.int .i64), (Kd.int .i64)] none x1), (2, (V.fn 56 [])), (6, V.sl 24 [(Kd.int .i64), (Kd.int .i64)] (some 6) []), (7, V.sl 24 [(Kd.int .i64), (Kd.int .i64)] (some 7) x7), (8, (V.box 8 0)), (9, V.bool x9), (10, V.sl 73 [(Kd.int .i64), (Kd.int .i64), (Kd.int .i64)] (some 10) x10), (11, V.int .i64 x11)] [(8, [V.int .i64 b8_0, V.int .i64 b8_1])])
noncomputable def pSw2_L1 (F : Nat) (ns : List Nat) (n : Nat) (x0 : List V) (x1 : List V) (x7 : List V) (x9 : Bool) (x10 : List V) (x11 : Int) (x12 : Int) (b8_0 : Int) (b8_1 : Int) (K : V → Option V) : Option V :=
 loopAt sE sS7 F 2 52 [1, 1, 1, 1, 1, 0, 1, 0, 0, 1, 0, 1, 0, 0] ns K n (mkSt 90 [(0, V.sl 24 [(Kd.int .i64), (Kd.int .i64)] none x0), (1, V.sl 24 [(Kd.int .i64), (Kd.int .i64)] none x1), (2, (V.fn 56 [])), (6, V.sl 24 [(Kd.int .i64), (Kd.int .i64)] (some 6) []), (7, V.sl 24 [(Kd.int .i64), (Kd.int .i64)] (some 7) x7), (8, (V.box 8 0)), (9, V.bool x9), (10, V.sl 73 [(Kd.int .i64), (Kd.int .i64), (Kd.int .i64)] (some 10) x10), (11, V.int .i64 x11), (12, V.int .i64 x12)] [(8, [V.int .i64 b8_0, V.int .i64 b8_1])])
noncomputable def pSw2_L2 (F : Nat) (ns : List Nat) (n : Nat) (x7 : List V) (x9 : Bool) (x10 : List V) (x11 : Int) (b8_0 : Int) (b8_1 : Int) (K : V → Option V) : Option V :=
 loopAt sE sS7 F 2 52 [1, 1, 1, 1, 1, 0, 1, 0] ns K n (mkSt 90 [(2, (V.fn 56 [])), (6, V.sl 24 [(Kd.int .i64), (Kd.int .i64)] (some 6) []), (7, V.sl 24 [(Kd.int .i64), (Kd.int .i64)] (some 7) x7), (8, (V.box 8 0)), (9, V.bool x9), (10, V.sl 73 [(Kd.int .i64), (Kd.int .i64), (Kd.int .i64)] (some 10) x10), (11, V.int .i64 x11)] [(8, [V.int .i64 b8_0, V.int .i64 b8_1])])
noncomputable def pSw2_L3 (F : Nat) (ns : List Nat) (n : Nat) (x7 : List V) (x9 : Bool) (x10 : List V) (x11 : Int) (x12 : Int) (b8_0 : Int) (b8_1 : Int) (K : V → Option V) : Option V :=
 loopAt sE sS7 F 2 52 [1, 1, 1, 1, 1, 0, 1, 0, 0, 1, 0, 1, 0, 0] ns K n (mkSt 90 [(2, (V.fn 56 [])), (6, V.sl 24 [(Kd.int .i64), (Kd.int .i64)] (some 6) []), (7, V.sl 24 [(Kd.int .i64), (Kd.int .i64)] (some 7) x7), (8, (V.box 8 0)), (9, V.bool x9), (10, V.sl 73 [(Kd.int .i64), (Kd.int .i64), (Kd.int .i64)] (some 10) x10), (11, V.int .i64 x11), (12, V.int .i64 x12)] [(8, [V.int .i64 b8_0, V.int .i64 b8_1])])
set_option maxRecDepth 100000 in
theorem pSw2_top (F : Nat) (xs : List V) (ys : List V) (K : V → Option V) :
 evBd sE (evFn sE sS7 F 2) F 52 [(V.sl 24 [(Kd.int .i64), (Kd.int .i64)] none xs), (V.sl 24 [(Kd.int .i64), (Kd.int .i64)] none ys), (V.fn 56 [])] K =
 sel (band (band true true) (band (ile (llen xs) 1000000) (ile (llen ys) 1000000)))
 (pSw2_L0 F [] F xs ys [] false (edV xs ys) 0 0 0 K)
 (none) := by kernel_rfl
set_option maxRecDepth 100000 in
theorem pSw2_L0_succ (F : Nat) (n : Nat) (x0 : List V) (x1 : List V) (x7 : List V) (x9 : Bool) (x10 : List V) (x11 : Int) (b8_0 : Int) (b8_1 : Int) (K : V → Option V) :
 pSw2_L0 F [] (n + 1) x0 x1 x7 x9 x10 x11 b8_0 b8_1 K =
 sel (ilt x11 (llen x10))
 (sel (band (ile 0 x11) (ilt x11 (llen x10)))
 (pSw2_L1 F [n] F x0 x1 x7 x9 x10 x11 (asInt (acell (lget x10 x11) 0)) b8_0 b8_1 K)
 (none))
 (K (V.sl 24 [(Kd.int .i64), (Kd.int .i64)] (some 7) x7)) := by kernel_rfl
set_option maxRecDepth 100000 in
theorem pSw2_L1_succ (F : Nat) (m0 : Nat) (n : Nat) (x0 : List V) (x1 : List V) (x7 : List V) (x9 : Bool) (x10 : List V) (x11 : Int) (x12 : Int) (b8_0 : Int) (b8_1 : Int) (K : V → Option V) :
 pSw2_L1 F [m0] (n + 1) x0 x1 x7 x9 x10 x11 x12 b8_0 b8_1 K =
 sel (ilt x11 (llen x10))
 (sel (band (ile 0 x11) (ilt x11 (llen x10)))
 (sel (ieq (asInt (acell (lget x10 x11) 0)) x12)
 (sel (band (ile 0 x11) (ilt x11 (llen x10)))
 (sel (ieq (asInt (acell (lget x10 x11) 2)) 0)
 (sel (band (ile 0 x11) (ilt x11 (llen x10)))
 (sel (ieq (asInt (acell (lget x10 x11) 2)) 0)
 (pSw2_L1 F [m0] n x0 x1 x7 x9 x10 (iadd .i64 x11 1) x12 (iadd .i64 b8_0 (asInt (acell (lget x10 x11) 1))) b8_1 K)
 (sel (ieq (asInt (acell (lget x10 x11) 2)) 1)
 (pSw2_L1 F [m0] n x0 x1 x7 x9 x10 (iadd .i64 x11 1) x12 b8_0 (iadd .i64 b8_0 (asInt (acell (lget x10 x11) 1))) K)
 (none)))
 (none))
 (sel (ieq (asInt (acell (lget x10 x11) 2)) 1)
 (sel (band (ile 0 x11) (ilt x11 (llen x10)))
 (sel (ieq (asInt (acell (lget x10 x11) 2)) 0)
 (pSw2_L1 F [m0] n x0 x1 x7 x9 x10 (iadd .i64 x11 1) x12 (iadd .i64 b8_1 (asInt (acell (lget x10 x11) 1))) b8_1 K)
 (sel (ieq (asInt (acell (lget x10 x11) 2)) 1)
 (pSw2_L1 F [m0] n x0 x1 x7 x9 x10 (iadd .i64 x11 1) x12 b8_0 (iadd .i64 b8_1 (asInt (acell (lget x10 x11) 1))) K)
 (none)))
 (none))
 (none)))
 (none))
 (sel (kp 2 (ilt 0 b8_0) (ilt 0 b8_1))
 (sel (bnot x9)
 (sel (okApp x7 [(V.agg [(V.int .i64 x12), (V.int .i64 0)])])
 (pSw2_L0 F [] m0 x0 x1 (lcat x7 [(V.agg [(V.int .i64 x12), (V.int .i64 0)])]) (kp 2 (ilt 0 b8_0) (ilt 0 b8_1)) x10 x11 b8_0 b8_1 K)
 (none))
 (sel (bnot (kp 2 (ilt 0 b8_0) (ilt 0 b8_1)))
 (sel x9
 (sel (band (ile 0 (isub .i64 (llen x7) 1)) (ilt (isub .i64 (llen x7) 1) (llen x7)))
 (pSw2_L2 F [] m0 (lset x7 (isub .i64 (llen x7) 1) (aset (lget x7 (isub .i64 (llen x7) 1)) 1 (V.int .i64 x12))) (kp 2 (ilt 0 b8_0) (ilt 0 b8_1)) x10 x11 b8_0 b8_1 K)
 (none))
 (pSw2_L0 F [] m0 x0 x1 x7 (kp 2 (ilt 0 b8_0) (ilt 0 b8_1)) x10 x11 b8_0 b8_1 K))
 (pSw2_L0 F [] m0 x0 x1 x7 (kp 2 (ilt 0 b8_0) (ilt 0 b8_1)) x10 x11 b8_0 b8_1 K)))
 (sel (bnot (kp 2 (ilt 0 b8_0) (ilt 0 b8_1)))
 (sel x9
 (sel (band (ile 0 (isub .i64 (llen x7) 1)) (ilt (isub .i64 (llen x7) 1) (llen x7)))
 (pSw2_L2 F [] m0 (lset x7 (isub .i64 (llen x7) 1) (aset (lget x7 (isub .i64 (llen x7) 1)) 1 (V.int .i64 x12))) (kp 2 (ilt 0 b8_0) (ilt 0 b8_1)) x10 x11 b8_0 b8_1 K)
 (none))
 (pSw2_L0 F [] m0 x0 x1 x7 (kp 2 (ilt 0 b8_0) (ilt 0 b8_1)) x10 x11 b8_0 b8_1 K))
 (pSw2_L0 F [] m0 x0 x1 x7 (kp 2 (ilt 0 b8_0) (ilt 0 b8_1)) x10 x11 b8_0 b8_1 K))))
 (none))
 (sel (kp 2 (ilt 0 b8_0) (ilt 0 b8_1))
 (sel (bnot x9)
 (sel (okApp x7 [(V.agg [(V.int .i64 x12), (V.int .i64 0)])])
 (pSw2_L0 F [] m0 x0 x1 (lcat x7 [(V.agg [(V.int .i64 x12), (V.int .i64 0)])]) (kp 2 (ilt 0 b8_0) (ilt 0 b8_1)) x10 x11 b8_0 b8_1 K)
 (none))
 (sel (bnot (kp 2 (ilt 0 b8_0) (ilt 0 b8_1)))
 (sel x9
 (sel (band (ile 0 (isub .i64 (llen x7) 1)) (ilt (isub .i64 (llen x7) 1) (llen x7)))
 (pSw2_L2 F [] m0 (lset x7 (isub .i64 (llen x7) 1) (aset (lget x7 (isub .i64 (llen x7) 1)) 1 (V.int .i64 x12))) (kp 2 (ilt 0 b8_0) (ilt 0 b8_1)) x10 x11 b8_0 b8_1 K)
 (none))
 (pSw2_L0 F [] m0 x0 x1 x7 (kp 2 (ilt 0 b8_0) (ilt 0 b8_1)) x10 x11 b8_0 b8_1 K))
 (pSw2_L0 F [] m0 x0 x1 x7 (kp 2 (ilt 0 b8_0) (ilt 0 b8_1)) x10 x11 b8_0 b8_1 K)))
 (sel (bnot (kp 2 (ilt 0 b8_0) (ilt 0 b8_1)))
 (sel x9
 (sel (band (ile 0 (isub .i64 (llen x7) 1)) (ilt (isub .i64 (llen x7) 1) (llen x7)))
 (pSw2_L2 F [] m0 (lset x7 (isub .i64 (llen x7) 1) (aset (lget x7 (isub .i64 (llen x7) 1)) 1 (V.int .i64 x12))) (kp 2 (ilt 0 b8_0) (ilt 0 b8_1)) x10 x11 b8_0 b8_1 K)
 (none))
 (pSw2_L0 F [] m0 x0 x1 x7 (kp 2 (ilt 0 b8_0) (ilt 0 b8_1)) x10 x11 b8_0 b8_1 K))
 (pSw2_L0 F [] m0 x0 x1 x7 (kp 2 (ilt 0 b8_0) (ilt 0 b8_1)) x10 x11 b8_0 b8_1 K))) := by kernel_rfl
set_option maxRecDepth 100000 in
theorem pSw2_L2_succ (F : Nat) (n : Nat) (x7 : List V) (x9 : Bool) (x10 : List V) (x11 : Int) (b8_0 : Int) (b8_1 : Int) (K : V → Option V) :
 pSw2_L2 F [] (n + 1) x7 x9 x10 x11 b8_0 b8_1 K =
 sel (ilt x11 (llen x10))
 (sel (band (ile 0 x11) (ilt x11 (llen x10)))
 (pSw2_L3 F [n] F x7 x9 x10 x11 (asInt (acell (lget x10 x11) 0)) b8_0 b8_1 K)
 (none))
 (K (V.sl 24 [(Kd.int .i64), (Kd.int .i64)] (some 7) x7)) := by kernel_rfl
set_option maxRecDepth 100000 in
theorem pSw2_L3_succ (F : Nat) (m0 : Nat) (n : Nat) (x7 : List V) (x9 : Bool) (x10 : List V) (x11 : Int) (x12 : Int) (b8_0 : Int) (b8_1 : Int) (K : V → Option V) :
 pSw2_L3 F [m0] (n + 1) x7 x9 x10 x11 x12 b8_0 b8_1 K =
 sel (ilt x11 (llen x10))
 (sel (band (ile 0 x11) (ilt x11 (llen x10)))
 (sel (ieq (asInt (acell (lget x10 x11) 0)) x12)
 (sel (band (ile 0 x11) (ilt x11 (llen x10)))
 (sel (ieq (asInt (acell (lget x10 x11) 2)) 0)
 (sel (band (ile 0 x11) (ilt x11 (llen x10)))
 (sel (ieq (asInt (acell (lget x10 x11) 2)) 0)
 (pSw2_L3 F [m0] n x7 x9 x10 (iadd .i64 x11 1) x12 (iadd .i64 b8_0 (asInt (acell (lget x10 x11) 1))) b8_1 K)
 (sel (ieq (asInt (acell (lget x10 x11) 2)) 1)
 (pSw2_L3 F [m0] n x7 x9 x10 (iadd .i64 x11 1) x12 b8_0 (iadd .i64 b8_0 (asInt (acell (lget x10 x11) 1))) K)
 (none)))
 (none))
 (sel (ieq (asInt (acell (lget x10 x11) 2)) 1)
 (sel (band (ile 0 x11) (ilt x11 (llen x10)))
 (sel (ieq (asInt (acell (lget x10 x11) 2)) 0)
 (pSw2_L3 F [m0] n x7 x9 x10 (iadd .i64 x11 1) x12 (iadd .i64 b8_1 (asInt (acell (lget x10 x11) 1))) b8_1 K)
 (sel (ieq (asInt (acell (lget x10 x11) 2)) 1)
 (pSw2_L3 F [m0] n x7 x9 x10 (iadd .i64 x11 1) x12 b8_0 (iadd .i64 b8_1 (asInt (acell (lget x10 x11) 1))) K)
 (none)))
 (none))
 (none)))
 (none))
 (sel (kp 2 (ilt 0 b8_0) (ilt 0 b8_1))
 (sel (bnot x9)
 (sel (okApp x7 [(V.agg [(V.int .i64 x12), (V.int .i64 0)])])
 (pSw2_L2 F [] m0 (lcat x7 [(V.agg [(V.int .i64 x12), (V.int .i64 0)])]) (kp 2 (ilt 0 b8_0) (ilt 0 b8_1)) x10 x11 b8_0 b8_1 K)
 (none))
 (sel (bnot (kp 2 (ilt 0 b8_0) (ilt 0 b8_1)))
 (sel x9
 (sel (band (ile 0 (isub .i64 (llen x7) 1)) (ilt (isub .i64 (llen x7) 1) (llen x7)))
 (pSw2_L2 F [] m0 (lset x7 (isub .i64 (llen x7) 1) (aset (lget x7 (isub .i64 (llen x7) 1)) 1 (V.int .i64 x12))) (kp 2 (ilt 0 b8_0) (ilt 0 b8_1)) x10 x11 b8_0 b8_1 K)
 (none))
 (pSw2_L2 F [] m0 x7 (kp 2 (ilt 0 b8_0) (ilt 0 b8_1)) x10 x11 b8_0 b8_1 K))
 (pSw2_L2 F [] m0 x7 (kp 2 (ilt 0 b8_0) (ilt 0 b8_1)) x10 x11 b8_0 b8_1 K)))
 (sel (bnot (kp 2 (ilt 0 b8_0) (ilt 0 b8_1)))
 (sel x9
 (sel (band (ile 0 (isub .i64 (llen x7) 1)) (ilt (isub .i64 (llen x7) 1) (llen x7)))
 (pSw2_L2 F [] m0 (lset x7 (isub .i64 (llen x7) 1) (aset (lget x7 (isub .i64 (llen x7) 1)) 1 (V.int .i64 x12))) (kp 2 (ilt 0 b8_0) (ilt 0 b8_1)) x10 x11 b8_0 b8_1 K)
 (none))
 (pSw2_L2 F [] m0 x7 (kp 2 (ilt 0 b8_0) (ilt 0 b8_1)) x10 x11 b8_0 b8_1 K))
 (pSw2_L2 F [] m0 x7 (kp 2 (ilt 0 b8_0) (ilt 0 b8_1)) x10 x11 b8_0 b8_1 K))))
 (none))
 (sel (kp 2 (ilt 0 b8_0) (ilt 0 b8_1))
 (sel (bnot x9)
 (sel (okApp x7 [(V.agg [(V.int .i64 x12), (V.int .i64 0)])])
 (pSw2_L2 F [] m0 (lcat x7 [(V.agg [(V.int .i64 x12), (V.int .i64 0)])]) (kp 2 (ilt 0 b8_0) (ilt 0 b8_1)) x10 x11 b8_0 b8_1 K)
 (none))
 (sel (bnot (kp 2 (ilt 0 b8_0) (ilt 0 b8_1)))
 (sel x9
 (sel (band (ile 0 (isub .i64 (llen x7) 1)) (ilt (isub .i64 (llen x7) 1) (llen x7)))
 (pSw2_L2 F [] m0 (lset x7 (isub .i64 (llen x7) 1) (aset (lget x7 (isub .i64 (llen x7) 1)) 1 (V.int .i64 x12))) (kp 2 (ilt 0 b8_0) (ilt 0 b8_1)) x10 x11 b8_0 b8_1 K)
 (none))
 (pSw2_L2 F [] m0 x7 (kp 2 (ilt 0 b8_0) (ilt 0 b8_1)) x10 x11 b8_0 b8_1 K))
 (pSw2_L2 F [] m0 x7 (kp 2 (ilt 0 b8_0) (ilt 0 b8_1)) x10 x11 b8_0 b8_1 K)))
 (sel (bnot (kp 2 (ilt 0 b8_0) (ilt 0 b8_1)))
 (sel x9
 (sel (band (ile 0 (isub .i64 (llen x7) 1)) (ilt (isub .i64 (llen x7) 1) (llen x7)))
 (pSw2_L2 F [] m0 (lset x7 (isub .i64 (llen x7) 1) (aset (lget x7 (isub .i64 (llen x7) 1)) 1 (V.int .i64 x12))) (kp 2 (ilt 0 b8_0) (ilt 0 b8_1)) x10 x11 b8_0 b8_1 K)
 (none))
 (pSw2_L2 F [] m0 x7 (kp 2 (ilt 0 b8_0) (ilt 0 b8_1)) x10 x11 b8_0 b8_1 K))
 (pSw2_L2 F [] m0 x7 (kp 2 (ilt 0 b8_0) (ilt 0 b8_1)) x10 x11 b8_0 b8_1 K))) := by kernel_rfl
noncomputable def pBin_L0 (F : Nat) (ns : List Nat) (n : Nat) (x0 : List V) (x1 : Int) (x7 : Bool) (x8 : Int) (x9 : Int) (x10 : Int) (K : V → Option V) : Option V :=
 loopAt sE sS F 3 42 [1, 1, 1, 0, 0] ns K n (mkSt 49 [(0, V.sl 24 [(Kd.int .i64), (Kd.int .i64)] none x0), (1, V.int .i64 x1), (2, (V.fn 43 [])), (6, V.int .i64 0), (7, V.bool x7), (8, V.int .i64 x8), (9, V.int .i64 x9), (10, V.int .i64 x10)] [])
set_option maxRecDepth 100000 in
theorem pBin_top (F : Nat) (xs : List V) (t : Int) (K : V → Option V) :
 evBd sE (evFn sE sS F 3) F 42 [(V.sl 24 [(Kd.int .i64), (Kd.int .i64)] none xs), (V.int .i64 t), (V.fn 43 [])] K =
 pBin_L0 F [] F xs t false (llen xs) 0 (llen xs) K := by kernel_rfl
set_option maxRecDepth 100000 in
theorem pBin_L0_succ (F : Nat) (n : Nat) (x0 : List V) (x1 : Int) (x7 : Bool) (x8 : Int) (x9 : Int) (x10 : Int) (K : V → Option V) :
 pBin_L0 F [] (n + 1) x0 x1 x7 x8 x9 x10 K =
 sel (ilt x9 x10)
 (sel (band (ile 0 (icnv .i64 (ishr .u64 (icnv .u64 (iadd .i64 x9 x10)) 1))) (ilt (icnv .i64 (ishr .u64 (icnv .u64 (iadd .i64 x9 x10)) 1)) (llen x0)))
 (sel (ile (asInt (acell (lget x0 (icnv .i64 (ishr .u64 (icnv .u64 (iadd .i64 x9 x10)) 1))) 1)) x1)
 (pBin_L0 F [] n x0 x1 x7 x8 (iadd .i64 (icnv .i64 (ishr .u64 (icnv .u64 (iadd .i64 x9 x10)) 1)) 1) x10 K)
 (pBin_L0 F [] n x0 x1 x7 x8 x9 (icnv .i64 (ishr .u64 (icnv .u64 (iadd .i64 x9 x10)) 1)) K))
 (none))
 (sel (ilt x9 x8)
 (sel (band (ile 0 x9) (ilt x9 (llen x0)))
 (sel (ile (asInt (acell (lget x0 x9) 1)) x1)
 (K (V.tup [(V.int .i64 x9), (V.bool (ieq (-1) 0))]))
 (K (V.tup [(V.int .i64 x9), (V.bool (ieq 1 0))])))
 (none))
 (K (V.tup [(V.int .i64 x9), (V.bool false)]))) := by kernel_rfl
end Nt.Ev.Ytjobobdijjppkaa.Sp

set_option linter.unusedVariables false
set_option linter.unusedSimpArgs false
set_option linter.unusedSectionVars false
namespace Nt.Ev.Ytjobobdijjppkaa.Sp
open Go Go.RowKit Nt Nt.Num Nt.Sps Go.Proofs.Ytjobobdijjppkaa
theorem isSp_form {G : Known} {w : World} (hG : GOk G w) {x : V} {u : Value} (hx : isSp x = true) (h : rep G x u) : ∃ p cp, u = .slice p (spsOf (xsOf x)).length cp ∧ RowAt w p (spsOf (xsOf x)) := by
  cases x with
  | nilsl =>
    unfold rep at h
    subst h
    exact ⟨none, 0, rfl, fun j hj => absurd hj (by simp [xsOf, spsOf])⟩
  | sl e sh o xs =>
    have hx : (e == 24 && Kd.eqL [.int .i64, .int .i64] sh) = true := hx
    rw [Bool.and_eq_true] at hx
    have hsh : sh = K2 := by
      match sh, hx.2 with
      | [.int .i64, .int .i64], _ => rfl
    subst hsh
    show ∃ p cp, u = .slice p (spsOf xs).length cp ∧ RowAt w p (spsOf xs)
    unfold rep at h
    obtain ⟨p, cap, rfl, _, h⟩ := h
    refine ⟨p, cap, by rw [sps_len], fun j hj => ?_⟩
    have hj' := hj
    rw [sps_len] at hj
    rcases h with h | ⟨b, off, l, rfl, hGb, hE⟩
    · rw [h] at hj; exact absurd hj (by simp)
    · refine ⟨b, off, rfl, known_lt hG hGb, ?_⟩
      obtain ⟨hf, u, hu, hcs⟩ := repE_get _ _ hE j _ (List.getElem?_eq_getElem hj)
      obtain ⟨a, c, hac⟩ := fits_sp hf
      have e1 : (spsOf xs)[j] = (a, c) := by
        simp only [spsOf, List.getElem_map, hac]
        rfl
      rw [e1]
      rw [hac] at hu
      unfold rep at hu
      obtain ⟨ws, rfl, hu⟩ := hu
      unfold repL at hu
      obtain ⟨v1, t1, rfl, h1, hu⟩ := hu
      unfold repL at hu
      obtain ⟨v2, t2, rfl, h2, hu⟩ := hu
      unfold repL at hu
      subst hu
      unfold rep at h1 h2
      subst h1; subst h2
      have hcs : List.take 2 (List.drop (j * 2) (List.drop off l)) = [.int .i64 a, .int .i64 c] := hcs
      have g0 := congrArg (fun q => q[0]?) hcs
      have g1 := congrArg (fun q => q[1]?) hcs
      simp only [List.getElem?_take, List.getElem?_drop] at g0 g1
      constructor
      · refine known_cell hG hGb ?_
        rw [show off + j * 2 = off + (j * 2 + 0) by omega]
        simpa using g0
      · refine known_cell hG hGb ?_
        rw [show off + j * 2 + 1 = off + (j * 2 + 1) by omega]
        simpa using g1
  | _ => exact nomatch hx
theorem new_at {G : Known} {w w' : World} (hG : GOk G w) {b : Nat} {c : Array Value} {e : TypeId} {fr : Nat × Nat} (hB : Below w.heap.size w w') (hb : w.heap.size ≤ b) (hh : w'.heap[b]? = some (.cells c e fr)) (n : Nat) (hn : n ≤ c.size) :
    New w w' G (upd G b (c.toList.take n)) := by
  refine ⟨hB, fun b' hb' => upd_other _ _ _ _ (by omega), ?_⟩
  intro b' l h
  by_cases e' : b' = b
  · subst e'
    rw [upd_same] at h
    simp only [Option.some.injEq] at h
    subst h
    refine ⟨c, e, fr, hh, ?_⟩
    have e1 : c.toList.length = c.size := by simp
    rw [List.length_take, e1, Nat.min_eq_left hn]
  · rw [upd_other _ _ _ _ e'] at h
    obtain ⟨c', e2, fr', hc, ht⟩ := hG b' l h
    exact ⟨c', e2, fr', by rw [hB.block b' (known_lt hG h)]; exact hc, ht⟩
abbrev K3 : List Kd := [.int .i64, .int .i64, .int .i64]
theorem repE_ed (G : Known) : ∀ (l : List Ed), repE G K3 (edVs l) (edC l)
  | [] => by show repE G K3 [] _; unfold repE; trivial
  | e :: l => by
    show repE G K3 (V.agg [.int .i64 e.1, .int .i64 e.2.1, .int .i64 e.2.2] :: edVs l) (encE e ++ edC l)
    unfold repE
    refine ⟨rfl, ⟨.agg (encE e).toArray, ?_, by simp [Value.cells]⟩, ?_⟩
    · unfold rep
      refine ⟨encE e, rfl, ?_⟩
      unfold repL
      refine ⟨_, _, rfl, by unfold rep; rfl, ?_⟩
      unfold repL
      refine ⟨_, _, rfl, by unfold rep; rfl, ?_⟩
      unfold repL
      refine ⟨_, _, rfl, by unfold rep; rfl, ?_⟩
      unfold repL
      rfl
    · show repE G K3 (edVs l) (List.drop 3 (encE e ++ edC l))
      rw [show List.drop 3 (encE e ++ edC l) = edC l from rfl]
      exact repE_ed G l
theorem own_edges {G : Known} {w w' : World} (hG : GOk G w) {v : Value} (L : List Ed) (hB : Below w.heap.size w w') (h : w'.ownsRow w.heap.size 73 3 v L.length (edC L)) :
    ∃ G', New w w' G G' ∧ ownFacts G' w' (w.heap.size ≤ ·) 73 K3 (edVs L) v := by
  have hlen : (edVs L).length = L.length := by unfold edVs; simp
  rcases h.2 with ⟨rfl, h0⟩ | ⟨g, cap, cur, rfl, hg, hh, hc, hm, hs, ht⟩
  · refine ⟨G, ⟨hB, fun _ _ => rfl, fun b l hl => ?_⟩, by decide, .inl ⟨rfl, ?_⟩⟩
    · obtain ⟨c, e, fr, hc, ht⟩ := hG b l hl
      exact ⟨c, e, fr, by rw [hB.block b (known_lt hG hl)]; exact hc, ht⟩
    · have : L = [] := List.eq_nil_of_length_eq_zero h0
      rw [this]; rfl
  · refine ⟨_, new_at hG hB hg hh (L.length * 3) (by rw [hs]; exact Nat.mul_le_mul_right _ hc), by decide, .inr ⟨g, cap, cur, edC L, by rw [hlen], hg, hh, by rw [hlen]; exact hc, hm, hs, ?_, by rw [edC_len, hlen]; rfl, repE_ed _ L⟩⟩
    rw [← ht]
    exact upd_same _ _ _
theorem sEdS_ok (e : Nat) (sh : List Kd) (o : Option Nat) (x y : V) (hc : band (band (isSp x) (isSp y)) (band (ile (llen (xsOf x)) 1000000) (ile (llen (xsOf y)) 1000000)) = true) :
    Contract sE 64 [.sl e sh o [x, y]] (.sl 73 [.int .i64, .int .i64, .int .i64] (some 0) (edV (xsOf x) (xsOf y))) := by
  rw [band_iff, band_iff, band_iff, ile_iff, ile_iff, llen_nat, llen_nat] at hc
  obtain ⟨⟨c1, c2⟩, c3, c4⟩ := hc
  intro G w vs hG hg hp
  obtain ⟨u, rfl, hu⟩ := PW_one hp
  unfold rep at hu
  obtain ⟨p, cap, rfl, hcap, hu⟩ := hu
  rcases hu with hu | ⟨b, off, l, rfl, hGb, hE⟩
  · exact nomatch hu
  · unfold repE at hE
    obtain ⟨f1, ⟨u1, r1, t1⟩, hE⟩ := hE
    unfold repE at hE
    obtain ⟨f2, ⟨u2, r2, t2⟩, _⟩ := hE
    obtain ⟨p1, q1, rfl, w1⟩ := isSp_form hG c1 r1
    obtain ⟨p2, q2, rfl, w2⟩ := isSp_form hG c2 r2
    have hsl : sh.length = 1 := by
      have h1 := fitsL_len _ _ f1
      have : x.cells = [x] := by cases x <;> first | rfl | exact nomatch c1
      rw [this] at h1
      simpa using h1
    rw [hsl] at t1 t2
    have g0 := congrArg (fun q => q[0]?) t1
    have g1 := congrArg (fun q => q[0]?) t2
    simp only [List.getElem?_take, List.getElem?_drop, Value.cells] at g0 g1
    have k0 : l[off]? = some (.slice p1 (spsOf (xsOf x)).length q1) := by simpa using g0
    have k1 : l[off + 1]? = some (.slice p2 (spsOf (xsOf y)).length q2) := by simpa using g1
    have hS : ∀ k, k < 2 → ∃ p cp, w.cell? ⟨b, off + k, none⟩ = some (.slice p ((fun k : Nat => match k with | 0 => spsOf (xsOf x) | _ => spsOf (xsOf y)) k).length cp) ∧ RowAt w p ((fun k : Nat => match k with | 0 => spsOf (xsOf x) | _ => spsOf (xsOf y)) k) := by
      intro k hk
      match k, hk with
      | 0, _ => exact ⟨p1, q1, known_cell hG hGb k0, w1⟩
      | 1, _ => exact ⟨p2, q2, known_cell hG hGb k1, w2⟩
    refine (edges_walk (fun k : Nat => match k with | 0 => spsOf (xsOf x) | _ => spsOf (xsOf y)) b off cap w ?_ hS (known_lt hG hGb)).mono ?_
    · intro k hk
      match k, hk with
      | 0, _ => show (spsOf (xsOf x)).length ≤ _; rw [sps_len]; omega
      | 1, _ => show (spsOf (xsOf y)).length ≤ _; rw [sps_len]; omega
    · rintro e' w' ⟨v, rfl, hr, hB⟩
      have hlen := (srt_ok (eds (fun k : Nat => match k with | 0 => spsOf (xsOf x) | _ => spsOf (xsOf y)) 2)).2.1
      rw [← hlen] at hr
      obtain ⟨G', hN, ho⟩ := own_edges hG _ hB hr
      exact ⟨v, G', rfl, hN, ho⟩
theorem sK0_ok (a b : Bool) (hc : true = true) : Contract sE 53 [.bool a, .bool b] (.bool (kp 0 a b)) := by
  refine contract_of_body sE_ok sS_ok 5 2 ?_
  rw [pOr1_top]
  cases a <;> cases b <;> rfl
theorem sK1_ok (a b : Bool) (hc : true = true) : Contract sE 54 [.bool a, .bool b] (.bool (kp 1 a b)) := by
  refine contract_of_body sE_ok sS_ok 5 2 ?_
  rw [pAnd1_top]
  cases a <;> cases b <;> rfl
theorem sK2_ok (a b : Bool) (hc : true = true) : Contract sE 56 [.bool a, .bool b] (.bool (kp 2 a b)) := by
  refine contract_of_body sE_ok sS_ok 5 2 ?_
  rw [pLess1_top]
  cases a <;> cases b <;> rfl
theorem sS7_ok : SOk sE sS7 := by
  unfold sS7
  refine SOk.cons (fun args r h => ?_) (SOk.cons (fun args r h => ?_) (SOk.cons (fun args r h => ?_) (SOk.cons (fun args r h => ?_) (SOk.nil))))
  · unfold sEdS at h
    split at h
    · simp only [Option.some.injEq, Prod.mk.injEq] at h
      obtain ⟨hc, rfl⟩ := h
      exact sEdS_ok _ _ _ _ _ hc
    · cases h
  · unfold sK0 at h
    split at h
    · simp only [Option.some.injEq, Prod.mk.injEq] at h
      obtain ⟨hc, rfl⟩ := h
      exact sK0_ok _ _ rfl
    · cases h
  · unfold sK1 at h
    split at h
    · simp only [Option.some.injEq, Prod.mk.injEq] at h
      obtain ⟨hc, rfl⟩ := h
      exact sK1_ok _ _ rfl
    · cases h
  · unfold sK2 at h
    split at h
    · simp only [Option.some.injEq, Prod.mk.injEq] at h
      obtain ⟨hc, rfl⟩ := h
      exact sK2_ok _ _ rfl
    · cases h
theorem side_ed (xs ys : List V) : SideOk (edV xs ys) := by
  intro e he
  unfold edV at he
  rw [ed_V] at he
  have he := (srt_ok _).1.mem_iff.1 he
  have hk : ∀ (k : Int) (l : List Sp) (e : Ed), e ∈ edOf k l → e.2.2 = k ∧ (e.2.1 = 1 ∨ e.2.1 = -1) := by
    intro k l
    induction l with
    | nil => intro e h; exact nomatch h
    | cons s r ih =>
      intro e h
      have h : e ∈ (if s.1 < s.2 then [(s.1, 1, k), (s.2, -1, k)] else []) ++ edOf k r := h
      rcases List.mem_append.1 h with h | h
      · split at h
        · simp only [List.mem_cons, List.mem_nil_iff, or_false] at h
          rcases h with rfl | rfl
          · exact ⟨rfl, .inl rfl⟩
          · exact ⟨rfl, .inr rfl⟩
        · exact nomatch h
      · exact ih e h
  unfold edAB at he
  rcases List.mem_append.1 he with h | h
  · obtain ⟨h1, h2⟩ := hk 0 _ _ h; exact ⟨.inl h1, h2⟩
  · obtain ⟨h1, h2⟩ := hk 1 _ _ h; exact ⟨.inr h1, h2⟩
theorem edV_len (xs ys : List V) : (edV xs ys).length ≤ 2 * (xs.length + ys.length) := by
  unfold edV edVs
  rw [List.length_map, (srt_ok _).2.1]
  unfold edAB
  rw [List.length_append]
  have h0 := edOf_len 0 (spsOf xs)
  have h1 := edOf_len 1 (spsOf ys)
  rw [sps_len] at h0 h1
  omega
theorem sweep_is (k : Nat) (hk : kp k false false = false) (xs ys : List V) (R : List Sp) (hc : Canon R) (hR : ∀ t, Nt.Sps.hasL R t = kp k (Nt.Sps.hasL (spsOf xs) t) (Nt.Sps.hasL (spsOf ys) t)) : sw (kp k) (edOfV (edV xs ys)) 0 0 none = R := by
  unfold edV
  rw [ed_V]
  obtain ⟨h1, h2, h3⟩ := srt_ok (edAB (spsOf xs) (spsOf ys))
  obtain ⟨c1, c2⟩ := sweep_ok hk (spsOf xs) (spsOf ys) (srtE (edAB (spsOf xs) (spsOf ys))) h1 (fun e r he => sorted_of (fun i j hij hj => h3 i j hij (by rw [← h2]; exact hj)) he)
  exact canon_ext c1 hc fun t => by rw [c2 t, hR t]
theorem pSw0_ev (xs ys : List V) (h1 : xs.length ≤ 1000000) (h2 : ys.length ≤ 1000000) : Contract sE 52 [.sl 24 [.int .i64, .int .i64] none xs, .sl 24 [.int .i64, .int .i64] none ys, .fn 53 []] (.sl 24 [.int .i64, .int .i64] (some 7) (orV xs ys)) := by
  have hl := edV_len xs ys
  refine contract_of_body sE_ok sS7_ok ((edV xs ys).length + 1) 2 ?_
  rw [pSw0_top, sel_pos (by rw [band_iff, band_iff, band_iff, ile_iff, ile_iff, llen_nat, llen_nat]; exact ⟨⟨rfl, rfl⟩, by omega, by omega⟩)]
  obtain ⟨F, hF⟩ : ∃ F, (edV xs ys).length + 1 = F := ⟨_, rfl⟩
  rw [hF]
  have := run_ok (kp := kp 0) (E := edV xs ys) (F := F)
    (Lo := fun n out b i d0 d1 => pSw0_L0 F [] n xs ys out b (edV xs ys) i d0 d1 some) (Lp := fun n out b i d0 d1 => pSw0_L2 F [] n out b (edV xs ys) i d0 d1 some)
    (Li := fun m n out b i a d0 d1 => pSw0_L1 F [m] n xs ys out b (edV xs ys) i a d0 d1 some) (Lj := fun m n out b i a d0 d1 => pSw0_L3 F [m] n out b (edV xs ys) i a d0 d1 some)
    (fun n out b i d0 d1 => pSw0_L0_succ F n xs ys out b (edV xs ys) i d0 d1 some) (fun m n out b i a d0 d1 => pSw0_L1_succ F m n xs ys out b (edV xs ys) i a d0 d1 some)
    (fun n out b i d0 d1 => pSw0_L2_succ F n out b (edV xs ys) i d0 d1 some) (fun m n out b i a d0 d1 => pSw0_L3_succ F m n out b (edV xs ys) i a d0 d1 some) (side_ed xs ys) (by omega) (by omega)
  rw [sweep_is 0 rfl xs ys _ (or_canon _ _) (fun t => or_has _ _ t)] at this
  exact this
theorem pSw1_ev (xs ys : List V) (h1 : xs.length ≤ 1000000) (h2 : ys.length ≤ 1000000) : Contract sE 52 [.sl 24 [.int .i64, .int .i64] none xs, .sl 24 [.int .i64, .int .i64] none ys, .fn 54 []] (.sl 24 [.int .i64, .int .i64] (some 7) (anV xs ys)) := by
  have hl := edV_len xs ys
  refine contract_of_body sE_ok sS7_ok ((edV xs ys).length + 1) 2 ?_
  rw [pSw1_top, sel_pos (by rw [band_iff, band_iff, band_iff, ile_iff, ile_iff, llen_nat, llen_nat]; exact ⟨⟨rfl, rfl⟩, by omega, by omega⟩)]
  obtain ⟨F, hF⟩ : ∃ F, (edV xs ys).length + 1 = F := ⟨_, rfl⟩
  rw [hF]
  have := run_ok (kp := kp 1) (E := edV xs ys) (F := F)
    (Lo := fun n out b i d0 d1 => pSw1_L0 F [] n xs ys out b (edV xs ys) i d0 d1 some) (Lp := fun n out b i d0 d1 => pSw1_L2 F [] n out b (edV xs ys) i d0 d1 some)
    (Li := fun m n out b i a d0 d1 => pSw1_L1 F [m] n xs ys out b (edV xs ys) i a d0 d1 some) (Lj := fun m n out b i a d0 d1 => pSw1_L3 F [m] n out b (edV xs ys) i a d0 d1 some)
    (fun n out b i d0 d1 => pSw1_L0_succ F n xs ys out b (edV xs ys) i d0 d1 some) (fun m n out b i a d0 d1 => pSw1_L1_succ F m n xs ys out b (edV xs ys) i a d0 d1 some)
    (fun n out b i d0 d1 => pSw1_L2_succ F n out b (edV xs ys) i d0 d1 some) (fun m n out b i a d0 d1 => pSw1_L3_succ F m n out b (edV xs ys) i a d0 d1 some) (side_ed xs ys) (by omega) (by omega)
  rw [sweep_is 1 rfl xs ys _ (and_canon _ _) (fun t => and_has _ _ t)] at this
  exact this
theorem pSw2_ev (xs ys : List V) (h1 : xs.length ≤ 1000000) (h2 : ys.length ≤ 1000000) : Contract sE 52 [.sl 24 [.int .i64, .int .i64] none xs, .sl 24 [.int .i64, .int .i64] none ys, .fn 56 []] (.sl 24 [.int .i64, .int .i64] (some 7) (leV xs ys)) := by
  have hl := edV_len xs ys
  refine contract_of_body sE_ok sS7_ok ((edV xs ys).length + 1) 2 ?_
  rw [pSw2_top, sel_pos (by rw [band_iff, band_iff, band_iff, ile_iff, ile_iff, llen_nat, llen_nat]; exact ⟨⟨rfl, rfl⟩, by omega, by omega⟩)]
  obtain ⟨F, hF⟩ : ∃ F, (edV xs ys).length + 1 = F := ⟨_, rfl⟩
  rw [hF]
  have := run_ok (kp := kp 2) (E := edV xs ys) (F := F)
    (Lo := fun n out b i d0 d1 => pSw2_L0 F [] n xs ys out b (edV xs ys) i d0 d1 some) (Lp := fun n out b i d0 d1 => pSw2_L2 F [] n out b (edV xs ys) i d0 d1 some)
    (Li := fun m n out b i a d0 d1 => pSw2_L1 F [m] n xs ys out b (edV xs ys) i a d0 d1 some) (Lj := fun m n out b i a d0 d1 => pSw2_L3 F [m] n out b (edV xs ys) i a d0 d1 some)
    (fun n out b i d0 d1 => pSw2_L0_succ F n xs ys out b (edV xs ys) i d0 d1 some) (fun m n out b i a d0 d1 => pSw2_L1_succ F m n xs ys out b (edV xs ys) i a d0 d1 some)
    (fun n out b i d0 d1 => pSw2_L2_succ F n out b (edV xs ys) i d0 d1 some) (fun m n out b i a d0 d1 => pSw2_L3_succ F m n out b (edV xs ys) i a d0 d1 some) (side_ed xs ys) (by omega) (by omega)
  rw [sweep_is 2 rfl xs ys _ (less_canon _ _) (fun t => less_has _ _ t)] at this
  exact this
end Nt.Ev.Ytjobobdijjppkaa.Sp

set_option linter.unusedVariables false
set_option linter.unusedSimpArgs false
set_option linter.unusedSectionVars false
namespace Nt.Ev.Ytjobobdijjppkaa.Sp
open Go Nt.Num Go.Proofs.Ytjobobdijjppkaa
noncomputable def swR : Nat → List V → List V → List V | f, xs, ys => bif f == 53 then orV xs ys else bif f == 54 then anV xs ys else leV xs ys
noncomputable def okF : Nat → Bool | f => f == 53 || f == 54 || f == 56
noncomputable def sSwS : FSpec := fun a => match a with | [x, y, .fn f []] => some (band (okF f) (band (band (isSp x) (isSp y)) (band (ile (llen (xsOf x)) 1000000) (ile (llen (xsOf y)) 1000000))), .sl 24 [.int .i64, .int .i64] (some 0) (swR f (xsOf x) (xsOf y))) | _ => none
noncomputable def sS8 : List (Nat × FSpec) := (52, sSwS) :: []
noncomputable def sOrS : FSpec := fun a => match a with | [x, y] => some (band (band (isSp x) (isSp y)) (band (ile (llen (xsOf x)) 30000) (ile (llen (xsOf y)) 30000)), .sl 24 [.int .i64, .int .i64] none (orV (xsOf x) (xsOf y))) | _ => none
noncomputable def sAnS : FSpec := fun a => match a with | [x, y] => some (band (band (isSp x) (isSp y)) (band (ile (llen (xsOf x)) 300) (ile (llen (xsOf y)) 300)), .sl 24 [.int .i64, .int .i64] none (anV (xsOf x) (xsOf y))) | _ => none
noncomputable def sLeS : FSpec := fun a => match a with | [x, y] => some (band (band (isSp x) (isSp y)) (band (ile (llen (xsOf x)) 30000) (ile (llen (xsOf y)) 30000)), .sl 24 [.int .i64, .int .i64] none (leV (xsOf x) (xsOf y))) | _ => none
noncomputable def sS9 : List (Nat × FSpec) := (19, sOrS) :: (20, sOrS) :: (21, sAnS) :: (22, sAnS) :: (23, sLeS) :: (24, sLeS) :: []
noncomputable def sOf2 : FSpec := fun a => match a with | [x] => some (band (isSp x) (ile (llen (xsOf x)) 30000), .sl 24 [.int .i64, .int .i64] none (ofV (xsOf x))) | _ => none
noncomputable def sBiS : FSpec := fun a => match a with | [.sl 24 [.int .i64, .int .i64] o xs, .int .i64 t, .fn 43 []] => some (band (rtV xs) (ile (llen xs) 1000000), .tup [.int .i64 (biI xs t), .bool (biB xs t)]) | _ => none
noncomputable def sS10 : List (Nat × FSpec) := (17, sOf2) :: (42, sBiS) :: (47, sLnS) :: (45, sLnS) :: (46, sAdS) :: (48, sAdS) :: (28, sHaS) :: (44, sHaS) :: []
set_option maxRecDepth 100000 in
theorem pOr_top (F : Nat) (xs : List V) (ys : List V) (K : V → Option V) :
 evBd sE (evFn sE sS8 F 2) F 19 [(V.sl 24 [(Kd.int .i64), (Kd.int .i64)] none xs), (V.sl 24 [(Kd.int .i64), (Kd.int .i64)] none ys)] K =
 sel (band true (band (band true true) (band (ile (llen xs) 1000000) (ile (llen ys) 1000000))))
 (K (V.sl 24 [(Kd.int .i64), (Kd.int .i64)] (some 7) (orV xs ys)))
 (none) := by kernel_rfl
set_option maxRecDepth 100000 in
theorem pAnd_top (F : Nat) (xs : List V) (ys : List V) (K : V → Option V) :
 evBd sE (evFn sE sS8 F 2) F 21 [(V.sl 24 [(Kd.int .i64), (Kd.int .i64)] none xs), (V.sl 24 [(Kd.int .i64), (Kd.int .i64)] none ys)] K =
 sel (band true (band (band true true) (band (ile (llen xs) 1000000) (ile (llen ys) 1000000))))
 (K (V.sl 24 [(Kd.int .i64), (Kd.int .i64)] (some 7) (anV xs ys)))
 (none) := by kernel_rfl
set_option maxRecDepth 100000 in
theorem pLess_top (F : Nat) (xs : List V) (ys : List V) (K : V → Option V) :
 evBd sE (evFn sE sS8 F 2) F 23 [(V.sl 24 [(Kd.int .i64), (Kd.int .i64)] none xs), (V.sl 24 [(Kd.int .i64), (Kd.int .i64)] none ys)] K =
 sel (band true (band (band true true) (band (ile (llen xs) 1000000) (ile (llen ys) 1000000))))
 (K (V.sl 24 [(Kd.int .i64), (Kd.int .i64)] (some 7) (leV xs ys)))
 (none) := by kernel_rfl
set_option maxRecDepth 100000 in
theorem pOf_top (F : Nat) (xs : List V) (K : V → Option V) :
 evBd sE (evFn sE sS9 F 2) F 17 [(V.sl 24 [(Kd.int .i64), (Kd.int .i64)] none xs)] K =
 sel (band (band true true) (band (ile (llen xs) 30000) (ile (llen []) 30000)))
 (K (V.sl 24 [(Kd.int .i64), (Kd.int .i64)] none (orV xs [])))
 (none) := by kernel_rfl
set_option maxRecDepth 100000 in
theorem pGaps_top (F : Nat) (xs : List V) (a : Int) (b : Int) (K : V → Option V) :
 evBd sE (evFn sE sS9 F 2) F 25 [(V.sl 24 [(Kd.int .i64), (Kd.int .i64)] none xs), (V.agg [(V.int .i64 a), (V.int .i64 b)])] K =
 sel (band (band true true) (band (ile (llen [(V.agg [(V.int .i64 a), (V.int .i64 b)])]) 30000) (ile (llen xs) 30000)))
 (K (V.sl 24 [(Kd.int .i64), (Kd.int .i64)] none (leV [(V.agg [(V.int .i64 a), (V.int .i64 b)])] xs)))
 (none) := by kernel_rfl
set_option maxRecDepth 100000 in
theorem pGaps11_top (F : Nat) (xs : List V) (a : Int) (b : Int) (K : V → Option V) :
 evBd sE (evFn sE sS9 F 2) F 26 [(V.sl 24 [(Kd.int .i64), (Kd.int .i64)] none xs), (V.agg [(V.int .i64 a), (V.int .i64 b)])] K =
 sel (band (band true true) (band (ile (llen [(V.agg [(V.int .i64 a), (V.int .i64 b)])]) 30000) (ile (llen xs) 30000)))
 (K (V.sl 24 [(Kd.int .i64), (Kd.int .i64)] none (leV [(V.agg [(V.int .i64 a), (V.int .i64 b)])] xs)))
 (none) := by kernel_rfl
set_option maxRecDepth 100000 in
theorem pFind_top (F : Nat) (xs : List V) (t : Int) (K : V → Option V) :
 evBd sE (evFn sE sS10 F 2) F 10 [(V.sl 24 [(Kd.int .i64), (Kd.int .i64)] none xs), (V.int .i64 t)] K =
 sel (band true (ile (llen xs) 30000))
 (sel (band (rtV (ofV xs)) (ile (llen (ofV xs)) 1000000))
 (sel (ieq (biI (ofV xs) t) (llen (ofV xs)))
 (K (V.tup [(V.agg [(V.int .i64 0), (V.int .i64 0)]), (V.bool false)]))
 (sel (band (ile 0 (biI (ofV xs) t)) (ilt (biI (ofV xs) t) (llen (ofV xs))))
 (sel (bnot (band (ile (asInt (acell (lget (ofV xs) (biI (ofV xs) t)) 0)) t) (ilt t (asInt (acell (lget (ofV xs) (biI (ofV xs) t)) 1)))))
 (K (V.tup [(V.agg [(V.int .i64 0), (V.int .i64 0)]), (V.bool false)]))
 (sel (band (ile 0 (biI (ofV xs) t)) (ilt (biI (ofV xs) t) (llen (ofV xs))))
 (K (V.tup [(V.agg [(V.int .i64 (asInt (acell (lget (ofV xs) (biI (ofV xs) t)) 0))), (V.int .i64 (asInt (acell (lget (ofV xs) (biI (ofV xs) t)) 1)))]), (V.bool true)]))
 (none)))
 (none)))
 (none))
 (none) := by kernel_rfl
end Nt.Ev.Ytjobobdijjppkaa.Sp

set_option linter.unusedVariables false
set_option linter.unusedSimpArgs false
set_option linter.unusedSectionVars false
namespace Nt.Ev.Ytjobobdijjppkaa.Sp
open Go Go.RowKit Nt Nt.Num Nt.Sps Go.Proofs.Ytjobobdijjppkaa
theorem rep_sp {G : Known} {x : V} {u : Value} (hx : isSp x = true) (h : rep G x u) : rep G (.sl 24 K2 none (xsOf x)) u := by
  cases x with
  | nilsl =>
    unfold rep at h ⊢
    exact ⟨none, 0, h, Nat.le_refl _, .inl rfl⟩
  | sl e sh o xs =>
    have hx : (e == 24 && Kd.eqL [.int .i64, .int .i64] sh) = true := hx
    rw [Bool.and_eq_true] at hx
    have hsh : sh = K2 := by
      match sh, hx.2 with
      | [.int .i64, .int .i64], _ => rfl
    subst hsh
    show rep G (.sl 24 K2 none xs) u
    unfold rep at h ⊢
    exact h
  | _ => exact nomatch hx
theorem con1 {E : Env} {f : Nat} {x r : V} (hx : isSp x = true) (h : Contract E f [.sl 24 K2 none (xsOf x)] r) : Contract E f [x] r := by
  intro G w vs hG hg hp
  obtain ⟨a, rfl, ha⟩ := PW_one hp
  exact h G w _ hG hg (.cons (rep_sp hx ha) .nil)
theorem con2 {E : Env} {f : Nat} {x y r : V} (hx : isSp x = true) (hy : isSp y = true) (h : Contract E f [.sl 24 K2 none (xsOf x), .sl 24 K2 none (xsOf y)] r) : Contract E f [x, y] r := by
  intro G w vs hG hg hp
  obtain ⟨a, b, rfl, ha, hb⟩ := PW_two hp
  exact h G w _ hG hg (.cons (rep_sp hx ha) (.cons (rep_sp hy hb) .nil))
theorem con3 {E : Env} {f : Nat} {x y z r : V} (hx : isSp x = true) (hy : isSp y = true) (h : Contract E f [.sl 24 K2 none (xsOf x), .sl 24 K2 none (xsOf y), z] r) : Contract E f [x, y, z] r := by
  intro G w vs hG hg hp
  obtain ⟨a, t, rfl, ha, hp⟩ := hp.cons_inv
  obtain ⟨b, c, rfl, hb, hc⟩ := PW_two hp
  exact h G w _ hG hg (.cons (rep_sp hx ha) (.cons (rep_sp hy hb) (.cons hc .nil)))
theorem con_lab {E : Env} {f : Nat} {args : List V} {e : Nat} {sh : List Kd} {L M : Nat} {xs : List V} (h : Contract E f args (.sl e sh (some L) xs)) : Contract E f args (.sl e sh (some M) xs) := h
theorem sSwS_ok (x y : V) (f : Nat) (hc : band (okF f) (band (band (isSp x) (isSp y)) (band (ile (llen (xsOf x)) 1000000) (ile (llen (xsOf y)) 1000000))) = true) :
    Contract sE 52 [x, y, .fn f []] (.sl 24 [.int .i64, .int .i64] (some 0) (swR f (xsOf x) (xsOf y))) := by
  rw [band_iff, band_iff, band_iff, band_iff, ile_iff, ile_iff, llen_nat, llen_nat] at hc
  obtain ⟨c0, ⟨c1, c2⟩, c3, c4⟩ := hc
  refine con3 c1 c2 ?_
  have c0 : (f == 53 || f == 54 || f == 56) = true := c0
  rw [Bool.or_eq_true, Bool.or_eq_true, beq_iff_eq, beq_iff_eq, beq_iff_eq] at c0
  rcases c0 with (rfl | rfl) | rfl
  · exact con_lab (pSw0_ev _ _ (by omega) (by omega))
  · exact con_lab (pSw1_ev _ _ (by omega) (by omega))
  · exact con_lab (pSw2_ev _ _ (by omega) (by omega))
theorem sS8_ok : SOk sE sS8 := by
  unfold sS8
  refine SOk.cons (fun args r h => ?_) (SOk.nil)
  · unfold sSwS at h
    split at h
    · simp only [Option.some.injEq, Prod.mk.injEq] at h
      obtain ⟨hc, rfl⟩ := h
      exact sSwS_ok _ _ _ hc
    · cases h
theorem sOrS_ok (x y : V) (hc : band (band (isSp x) (isSp y)) (band (ile (llen (xsOf x)) 30000) (ile (llen (xsOf y)) 30000)) = true) : Contract sE 19 [x, y] (.sl 24 [.int .i64, .int .i64] none (orV (xsOf x) (xsOf y))) := by
  rw [band_iff, band_iff, band_iff, ile_iff, ile_iff, llen_nat, llen_nat] at hc
  obtain ⟨⟨c1, c2⟩, c3, c4⟩ := hc
  refine con2 c1 c2 (contract_drop1 (o := some 7) (contract_of_body sE_ok sS8_ok 5 2 ?_))
  rw [pOr_top, sel_pos (by rw [band_iff, band_iff, band_iff, band_iff, ile_iff, ile_iff, llen_nat, llen_nat]; exact ⟨rfl, ⟨rfl, rfl⟩, by omega, by omega⟩)]
theorem sOrS_ok_noontideref11_Or (x y : V) (hc : band (band (isSp x) (isSp y)) (band (ile (llen (xsOf x)) 30000) (ile (llen (xsOf y)) 30000)) = true) : Contract sE 20 [x, y] (.sl 24 [.int .i64, .int .i64] none (orV (xsOf x) (xsOf y))) := by
  rw [band_iff, band_iff, band_iff, ile_iff, ile_iff, llen_nat, llen_nat] at hc
  obtain ⟨⟨c1, c2⟩, c3, c4⟩ := hc
  exact con2 c1 c2 (pOr11_ev _ _ (by omega) (by omega))
theorem sAnS_ok (x y : V) (hc : band (band (isSp x) (isSp y)) (band (ile (llen (xsOf x)) 300) (ile (llen (xsOf y)) 300)) = true) : Contract sE 21 [x, y] (.sl 24 [.int .i64, .int .i64] none (anV (xsOf x) (xsOf y))) := by
  rw [band_iff, band_iff, band_iff, ile_iff, ile_iff, llen_nat, llen_nat] at hc
  obtain ⟨⟨c1, c2⟩, c3, c4⟩ := hc
  refine con2 c1 c2 (contract_drop1 (o := some 7) (contract_of_body sE_ok sS8_ok 5 2 ?_))
  rw [pAnd_top, sel_pos (by rw [band_iff, band_iff, band_iff, band_iff, ile_iff, ile_iff, llen_nat, llen_nat]; exact ⟨rfl, ⟨rfl, rfl⟩, by omega, by omega⟩)]
theorem sAnS_ok_noontideref11_And (x y : V) (hc : band (band (isSp x) (isSp y)) (band (ile (llen (xsOf x)) 300) (ile (llen (xsOf y)) 300)) = true) : Contract sE 22 [x, y] (.sl 24 [.int .i64, .int .i64] none (anV (xsOf x) (xsOf y))) := by
  rw [band_iff, band_iff, band_iff, ile_iff, ile_iff, llen_nat, llen_nat] at hc
  obtain ⟨⟨c1, c2⟩, c3, c4⟩ := hc
  exact con2 c1 c2 (pAnd11_ev _ _ (by omega) (by omega))
theorem sLeS_ok (x y : V) (hc : band (band (isSp x) (isSp y)) (band (ile (llen (xsOf x)) 30000) (ile (llen (xsOf y)) 30000)) = true) : Contract sE 23 [x, y] (.sl 24 [.int .i64, .int .i64] none (leV (xsOf x) (xsOf y))) := by
  rw [band_iff, band_iff, band_iff, ile_iff, ile_iff, llen_nat, llen_nat] at hc
  obtain ⟨⟨c1, c2⟩, c3, c4⟩ := hc
  refine con2 c1 c2 (contract_drop1 (o := some 7) (contract_of_body sE_ok sS8_ok 5 2 ?_))
  rw [pLess_top, sel_pos (by rw [band_iff, band_iff, band_iff, band_iff, ile_iff, ile_iff, llen_nat, llen_nat]; exact ⟨rfl, ⟨rfl, rfl⟩, by omega, by omega⟩)]
theorem sLeS_ok_noontideref11_Less (x y : V) (hc : band (band (isSp x) (isSp y)) (band (ile (llen (xsOf x)) 30000) (ile (llen (xsOf y)) 30000)) = true) : Contract sE 24 [x, y] (.sl 24 [.int .i64, .int .i64] none (leV (xsOf x) (xsOf y))) := by
  rw [band_iff, band_iff, band_iff, ile_iff, ile_iff, llen_nat, llen_nat] at hc
  obtain ⟨⟨c1, c2⟩, c3, c4⟩ := hc
  exact con2 c1 c2 (pLess11_ev _ _ (by omega) (by omega))
theorem sS9_ok : SOk sE sS9 := by
  unfold sS9
  refine SOk.cons (fun args r h => ?_) (SOk.cons (fun args r h => ?_) (SOk.cons (fun args r h => ?_) (SOk.cons (fun args r h => ?_) (SOk.cons (fun args r h => ?_) (SOk.cons (fun args r h => ?_) (SOk.nil))))))
  · unfold sOrS at h
    split at h
    · simp only [Option.some.injEq, Prod.mk.injEq] at h
      obtain ⟨hc, rfl⟩ := h
      exact sOrS_ok _ _ hc
    · cases h
  · unfold sOrS at h
    split at h
    · simp only [Option.some.injEq, Prod.mk.injEq] at h
      obtain ⟨hc, rfl⟩ := h
      exact sOrS_ok_noontideref11_Or _ _ hc
    · cases h
  · unfold sAnS at h
    split at h
    · simp only [Option.some.injEq, Prod.mk.injEq] at h
      obtain ⟨hc, rfl⟩ := h
      exact sAnS_ok _ _ hc
    · cases h
  · unfold sAnS at h
    split at h
    · simp only [Option.some.injEq, Prod.mk.injEq] at h
      obtain ⟨hc, rfl⟩ := h
      exact sAnS_ok_noontideref11_And _ _ hc
    · cases h
  · unfold sLeS at h
    split at h
    · simp only [Option.some.injEq, Prod.mk.injEq] at h
      obtain ⟨hc, rfl⟩ := h
      exact sLeS_ok _ _ hc
    · cases h
  · unfold sLeS at h
    split at h
    · simp only [Option.some.injEq, Prod.mk.injEq] at h
      obtain ⟨hc, rfl⟩ := h
      exact sLeS_ok_noontideref11_Less _ _ hc
    · cases h
theorem orV_nil (xs : List V) : orV xs [] = ofV xs := by
  unfold orV ofV orL
  rw [show spsOf [] = [] from rfl, List.append_nil]
theorem sOf2_ok (x : V) (hc : band (isSp x) (ile (llen (xsOf x)) 30000) = true) : Contract sE 17 [x] (.sl 24 [.int .i64, .int .i64] none (ofV (xsOf x))) := by
  rw [band_iff, ile_iff, llen_nat] at hc
  refine con1 hc.1 (contract_of_body sE_ok sS9_ok 5 2 ?_)
  rw [pOf_top, sel_pos (by rw [band_iff, band_iff, band_iff, ile_iff, ile_iff, llen_nat, llen_nat]; exact ⟨⟨rfl, rfl⟩, by omega, by simp⟩), orV_nil]
theorem pGaps_ev (xs : List V) (a b : Int) (h : xs.length ≤ 30000) : Contract sE 25 [.sl 24 [.int .i64, .int .i64] none xs, .agg [.int .i64 a, .int .i64 b]] (.sl 24 [.int .i64, .int .i64] none (leV [.agg [.int .i64 a, .int .i64 b]] xs)) := by
  refine contract_of_body sE_ok sS9_ok 5 2 ?_
  rw [pGaps_top, sel_pos (by rw [band_iff, band_iff, band_iff, ile_iff, ile_iff, llen_nat, llen_nat]; exact ⟨⟨rfl, rfl⟩, by simp, by omega⟩)]
theorem pGaps11_ev (xs : List V) (a b : Int) (h : xs.length ≤ 30000) : Contract sE 26 [.sl 24 [.int .i64, .int .i64] none xs, .agg [.int .i64 a, .int .i64 b]] (.sl 24 [.int .i64, .int .i64] none (leV [.agg [.int .i64 a, .int .i64 b]] xs)) := by
  refine contract_of_body sE_ok sS9_ok 5 2 ?_
  rw [pGaps11_top, sel_pos (by rw [band_iff, band_iff, band_iff, ile_iff, ile_iff, llen_nat, llen_nat]; exact ⟨⟨rfl, rfl⟩, by simp, by omega⟩)]
theorem half (lo hi : Nat) (h : lo + hi ≤ 4000000) : icnv .i64 (ishr .u64 (icnv .u64 (iadd .i64 (lo : Int) (hi : Int))) 1) = (((lo + hi) / 2 : Nat) : Int) := by
  rw [iadd64 (by omega), icnvu64 (by omega)]
  have e : ishr .u64 ((lo : Int) + (hi : Int)) 1 = ((lo : Int) + (hi : Int)).fdiv 2 := rfl
  rw [e, Int.fdiv_eq_ediv_of_nonneg _ (by omega), icnv64 (by omega)]
  omega
theorem bin_loop (xs : List V) (t : Int) (x7 : Bool) (F : Nat) (hc : Canon (spsOf xs)) (hl : xs.length ≤ 1000000) : ∀ (d lo hi n : Nat), hi - lo ≤ d → d < n → lo ≤ cntE t (spsOf xs) → cntE t (spsOf xs) ≤ hi → hi ≤ xs.length →
    pBin_L0 F [] n xs t x7 (llen xs) (lo : Int) (hi : Int) some = some (.tup [.int .i64 ((cntE t (spsOf xs) : Nat) : Int), .bool false]) := by
  intro d
  induction d with
  | zero =>
    intro lo hi n hd hn h1 h2 h3
    obtain ⟨n, rfl⟩ : ∃ m, n = m + 1 := ⟨n - 1, by omega⟩
    have e : lo = cntE t (spsOf xs) := by omega
    rw [pBin_L0_succ, sel_neg (ilt_f (by omega)), e]
    by_cases h : cntE t (spsOf xs) < xs.length
    · rw [sel_pos (ilt_t (by rw [llen_nat]; omega)), sel_pos (by rw [band_iff, ile_iff, ilt_iff, llen_nat]; omega), sel_if]
      split <;> rfl
    · rw [sel_neg (ilt_f (by rw [llen_nat]; omega))]
  | succ d ih =>
    intro lo hi n hd hn h1 h2 h3
    by_cases hlt : lo < hi
    · obtain ⟨n, rfl⟩ : ∃ m, n = m + 1 := ⟨n - 1, by omega⟩
      have hm : (lo + hi) / 2 < xs.length := by omega
      rw [pBin_L0_succ, sel_pos (ilt_t (by omega)), half lo hi (by omega), sel_pos (by rw [band_iff, ile_iff, ilt_iff, llen_nat]; omega)]
      have hi' := cnt_iff hc (t := t) ((lo + hi) / 2) (by rw [sps_len]; exact hm)
      rw [sps_get xs _ hm] at hi'
      have hi' : asInt (acell (lget xs (((lo + hi) / 2 : Nat) : Int)) 1) ≤ t ↔ (lo + hi) / 2 < cntE t (spsOf xs) := hi'
      by_cases hs : asInt (acell (lget xs (((lo + hi) / 2 : Nat) : Int)) 1) ≤ t
      · have := hi'.1 hs
        rw [sel_pos (ile_t hs), iadd64 (by omega), show ((((lo + hi) / 2 : Nat) : Int) + 1) = (((lo + hi) / 2 + 1 : Nat) : Int) by omega]
        exact ih _ _ n (by omega) (by omega) (by omega) h2 h3
      · have : ¬ (lo + hi) / 2 < cntE t (spsOf xs) := fun e => hs (hi'.2 e)
        rw [sel_neg (by rw [← Bool.not_eq_true, ile_iff]; exact hs)]
        exact ih _ _ n (by omega) (by omega) h1 (by omega) (by omega)
    · exact ih lo hi n (by omega) (by omega) h1 h2 h3
theorem sBiS_ok (o : Option Nat) (xs : List V) (t : Int) (hc : band (rtV xs) (ile (llen xs) 1000000) = true) : Contract sE 42 [.sl 24 [.int .i64, .int .i64] o xs, .int .i64 t, .fn 43 []] (.tup [.int .i64 (biI xs t), .bool (biB xs t)]) := by
  rw [band_iff, ile_iff, llen_nat] at hc
  obtain ⟨h1, h2⟩ := hc
  have hcan : Canon (spsOf xs) := rtL_iff.1 h1
  have hcon : Contract sE 42 [.sl 24 K2 none xs, .int .i64 t, .fn 43 []] (.tup [.int .i64 (biI xs t), .bool (biB xs t)]) := by
    refine contract_of_body sE_ok sS_ok (xs.length + 2) 3 ?_
    rw [pBin_top]
    have hle := cnt_le t (spsOf xs)
    rw [sps_len] at hle
    have := bin_loop xs t false (xs.length + 2) hcan (by omega) xs.length 0 xs.length (xs.length + 2) (by omega) (by omega) (by omega) hle (by omega)
    rw [show ((xs.length : Nat) : Int) = llen xs from (llen_nat xs).symm] at this
    exact this
  intro G w vs hG hg hp
  obtain ⟨a, tl, rfl, ha, hp⟩ := hp.cons_inv
  exact hcon G w _ hG hg (.cons (by unfold rep at ha ⊢; exact ha) hp)
end Nt.Ev.Ytjobobdijjppkaa.Sp

set_option linter.unusedVariables false
set_option linter.unusedSimpArgs false
set_option linter.unusedSectionVars false
namespace Nt.Ev.Ytjobobdijjppkaa.Sp
open Go Go.RowKit Nt Nt.Num Nt.Sps Go.Proofs.Ytjobobdijjppkaa
theorem fI_iff (a : Int) : fI a = true ↔ Fits a := by unfold fI; rw [decide_eq_true_eq]
theorem two_ints {E : Env} {f : Nat} {a b c d : Int} (h : ∀ w, Calls E.P f #[.int .i64 a, .int .i64 b] w fun e w' => e = .returned (.tuple #[.int .i64 c, .int .i64 d]) ∧ w' = w) : Contract E f [.int .i64 a, .int .i64 b] (.tup [.int .i64 c, .int .i64 d]) := by
  refine contract_old fun G w vs hG hg hp => ?_
  obtain ⟨x, y, rfl, hx, hy⟩ := PW_two hp
  unfold rep at hx hy
  subst hx; subst hy
  refine (h w).mono ?_
  rintro e w' ⟨rfl, rfl⟩
  exact ⟨_, rfl, .refl _ _, res_two (same_int _ _) (same_int _ _)⟩
theorem sAdS_ok (a b : Int) (hc : band (fI a) (fI b) = true) : Contract sE 46 [.int .i64 a, .int .i64 b] (.tup [.int .i64 (adI a b), .int .i64 (adE a b)]) := by
  rw [band_iff, fI_iff, fI_iff] at hc
  exact two_ints fun w => n_add a b w hc.1 hc.2
theorem sAdS_ok_noontideref01_Add (a b : Int) (hc : band (fI a) (fI b) = true) : Contract sE 48 [.int .i64 a, .int .i64 b] (.tup [.int .i64 (adI a b), .int .i64 (adE a b)]) := by
  rw [band_iff, fI_iff, fI_iff] at hc
  exact two_ints fun w => r_add a b w hc.1 hc.2
theorem sSuS_ok (a b : Int) (hc : band (fI a) (fI b) = true) : Contract sE 61 [.int .i64 a, .int .i64 b] (.tup [.int .i64 (suI a b), .int .i64 (suE a b)]) := by
  rw [band_iff, fI_iff, fI_iff] at hc
  exact two_ints fun w => n_sub a b w hc.1 hc.2
theorem sSuS_ok_noontideref01_Sub (a b : Int) (hc : band (fI a) (fI b) = true) : Contract sE 62 [.int .i64 a, .int .i64 b] (.tup [.int .i64 (suI a b), .int .i64 (suE a b)]) := by
  rw [band_iff, fI_iff, fI_iff] at hc
  exact two_ints fun w => r_sub a b w hc.1 hc.2
theorem sS6_ok : SOk sE sS6 := by
  unfold sS6
  refine SOk.cons (fun args r h => ?_) (SOk.cons (fun args r h => ?_) (SOk.cons (fun args r h => ?_) (SOk.cons (fun args r h => ?_) (SOk.nil))))
  · unfold sSuS at h
    split at h
    · simp only [Option.some.injEq, Prod.mk.injEq] at h
      obtain ⟨hc, rfl⟩ := h
      exact sSuS_ok _ _ hc
    · cases h
  · unfold sSuS at h
    split at h
    · simp only [Option.some.injEq, Prod.mk.injEq] at h
      obtain ⟨hc, rfl⟩ := h
      exact sSuS_ok_noontideref01_Sub _ _ hc
    · cases h
  · unfold sRiS at h
    split at h
    · simp only [Option.some.injEq, Prod.mk.injEq] at h
      obtain ⟨hc, rfl⟩ := h
      exact sRiS_ok _ _ rfl
    · cases h
  · unfold sRiS at h
    split at h
    · simp only [Option.some.injEq, Prod.mk.injEq] at h
      obtain ⟨hc, rfl⟩ := h
      exact sRiS_ok_noontideref10_Right _ _ rfl
    · cases h
theorem sLnS_ok_span_Len (a b : Int) (hc : band (fI a) (fI b) = true) : Contract sE 45 [.agg [.int .i64 a, .int .i64 b]] (.tup [.int .i64 (ln10 a b), .int .i64 (le10 a b)]) := by
  have hc' : band (fI b) (fI a) = true := by rw [band_iff] at hc ⊢; exact ⟨hc.2, hc.1⟩
  refine contract_of_body sE_ok sS6_ok 5 2 ?_
  rw [pLen_top]
  unfold ln10 le10
  by_cases h : a < b
  · rw [sel_neg (by rw [← Bool.not_eq_true, bnot_iff, Classical.not_not, ilt_iff]; exact h), sel_pos hc', if_pos h, if_pos h]
  · rw [sel_pos (by rw [bnot_iff, ilt_iff]; exact h), if_neg h, if_neg h]
theorem sLnS_ok (a b : Int) (hc : band (fI a) (fI b) = true) : Contract sE 47 [.agg [.int .i64 a, .int .i64 b]] (.tup [.int .i64 (ln10 a b), .int .i64 (le10 a b)]) := by
  have hc' : band (fI b) (fI a) = true := by rw [band_iff] at hc ⊢; exact ⟨hc.2, hc.1⟩
  refine contract_of_body sE_ok sS6_ok 5 2 ?_
  rw [pLen10_top]
  unfold ln10 le10
  by_cases h : a < b
  · rw [sel_neg (by rw [← Bool.not_eq_true, bnot_iff, Classical.not_not, ilt_iff]; exact h), sel_pos hc', if_pos h, if_pos h]
  · rw [sel_pos (by rw [bnot_iff, ilt_iff]; exact h), if_neg h, if_neg h]
theorem sS10_ok : SOk sE sS10 := by
  unfold sS10
  refine SOk.cons (fun args r h => ?_) (SOk.cons (fun args r h => ?_) (SOk.cons (fun args r h => ?_) (SOk.cons (fun args r h => ?_) (SOk.cons (fun args r h => ?_) (SOk.cons (fun args r h => ?_) (SOk.cons (fun args r h => ?_) (SOk.cons (fun args r h => ?_) (SOk.nil))))))))
  · unfold sOf2 at h
    split at h
    · simp only [Option.some.injEq, Prod.mk.injEq] at h
      obtain ⟨hc, rfl⟩ := h
      exact sOf2_ok _ hc
    · cases h
  · unfold sBiS at h
    split at h
    · simp only [Option.some.injEq, Prod.mk.injEq] at h
      obtain ⟨hc, rfl⟩ := h
      exact sBiS_ok _ _ _ hc
    · cases h
  · unfold sLnS at h
    split at h
    · simp only [Option.some.injEq, Prod.mk.injEq] at h
      obtain ⟨hc, rfl⟩ := h
      exact sLnS_ok _ _ hc
    · cases h
  · unfold sLnS at h
    split at h
    · simp only [Option.some.injEq, Prod.mk.injEq] at h
      obtain ⟨hc, rfl⟩ := h
      exact sLnS_ok_span_Len _ _ hc
    · cases h
  · unfold sAdS at h
    split at h
    · simp only [Option.some.injEq, Prod.mk.injEq] at h
      obtain ⟨hc, rfl⟩ := h
      exact sAdS_ok _ _ hc
    · cases h
  · unfold sAdS at h
    split at h
    · simp only [Option.some.injEq, Prod.mk.injEq] at h
      obtain ⟨hc, rfl⟩ := h
      exact sAdS_ok_noontideref01_Add _ _ hc
    · cases h
  · unfold sHaS at h
    split at h
    · simp only [Option.some.injEq, Prod.mk.injEq] at h
      obtain ⟨hc, rfl⟩ := h
      exact sHaS_ok _ _ _ rfl
    · cases h
  · unfold sHaS at h
    split at h
    · simp only [Option.some.injEq, Prod.mk.injEq] at h
      obtain ⟨hc, rfl⟩ := h
      exact sHaS_ok_noontideref10_Has _ _ _ rfl
    · cases h
noncomputable def fdB (xs : List V) (t : Int) : Bool := (findS t (ofL (spsOf xs))).isSome
noncomputable def fdF (xs : List V) (t : Int) : Int := match findS t (ofL (spsOf xs)) with | some s => s.1 | none => 0
noncomputable def fdT (xs : List V) (t : Int) : Int := match findS t (ofL (spsOf xs)) with | some s => s.2 | none => 0
noncomputable def fdR (r : Option Sp) : V := match r with | some s => .tup [.agg [.int .i64 s.1, .int .i64 s.2], .bool true] | none => .tup [.agg [.int .i64 0, .int .i64 0], .bool false]
theorem fd_R (xs : List V) (t : Int) : fdR (findS t (ofL (spsOf xs))) = .tup [.agg [.int .i64 (fdF xs t), .int .i64 (fdT xs t)], .bool (fdB xs t)] := by
  unfold fdR fdF fdT fdB
  cases findS t (ofL (spsOf xs)) <;> rfl
theorem ofV_len (xs : List V) : (ofV xs).length ≤ xs.length := by
  unfold ofV
  rw [spV_len]
  have := of_len (spsOf xs)
  rw [sps_len] at this
  exact this
theorem pFind_ev (xs : List V) (t : Int) (h : xs.length ≤ 30000) : Contract sE 10 [.sl 24 [.int .i64, .int .i64] none xs, .int .i64 t] (.tup [.agg [.int .i64 (fdF xs t), .int .i64 (fdT xs t)], .bool (fdB xs t)]) := by
  have hl := ofV_len xs
  have hsp : spsOf (ofV xs) = ofL (spsOf xs) := by unfold ofV; rw [sps_V]
  have hcan := of_canon (spsOf xs)
  refine contract_of_body sE_ok sS10_ok (xs.length + 2) 2 ?_
  rw [pFind_top, sel_pos (by rw [band_iff, ile_iff, llen_nat]; exact ⟨rfl, by omega⟩), sel_pos (by rw [band_iff, ile_iff, llen_nat]; exact ⟨by unfold rtV; rw [hsp]; exact rtL_iff.2 hcan, by omega⟩), ← fd_R, find_cnt hcan]
  have hc := cnt_le t (ofL (spsOf xs))
  rw [← hsp, sps_len] at hc
  have hbi : biI (ofV xs) t = ((cntE t (ofL (spsOf xs)) : Nat) : Int) := by unfold biI; rw [hsp]
  rw [hbi]
  rw [hsp] at hc
  by_cases he : cntE t (ofL (spsOf xs)) = (ofV xs).length
  · rw [sel_pos (by rw [ieq_iff, llen_nat]; omega), List.getElem?_eq_none (by rw [← hsp, sps_len, hsp]; omega)]
    rfl
  · have hlt : cntE t (ofL (spsOf xs)) < (ofV xs).length := by omega
    have hg := sps_get (ofV xs) _ hlt
    rw [sel_neg (by rw [← Bool.not_eq_true, ieq_iff, llen_nat]; omega), sel_pos (by rw [band_iff, ile_iff, ilt_iff, llen_nat]; omega)]
    have hq : (ofL (spsOf xs))[cntE t (ofL (spsOf xs))]? = some (asInt (acell (lget (ofV xs) ((cntE t (ofL (spsOf xs)) : Nat) : Int)) 0), asInt (acell (lget (ofV xs) ((cntE t (ofL (spsOf xs)) : Nat) : Int)) 1)) := by
      rw [← hg, ← List.getElem?_eq_getElem]
      simp only [hsp]
    rw [hq]
    by_cases hh : has1 (asInt (acell (lget (ofV xs) ((cntE t (ofL (spsOf xs)) : Nat) : Int)) 0), asInt (acell (lget (ofV xs) ((cntE t (ofL (spsOf xs)) : Nat) : Int)) 1)) t = true
    · rw [sel_neg (by rw [← Bool.not_eq_true, bnot_iff, Classical.not_not, band_iff, ile_iff, ilt_iff]; exact has1_iff.1 hh), sel_pos (by rw [band_iff, ile_iff, ilt_iff, llen_nat]; omega)]
      show _ = some (fdR (if _ then _ else _))
      rw [if_pos hh]
      rfl
    · rw [sel_pos (by rw [bnot_iff, band_iff, ile_iff, ilt_iff]; exact fun e => hh (has1_iff.2 e))]
      show _ = some (fdR (if _ then _ else _))
      rw [if_neg hh]
      rfl
end Nt.Ev.Ytjobobdijjppkaa.Sp
