/-
  What the evaluator's values stand for in a world: the known rows of memory, the labelled slices that the call owns, its boxes.
-/
import Derived.Test.YtnchnnbggfeknaaDoorEvDef
import Derived.Laws.AppendOwn
set_option linter.unusedVariables false
set_option linter.unusedSimpArgs false
namespace Nt.Ev
open Go Go.RowKit

abbrev Known := Nat → Option (List Value)

mutual
def rep (G : Known) : V → Value → Prop
  | .any, _ => True
  | .bool b, v => v = .bool b
  | .int k n, v => v = .int k n
  | .str l, v => v = .string ⟨l.toArray⟩
  | .agg cs, v => ∃ a : List Value, v = .agg a.toArray ∧ repL G cs a
  | .tup vs, v => ∃ a : List Value, v = .tuple a.toArray ∧ repL G vs a
  | .nilsl, v => v = .slice none 0 0
  | .sl _ sh _ xs, v => ∃ p cap, v = .slice p xs.length cap ∧ xs.length ≤ cap ∧ (xs = [] ∨ ∃ b off l, p = some ⟨b, off, none⟩ ∧ G b = some l ∧ repE G sh xs (l.drop off))
  | .rptr sh x off, v => ∃ b o l, v = .pointer (some ⟨b, o + off, none⟩) ∧ G b = some l ∧ fitsE sh x = true ∧ ∃ u, rep G x u ∧ (l.drop o).take sh.length = u.cells.toList
  | .box _ _, _ => False
  | .fn _ _, _ => False
def repL (G : Known) : List V → List Value → Prop
  | [], vs => vs = []
  | x :: xs, vs => ∃ v t, vs = v :: t ∧ rep G x v ∧ repL G xs t
def repE (G : Known) (sh : List Kd) : List V → List Value → Prop
  | [], _ => True
  | x :: xs, cells => fitsE sh x = true ∧ (∃ u, rep G x u ∧ cells.take sh.length = u.cells.toList) ∧ repE G sh xs (cells.drop sh.length)
end

/-- Two rows, place by place. -/
def PW (R : V → Value → Prop) (xs : List V) (vs : List Value) : Prop := xs.length = vs.length ∧ ∀ (i : Nat) x v, xs[i]? = some x → vs[i]? = some v → R x v

theorem PW.nil {R : V → Value → Prop} : PW R [] [] := ⟨rfl, by simp⟩
theorem PW.cons {R : V → Value → Prop} {x : V} {v : Value} {xs : List V} {vs : List Value} (h : R x v) (t : PW R xs vs) : PW R (x :: xs) (v :: vs) := by
  refine ⟨by simp [t.1], fun i y u hy hu => ?_⟩
  cases i with
  | zero => simp at hy hu; subst hy; subst hu; exact h
  | succ i => exact t.2 i y u (by simpa using hy) (by simpa using hu)
theorem PW.head {R : V → Value → Prop} {x : V} {v : Value} {xs : List V} {vs : List Value} (h : PW R (x :: xs) (v :: vs)) : R x v := h.2 0 x v rfl rfl
theorem PW.tail {R : V → Value → Prop} {x : V} {v : Value} {xs : List V} {vs : List Value} (h : PW R (x :: xs) (v :: vs)) : PW R xs vs :=
  ⟨by simpa using h.1, fun i y u hy hu => h.2 (i + 1) y u (by simpa using hy) (by simpa using hu)⟩
theorem PW.nil_iff {R : V → Value → Prop} {vs : List Value} (h : PW R [] vs) : vs = [] := List.eq_nil_of_length_eq_zero h.1.symm
theorem PW.cons_inv {R : V → Value → Prop} {x : V} {xs : List V} {vs : List Value} (h : PW R (x :: xs) vs) : ∃ v t, vs = v :: t ∧ R x v ∧ PW R xs t := by
  cases vs with
  | nil => exact absurd h.1 (by simp)
  | cons v t => exact ⟨v, t, rfl, h.head, h.tail⟩
theorem PW.mono {R S : V → Value → Prop} {xs : List V} {vs : List Value} (h : PW R xs vs) (hm : ∀ x ∈ xs, ∀ v, R x v → S x v) : PW S xs vs :=
  ⟨h.1, fun i x v hx hv => hm x (List.mem_of_getElem? hx) v (h.2 i x v hx hv)⟩
theorem PW.get {R : V → Value → Prop} {xs : List V} {vs : List Value} (h : PW R xs vs) {i : Nat} {x : V} (hx : xs[i]? = some x) : ∃ v, vs[i]? = some v ∧ R x v := by
  have hi : i < vs.length := by rw [← h.1]; exact (List.getElem?_eq_some_iff.1 hx).1
  exact ⟨vs[i], List.getElem?_eq_getElem hi, h.2 i x _ hx (List.getElem?_eq_getElem hi)⟩
theorem PW.set {R : V → Value → Prop} {xs : List V} {vs : List Value} (h : PW R xs vs) (i : Nat) {x : V} {v : Value} (hx : R x v) : PW R (xs.set i x) (vs.set i v) := by
  refine ⟨by simp [h.1], fun j y u hy hu => ?_⟩
  rw [List.getElem?_set] at hy hu
  by_cases e : i = j
  · subst e
    simp only [if_true] at hy hu
    split at hy <;> split at hu <;> simp_all
  · rw [if_neg e] at hy hu
    exact h.2 j y u hy hu
theorem PW.append {R : V → Value → Prop} {xs ys : List V} {vs us : List Value} (h : PW R xs vs) (k : PW R ys us) : PW R (xs ++ ys) (vs ++ us) := by
  refine ⟨by simp [h.1, k.1], fun i x v hx hv => ?_⟩
  by_cases hi : i < xs.length
  · rw [List.getElem?_append_left hi] at hx
    rw [List.getElem?_append_left (by rw [← h.1]; exact hi)] at hv
    exact h.2 i x v hx hv
  · rw [List.getElem?_append_right (by omega)] at hx
    rw [List.getElem?_append_right (by rw [← h.1]; omega), ← h.1] at hv
    exact k.2 _ x v hx hv
theorem PW.drop {R : V → Value → Prop} {xs : List V} {vs : List Value} (h : PW R xs vs) (n : Nat) : PW R (xs.drop n) (vs.drop n) :=
  ⟨by simp [h.1], fun i x v hx hv => h.2 (n + i) x v (by simpa using hx) (by simpa using hv)⟩
theorem PW.take {R : V → Value → Prop} {xs : List V} {vs : List Value} (h : PW R xs vs) (n : Nat) : PW R (xs.take n) (vs.take n) := by
  refine ⟨by simp [h.1], fun i x v hx hv => ?_⟩
  rw [List.getElem?_take] at hx hv
  split at hx
  · rename_i hi; rw [if_pos hi] at hv; exact h.2 i x v hx hv
  · cases hx

theorem repL_iff {G : Known} : ∀ (xs : List V) (vs : List Value), repL G xs vs ↔ PW (rep G) xs vs
  | [], vs => by
    unfold repL
    exact ⟨fun h => by rw [h]; exact .nil, fun h => h.nil_iff⟩
  | x :: xs, vs => by
    unfold repL
    constructor
    · rintro ⟨v, t, rfl, h, ht⟩
      exact .cons h ((repL_iff xs t).1 ht)
    · intro h
      obtain ⟨v, t, rfl, h1, h2⟩ := h.cons_inv
      exact ⟨v, t, rfl, h1, (repL_iff xs t).2 h2⟩

/-- More is known. -/
def More (G G' : Known) : Prop := ∀ b l, G b = some l → ∃ l', G' b = some l' ∧ l <+: l'
theorem More.refl (G : Known) : More G G := fun b l h => ⟨l, h, List.prefix_refl l⟩

theorem take_prefix {l l' : List Value} {n : Nat} {u : List Value} (h : l.take n = u) (hn : u.length = n) (hp : l <+: l') : l'.take n = u := by
  obtain ⟨t, rfl⟩ := hp
  have : n ≤ l.length := by rw [← h] at hn; simp at hn; omega
  rw [List.take_append_of_le_length this, h]
theorem drop_prefix {l l' : List Value} (n : Nat) (hp : l <+: l') (hn : n ≤ l.length) : l.drop n <+: l'.drop n := by
  obtain ⟨t, rfl⟩ := hp
  rw [List.drop_append_of_le_length hn]
  exact List.prefix_append _ _

theorem fitsL_len : ∀ (sh : List Kd) (vs : List V), fitsL sh vs = true → sh.length = vs.length
  | [], [], _ => rfl
  | [], _ :: _, h => by simp [fitsL] at h
  | _ :: _, [], h => by simp [fitsL] at h
  | k :: sh, v :: vs, h => by
    simp only [fitsL, band] at h
    split at h
    · simp [fitsL_len sh vs h]
    · cases h

theorem rep_cells {G : Known} {x : V} {u : Value} (h : rep G x u) (hx : x ≠ .any) : x.cells.length = u.cells.size ∧ PW (rep G) x.cells u.cells.toList := by
  cases x with
  | agg cs =>
    unfold rep at h
    obtain ⟨a, rfl, h⟩ := h
    rw [repL_iff] at h
    exact ⟨by simp [V.cells, Value.cells, h.1], by simpa [V.cells, Value.cells] using h⟩
  | any => exact absurd rfl hx
  | bool b => unfold rep at h; subst h; exact ⟨rfl, .cons (by unfold rep; rfl) .nil⟩
  | int k n => unfold rep at h; subst h; exact ⟨rfl, .cons (by unfold rep; rfl) .nil⟩
  | str l => unfold rep at h; subst h; exact ⟨rfl, .cons (by unfold rep; rfl) .nil⟩
  | nilsl => unfold rep at h; subst h; exact ⟨rfl, .cons (by unfold rep; rfl) .nil⟩
  | tup vs => have h' := h; unfold rep at h'; obtain ⟨a, rfl, _⟩ := h'; exact ⟨rfl, .cons h .nil⟩
  | sl e sh o xs => have h' := h; unfold rep at h'; obtain ⟨p, cap, rfl, _⟩ := h'; exact ⟨rfl, .cons h .nil⟩
  | rptr sh x off => have h' := h; unfold rep at h'; obtain ⟨b, o, l, rfl, _⟩ := h'; exact ⟨rfl, .cons h .nil⟩
  | box k o => unfold rep at h; exact h.elim
  | fn f c => unfold rep at h; exact h.elim

theorem fitsE_any {sh : List Kd} : fitsE sh .any = false := by
  unfold fitsE V.cells
  cases sh with
  | nil => rfl
  | cons k l => cases k <;> rfl

/-- The cells of a fitting value: as many as the shape says. -/
theorem fit_cells {G : Known} {sh : List Kd} {x : V} {u : Value} (hf : fitsE sh x = true) (h : rep G x u) : u.cells.toList.length = sh.length := by
  have hx : x ≠ .any := fun e => by rw [e, fitsE_any] at hf; cases hf
  have h1 := (rep_cells h hx).1
  have h2 := fitsL_len _ _ hf
  rw [Array.length_toList, ← h1, h2]

theorem repE_nil {G : Known} {sh : List Kd} {cells : List Value} : repE G sh [] cells := by unfold repE; trivial

mutual
theorem rep_more {G G' : Known} (hm : More G G') : ∀ (x : V) (v : Value), rep G x v → rep G' x v
  | .any, _, _ => by unfold rep; trivial
  | .bool b, v, h => by unfold rep at h ⊢; exact h
  | .int k n, v, h => by unfold rep at h ⊢; exact h
  | .str l, v, h => by unfold rep at h ⊢; exact h
  | .agg cs, v, h => by
    unfold rep at h ⊢
    obtain ⟨a, rfl, h⟩ := h
    exact ⟨a, rfl, repL_more hm cs a h⟩
  | .tup vs, v, h => by
    unfold rep at h ⊢
    obtain ⟨a, rfl, h⟩ := h
    exact ⟨a, rfl, repL_more hm vs a h⟩
  | .nilsl, v, h => by unfold rep at h ⊢; exact h
  | .sl e sh o xs, v, h => by
    unfold rep at h ⊢
    obtain ⟨p, cap, rfl, hcap, h⟩ := h
    refine ⟨p, cap, rfl, hcap, ?_⟩
    rcases h with h | ⟨b, off, l, rfl, hG, h⟩
    · exact .inl h
    · obtain ⟨l', hl', hp⟩ := hm b l hG
      by_cases hx : xs = []
      · exact .inl hx
      · refine .inr ⟨b, off, l', rfl, hl', ?_⟩
        by_cases hoff : off ≤ l.length
        · exact repE_more hm sh xs _ _ h (drop_prefix off hp hoff)
        · have : l.drop off = [] := List.drop_of_length_le (by omega)
          rw [this] at h
          exact repE_more hm sh xs _ _ h (List.nil_prefix)
  | .rptr sh x off, v, h => by
    unfold rep at h ⊢
    obtain ⟨b, o, l, rfl, hG, hf, u, hu, hc⟩ := h
    obtain ⟨l', hl', hp⟩ := hm b l hG
    refine ⟨b, o, l', rfl, hl', hf, u, rep_more hm x u hu, ?_⟩
    have hlen := fit_cells hf hu
    by_cases ho : o ≤ l.length
    · exact take_prefix hc hlen (drop_prefix o hp ho)
    · have h0 : l.drop o = [] := List.drop_of_length_le (by omega)
      rw [h0] at hc
      exact take_prefix hc hlen List.nil_prefix
  | .box _ _, _, h => by unfold rep at h; exact h.elim
  | .fn _ _, _, h => by unfold rep at h; exact h.elim
theorem repL_more {G G' : Known} (hm : More G G') : ∀ (xs : List V) (vs : List Value), repL G xs vs → repL G' xs vs
  | [], _, h => by unfold repL at h ⊢; exact h
  | x :: xs, vs, h => by
    unfold repL at h ⊢
    obtain ⟨v, t, rfl, h1, h2⟩ := h
    exact ⟨v, t, rfl, rep_more hm x v h1, repL_more hm xs t h2⟩
theorem repE_more {G G' : Known} (hm : More G G') (sh : List Kd) : ∀ (xs : List V) (c c' : List Value), repE G sh xs c → c <+: c' → repE G' sh xs c'
  | [], _, _, _, _ => by unfold repE; trivial
  | x :: xs, c, c', h, hp => by
    unfold repE at h ⊢
    obtain ⟨hf, ⟨u, hu, hc⟩, ht⟩ := h
    have hlen := fit_cells hf hu
    refine ⟨hf, ⟨u, rep_more hm x u hu, take_prefix hc hlen hp⟩, repE_more hm sh xs _ _ ht (drop_prefix _ hp ?_)⟩
    rw [← hc] at hlen
    simp at hlen
    omega
end

/-- What else is known: which slices are owned (value, element's type, an element's cells); where the boxes lie. -/
structure Gh where
  G : Known
  O : Nat → Option (Value × Nat × Nat)
  β : Nat → Option Nat

def ownG (G : Known) (sh : List Kd) (xs : List V) (v : Value) : Prop :=
  (v = .slice none 0 0 ∧ xs = []) ∨ ∃ b cap l, v = .slice (some ⟨b, 0, none⟩) xs.length cap ∧ xs.length ≤ cap ∧ G b = some l ∧ l.length = xs.length * sh.length ∧ repE G sh xs l

def srep (g : Gh) : V → Value → Prop
  | .box k off, v => ∃ b, g.β k = some b ∧ v = .pointer (some ⟨b, off, none⟩)
  | .sl e sh (some L) xs, v => g.O L = some (v, e, sh.length) ∧ ownG g.G sh xs v
  | x, v => rep g.G x v

def trep (g : Gh) : V → Value → Prop
  | .tup vs, v => ∃ a : List Value, v = .tuple a.toArray ∧ PW (srep g) vs a
  | .fn f caps, v => ∃ a : List Value, v = .func (.func f) #[] a.toArray ∧ PW (srep g) caps a
  | x, v => srep g x v

structure Ext (g g' : Gh) : Prop where
  G : More g.G g'.G
  O : ∀ L x, g.O L = some x → g'.O L = some x
  OG : ∀ L v e sz b, g.O L = some (v, e, sz) → v.ownBlock = some b → g'.G b = g.G b
  β : ∀ k b, g.β k = some b → g'.β k = some b

theorem Ext.refl (g : Gh) : Ext g g := ⟨.refl _, fun _ _ h => h, fun _ _ _ _ _ _ _ => rfl, fun _ _ h => h⟩

theorem ownG_ext {G G' : Known} {sh : List Kd} {xs : List V} {v : Value} (h : ownG G sh xs v) (hm : More G G') (hb : ∀ b, v.ownBlock = some b → G' b = G b) : ownG G' sh xs v := by
  rcases h with h | ⟨b, cap, l, rfl, hcap, hG, hl, hr⟩
  · exact .inl h
  · exact .inr ⟨b, cap, l, rfl, hcap, by rw [hb b rfl]; exact hG, hl, repE_more hm sh xs _ _ hr (List.prefix_refl _)⟩

theorem srep_ext {g g' : Gh} (he : Ext g g') {x : V} {v : Value} (h : srep g x v) : srep g' x v := by
  cases x with
  | box k off => obtain ⟨b, hb, rfl⟩ := h; exact ⟨b, he.β k b hb, rfl⟩
  | sl e sh o xs =>
    cases o with
    | none => exact rep_more he.G _ _ h
    | some L => obtain ⟨h1, h2⟩ := h; exact ⟨he.O L _ h1, ownG_ext h2 he.G fun b hb => he.OG L _ _ _ b h1 hb⟩
  | _ => exact rep_more he.G _ _ h

theorem trep_ext {g g' : Gh} (he : Ext g g') {x : V} {v : Value} (h : trep g x v) : trep g' x v := by
  cases x with
  | tup vs => obtain ⟨a, rfl, h⟩ := h; exact ⟨a, rfl, h.mono fun _ _ _ => srep_ext he⟩
  | fn f c => obtain ⟨a, rfl, h⟩ := h; exact ⟨a, rfl, h.mono fun _ _ _ => srep_ext he⟩
  | _ => simp only [trep] at h ⊢; exact srep_ext he h

/-- What is owned may be read as data. -/
theorem ownG_rep {G : Known} {e : Nat} {o : Option Nat} {sh : List Kd} {xs : List V} {v : Value} (h : ownG G sh xs v) : rep G (.sl e sh o xs) v := by
  unfold rep
  rcases h with ⟨rfl, rfl⟩ | ⟨b, cap, l, rfl, hcap, hG, hl, hr⟩
  · exact ⟨none, 0, rfl, Nat.le_refl _, .inl rfl⟩
  · exact ⟨some ⟨b, 0, none⟩, cap, rfl, hcap, .inr ⟨b, 0, l, rfl, hG, by simpa using hr⟩⟩

theorem rep_label {G : Known} {e : Nat} {o o' : Option Nat} {sh : List Kd} {xs : List V} {v : Value} (h : rep G (.sl e sh o xs) v) : rep G (.sl e sh o' xs) v := by
  unfold rep at h ⊢; exact h

theorem srep_deep {g : Gh} {x y : V} {v : Value} (h : srep g x v) (hd : x.deep = some y) : rep g.G y v := by
  cases x with
  | sl e sh o xs =>
    simp only [V.deep, Option.some.injEq] at hd
    subst hd
    cases o with
    | none => exact h
    | some L => exact ownG_rep h.2
  | any => simp [V.deep] at hd
  | tup vs => simp [V.deep] at hd
  | box k o => simp [V.deep] at hd
  | fn f c => simp [V.deep] at hd
  | bool b => simp only [V.deep, Option.some.injEq] at hd; subst hd; exact h
  | int k n => simp only [V.deep, Option.some.injEq] at hd; subst hd; exact h
  | str l => simp only [V.deep, Option.some.injEq] at hd; subst hd; exact h
  | agg cs => simp only [V.deep, Option.some.injEq] at hd; subst hd; exact h
  | nilsl => simp only [V.deep, Option.some.injEq] at hd; subst hd; exact h
  | rptr sh x off => simp only [V.deep, Option.some.injEq] at hd; subst hd; exact h

theorem trep_deep {g : Gh} {x y : V} {v : Value} (h : trep g x v) (hd : x.deep = some y) : rep g.G y v := by
  cases x with
  | tup vs => simp [V.deep] at hd
  | fn f c => simp [V.deep] at hd
  | _ => simp only [trep] at h; exact srep_deep h hd

/-- Deep values need no label, no box. -/
def V.plain : V → Bool
  | .box .. => false
  | .fn .. => false
  | .sl _ _ (some _) _ => false
  | .tup _ => false
  | _ => true

theorem trep_of_rep {g : Gh} {x : V} {v : Value} (hx : x.plain = true) (h : rep g.G x v) : trep g x v := by
  cases x with
  | sl e sh o xs => cases o with
    | none => exact h
    | some L => simp [V.plain] at hx
  | box k o => simp [V.plain] at hx
  | fn f c => simp [V.plain] at hx
  | tup vs => simp [V.plain] at hx
  | _ => exact h

theorem deep_plain {x y : V} (hd : x.deep = some y) : y.plain = true := by
  cases x <;> simp [V.deep] at hd <;> subst hd <;> rfl

theorem deepL_pw {g : Gh} : ∀ (xs ys : List V) (vs : List Value), V.deepL xs = some ys → PW (trep g) xs vs → PW (rep g.G) ys vs
  | [], ys, vs, h, hp => by
    simp [V.deepL] at h; subst h
    rw [hp.nil_iff]; exact .nil
  | x :: xs, ys, vs, h, hp => by
    obtain ⟨v, t, rfl, h1, h2⟩ := hp.cons_inv
    simp only [V.deepL] at h
    split at h
    · rename_i a b ha hb
      simp only [Option.some.injEq] at h
      subst h
      exact .cons (trep_deep h1 ha) (deepL_pw xs b t hb h2)
    · cases h

theorem deepL_gen {G : Known} {R : V → Value → Prop} (hR : ∀ x y v, R x v → x.deep = some y → rep G y v) : ∀ (xs ys : List V) (vs : List Value), V.deepL xs = some ys → PW R xs vs → PW (rep G) ys vs
  | [], ys, vs, h, hp => by
    simp [V.deepL] at h; subst h
    rw [hp.nil_iff]; exact .nil
  | x :: xs, ys, vs, h, hp => by
    obtain ⟨v, t, rfl, h1, h2⟩ := hp.cons_inv
    simp only [V.deepL] at h
    split at h
    · rename_i a b ha hb
      simp only [Option.some.injEq] at h
      subst h
      exact .cons (hR _ _ _ h1 ha) (deepL_gen hR xs b t hb h2)
    · cases h

theorem trep_single {g : Gh} {x : V} {v : Value} (hs : x.single = true) (h : trep g x v) : srep g x v := by
  cases x with
  | tup vs => cases hs
  | fn f c => cases hs
  | _ => simp only [trep] at h; exact h
theorem srep_trep {g : Gh} {x : V} {v : Value} (hs : x.single = true) (h : srep g x v) : trep g x v := by
  cases x with
  | tup vs => cases hs
  | fn f c => cases hs
  | _ => simp only [trep]; exact h

/-- The world holds what is known of its rows. -/
def GOk (G : Known) (w : World) : Prop := ∀ b l, G b = some l → ∃ c e fr, w.heap[b]? = some (.cells c e fr) ∧ c.toList.take l.length = l

def OOk (B : Nat) (g : Gh) (w : World) : Prop :=
  (∀ L v e sz, g.O L = some (v, e, sz) → 0 < sz ∧ (v = .slice none 0 0 ∨ ∃ b n cap cur l, v = .slice (some ⟨b, 0, none⟩) n cap ∧ B ≤ b ∧ w.heap[b]? = some (.cells cur e (0, 0)) ∧ n ≤ cap ∧ cap ≤ maxLen ∧ cur.size = cap * sz ∧ g.G b = some l ∧ l.length = n * sz)) ∧
  (∀ L L' v v' e e' sz sz' b, g.O L = some (v, e, sz) → g.O L' = some (v', e', sz') → v.ownBlock = some b → v'.ownBlock = some b → L = L')

def BOk (B : Nat) (g : Gh) (bx : List (Nat × List V)) (w : World) : Prop :=
  (∀ k cs, lookBx bx k = some cs → ∃ b c e, g.β k = some b ∧ B ≤ b ∧ w.heap[b]? = some (.cells c e (0, 0)) ∧ PW (trep g) cs c.toList ∧ (∀ u ∈ c.toList, u.oneCell' = true) ∧ g.G b = none) ∧
  (∀ k k' cs cs', lookBx bx k = some cs → lookBx bx k' = some cs' → g.β k = g.β k' → k = k')

def GlobOk (E : Env) (G : Known) : Prop := ∀ n v, E.glob n = some v → v.plain = true ∧ rep G v (.pointer (some ⟨n, 0, none⟩))

theorem GlobOk.more {E : Env} {G G' : Known} (h : GlobOk E G) (hm : More G G') : GlobOk E G' := fun n v hv => ⟨(h n v hv).1, rep_more hm _ _ (h n v hv).2⟩

structure Inv (E : Env) (B : Nat) (G0 : Known) (w0 : World) (s : St) (g : Gh) (a : Act) (w : World) : Prop where
  fr : PW (trep g) s.fr a.tmps.toList
  df : a.defers = []
  gok : GOk g.G w
  own : OOk B g w
  bxs : BOk B g s.bx w
  bel : Below B w0 w
  hB : B ≤ w.heap.size
  ext : ∀ b, b < B → g.G b = G0 b
  glob : GlobOk E g.G

/-- What the evaluator takes for granted of a program. -/
structure EOk (E : Env) : Prop where
  mixed : E.P.follows .mixedOrders = true
  names : (E.P.funcs.all fun fn => fn.body.isNone || fn.name != "runtime.NumGoroutine") = true
end Nt.Ev
