/-
  States, continued: boxes, labels' numbers, effects.
-/
import Derived.Test.YtnchnnbggfeknaaDoorEvRun
set_option linter.unusedVariables false
set_option linter.unusedSimpArgs false
namespace Nt.Ev
open Go Go.RowKit
section
variable {E : Env} {B : Nat} {G0 : Known} {w0 : World} {s : St} {g : Gh} {a : Act} {w : World}

theorem srep_β {g : Gh} {β' : Nat → Option Nat} {d : Nat} (hβ : ∀ k, k ≠ d → β' k = g.β k) {x : V} {v : Value} (hx : hasBoxV d x = false) (h : srep g x v) : srep { g with β := β' } x v := by
  cases x with
  | box k off =>
    obtain ⟨b, hb, hv⟩ := h
    have hne : k ≠ d := fun e => by subst e; simp [hasBoxV] at hx
    exact ⟨b, (hβ k hne).trans hb, hv⟩
  | sl e sh ow xs => cases ow <;> exact h
  | _ => exact h
theorem trep_β {g : Gh} {β' : Nat → Option Nat} {d : Nat} (hβ : ∀ k, k ≠ d → β' k = g.β k) {x : V} {v : Value} (hx : x.hasBox d = false) (h : trep g x v) : trep { g with β := β' } x v := by
  cases x with
  | tup vs =>
    obtain ⟨a, rfl, h⟩ := h
    simp only [V.hasBox, List.any_eq_false] at hx
    exact ⟨a, rfl, h.mono fun y hy v hv => srep_β hβ (by have := hx y hy; simpa using this) hv⟩
  | fn f c =>
    obtain ⟨a, rfl, h⟩ := h
    simp only [V.hasBox, List.any_eq_false] at hx
    exact ⟨a, rfl, h.mono fun y hy v hv => srep_β hβ (by have := hx y hy; simpa using this) hv⟩
  | _ => simp only [trep] at h ⊢; exact srep_β hβ hx h

theorem noBox_fr {d : Nat} (h : s.noBox d = true) : ∀ x ∈ s.fr, x.hasBox d = false := by
  unfold St.noBox at h
  rw [Bool.and_eq_true, List.all_eq_true] at h
  exact fun x hx => bnot_true (h.1 x hx)
theorem noBox_bx {d : Nat} (h : s.noBox d = true) : ∀ k cs, lookBx s.bx k = some cs → k ≠ d ∧ ∀ x ∈ cs, x.hasBox d = false := by
  intro k cs hk
  unfold St.noBox at h
  rw [Bool.and_eq_true, List.all_eq_true, List.all_eq_true] at h
  have h2 := h.2 _ (lookBx_mem _ _ _ hk)
  simp only [Bool.and_eq_true, List.all_eq_true] at h2
  refine ⟨fun e => ?_, fun x hx => bnot_true (h2.2 x hx)⟩
  have := bnot_true h2.1
  subst e
  simp at this

theorem alloc_new {G : Known} (hG : GOk G w) (o : Obj) : New w (w.alloc o) G G := by
  refine ⟨below_alloc w o, fun _ _ => rfl, fun b l h => ?_⟩
  obtain ⟨c, e, fr, hc, ht⟩ := hG b l h
  exact ⟨c, e, fr, by rw [Below.heap_alloc w o b (known_lt hG h)]; exact hc, ht⟩

theorem Inv.newBox (h : Inv E B G0 w0 s g a w) {k e : Nat} {cs : List V} {c : Array Value} (hk : s.noBox k = true) (hp : PW (trep g) cs c.toList) (ho : ∀ u ∈ c.toList, u.oneCell' = true) (hcs : cs.all (fun v => bnot (v.hasBox k)) = true) :
    ∃ g', Inv E B G0 w0 ⟨s.fr.set k (.box k 0), (k, cs) :: s.bx⟩ g' (a.put (some k) (.pointer (some ⟨w.heap.size, 0, none⟩))) (w.alloc (.cells c e)) := by
  obtain ⟨h1, hx⟩ := h.new (alloc_new h.gok (.cells c e))
  let β' : Nat → Option Nat := fun j => if j = k then some w.heap.size else g.β j
  have hβ : ∀ j, j ≠ k → β' j = g.β j := fun j hj => if_neg hj
  have hfr : PW (trep { g with β := β' }) s.fr a.tmps.toList := h1.fr.mono fun x hx v => trep_β hβ (noBox_fr hk x hx)
  rw [List.all_eq_true] at hcs
  refine ⟨{ g with β := β' }, by rw [act_put_list]; exact hfr.set k ⟨w.heap.size, if_pos rfl, rfl⟩, h1.df, h1.gok, h1.own, ⟨fun j ds hj => ?_, fun j j' ds ds' hj hj' hb => ?_⟩, h1.bel, h1.hB, h1.ext, h1.glob⟩
  · unfold lookBx at hj
    by_cases hjk : k = j
    · subst hjk
      rw [beq_self_eq_true, cond_true] at hj
      simp only [Option.some.injEq] at hj
      subst hj
      refine ⟨w.heap.size, c, e, if_pos rfl, h.hB, heap_alloc_new w _, hp.mono fun x hx v => trep_β hβ (bnot_true (hcs x hx)), ho, ?_⟩
      show g.G w.heap.size = none
      cases hq : g.G w.heap.size with
      | none => rfl
      | some l => have := known_lt h.gok hq; omega
    · have : (k == j) = false := by simpa using hjk
      rw [this, cond_false] at hj
      obtain ⟨b, c', e', hb, hBb, hh, hp', ho', hG⟩ := h1.bxs.1 j ds hj
      exact ⟨b, c', e', by show β' j = _; rw [hβ j (fun e => hjk e.symm)]; exact hb, hBb, hh, hp'.mono fun x hx v => trep_β hβ ((noBox_bx hk j ds hj).2 x hx), ho', hG⟩
  · unfold lookBx at hj hj'
    have hb : β' j = β' j' := hb
    by_cases hjk : k = j <;> by_cases hjk' : k = j'
    · rw [← hjk, ← hjk']
    · subst hjk
      have h3 : (k == j') = false := by simpa using hjk'
      rw [h3, cond_false] at hj'
      obtain ⟨b, c', e', hb', _, hh, _⟩ := h.bxs.1 j' ds' hj'
      have e1 : β' k = some w.heap.size := if_pos rfl
      rw [e1, hβ j' (fun e => hjk' e.symm), hb'] at hb
      simp only [Option.some.injEq] at hb
      have := (Array.getElem?_eq_some_iff.1 hh).1
      omega
    · subst hjk'
      have h3 : (k == j) = false := by simpa using hjk
      rw [h3, cond_false] at hj
      obtain ⟨b, c', e', hb', _, hh, _⟩ := h.bxs.1 j ds hj
      have e1 : β' k = some w.heap.size := if_pos rfl
      rw [e1, hβ j (fun e => hjk e.symm), hb'] at hb
      simp only [Option.some.injEq] at hb
      have := (Array.getElem?_eq_some_iff.1 hh).1
      omega
    · have h3 : (k == j) = false := by simpa using hjk
      have h4 : (k == j') = false := by simpa using hjk'
      rw [h3, cond_false] at hj
      rw [h4, cond_false] at hj'
      rw [hβ j (fun e => hjk e.symm), hβ j' (fun e => hjk' e.symm)] at hb
      exact h1.bxs.2 j j' ds ds' hj hj' hb

theorem look_setBx : ∀ (l : List (Nat × List V)) (k j : Nat) (ds old : List V), lookBx l k = some old → lookBx (setBx l k ds) j = if j = k then some ds else lookBx l j
  | [], k, j, ds, old, h => by cases h
  | (i, cs) :: l, k, j, ds, old, h => by
    unfold lookBx at h
    unfold setBx
    cases hi : i == k with
    | true =>
      rw [cond_true]
      unfold lookBx
      have e : i = k := by simpa using hi
      subst e
      by_cases hj : i = j
      · subst hj; simp
      · have : (i == j) = false := by simpa using hj
        rw [this, cond_false, cond_false, if_neg (fun e => hj e.symm)]
    | false =>
      rw [hi, cond_false] at h
      rw [cond_false]
      have hik : i ≠ k := by simpa using hi
      unfold lookBx
      rw [look_setBx l k j ds old h]
      by_cases hj : i = j
      · subst hj
        rw [beq_self_eq_true, cond_true, cond_true, if_neg hik]
      · have : (i == j) = false := by simpa using hj
        rw [this, cond_false, cond_false]

theorem Inv.store (h : Inv E B G0 w0 s g a w) {k off b e : Nat} {old vs : List V} {c : Array Value} {us : List Value} (hb : g.β k = some b) (hl : lookBx s.bx k = some old) (hh : w.heap[b]? = some (.cells c e (0, 0))) (hp : PW (trep g) old c.toList)
    (hv : PW (trep g) vs us) (ho : ∀ u ∈ us, u.oneCell' = true) (hle : off + vs.length ≤ old.length) :
    Inv E B G0 w0 ⟨s.fr, setBx s.bx k (over old off vs)⟩ g a (w.setRow b (c.toList.take off ++ us ++ c.toList.drop (off + us.length)).toArray) := by
  obtain ⟨b', c', e', hb', hBb, hh', hp', ho', hGb⟩ := h.bxs.1 k old hl
  rw [hb] at hb'
  simp only [Option.some.injEq] at hb'
  subst hb'
  rw [hh] at hh'
  simp only [Option.some.injEq, Obj.cells.injEq] at hh'
  obtain ⟨rfl, rfl, _⟩ := hh'
  have hset := setRow_heap w b c (c.toList.take off ++ us ++ c.toList.drop (off + us.length)).toArray e (0, 0) hh
  have hoth : ∀ j, j ≠ b → (w.setRow b (c.toList.take off ++ us ++ c.toList.drop (off + us.length)).toArray).heap[j]? = w.heap[j]? := fun j hj => setRow_other w b j _ hj
  have hsz : (w.setRow b (c.toList.take off ++ us ++ c.toList.drop (off + us.length)).toArray).heap.size = w.heap.size := by simp [World.setRow]
  have hkn : ∀ j l, g.G j = some l → j ≠ b := fun j l hj e => by subst e; rw [hGb] at hj; cases hj
  refine ⟨h.fr, h.df, fun j l hj => ?_, ⟨fun L v e2 sz hL => ?_, h.own.2⟩, ⟨fun j ds hj => ?_, fun j j' ds ds' hj hj' => ?_⟩, ?_, by rw [hsz]; exact h.hB, h.ext, h.glob⟩
  · obtain ⟨c2, e2, fr, hc, ht⟩ := h.gok j l hj
    exact ⟨c2, e2, fr, by rw [hoth j (hkn j l hj)]; exact hc, ht⟩
  · obtain ⟨h1, h2⟩ := h.own.1 L v e2 sz hL
    refine ⟨h1, h2.imp id ?_⟩
    rintro ⟨j, n, cap, cur, l, hv, hj, hhj, hnc, hcm, hcs, hGj, hl⟩
    exact ⟨j, n, cap, cur, l, hv, hj, by rw [hoth j (hkn j l hGj)]; exact hhj, hnc, hcm, hcs, hGj, hl⟩
  · rw [look_setBx s.bx k j _ old hl] at hj
    split at hj
    · rename_i ejk
      subst ejk
      simp only [Option.some.injEq] at hj
      subst hj
      refine ⟨b, _, e, hb, hBb, hset, by simpa using over_pw hp hv off, fun u hu => ?_, hGb⟩
      simp only [List.mem_append] at hu
      rcases hu with (hu | hu) | hu
      · exact ho' u (List.mem_of_mem_take hu)
      · exact ho u hu
      · exact ho' u (List.mem_of_mem_drop hu)
    · rename_i ejk
      obtain ⟨b2, c2, e2, hb2, hBb2, hh2, hp2, ho2, hG2⟩ := h.bxs.1 j ds hj
      have hne : b2 ≠ b := by
        intro e3
        subst e3
        exact ejk (h.bxs.2 j k ds old hj hl (hb2.trans hb.symm))
      exact ⟨b2, c2, e2, hb2, hBb2, by rw [hoth b2 hne]; exact hh2, hp2, ho2, hG2⟩
  · rw [look_setBx s.bx k _ _ old hl] at hj hj'
    refine fun hbb => ?_
    split at hj <;> split at hj'
    · rename_i e1 e2; rw [e1, e2]
    · rename_i e1 e2; subst e1; exact h.bxs.2 _ _ old ds' hl hj' hbb
    · rename_i e1 e2; subst e2; exact h.bxs.2 _ _ ds old hj hl hbb
    · exact h.bxs.2 _ _ ds ds' hj hj' hbb
  · refine h.bel.trans ⟨rfl, rfl, rfl, by rw [hsz]; exact Nat.le_refl _, fun j hj => hoth j (by omega)⟩

/-- Labels renamed. -/
theorem canonV_sl (L i e : Nat) (sh : List Kd) (k : Nat) (xs : List V) : canonV L i (.sl e sh (some k) xs) = bif L == k then .sl e sh (some i) xs else .sl e sh (some k) xs := rfl
theorem canonV_srep {g : Gh} {O' : Nat → Option (Value × Nat × Nat)} {L i : Nat} (hi : O' i = g.O L) (hO : ∀ k, k ≠ L → k ≠ i → O' k = g.O k) {x : V} {v : Value} (hx : hasLabelV i x = false) (h : srep g x v) : srep { g with O := O' } (canonV L i x) v := by
  cases x with
  | sl e sh ow xs =>
    cases ow with
    | none => exact h
    | some k =>
      rw [canonV_sl]
      by_cases hk : L = k
      · have : (L == k) = true := by simpa using hk
        rw [this]
        subst hk
        exact ⟨hi.trans h.1, h.2⟩
      · have : (L == k) = false := by simpa using hk
        rw [this]
        have hki : k ≠ i := fun e => by subst e; simp [hasLabelV] at hx
        exact ⟨(hO k (fun e => hk e.symm) hki).trans h.1, h.2⟩
  | _ => exact h
theorem map_pw {R S : V → Value → Prop} {f : V → V} {xs : List V} {vs : List Value} (h : PW R xs vs) (hf : ∀ x ∈ xs, ∀ v, R x v → S (f x) v) : PW S (xs.map f) vs := by
  refine ⟨by simp [h.1], fun i x v hx hv => ?_⟩
  rw [List.getElem?_map] at hx
  cases hi : xs[i]? with
  | none => rw [hi] at hx; cases hx
  | some y =>
    rw [hi] at hx
    simp only [Option.map_some, Option.some.injEq] at hx
    subst hx
    exact hf y (List.mem_of_getElem? hi) v (h.2 i y v hi hv)
theorem canonV_single {L i : Nat} {x : V} (h : x.single = true) : (canonV L i x).single = true := by
  cases x with
  | sl e sh ow xs =>
    cases ow with
    | none => rfl
    | some k => rw [canonV_sl]; cases L == k <;> rfl
  | tup _ => cases h
  | fn _ _ => cases h
  | _ => rfl
theorem canon_trep {g : Gh} {O' : Nat → Option (Value × Nat × Nat)} {L i : Nat} (hi : O' i = g.O L) (hO : ∀ k, k ≠ L → k ≠ i → O' k = g.O k) {x : V} {v : Value} (hx : x.hasLabel i = false) (h : trep g x v) : trep { g with O := O' } (x.canon L i) v := by
  cases x with
  | tup vs =>
    obtain ⟨a, rfl, h⟩ := h
    simp only [V.hasLabel, List.any_eq_false] at hx
    exact ⟨a, rfl, map_pw h fun y hy v hv => canonV_srep hi hO (by have := hx y hy; simpa using this) hv⟩
  | fn f c =>
    obtain ⟨a, rfl, h⟩ := h
    simp only [V.hasLabel, List.any_eq_false] at hx
    exact ⟨a, rfl, map_pw h fun y hy v hv => canonV_srep hi hO (by have := hx y hy; simpa using this) hv⟩
  | sl e sh ow xs => exact srep_trep (canonV_single rfl) (canonV_srep hi hO hx (trep_single rfl h))
  | _ => simp only [trep, V.hasLabel] at h hx ⊢; exact canonV_srep hi hO hx h

theorem Inv.canon (h : Inv E B G0 w0 s g a w) {L i : Nat} (hne : L ≠ i) (hi : s.noLabel i = true) : ∃ g', Inv E B G0 w0 (s.canon L i) g' a w := by
  let O' : Nat → Option (Value × Nat × Nat) := fun k => if k = i then g.O L else if k = L then none else g.O k
  have h1 : O' i = g.O L := if_pos rfl
  have h2 : ∀ k, k ≠ L → k ≠ i → O' k = g.O k := fun k hk hki => by show (if k = i then g.O L else if k = L then none else g.O k) = _; rw [if_neg hki, if_neg hk]
  have hinv : ∀ k x, O' k = some x → ∃ j, g.O j = some x ∧ (j = if k = i then L else k) := by
    intro k x hk
    have hk : (if k = i then g.O L else if k = L then none else g.O k) = some x := hk
    split at hk
    · rename_i e; exact ⟨L, hk, by rw [if_pos e]⟩
    · rename_i e
      split at hk
      · cases hk
      · exact ⟨k, hk, by rw [if_neg e]⟩
  refine ⟨{ g with O := O' }, map_pw h.fr fun x hx v => canon_trep h1 h2 (noLabel_fr hi x hx), h.df, h.gok, ⟨fun k v e sz hk => ?_, fun k k' v v' e e' sz sz' b hk hk' hb hb' => ?_⟩, ⟨fun k cs hk => ?_, fun k k' cs cs' hk hk' => ?_⟩, h.bel, h.hB, h.ext, h.glob⟩
  · obtain ⟨j, hj, _⟩ := hinv k _ hk
    exact h.own.1 j v e sz hj
  · have hkL : ∀ k x, O' k = some x → k ≠ L := by
      intro k x hk e
      subst e
      have hk : (if k = i then g.O k else if k = k then none else g.O k) = some x := hk
      rw [if_neg hne, if_pos rfl] at hk
      cases hk
    obtain ⟨j, hj, ej⟩ := hinv k _ hk
    obtain ⟨j', hj', ej'⟩ := hinv k' _ hk'
    have hjj := h.own.2 j j' v v' e e' sz sz' b hj hj' hb hb'
    have hk1 := hkL k _ hk
    have hk2 := hkL k' _ hk'
    by_cases c1 : k = i <;> by_cases c2 : k' = i
    · rw [c1, c2]
    · rw [if_pos c1] at ej; rw [if_neg c2] at ej'; omega
    · rw [if_neg c1] at ej; rw [if_pos c2] at ej'; omega
    · rw [if_neg c1] at ej; rw [if_neg c2] at ej'; omega
  · have hk : lookBx (s.bx.map fun (k, cs) => (k, cs.map (V.canon L i))) k = some cs := hk
    rw [lookBx_map] at hk
    cases hq : lookBx s.bx k with
    | none => rw [hq] at hk; cases hk
    | some ds =>
      rw [hq] at hk
      simp only [Option.map_some, Option.some.injEq] at hk
      subst hk
      obtain ⟨b, c, e, hb, hBb, hh, hp, ho, hG⟩ := h.bxs.1 k ds hq
      exact ⟨b, c, e, hb, hBb, hh, map_pw hp fun x hx v => canon_trep h1 h2 (noLabel_bx hi k ds hq x hx), ho, hG⟩
  · have hk : lookBx (s.bx.map fun (k, cs) => (k, cs.map (V.canon L i))) k = some cs := hk
    have hk' : lookBx (s.bx.map fun (k, cs) => (k, cs.map (V.canon L i))) k' = some cs' := hk'
    rw [lookBx_map] at hk hk'
    cases hq : lookBx s.bx k with
    | none => rw [hq] at hk; cases hk
    | some ds =>
      cases hq' : lookBx s.bx k' with
      | none => rw [hq'] at hk'; cases hk'
      | some ds' => exact h.bxs.2 k k' ds ds' hq hq'

/-- Less is told of the frame and the boxes. -/
theorem Inv.less (h : Inv E B G0 w0 s g a w) {fr : List V} {bx : List (Nat × List V)} (hf : PW (trep g) fr a.tmps.toList) (hb : ∀ k cs, lookBx bx k = some cs → lookBx s.bx k = some cs) : Inv E B G0 w0 ⟨fr, bx⟩ g a w :=
  ⟨hf, h.df, h.gok, h.own, ⟨fun k cs hk => h.bxs.1 k cs (hb k cs hk), fun k k' cs cs' hk hk' => h.bxs.2 k k' cs cs' (hb k cs hk) (hb k' cs' hk')⟩, h.bel, h.hB, h.ext, h.glob⟩

theorem maskFr_pw {g : Gh} (mask : List Nat) : ∀ (xs : List V) (vs : List Value) (i : Nat), PW (trep g) xs vs → PW (trep g) (maskFr mask xs i) vs
  | [], vs, i, h => by rw [h.nil_iff]; exact .nil
  | x :: xs, vs, i, h => by
    obtain ⟨v, t, rfl, h1, h2⟩ := h.cons_inv
    unfold maskFr
    refine .cons ?_ (maskFr_pw mask xs t (i + 1) h2)
    cases mask.contains i
    · exact h1
    · exact trep_any
theorem look_filter (q : Nat → Bool) : ∀ (l : List (Nat × List V)) (k : Nat) (cs : List V), lookBx (l.filter fun (k, _) => q k) k = some cs → lookBx l k = some cs
  | [], k, cs, h => by cases h
  | (j, ds) :: l, k, cs, h => by
    have ih := look_filter q l k cs
    simp only [List.filter_cons] at h
    unfold lookBx
    cases hj : j == k with
    | true =>
      have e : j = k := by simpa using hj
      subst e
      rw [cond_true]
      cases hq : q j with
      | true =>
        rw [hq, if_pos rfl] at h
        unfold lookBx at h
        rw [hj, cond_true] at h
        exact h
      | false =>
        rw [hq, if_neg (by decide)] at h
        exfalso
        have : ∀ (l : List (Nat × List V)), lookBx (l.filter fun (k, _) => q k) j = none := by
          intro l
          induction l with
          | nil => rfl
          | cons p l ih =>
            obtain ⟨i, es⟩ := p
            simp only [List.filter_cons]
            by_cases hi : q i = true
            · rw [if_pos hi]
              unfold lookBx
              have : (i == j) = false := by
                rw [beq_eq_false_iff_ne]; intro e; subst e; rw [hi] at hq; cases hq
              rw [this, cond_false]
              exact ih
            · rw [if_neg hi]; exact ih
        rw [this l] at h
        cases h
    | false =>
      rw [cond_false]
      cases hq : q j with
      | true =>
        rw [hq, if_pos rfl] at h
        unfold lookBx at h
        rw [hj, cond_false] at h
        exact ih h
      | false =>
        rw [hq, if_neg (by decide)] at h
        exact ih h

theorem canonFrom_inv : ∀ (fr : List V) (i : Nat) (done : List Nat) (s : St) (g : Gh), Inv E B G0 w0 s g a w → ∃ g', Inv E B G0 w0 (canonFrom fr i done s) g' a w := by
  intro fr
  induction fr with
  | nil => intro i done s g h; exact ⟨g, h⟩
  | cons x fr ih =>
    intro i done s g h
    cases x with
    | sl e sh ow xs =>
      cases ow with
      | none => unfold canonFrom; exact ih _ _ _ _ h
      | some L =>
        unfold canonFrom
        cases hd : (done.contains L || L == i) with
        | true => rw [cond_true]; exact ih _ _ _ _ h
        | false =>
          rw [cond_false]
          cases hn : s.noLabel i with
          | false => rw [cond_false]; exact ih _ _ _ _ h
          | true =>
            rw [cond_true]
            have hne : L ≠ i := by
              intro e
              subst e
              simp at hd
            obtain ⟨g', h'⟩ := h.canon hne hn
            exact ih _ _ _ _ h'
    | _ => unfold canonFrom; exact ih _ _ _ _ h

theorem Inv.head (h : Inv E B G0 w0 s g a w) (mask : List Nat) : ∃ g', Inv E B G0 w0 (headSt mask s) g' a w := by
  unfold headSt
  exact canonFrom_inv _ _ _ _ _ (h.less (maskFr_pw mask _ _ 0 h.fr) fun k cs hk => look_filter (fun k => !mask.contains k) _ _ _ hk)
end
end Nt.Ev
