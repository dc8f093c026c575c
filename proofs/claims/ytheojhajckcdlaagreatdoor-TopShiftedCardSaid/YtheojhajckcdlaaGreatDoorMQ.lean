/-
  A region that draws its order, proved operation by operation: one fact for each operation's value, which the other operations keep; so the proof is as long as the region, whatever the number of its orders.
-/
import Derived.Test.YtheojhajckcdlaaGreatDoorMC
import Derived.Orders
import Derived.ArgAppend
set_option linter.unusedVariables false
set_option linter.unusedSimpArgs false
set_option linter.unusedSectionVars false
namespace Nt
open Go Go.RowKit
def putSel (val : Nat → Value) (listed : Nat → Bool) : List Oper → Nat → Act → Act
  | [], _, a => a
  | o :: l, k, a => putSel val listed l (k + 1) (if listed k = true then a.put o.dst (val k) else a)
def dstsOk (n : Nat) : List Oper → Bool
  | [] => true
  | o :: l => (match o.dst with | some d => decide (d < n) && l.all fun o' => o'.dst != some d | none => true) && dstsOk n l
theorem put_size (a : Act) (d : Option Tmp) (v : Value) : (a.put d v).tmps.size = a.tmps.size := by cases d <;> simp [Act.put]
theorem putSel_put (val : Nat → Value) (listed : Nat → Bool) (d : Tmp) (v : Value) : ∀ (l : List Oper) (k : Nat) (a : Act), (l.all fun o' => o'.dst != some d) = true →
    (putSel val listed l k a).put (some d) v = putSel val listed l k (a.put (some d) v)
  | [], _, _, _ => rfl
  | o :: l, k, a, h => by
    simp only [List.all_cons, Bool.and_eq_true, bne_iff_ne, ne_eq] at h
    simp only [putSel]
    rw [putSel_put val listed d v l (k + 1) _ (by simpa using h.2)]
    congr 1
    split
    · exact Act.put_comm a _ _ (fun x hx e => h.1 (by rw [hx, e]))
    · rfl
theorem putSel_congr (val val' : Nat → Value) (listed listed' : Nat → Bool) : ∀ (l : List Oper) (k : Nat) (a : Act), (∀ i, k ≤ i → i < k + l.length → listed i = listed' i ∧ (listed i = true → val i = val' i)) → putSel val listed l k a = putSel val' listed' l k a
  | [], _, _, _ => rfl
  | o :: l, k, a, h => by
    have h0 := h k (Nat.le_refl _) (by simp)
    simp only [putSel]
    rw [← h0.1]
    by_cases hl : listed k = true
    · rw [if_pos hl, if_pos hl, h0.2 hl]
      exact putSel_congr val val' listed listed' l (k + 1) _ fun i h1 h2 => h i (by omega) (by simp; omega)
    · rw [if_neg hl, if_neg hl]
      exact putSel_congr val val' listed listed' l (k + 1) _ fun i h1 h2 => h i (by omega) (by simp; omega)
theorem putSel_step (n : Nat) (val : Nat → Value) (listed : Nat → Bool) (i : Nat) (v : Value) : ∀ (l : List Oper) (k : Nat) (a : Act) (o : Oper), dstsOk n l = true → k ≤ i → l[i - k]? = some o → listed i = false →
    (putSel val listed l k a).put o.dst v = putSel (fun j => if j = i then v else val j) (fun j => if j = i then true else listed j) l k a
  | [], _, _, _, _, _, h, _ => by simp at h
  | o' :: l, k, a, o, hd, hk, ho, hl => by
    simp only [dstsOk, Bool.and_eq_true] at hd
    by_cases e : i = k
    · subst e
      simp only [Nat.sub_self, List.getElem?_cons_zero, Option.some.injEq] at ho
      subst ho
      have hd1 := hd.1
      cases hdst : o'.dst with
      | none =>
        simp only [putSel, hl, if_pos, Bool.false_eq_true, if_false, hdst]
        exact putSel_congr _ _ _ _ l (i + 1) _ fun j h1 h2 => by
          have : j ≠ i := by omega
          simp [this]
      | some d =>
        rw [hdst] at hd1
        simp only [Bool.and_eq_true, decide_eq_true_eq] at hd1
        simp only [putSel, hl, if_pos, Bool.false_eq_true, if_false]
        rw [putSel_put val listed d v l (i + 1) a hd1.2, hdst]
        exact putSel_congr _ _ _ _ l (i + 1) _ fun j h1 h2 => by
          have : j ≠ i := by omega
          simp [this]
    · simp only [putSel]
      have e2 : ¬ k = i := fun h => e h.symm
      simp only [if_neg e2]
      refine putSel_step n val listed i v l (k + 1) _ o hd.2 (by omega) ?_ hl
      have : i - k = (i - (k + 1)) + 1 := by omega
      rw [this] at ho
      simpa using ho
theorem putSel_defers (val : Nat → Value) (listed : Nat → Bool) : ∀ (l : List Oper) (k : Nat) (a : Act), (putSel val listed l k a).defers = a.defers
  | [], _, _ => rfl
  | o :: l, k, a => by
    simp only [putSel]
    rw [putSel_defers val listed l (k + 1)]
    split
    · cases o.dst <;> rfl
    · rfl
theorem putSel_other (val : Nat → Value) (listed : Nat → Bool) (t : Nat) : ∀ (l : List Oper) (k : Nat) (a : Act), (l.all fun o => o.dst != some t) = true → (putSel val listed l k a).tmps[t]? = a.tmps[t]?
  | [], _, _, _ => rfl
  | o :: l, k, a, h => by
    simp only [List.all_cons, Bool.and_eq_true, bne_iff_ne, ne_eq] at h
    simp only [putSel]
    rw [putSel_other val listed t l (k + 1) _ (by simpa using h.2)]
    split
    · cases hd : o.dst with
      | none => rfl
      | some d =>
        have : d ≠ t := fun e => h.1 (by rw [hd, e])
        simp [Act.put, Array.getElem?_setIfInBounds_ne this]
    · rfl
theorem putSel_slot (val : Nat → Value) (listed : Nat → Bool) (j d : Nat) : ∀ (l : List Oper) (k : Nat) (a : Act) (o : Oper), dstsOk a.tmps.size l = true → k ≤ j → l[j - k]? = some o → o.dst = some d → listed j = true →
    (putSel val listed l k a).tmps[d]? = some (val j)
  | [], _, _, _, _, _, h, _, _ => by simp at h
  | o' :: l, k, a, o, hd, hk, ho, hdst, hl => by
    simp only [dstsOk, Bool.and_eq_true] at hd
    by_cases e : j = k
    · subst e
      simp only [Nat.sub_self, List.getElem?_cons_zero, Option.some.injEq] at ho
      subst ho
      have hd1 := hd.1
      rw [hdst] at hd1
      simp only [Bool.and_eq_true, decide_eq_true_eq] at hd1
      simp only [putSel, hl, if_true]
      rw [putSel_other val listed d l (j + 1) _ hd1.2, hdst]
      simp [Act.put, hd1.1]
    · simp only [putSel]
      have : j - k = (j - (k + 1)) + 1 := by omega
      rw [this] at ho
      refine putSel_slot val listed j d l (k + 1) _ o ?_ (by omega) (by simpa using ho) hdst hl
      split
      · rw [put_size]; exact hd.2
      · exact hd.2
def waitsFor (ops : Array Oper) (i j : Nat) : Bool := match ops[i]? with | some o => o.after.any fun e => Region.binds .any e && e.on == j | none => false
def backward (ops : Array Oper) : Bool := (List.range ops.size).all fun i => match ops[i]? with | some o => o.after.all fun e => !Region.binds .any e || decide (e.on < i) | none => true
def takes (ops : Array Oper) (k j : Nat) : Bool := match ops[k]? with | some o => o.after.toList.any fun e => (e.ground == .data || e.ground == .guard) && e.on == j | none => false
def live (ops : Array Oper) (keep : List Nat) (i j : Nat) : Bool := keep.contains j || (List.range ops.size).any fun k => k != i && takes ops k j && !waitsFor ops i k
def open_ (ops : Array Oper) (listed : Array Bool) : Nat := (List.range ops.size).countP fun i => !listed.getD i true
section
variable {P : Program} {ops : Array Oper} {Q : Exit → Act → World → Prop}
theorem ready_nil (hb : backward ops = true) (listed : Array Bool) (hs : listed.size = ops.size) (h : Region.ready .any ops listed = []) : ∀ i, i < ops.size → listed.getD i true = true := by
  intro i
  induction i using Nat.strongRecOn with
  | _ i ih =>
    intro hi
    cases hl : listed.getD i true with
    | true => rfl
    | false =>
      have : i ∈ Region.ready .any ops listed := by
        rw [mem_ready]
        refine ⟨hl, ops[i], by simp [hi], fun e he hbi => ?_⟩
        simp only [backward, List.all_eq_true, List.mem_range] at hb
        have h1 := hb i hi
        rw [Array.getElem?_eq_getElem hi] at h1
        simp only [Array.all_eq_true_iff_forall_mem, Bool.or_eq_true, Bool.not_eq_true', decide_eq_true_eq] at h1
        have h2 : e.on < i := (h1 e he).resolve_left (by rw [hbi]; simp)
        have h3 := ih e.on h2 (by omega)
        have h4 : e.on < listed.size := by omega
        simp only [Array.getD_eq_getD_getElem?, Array.getElem?_eq_getElem h4, Option.getD_some] at h3 ⊢
        exact h3
      rw [h] at this
      cases this
theorem countP_lt {p q : Nat → Bool} {l : List Nat} {x : Nat} (hx : x ∈ l) (h : ∀ y ∈ l, q y = true → p y = true) (hp : p x = true) (hq : q x = false) : l.countP q < l.countP p := by
  induction l with
  | nil => cases hx
  | cons y l ih =>
    simp only [List.countP_cons]
    have hl : l.countP q ≤ l.countP p := List.countP_mono_left fun z hz => h z (by simp [hz])
    rcases List.mem_cons.1 hx with rfl | hx'
    · simp [hp, hq]; omega
    · have := ih hx' fun z hz => h z (by simp [hz])
      have hy := h y (by simp)
      cases hqy : q y with
      | false => split <;> simp_all <;> omega
      | true => simp [hy hqy]; omega
theorem open_set (listed : Array Bool) (i : Nat) (hs : listed.size = ops.size) (hi : i < ops.size) (hl : listed.getD i true = false) : open_ ops (listed.setIfInBounds i true) < open_ ops listed := by
  unfold open_
  refine countP_lt (x := i) (by simpa using hi) (fun y _ h => ?_) (by rw [hl]; rfl) ?_
  · by_cases e : i = y
    · subst e; rw [hl]; rfl
    · rw [getD_set_ne true e] at h; exact h
  · simp [hs, hi]
def Slot (a : Act) (t : Nat) (v : Value) : Prop := a.tmps[t]? = some v ∧ ∀ h : t < a.tmps.size, a.tmps[t] = v
theorem Slot.mk {a : Act} {t : Nat} {v : Value} (h : a.tmps[t]? = some v) : Slot a t v := ⟨h, fun hl => by rw [Array.getElem?_eq_getElem hl] at h; exact Option.some.inj h⟩
def frameFacts (ops : List Oper) (a a' : Act) : List Operand → Prop
  | [] => True
  | .tmp t :: l => ((ops.all fun o => o.dst != some t) = true → ∀ v, a.tmps[t]? = some v → Slot a' t v) ∧ frameFacts ops a a' l
  | _ :: l => frameFacts ops a a' l
def depFacts (ops : Array Oper) (F : Nat → Value → World → Prop) (a' : Act) (w' : World) : List Edge → Prop
  | [] => True
  | e :: l => ((e.ground == .data || e.ground == .guard) = true → ∀ d, ((ops[e.on]?).bind (·.dst)) = some d → ∃ u, Slot a' d u ∧ F e.on u w') ∧ depFacts ops F a' w' l
def factsFrom (F : Nat → Value → World → Prop) (val : Nat → Value) (w : World) : List Nat → Prop
  | [] => True
  | k :: l => F k (val k) w ∧ factsFrom F val w l
theorem factsFrom_mk {F : Nat → Value → World → Prop} {val : Nat → Value} {w : World} : ∀ (l : List Nat), (∀ i ∈ l, F i (val i) w) → factsFrom F val w l
  | [], _ => trivial
  | k :: l, h => ⟨h k (by simp), factsFrom_mk l fun i hi => h i (by simp [hi])⟩
theorem step_value {o : Oper} {a' : Act} {w' w'' : World} {K : Act → World → Prop} {v : Value} (hg : o.guard = none) (h : (execOp a'.eval o).run P w' = .ok (.value v) w'') (hk : K (a'.put o.dst v) w'') :
    if Region.wanted o (yielded ops a'.tmps) = true then o.wp P a' w' K Q else K (a'.put o.dst undef) w' := by
  rw [if_pos (by simp [Region.wanted, hg])]
  unfold Oper.wp
  rw [h]
  exact hk
theorem step_law {o : Oper} {a' : Act} {w' : World} {K : Act → World → Prop} (hg : o.guard = none) (h : o.wp P a' w' K Q) :
    if Region.wanted o (yielded ops a'.tmps) = true then o.wp P a' w' K Q else K (a'.put o.dst undef) w' := by
  rw [if_pos (by simp [Region.wanted, hg])]
  exact h
theorem step_call {o : Oper} {a' : Act} {w' : World} {K : Act → World → Prop} {f : FuncId} {args : Array Value} (hg : o.guard = none) (h : (execOp a'.eval o).run P w' = .ok (.enter f args) w')
    (hc : Calls P f args w' fun e w'' => ∃ v, e = .returned v ∧ K (a'.put o.dst v) w'') :
    if Region.wanted o (yielded ops a'.tmps) = true then o.wp P a' w' K Q else K (a'.put o.dst undef) w' := by
  rw [if_pos (by simp [Region.wanted, hg])]
  unfold Oper.wp
  rw [h]
  refine Calls.mono hc ?_
  rintro e w'' ⟨v, rfl, hk⟩
  exact hk
theorem ownsRow_ext {w w' : World} {base e size : Nat} {v : Value} {n : Nat} {xs : List Value} (h : w.ownsRow base e size v n xs) (hb : Below w.heap.size w w') : w'.ownsRow base e size v n xs := by
  have hlt := h.lt
  obtain ⟨h1, h2⟩ := h
  refine ⟨h1, ?_⟩
  rcases h2 with h2 | ⟨g, cap, cur, hv, hg, hh, r⟩
  · exact .inl h2
  · subst hv
    exact .inr ⟨g, cap, cur, rfl, hg, (hb.block g (hlt g rfl).2).trans hh, r⟩
theorem ownsRow_mono {w : World} {base base' e size : Nat} {v : Value} {n : Nat} {xs : List Value} (h : w.ownsRow base e size v n xs) (hb : base' ≤ base) : w.ownsRow base' e size v n xs := by
  obtain ⟨h1, h2⟩ := h
  refine ⟨h1, ?_⟩
  rcases h2 with h2 | ⟨g, cap, cur, hv, hg, r⟩
  · exact .inl h2
  · exact .inr ⟨g, cap, cur, hv, by omega, r⟩
theorem below_grown {w w' : World} (h : w.grownBy w' none) : Below w.heap.size w w' := (Below.refl _ _).grown h (Nat.le_refl _) (by intro k hk; cases hk)
theorem heap_ext {w w' : World} {g : Nat} {o : Obj} (h : w.heap[g]? = some o) (hb : Below w.heap.size w w') : w'.heap[g]? = some o :=
  (hb.block g (by obtain ⟨h1, _⟩ := Array.getElem?_eq_some_iff.1 h; exact h1)).trans h
theorem below_alloc (w : World) (o : Obj) : Below w.heap.size w (w.alloc o) := (Below.refl _ _).alloc (Nat.le_refl _) o
end
end Nt
