/-
  A region that draws its order, proved operation by operation: one fact for each operation's value, which the other operations keep; so the proof is as long as the region, whatever the number of its orders.
-/
import Derived.Test.YtefkdjikbdgidaaDoorBase
import Derived.Orders
import Derived.ArgAppend
set_option linter.unusedVariables false
set_option linter.unusedSimpArgs false
namespace Nt
open Go Go.RowKit

/-- The act in which the listed operations have laid their values. -/
def putSel (val : Nat → Value) (listed : Nat → Bool) : List Oper → Nat → Act → Act
  | [], _, a => a
  | o :: l, k, a => putSel val listed l (k + 1) (if listed k = true then a.put o.dst (val k) else a)

/-- No two operations write one slot; every operation has one; the slots lie in the frame. -/
def dstsOk (n : Nat) : List Oper → Bool
  | [] => true
  | o :: l => (match o.dst with | some d => decide (d < n) && l.all fun o' => o'.dst != some d | none => false) && dstsOk n l

theorem put_size (a : Act) (d : Option Tmp) (v : Value) : (a.put d v).tmps.size = a.tmps.size := by cases d <;> simp [Act.put]

theorem putSel_put (val : Nat → Value) (listed : Nat → Bool) (d : Tmp) (v : Value) : ∀ (l : List Oper) (k : Nat) (a : Act), (l.all fun o' => o'.dst != some d) = true →
    (putSel val listed l k a).put (some d) v = putSel val listed l k (a.put (some d) v)
  | [], _, _, _ => rfl
  | o :: l, k, a, h => by
    simp only [List.all_cons, Bool.and_eq_true, bne_iff_ne, ne_eq] at h
    simp only [putSel]
    rw [putSel_put val listed d v l (k + 1) _ (by simpa using h.2)]
    congr 1
    split
    · exact Act.put_comm a _ _ (fun x hx e => h.1 (by rw [hx, e]))
    · rfl

theorem putSel_congr (val val' : Nat → Value) (listed listed' : Nat → Bool) : ∀ (l : List Oper) (k : Nat) (a : Act), (∀ i, k ≤ i → i < k + l.length → listed i = listed' i ∧ (listed i = true → val i = val' i)) → putSel val listed l k a = putSel val' listed' l k a
  | [], _, _, _ => rfl
  | o :: l, k, a, h => by
    have h0 := h k (Nat.le_refl _) (by simp)
    simp only [putSel]
    rw [← h0.1]
    by_cases hl : listed k = true
    · rw [if_pos hl, if_pos hl, h0.2 hl]
      exact putSel_congr val val' listed listed' l (k + 1) _ fun i h1 h2 => h i (by omega) (by simp; omega)
    · rw [if_neg hl, if_neg hl]
      exact putSel_congr val val' listed listed' l (k + 1) _ fun i h1 h2 => h i (by omega) (by simp; omega)

/-- One operation more. -/
theorem putSel_step (n : Nat) (val : Nat → Value) (listed : Nat → Bool) (i : Nat) (v : Value) : ∀ (l : List Oper) (k : Nat) (a : Act) (o : Oper), dstsOk n l = true → k ≤ i → l[i - k]? = some o → listed i = false →
    (putSel val listed l k a).put o.dst v = putSel (fun j => if j = i then v else val j) (fun j => if j = i then true else listed j) l k a
  | [], _, _, _, _, _, h, _ => by simp at h
  | o' :: l, k, a, o, hd, hk, ho, hl => by
    simp only [dstsOk, Bool.and_eq_true] at hd
    by_cases e : i = k
    · subst e
      simp only [Nat.sub_self, List.getElem?_cons_zero, Option.some.injEq] at ho
      subst ho
      have hd1 := hd.1
      cases hdst : o'.dst with
      | none => rw [hdst] at hd1; simp at hd1
      | some d =>
        rw [hdst] at hd1
        simp only [Bool.and_eq_true, decide_eq_true_eq] at hd1
        simp only [putSel, hl, if_pos, Bool.false_eq_true, if_false]
        rw [putSel_put val listed d v l (i + 1) a hd1.2, hdst]
        exact putSel_congr _ _ _ _ l (i + 1) _ fun j h1 h2 => by
          have : j ≠ i := by omega
          simp [this]
    · simp only [putSel]
      have e2 : ¬ k = i := fun h => e h.symm
      simp only [if_neg e2]
      refine putSel_step n val listed i v l (k + 1) _ o hd.2 (by omega) ?_ hl
      have : i - k = (i - (k + 1)) + 1 := by omega
      rw [this] at ho
      simpa using ho

theorem putSel_defers (val : Nat → Value) (listed : Nat → Bool) : ∀ (l : List Oper) (k : Nat) (a : Act), (putSel val listed l k a).defers = a.defers
  | [], _, _ => rfl
  | o :: l, k, a => by
    simp only [putSel]
    rw [putSel_defers val listed l (k + 1)]
    split
    · cases o.dst <;> rfl
    · rfl

theorem putSel_other (val : Nat → Value) (listed : Nat → Bool) (t : Nat) : ∀ (l : List Oper) (k : Nat) (a : Act), (l.all fun o => o.dst != some t) = true → (putSel val listed l k a).tmps[t]? = a.tmps[t]?
  | [], _, _, _ => rfl
  | o :: l, k, a, h => by
    simp only [List.all_cons, Bool.and_eq_true, bne_iff_ne, ne_eq] at h
    simp only [putSel]
    rw [putSel_other val listed t l (k + 1) _ (by simpa using h.2)]
    split
    · cases hd : o.dst with
      | none => rfl
      | some d =>
        have : d ≠ t := fun e => h.1 (by rw [hd, e])
        simp [Act.put, Array.getElem?_setIfInBounds_ne this]
    · rfl

theorem putSel_slot (val : Nat → Value) (listed : Nat → Bool) (j d : Nat) : ∀ (l : List Oper) (k : Nat) (a : Act) (o : Oper), dstsOk a.tmps.size l = true → k ≤ j → l[j - k]? = some o → o.dst = some d → listed j = true →
    (putSel val listed l k a).tmps[d]? = some (val j)
  | [], _, _, _, _, _, h, _, _ => by simp at h
  | o' :: l, k, a, o, hd, hk, ho, hdst, hl => by
    simp only [dstsOk, Bool.and_eq_true] at hd
    by_cases e : j = k
    · subst e
      simp only [Nat.sub_self, List.getElem?_cons_zero, Option.some.injEq] at ho
      subst ho
      have hd1 := hd.1
      rw [hdst] at hd1
      simp only [Bool.and_eq_true, decide_eq_true_eq] at hd1
      simp only [putSel, hl, if_true]
      rw [putSel_other val listed d l (j + 1) _ hd1.2, hdst]
      simp [Act.put, hd1.1]
    · simp only [putSel]
      have : j - k = (j - (k + 1)) + 1 := by omega
      rw [this] at ho
      refine putSel_slot val listed j d l (k + 1) _ o ?_ (by omega) (by simpa using ho) hdst hl
      split
      · rw [put_size]; exact hd.2
      · exact hd.2

/-- Operation i waits for operation j. -/
def waitsFor (ops : Array Oper) (i j : Nat) : Bool := match ops[i]? with | some o => o.after.any fun e => Region.binds .any e && e.on == j | none => false

/-- An operation waits for earlier ones alone. -/
def backward (ops : Array Oper) : Bool := (List.range ops.size).all fun i => match ops[i]? with | some o => o.after.all fun e => !Region.binds .any e || decide (e.on < i) | none => true

/-- Operation k takes operation j's value, or is guarded by it. -/
def takes (ops : Array Oper) (k j : Nat) : Bool := match ops[k]? with | some o => o.after.toList.any fun e => (e.ground == .data || e.ground == .guard) && e.on == j | none => false

/-- Behind operation i somebody may still ask for operation j's value: it is kept to the end, or another operation, which i does not wait for, takes it. -/
def live (ops : Array Oper) (keep : List Nat) (i j : Nat) : Bool := keep.contains j || (List.range ops.size).any fun k => k != i && takes ops k j && !waitsFor ops i k

def open_ (ops : Array Oper) (listed : Array Bool) : Nat := (List.range ops.size).countP fun i => !listed.getD i true

section
variable {P : Program} {ops : Array Oper} {Q : Exit → Act → World → Prop}

theorem ready_nil (hb : backward ops = true) (listed : Array Bool) (hs : listed.size = ops.size) (h : Region.ready .any ops listed = []) : ∀ i, i < ops.size → listed.getD i true = true := by
  intro i
  induction i using Nat.strongRecOn with
  | _ i ih =>
    intro hi
    cases hl : listed.getD i true with
    | true => rfl
    | false =>
      have : i ∈ Region.ready .any ops listed := by
        rw [mem_ready]
        refine ⟨hl, ops[i], by simp [hi], fun e he hbi => ?_⟩
        simp only [backward, List.all_eq_true, List.mem_range] at hb
        have h1 := hb i hi
        rw [Array.getElem?_eq_getElem hi] at h1
        simp only [Array.all_eq_true_iff_forall_mem, Bool.or_eq_true, Bool.not_eq_true', decide_eq_true_eq] at h1
        have h2 : e.on < i := (h1 e he).resolve_left (by rw [hbi]; simp)
        have h3 := ih e.on h2 (by omega)
        have h4 : e.on < listed.size := by omega
        simp only [Array.getD_eq_getD_getElem?, Array.getElem?_eq_getElem h4, Option.getD_some] at h3 ⊢
        exact h3
      rw [h] at this
      cases this

theorem countP_lt {p q : Nat → Bool} {l : List Nat} {x : Nat} (hx : x ∈ l) (h : ∀ y ∈ l, q y = true → p y = true) (hp : p x = true) (hq : q x = false) : l.countP q < l.countP p := by
  induction l with
  | nil => cases hx
  | cons y l ih =>
    simp only [List.countP_cons]
    have hl : l.countP q ≤ l.countP p := List.countP_mono_left fun z hz => h z (by simp [hz])
    rcases List.mem_cons.1 hx with rfl | hx'
    · simp [hp, hq]; omega
    · have := ih hx' fun z hz => h z (by simp [hz])
      have hy := h y (by simp)
      cases hqy : q y with
      | false => split <;> simp_all <;> omega
      | true => simp [hy hqy]; omega

theorem open_set (listed : Array Bool) (i : Nat) (hs : listed.size = ops.size) (hi : i < ops.size) (hl : listed.getD i true = false) : open_ ops (listed.setIfInBounds i true) < open_ ops listed := by
  unfold open_
  refine countP_lt (x := i) (by simpa using hi) (fun y _ h => ?_) (by rw [hl]; rfl) ?_
  · by_cases e : i = y
    · subst e; rw [hl]; rfl
    · rw [getD_set_ne true e] at h; exact h
  · simp [hs, hi]

/-- THE RULE. F i v w: what is known of operation i's value v in the world w. J: what is known of the world. -/
theorem region_each {id : Nat} {a : Act} {w : World} (hm : P.follows .mixedOrders = true) (hd : dstsOk a.tmps.size ops.toList = true) (hb : backward ops = true)
    (keep : List Nat) (F : Nat → Value → World → Prop) (J : World → Prop) (hJ : J { w with drawn := w.drawn + 1 })
    (hstep : ∀ i, i < ops.size → ∀ (o : Oper), ops[i]? = some o → ∀ (a' : Act) (w' : World) (val : Nat → Value), J w' → a'.tmps.size = a.tmps.size → a'.defers = a.defers →
      (∀ t, (ops.toList.all fun o => o.dst != some t) = true → a'.tmps[t]? = a.tmps[t]?) →
      (∀ j d, takes ops i j = true → ((ops[j]?).bind (·.dst)) = some d → a'.tmps[d]? = some (val j) ∧ F j (val j) w') →
      ∀ K : Act → World → Prop, (∀ v w'', F i v w'' → J w'' → (∀ j u, j ≠ i → live ops keep i j = true → F j u w' → F j u w'') → K (a'.put o.dst v) w'') → if Region.wanted o (yielded ops a'.tmps) = true then o.wp P a' w' K Q else K (a'.put o.dst undef) w')
    (hend : ∀ (val : Nat → Value) (w' : World), J w' → (∀ i ∈ keep, i < ops.size → F i (val i) w') → Q .normal (putSel val (fun _ => true) ops.toList 0 a) w') :
    (Code.region id ops true).wp P Q a w := by
  refine wp_region_any hm ?_
  have key : ∀ (fuel : Nat) (listed : Array Bool) (val : Nat → Value) (w' : World), listed.size = ops.size → open_ ops listed ≤ fuel → J w' →
      (∀ i, i < ops.size → listed.getD i false = true → (i ∈ keep ∨ ∃ k, k < ops.size ∧ listed.getD k false = false ∧ takes ops k i = true) → F i (val i) w') → wpAny P .any ops Q fuel listed (putSel val (fun i => listed.getD i false) ops.toList 0 a) w' := by
    intro fuel
    have fin : ∀ (listed : Array Bool) (val : Nat → Value) (w' : World), listed.size = ops.size → J w' → (∀ i, i < ops.size → listed.getD i false = true → (i ∈ keep ∨ ∃ k, k < ops.size ∧ listed.getD k false = false ∧ takes ops k i = true) → F i (val i) w') →
        Region.ready .any ops listed = [] → Q .normal (putSel val (fun i => listed.getD i false) ops.toList 0 a) w' := by
      intro listed val w' hs hJ' hF hr
      have hall := ready_nil hb listed hs hr
      have hall' : ∀ i, i < ops.size → listed.getD i false = true := fun i hi => by
        have := hall i hi
        have h4 : i < listed.size := by omega
        simp only [Array.getD_eq_getD_getElem?, Array.getElem?_eq_getElem h4, Option.getD_some] at this ⊢
        exact this
      rw [putSel_congr val val _ (fun _ => true) ops.toList 0 a fun i _ h2 => ⟨hall' i (by simpa using h2), fun _ => rfl⟩]
      exact hend val w' hJ' fun i hk hi => hF i hi (hall' i hi) (.inl hk)
    induction fuel with
    | zero =>
      intro listed val w' hs ho hJ' hF
      have hr : Region.ready .any ops listed = [] := by
        rw [List.eq_nil_iff_forall_not_mem]
        intro i hi
        obtain ⟨h0, o, ho', _⟩ := mem_ready.1 hi
        have hi' : i < ops.size := (Array.getElem?_eq_some_iff.1 ho').1
        have := open_set listed i hs hi' h0
        omega
      exact ⟨hr, fin listed val w' hs hJ' hF hr⟩
    | succ fuel ih =>
      intro listed val w' hs ho hJ' hF
      refine ⟨fin listed val w' hs hJ' hF, fun i hi => ?_⟩
      obtain ⟨h0, o, ho', hafter⟩ := mem_ready.1 hi
      have hi' : i < ops.size := (Array.getElem?_eq_some_iff.1 ho').1
      have h4 : i < listed.size := by omega
      have hlf : listed.getD i false = false := by
        simp only [Array.getD_eq_getD_getElem?, Array.getElem?_eq_getElem h4, Option.getD_some] at h0 ⊢
        exact h0
      have hol : ops.toList[i - 0]? = some o := by simpa using ho'
      unfold wpOp
      rw [ho']
      simp only
      have st := hstep i hi' o ho' (putSel val (fun i => listed.getD i false) ops.toList 0 a) w' val hJ' ?_ (putSel_defers _ _ _ _ _) (fun t ht => putSel_other _ _ t _ _ _ ht) ?_
        (fun a' w' => wpAny P .any ops Q fuel (listed.setIfInBounds i true) a' w') ?_
      · split
        · rename_i hw; rw [if_pos hw] at st; exact .inl st
        · rename_i hw; rw [if_neg hw] at st; exact st
      · -- the frame's size
        have : ∀ (l : List Oper) (k : Nat) (a : Act), (putSel val (fun i => listed.getD i false) l k a).tmps.size = a.tmps.size := by
          intro l
          induction l with
          | nil => intro _ _; rfl
          | cons o l ih2 => intro k a; simp only [putSel]; rw [ih2]; split; exact put_size _ _ _; rfl
        exact this _ _ _
      · intro j d hw hdj
        have hw0 := hw
        unfold takes at hw
        rw [ho'] at hw
        simp only at hw
        rw [List.any_eq_true] at hw
        obtain ⟨e, he, hw⟩ := hw
        simp only [Bool.and_eq_true, beq_iff_eq] at hw
        obtain ⟨hw1, rfl⟩ := hw
        replace he : e ∈ o.after := by simpa using he
        replace hw1 : Region.binds .any e = true := by unfold Region.binds; cases hge : e.ground <;> simp_all
        have hlj := hafter e he hw1
        cases hoj : ops[e.on]? with
        | none => rw [hoj] at hdj; simp at hdj
        | some oj =>
          rw [hoj] at hdj
          simp only [Option.bind_some] at hdj
          have hej : e.on < ops.size := (Array.getElem?_eq_some_iff.1 hoj).1
          exact ⟨putSel_slot val _ e.on d ops.toList 0 a oj hd (Nat.zero_le _) (by simpa using hoj) hdj hlj, hF e.on hej hlj (.inr ⟨i, hi', hlf, hw0⟩)⟩
      · intro v w'' hFv hJ'' hkeep
        rw [putSel_step a.tmps.size val _ i v ops.toList 0 a o hd (Nat.zero_le _) hol hlf]
        have hsz : (listed.setIfInBounds i true).size = ops.size := by simpa using hs
        have e : putSel (fun j => if j = i then v else val j) (fun j => if j = i then true else listed.getD j false) ops.toList 0 a = putSel (fun j => if j = i then v else val j) (fun j => (listed.setIfInBounds i true).getD j false) ops.toList 0 a :=
          putSel_congr _ _ _ _ _ _ _ fun j _ _ => by
            by_cases ej : j = i
            · subst ej; simp [h4]
            · rw [getD_set_ne false (fun h => ej h.symm)]; simp [ej]
        rw [e]
        refine ih _ _ _ hsz ?_ hJ'' ?_
        · have := open_set listed i hs hi' h0; omega
        · intro j hj hlj huse
          by_cases ej : j = i
          · subst ej; simpa using hFv
          · rw [getD_set_ne false (fun h => ej h.symm)] at hlj
            simp only [if_neg ej]
            rcases huse with hk | ⟨k, hk, hkl, hkt⟩
            · exact hkeep j _ ej (by unfold live; simp [hk]) (hF j hj hlj (.inl hk))
            · have eki : k ≠ i := fun e => by subst e; simp [h4] at hkl
              rw [getD_set_ne false (fun h => eki h.symm)] at hkl
              refine hkeep j _ ej ?_ (hF j hj hlj (.inr ⟨k, hk, hkl, hkt⟩))
              unfold live
              rw [Bool.or_eq_true, List.any_eq_true]
              refine .inr ⟨k, by simpa using hk, ?_⟩
              simp only [Bool.and_eq_true, bne_iff_ne, ne_eq, Bool.not_eq_true']
              refine ⟨⟨eki, hkt⟩, ?_⟩
              cases hwk : waitsFor ops i k with
              | false => rfl
              | true =>
                unfold waitsFor at hwk
                rw [ho'] at hwk
                simp only at hwk
                rw [← Array.any_toList, List.any_eq_true] at hwk
                obtain ⟨e, he, hwk⟩ := hwk
                simp only [Bool.and_eq_true, beq_iff_eq] at hwk
                obtain ⟨hw1, rfl⟩ := hwk
                rw [hafter e (by simpa using he) hw1] at hkl
                cases hkl
  have := key ops.size (Array.replicate ops.size false) (fun _ => undef) { w with drawn := w.drawn + 1 } (by simp) (by unfold open_; exact Nat.le_trans (List.countP_le_length) (by simp)) hJ (fun i hi h _ => by simp [hi] at h)
  rw [putSel_congr _ (fun _ => undef) _ (fun _ => false) ops.toList 0 a (fun i _ h2 => ⟨by simp [Array.getElem?_replicate]; split <;> rfl, fun _ => rfl⟩)] at this
  have e0 : ∀ (l : List Oper) (k : Nat) (a : Act), putSel (fun _ => undef) (fun _ => false) l k a = a := by
    intro l
    induction l with
    | nil => intro _ _; rfl
    | cons o l ih => intro k a; simp only [putSel]; exact ih _ _
  rw [e0] at this
  exact this


/-- A slot holds a value: in the two forms in which the walk may ask for it. -/
def Slot (a : Act) (t : Nat) (v : Value) : Prop := a.tmps[t]? = some v ∧ ∀ h : t < a.tmps.size, a.tmps[t] = v

theorem Slot.mk {a : Act} {t : Nat} {v : Value} (h : a.tmps[t]? = some v) : Slot a t v := ⟨h, fun hl => by rw [Array.getElem?_eq_getElem hl] at h; exact Option.some.inj h⟩

/-- What the frame holds in an operation's operands that no operation of the region writes. -/
def frameFacts (ops : List Oper) (a a' : Act) : List Operand → Prop
  | [] => True
  | .tmp t :: l => ((ops.all fun o => o.dst != some t) = true → ∀ v, a.tmps[t]? = some v → Slot a' t v) ∧ frameFacts ops a a' l
  | _ :: l => frameFacts ops a a' l

/-- What is known of the values that an operation takes from others, and of those that guard it. -/
def depFacts (ops : Array Oper) (F : Nat → Value → World → Prop) (a' : Act) (w' : World) : List Edge → Prop
  | [] => True
  | e :: l => ((e.ground == .data || e.ground == .guard) = true → ∀ d, ((ops[e.on]?).bind (·.dst)) = some d → ∃ u, Slot a' d u ∧ F e.on u w') ∧ depFacts ops F a' w' l

def StepOf (P : Program) (ops : Array Oper) (Q : Exit → Act → World → Prop) (a : Act) (keep : List Nat) (F : Nat → Value → World → Prop) (J : World → Prop) (i : Nat) (o : Oper) : Prop :=
  ∀ (a' : Act) (w' : World), J w' → a'.tmps.size = a.tmps.size → a'.defers = a.defers → frameFacts ops.toList a a' o.op.operands.toList → depFacts ops F a' w' o.after.toList →
    ∀ K : Act → World → Prop, (∀ v w'', F i v w'' → J w'' → (∀ j u, j ≠ i → live ops keep i j = true → F j u w' → F j u w'') → K (a'.put o.dst v) w'') → if Region.wanted o (yielded ops a'.tmps) = true then o.wp P a' w' K Q else K (a'.put o.dst undef) w'

def stepsFrom (P : Program) (ops : Array Oper) (Q : Exit → Act → World → Prop) (a : Act) (keep : List Nat) (F : Nat → Value → World → Prop) (J : World → Prop) : List Oper → Nat → Prop
  | [], _ => True
  | o :: l, k => StepOf P ops Q a keep F J k o ∧ stepsFrom P ops Q a keep F J l (k + 1)

def factsFrom (F : Nat → Value → World → Prop) (val : Nat → Value) (w : World) : List Nat → Prop
  | [] => True
  | k :: l => F k (val k) w ∧ factsFrom F val w l

theorem stepsFrom_get {a : Act} {keep : List Nat} {F : Nat → Value → World → Prop} {J : World → Prop} : ∀ (l : List Oper) (k : Nat), stepsFrom P ops Q a keep F J l k → ∀ i o, l[i]? = some o → StepOf P ops Q a keep F J (k + i) o
  | [], _, _, _, _, h => by simp at h
  | o' :: l, k, h, 0, o, ho => by
    simp only [List.getElem?_cons_zero, Option.some.injEq] at ho
    subst ho
    exact h.1
  | o' :: l, k, h, i + 1, o, ho => by
    have := stepsFrom_get l (k + 1) h.2 i o (by simpa using ho)
    rwa [show k + 1 + i = k + (i + 1) by omega] at this

theorem factsFrom_mk {F : Nat → Value → World → Prop} {val : Nat → Value} {w : World} : ∀ (l : List Nat), (∀ i ∈ l, F i (val i) w) → factsFrom F val w l
  | [], _ => trivial
  | k :: l, h => ⟨h k (by simp), factsFrom_mk l fun i hi => h i (by simp [hi])⟩

/-- THE RULE, the operations' steps as a row of goals. -/
theorem region_steps {id : Nat} {a : Act} {w : World} (hm : P.follows .mixedOrders = true) (hd : dstsOk a.tmps.size ops.toList = true) (hb : backward ops = true)
    (keep : List Nat) (hk : (keep.all fun i => decide (i < ops.size)) = true) (F : Nat → Value → World → Prop) (J : World → Prop) (hJ : J w.drew)
    (hstep : stepsFrom P ops Q a keep F J ops.toList 0)
    (hend : ∀ (val : Nat → Value) (w' : World), J w' → factsFrom F val w' keep → Q .normal (putSel val (fun _ => true) ops.toList 0 a) w') :
    (Code.region id ops true).wp P Q a w := by
  refine region_each hm hd hb keep F J hJ ?_ fun val w' h1 h2 => hend val w' h1 (factsFrom_mk _ fun i hi => h2 i hi (by have := List.all_eq_true.1 hk i hi; simpa using this))
  intro i hi o ho a' w' val hJ' hsz hdf hfr hdep K hK
  have st := stepsFrom_get ops.toList 0 hstep i o (by simpa using ho)
  rw [Nat.zero_add] at st
  refine st a' w' hJ' hsz hdf ?_ ?_ K hK
  · generalize o.op.operands.toList = l
    induction l with
    | nil => trivial
    | cons x l ih =>
      cases x with
      | tmp t => exact ⟨fun h v hv => Slot.mk ((hfr t h).trans hv), ih⟩
      | _ => exact ih
  · have : ∀ l : List Edge, (∀ e ∈ l, e ∈ o.after) → depFacts ops F a' w' l := by
      intro l
      induction l with
      | nil => intro _; trivial
      | cons e l ih =>
        intro hl
        refine ⟨fun hg d hd => ⟨val e.on, Slot.mk (hdep e.on d ?_ hd).1, (hdep e.on d ?_ hd).2⟩, ih fun x hx => hl x (by simp [hx])⟩
        all_goals
          unfold takes
          rw [ho]
          simp only
          rw [List.any_eq_true]
          exact ⟨e, by simpa using hl e (by simp), by rw [hg]; simp⟩
    exact this _ fun e he => by simpa using he

/-- A step that yields a value. -/
theorem step_value {o : Oper} {a' : Act} {w' w'' : World} {K : Act → World → Prop} {v : Value} (hg : o.guard = none) (h : (execOp a'.eval o).run P w' = .ok (.value v) w'') (hk : K (a'.put o.dst v) w'') :
    if Region.wanted o (yielded ops a'.tmps) = true then o.wp P a' w' K Q else K (a'.put o.dst undef) w' := by
  rw [if_pos (by simp [Region.wanted, hg])]
  unfold Oper.wp
  rw [h]
  exact hk

/-- A step by a law. -/
theorem step_law {o : Oper} {a' : Act} {w' : World} {K : Act → World → Prop} (hg : o.guard = none) (h : o.wp P a' w' K Q) :
    if Region.wanted o (yielded ops a'.tmps) = true then o.wp P a' w' K Q else K (a'.put o.dst undef) w' := by
  rw [if_pos (by simp [Region.wanted, hg])]
  exact h

/-- A call of a Go function. -/
theorem step_call {o : Oper} {a' : Act} {w' : World} {K : Act → World → Prop} {f : FuncId} {args : Array Value} (hg : o.guard = none) (h : (execOp a'.eval o).run P w' = .ok (.enter f args) w')
    (hc : Calls P f args w' fun e w'' => ∃ v, e = .returned v ∧ K (a'.put o.dst v) w'') :
    if Region.wanted o (yielded ops a'.tmps) = true then o.wp P a' w' K Q else K (a'.put o.dst undef) w' := by
  rw [if_pos (by simp [Region.wanted, hg])]
  unfold Oper.wp
  rw [h]
  refine Calls.mono hc ?_
  rintro e w'' ⟨v, rfl, hk⟩
  exact hk

theorem ownsRow_ext {w w' : World} {base e size : Nat} {v : Value} {n : Nat} {xs : List Value} (h : w.ownsRow base e size v n xs) (hb : Below w.heap.size w w') : w'.ownsRow base e size v n xs := by
  have hlt := h.lt
  obtain ⟨h1, h2⟩ := h
  refine ⟨h1, ?_⟩
  rcases h2 with h2 | ⟨g, cap, cur, hv, hg, hh, r⟩
  · exact .inl h2
  · subst hv
    exact .inr ⟨g, cap, cur, rfl, hg, (hb.block g (hlt g rfl).2).trans hh, r⟩

theorem ownsRow_mono {w : World} {base base' e size : Nat} {v : Value} {n : Nat} {xs : List Value} (h : w.ownsRow base e size v n xs) (hb : base' ≤ base) : w.ownsRow base' e size v n xs := by
  obtain ⟨h1, h2⟩ := h
  refine ⟨h1, ?_⟩
  rcases h2 with h2 | ⟨g, cap, cur, hv, hg, r⟩
  · exact .inl h2
  · exact .inr ⟨g, cap, cur, hv, by omega, r⟩

theorem below_grown {w w' : World} (h : w.grownBy w' none) : Below w.heap.size w w' := (Below.refl _ _).grown h (Nat.le_refl _) (by intro k hk; cases hk)

theorem heap_ext {w w' : World} {g : Nat} {o : Obj} (h : w.heap[g]? = some o) (hb : Below w.heap.size w w') : w'.heap[g]? = some o :=
  (hb.block g (by obtain ⟨h1, _⟩ := Array.getElem?_eq_some_iff.1 h; exact h1)).trans h

theorem below_alloc (w : World) (o : Obj) : Below w.heap.size w (w.alloc o) := (Below.refl _ _).alloc (Nat.le_refl _) o

/-- 'append(v, l...)': v empty and full (a slice literal of no elements), l the strings of a slice that was there. -/
theorem run_append_strs {w : World} (t ty e : TypeId) (z : Value) (bytes : Nat) (ht : P.underlying t = some (.slice e)) (hinfo : (P.info? e).map (fun i => (i.zero, i.size, i.bytes)) = some (some z, 1, bytes)) (hzs : z.cells.size = 1) (hb : 0 < bytes)
    (g b off len cap : Nat) (ss : List ByteArray) (hS : Strs w (some ⟨b, off, none⟩) len ss) (hlen : 0 < len) (hsz : len * bytes ≤ 140737488355328) :
    ∃ v' w', (Builtin.append_ #[t, t] ty #[.slice (some ⟨g, 0, none⟩) 0 0, .slice (some ⟨b, off, none⟩) len cap]).run P w = .ok v' w' ∧ w'.ownsRow w.heap.size e 1 v' len (ss.map Value.string) ∧ Below w.heap.size w w' := by
  obtain ⟨i0, hi, hz0, hz1, hz2⟩ := info_parts hinfo
  have hl := hS.1
  obtain ⟨b', off', e', _, hc⟩ := hS.2.2 hlen
  simp only [Option.some.injEq, Addr.mk.injEq, and_true] at e'
  obtain ⟨rfl, rfl⟩ := e'
  have hlen' : len ≤ 140737488355328 := Nat.le_trans (Nat.le_mul_of_pos_right _ hb) hsz
  have hnews : ∀ j u, (ss.map Value.string)[j]? = some u → w.cell? ((⟨b, off, none⟩ : Addr).add j) = some u := by
    intro j u hj
    have hj' : j < ss.length := by
      have := (List.getElem?_eq_some_iff.1 hj).1
      simpa using this
    have := hc j (by omega)
    rw [List.getElem?_map, List.getElem?_eq_getElem hj', Option.map_some, Option.some.injEq] at hj
    rw [List.getD_eq_getElem?_getD, List.getElem?_eq_getElem hj', Option.getD_some, hj] at this
    by_cases h0 : j = 0
    · subst h0; simpa [Addr.add] using this
    · simpa [Addr.add, h0] using this
  obtain ⟨v', w', h1, h2, h3⟩ := run_append_arg_grows (P := P) (w := w) t ty e i0 z 1 bytes ht hi hz0 hz1 hz2 hzs (by decide) ⟨g, 0, none⟩ 0 0 [] (by simp) (by intro j u h; simp at h) ⟨b, off, none⟩ len cap (ss.map Value.string) (by simp [hl]) hnews (by omega) (by unfold maxLen; omega) (by rw [Nat.zero_add]; exact hsz)
  rw [Nat.zero_add, List.nil_append] at h2
  exact ⟨v', w', h1, h2, below_grown h3⟩

/-- 'append(v, y)': v the call's own; y lies in a block of its own. -/
theorem run_append_one {w : World} (base t ty e : TypeId) (z : Value) (bytes : Nat) (ht : P.underlying t = some (.slice e)) (hinfo : (P.info? e).map (fun i => (i.zero, i.size, i.bytes)) = some (some z, 1, bytes)) (hzs : z.cells.size = 1) (hb : 0 < bytes)
    (v : Value) (n : Nat) (xs : List Value) (hown : w.ownsRow base e 1 v n xs) (g : Nat) (y : Value) (e' : TypeId) (hg : w.heap[g]? = some (.cells #[y] e' (0, 0))) (hy : y.oneCell' = true) (hsz : (n + 1) * bytes ≤ 140737488355328) (hbase : base ≤ w.heap.size) :
    ∃ v' w', (Builtin.append_ #[t, t] ty #[v, .slice (some ⟨g, 0, none⟩) 1 1]).run P w = .ok v' w' ∧ w'.ownsRow base e 1 v' (n + 1) (xs ++ [y]) ∧ Below base w w' := by
  obtain ⟨i0, hi, hz0, hz1, hz2⟩ := info_parts hinfo
  have hlen' : n + 1 ≤ 140737488355328 := Nat.le_trans (Nat.le_mul_of_pos_right _ hb) hsz
  have hnews : ∀ j u, ([y] : List Value)[j]? = some u → w.cell? ((⟨g, 0, none⟩ : Addr).add j) = some u := by
    intro j u hj
    match j, hj with
    | 0, hj => simp at hj; subst hj; simp [Addr.add, World.cell?, hg]
  obtain ⟨v', w', h1, h2, h3, _⟩ := run_append_own (P := P) w base t ty e i0 z 1 bytes ht hi hz0 hz1 hz2 hzs (by decide) v n xs hown ⟨g, 0, none⟩ 1 1 [y] rfl hnews (by intro u hu; simp at hu; subst hu; exact hy) (by unfold maxLen; omega) hsz hbase
  exact ⟨v', w', h1, h2, (Below.refl base w).grown h3 hbase fun k hk => (hown.lt k hk).1⟩
end
end Nt
