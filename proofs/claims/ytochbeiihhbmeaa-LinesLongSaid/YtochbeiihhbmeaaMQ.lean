/-
  A region that draws its order, proved operation by operation: one fact for each operation's value, which the other operations keep; so the proof is as long as the region, whatever the number of its orders. A region that draws its order, in a round of a range over a function. A range over a function whose iterator keeps its state in a cell that it has captured: the law for the loop. Lines of a source: the plain law. The lines of a source, walked: strings.Lines hands its lines to the loop, one by one. Bld: equations of functions, as the evaluator prints them. A strings.Builder's copyCheck and String, as contracts. Lines: equations of functions, as the evaluator prints them. Lines of a source: both sides as contracts. LinesLaw: equations of functions, as the evaluator prints them. Lines: the three statements.
-/
import Derived.Test.YtochbeiihhbmeaaMC
import Derived.Orders
import Derived.ArgAppend
import Derived.OrdersIn
import Derived.TacticsIn
import Derived.RangeFuncBox
import Derived.RangeFuncFrom
import Derived.Test.YtochbeiihhbmeaaMBB
import Derived.Lib.Strings
import Derived.Lib.Bytealg
import Derived.Test.YtochbeiihhbmeaaMS
import Derived.RangeFuncNested
import Derived.RangeFuncBound
import Derived.RangeFuncCalls
import Derived.RangeFuncLeaves
import Derived.Shelf.Abstract
import Derived.Shelf.RegionOpen
import Derived.WalkKit
import Derived.OwnWalkIn
import Derived.TacticsInMore
import Derived.LoopNIn
import Derived.LoopIn
import Derived.Maps.AppendAt
import Derived.RegionIn
import Derived.IntWalk
import Derived.Test.YtochbeiihhbmeaaMP
import Derived.Laws.RangeAny
set_option linter.unusedVariables false
set_option linter.unusedSimpArgs false
namespace Nt
open Go Go.RowKit
def putSel (val : Nat → Value) (listed : Nat → Bool) : List Oper → Nat → Act → Act
  | [], _, a => a
  | o :: l, k, a => putSel val listed l (k + 1) (if listed k = true then a.put o.dst (val k) else a)
def dstsOk (n : Nat) : List Oper → Bool
  | [] => true
  | o :: l => (match o.dst with | some d => decide (d < n) && l.all fun o' => o'.dst != some d | none => true) && dstsOk n l
theorem put_size (a : Act) (d : Option Tmp) (v : Value) : (a.put d v).tmps.size = a.tmps.size := by cases d <;> simp [Act.put]
theorem putSel_put (val : Nat → Value) (listed : Nat → Bool) (d : Tmp) (v : Value) : ∀ (l : List Oper) (k : Nat) (a : Act), (l.all fun o' => o'.dst != some d) = true →
    (putSel val listed l k a).put (some d) v = putSel val listed l k (a.put (some d) v)
  | [], _, _, _ => rfl
  | o :: l, k, a, h => by
    simp only [List.all_cons, Bool.and_eq_true, bne_iff_ne, ne_eq] at h
    simp only [putSel]
    rw [putSel_put val listed d v l (k + 1) _ (by simpa using h.2)]
    congr 1
    split
    · exact Act.put_comm a _ _ (fun x hx e => h.1 (by rw [hx, e]))
    · rfl
theorem putSel_congr (val val' : Nat → Value) (listed listed' : Nat → Bool) : ∀ (l : List Oper) (k : Nat) (a : Act), (∀ i, k ≤ i → i < k + l.length → listed i = listed' i ∧ (listed i = true → val i = val' i)) → putSel val listed l k a = putSel val' listed' l k a
  | [], _, _, _ => rfl
  | o :: l, k, a, h => by
    have h0 := h k (Nat.le_refl _) (by simp)
    simp only [putSel]
    rw [← h0.1]
    by_cases hl : listed k = true
    · rw [if_pos hl, if_pos hl, h0.2 hl]
      exact putSel_congr val val' listed listed' l (k + 1) _ fun i h1 h2 => h i (by omega) (by simp; omega)
    · rw [if_neg hl, if_neg hl]
      exact putSel_congr val val' listed listed' l (k + 1) _ fun i h1 h2 => h i (by omega) (by simp; omega)
theorem putSel_step (n : Nat) (val : Nat → Value) (listed : Nat → Bool) (i : Nat) (v : Value) : ∀ (l : List Oper) (k : Nat) (a : Act) (o : Oper), dstsOk n l = true → k ≤ i → l[i - k]? = some o → listed i = false →
    (putSel val listed l k a).put o.dst v = putSel (fun j => if j = i then v else val j) (fun j => if j = i then true else listed j) l k a
  | [], _, _, _, _, _, h, _ => by simp at h
  | o' :: l, k, a, o, hd, hk, ho, hl => by
    simp only [dstsOk, Bool.and_eq_true] at hd
    by_cases e : i = k
    · subst e
      simp only [Nat.sub_self, List.getElem?_cons_zero, Option.some.injEq] at ho
      subst ho
      have hd1 := hd.1
      cases hdst : o'.dst with
      | none =>
        simp only [putSel, hl, if_pos, Bool.false_eq_true, if_false, hdst]
        exact putSel_congr _ _ _ _ l (i + 1) _ fun j h1 h2 => by
          have : j ≠ i := by omega
          simp [this]
      | some d =>
        rw [hdst] at hd1
        simp only [Bool.and_eq_true, decide_eq_true_eq] at hd1
        simp only [putSel, hl, if_pos, Bool.false_eq_true, if_false]
        rw [putSel_put val listed d v l (i + 1) a hd1.2, hdst]
        exact putSel_congr _ _ _ _ l (i + 1) _ fun j h1 h2 => by
          have : j ≠ i := by omega
          simp [this]
    · simp only [putSel]
      have e2 : ¬ k = i := fun h => e h.symm
      simp only [if_neg e2]
      refine putSel_step n val listed i v l (k + 1) _ o hd.2 (by omega) ?_ hl
      have : i - k = (i - (k + 1)) + 1 := by omega
      rw [this] at ho
      simpa using ho
theorem putSel_defers (val : Nat → Value) (listed : Nat → Bool) : ∀ (l : List Oper) (k : Nat) (a : Act), (putSel val listed l k a).defers = a.defers
  | [], _, _ => rfl
  | o :: l, k, a => by
    simp only [putSel]
    rw [putSel_defers val listed l (k + 1)]
    split
    · cases o.dst <;> rfl
    · rfl
theorem putSel_other (val : Nat → Value) (listed : Nat → Bool) (t : Nat) : ∀ (l : List Oper) (k : Nat) (a : Act), (l.all fun o => o.dst != some t) = true → (putSel val listed l k a).tmps[t]? = a.tmps[t]?
  | [], _, _, _ => rfl
  | o :: l, k, a, h => by
    simp only [List.all_cons, Bool.and_eq_true, bne_iff_ne, ne_eq] at h
    simp only [putSel]
    rw [putSel_other val listed t l (k + 1) _ (by simpa using h.2)]
    split
    · cases hd : o.dst with
      | none => rfl
      | some d =>
        have : d ≠ t := fun e => h.1 (by rw [hd, e])
        simp [Act.put, Array.getElem?_setIfInBounds_ne this]
    · rfl
theorem putSel_slot (val : Nat → Value) (listed : Nat → Bool) (j d : Nat) : ∀ (l : List Oper) (k : Nat) (a : Act) (o : Oper), dstsOk a.tmps.size l = true → k ≤ j → l[j - k]? = some o → o.dst = some d → listed j = true →
    (putSel val listed l k a).tmps[d]? = some (val j)
  | [], _, _, _, _, _, h, _, _ => by simp at h
  | o' :: l, k, a, o, hd, hk, ho, hdst, hl => by
    simp only [dstsOk, Bool.and_eq_true] at hd
    by_cases e : j = k
    · subst e
      simp only [Nat.sub_self, List.getElem?_cons_zero, Option.some.injEq] at ho
      subst ho
      have hd1 := hd.1
      rw [hdst] at hd1
      simp only [Bool.and_eq_true, decide_eq_true_eq] at hd1
      simp only [putSel, hl, if_true]
      rw [putSel_other val listed d l (j + 1) _ hd1.2, hdst]
      simp [Act.put, hd1.1]
    · simp only [putSel]
      have : j - k = (j - (k + 1)) + 1 := by omega
      rw [this] at ho
      refine putSel_slot val listed j d l (k + 1) _ o ?_ (by omega) (by simpa using ho) hdst hl
      split
      · rw [put_size]; exact hd.2
      · exact hd.2
def waitsFor (ops : Array Oper) (i j : Nat) : Bool := match ops[i]? with | some o => o.after.any fun e => Region.binds .any e && e.on == j | none => false
def backward (ops : Array Oper) : Bool := (List.range ops.size).all fun i => match ops[i]? with | some o => o.after.all fun e => !Region.binds .any e || decide (e.on < i) | none => true
def takes (ops : Array Oper) (k j : Nat) : Bool := match ops[k]? with | some o => o.after.toList.any fun e => (e.ground == .data || e.ground == .guard) && e.on == j | none => false
def live (ops : Array Oper) (keep : List Nat) (i j : Nat) : Bool := keep.contains j || (List.range ops.size).any fun k => k != i && takes ops k j && !waitsFor ops i k
def open_ (ops : Array Oper) (listed : Array Bool) : Nat := (List.range ops.size).countP fun i => !listed.getD i true
section
variable {P : Program} {ops : Array Oper} {Q : Exit → Act → World → Prop}
theorem ready_nil (hb : backward ops = true) (listed : Array Bool) (hs : listed.size = ops.size) (h : Region.ready .any ops listed = []) : ∀ i, i < ops.size → listed.getD i true = true := by
  intro i
  induction i using Nat.strongRecOn with
  | _ i ih =>
    intro hi
    cases hl : listed.getD i true with
    | true => rfl
    | false =>
      have : i ∈ Region.ready .any ops listed := by
        rw [mem_ready]
        refine ⟨hl, ops[i], by simp [hi], fun e he hbi => ?_⟩
        simp only [backward, List.all_eq_true, List.mem_range] at hb
        have h1 := hb i hi
        rw [Array.getElem?_eq_getElem hi] at h1
        simp only [Array.all_eq_true_iff_forall_mem, Bool.or_eq_true, Bool.not_eq_true', decide_eq_true_eq] at h1
        have h2 : e.on < i := (h1 e he).resolve_left (by rw [hbi]; simp)
        have h3 := ih e.on h2 (by omega)
        have h4 : e.on < listed.size := by omega
        simp only [Array.getD_eq_getD_getElem?, Array.getElem?_eq_getElem h4, Option.getD_some] at h3 ⊢
        exact h3
      rw [h] at this
      cases this
theorem countP_lt {p q : Nat → Bool} {l : List Nat} {x : Nat} (hx : x ∈ l) (h : ∀ y ∈ l, q y = true → p y = true) (hp : p x = true) (hq : q x = false) : l.countP q < l.countP p := by
  induction l with
  | nil => cases hx
  | cons y l ih =>
    simp only [List.countP_cons]
    have hl : l.countP q ≤ l.countP p := List.countP_mono_left fun z hz => h z (by simp [hz])
    rcases List.mem_cons.1 hx with rfl | hx'
    · simp [hp, hq]; omega
    · have := ih hx' fun z hz => h z (by simp [hz])
      have hy := h y (by simp)
      cases hqy : q y with
      | false => split <;> simp_all <;> omega
      | true => simp [hy hqy]; omega
theorem open_set (listed : Array Bool) (i : Nat) (hs : listed.size = ops.size) (hi : i < ops.size) (hl : listed.getD i true = false) : open_ ops (listed.setIfInBounds i true) < open_ ops listed := by
  unfold open_
  refine countP_lt (x := i) (by simpa using hi) (fun y _ h => ?_) (by rw [hl]; rfl) ?_
  · by_cases e : i = y
    · subst e; rw [hl]; rfl
    · rw [getD_set_ne true e] at h; exact h
  · simp [hs, hi]
def Slot (a : Act) (t : Nat) (v : Value) : Prop := a.tmps[t]? = some v ∧ ∀ h : t < a.tmps.size, a.tmps[t] = v
theorem Slot.mk {a : Act} {t : Nat} {v : Value} (h : a.tmps[t]? = some v) : Slot a t v := ⟨h, fun hl => by rw [Array.getElem?_eq_getElem hl] at h; exact Option.some.inj h⟩
def frameFacts (ops : List Oper) (a a' : Act) : List Operand → Prop
  | [] => True
  | .tmp t :: l => ((ops.all fun o => o.dst != some t) = true → ∀ v, a.tmps[t]? = some v → Slot a' t v) ∧ frameFacts ops a a' l
  | _ :: l => frameFacts ops a a' l
def depFacts (ops : Array Oper) (F : Nat → Value → World → Prop) (a' : Act) (w' : World) : List Edge → Prop
  | [] => True
  | e :: l => ((e.ground == .data || e.ground == .guard) = true → ∀ d, ((ops[e.on]?).bind (·.dst)) = some d → ∃ u, Slot a' d u ∧ F e.on u w') ∧ depFacts ops F a' w' l
def factsFrom (F : Nat → Value → World → Prop) (val : Nat → Value) (w : World) : List Nat → Prop
  | [] => True
  | k :: l => F k (val k) w ∧ factsFrom F val w l
theorem factsFrom_mk {F : Nat → Value → World → Prop} {val : Nat → Value} {w : World} : ∀ (l : List Nat), (∀ i ∈ l, F i (val i) w) → factsFrom F val w l
  | [], _ => trivial
  | k :: l, h => ⟨h k (by simp), factsFrom_mk l fun i hi => h i (by simp [hi])⟩
theorem step_value {o : Oper} {a' : Act} {w' w'' : World} {K : Act → World → Prop} {v : Value} (hg : o.guard = none) (h : (execOp a'.eval o).run P w' = .ok (.value v) w'') (hk : K (a'.put o.dst v) w'') :
    if Region.wanted o (yielded ops a'.tmps) = true then o.wp P a' w' K Q else K (a'.put o.dst undef) w' := by
  rw [if_pos (by simp [Region.wanted, hg])]
  unfold Oper.wp
  rw [h]
  exact hk
theorem step_call {o : Oper} {a' : Act} {w' : World} {K : Act → World → Prop} {f : FuncId} {args : Array Value} (hg : o.guard = none) (h : (execOp a'.eval o).run P w' = .ok (.enter f args) w')
    (hc : Calls P f args w' fun e w'' => ∃ v, e = .returned v ∧ K (a'.put o.dst v) w'') :
    if Region.wanted o (yielded ops a'.tmps) = true then o.wp P a' w' K Q else K (a'.put o.dst undef) w' := by
  rw [if_pos (by simp [Region.wanted, hg])]
  unfold Oper.wp
  rw [h]
  refine Calls.mono hc ?_
  rintro e w'' ⟨v, rfl, hk⟩
  exact hk
theorem ownsRow_mono {w : World} {base base' e size : Nat} {v : Value} {n : Nat} {xs : List Value} (h : w.ownsRow base e size v n xs) (hb : base' ≤ base) : w.ownsRow base' e size v n xs := by
  obtain ⟨h1, h2⟩ := h
  refine ⟨h1, ?_⟩
  rcases h2 with h2 | ⟨g, cap, cur, hv, hg, r⟩
  · exact .inl h2
  · exact .inr ⟨g, cap, cur, hv, by omega, r⟩
theorem heap_ext {w w' : World} {g : Nat} {o : Obj} (h : w.heap[g]? = some o) (hb : Below w.heap.size w w') : w'.heap[g]? = some o :=
  (hb.block g (by obtain ⟨h1, _⟩ := Array.getElem?_eq_some_iff.1 h; exact h1)).trans h
theorem below_alloc (w : World) (o : Obj) : Below w.heap.size w (w.alloc o) := (Below.refl _ _).alloc (Nat.le_refl _) o
end
end Nt

set_option linter.unusedVariables false
set_option linter.unusedSimpArgs false
namespace Nt
open Go Go.RowKit
section
variable {P : Program} {ops : Array Oper} {Q : Exit → Act → World → Prop} {l n : Nat}
theorem calls_in {m : Nat} {f : FuncId} {args : Array Value} {w : World} {R : Ending → World → Prop} (h : Calls P f args w R) : CallsIn (Fence.wide.inRound l) m P f args w R := (callsIn_wide (n := m)).2 h
theorem oper_in {o : Oper} {a : Act} {w : World} {K : Act → World → Prop} (hd : ∀ c, o.op ≠ .defer c) (h : o.wp P a w K Q) : o.wpIn (Fence.wide.inRound l) n P a w K Q := by
  unfold Oper.wpIn
  refine ⟨fun _ _ => trivial, ?_⟩
  rw [show (Fence.wide.inRound l).round = some l from rfl, Oper.semAt_some l _ o hd]
  unfold Oper.wp at h
  generalize (execOp a.eval o).run P w = r at *
  cases r with
  | ok x w' =>
    cases x with
    | value v => exact h
    | skip => exact h
    | defer d => exact h
    | enter f args => exact ⟨(fun h => by cases h), calls_in h⟩
    | row r args => exact ⟨(fun h => by cases h), fun c cs _ => by
        obtain ⟨v, w', r, s⟩ := h c cs
        exact ⟨v, w', r, stepsIn_wide.2 s⟩⟩
    | _ => exact h.elim
  | halt x w' => cases x <;> exact h
def noDefer (ops : Array Oper) : Bool := ops.all fun o => match o.op with | .defer _ => false | _ => true
theorem noDefer_spec (h : noDefer ops = true) (i : Nat) (o : Oper) (ho : ops[i]? = some o) : ∀ c, o.op ≠ .defer c := by
  intro c hc
  have := (Array.all_eq_true_iff_forall_mem.1 h) o (Array.mem_of_getElem? ho)
  rw [hc] at this
  cases this
theorem region_each_in {id : Nat} {a : Act} {w : World} (hm : P.follows .mixedOrders = true) (hd : dstsOk a.tmps.size ops.toList = true) (hb : backward ops = true) (hnd : ∀ (i : Nat) (o : Oper), ops[i]? = some o → ∀ c, o.op ≠ .defer c)
    (keep : List Nat) (F : Nat → Value → World → Prop) (G : Nat → World → Prop) (J : World → Prop) (hJ : J { w with drawn := w.drawn + 1 }) (hG0 : ∀ i, G i { w with drawn := w.drawn + 1 })
    (hstep : ∀ i, i < ops.size → ∀ (o : Oper), ops[i]? = some o → ∀ (a' : Act) (w' : World) (val : Nat → Value), J w' → G i w' → a'.tmps.size = a.tmps.size → a'.defers = a.defers →
      (∀ t, (ops.toList.all fun o => o.dst != some t) = true → a'.tmps[t]? = a.tmps[t]?) →
      (∀ j d, takes ops i j = true → ((ops[j]?).bind (·.dst)) = some d → a'.tmps[d]? = some (val j) ∧ F j (val j) w') →
      ∀ K : Act → World → Prop, (∀ v w'', F i v w'' → J w'' → (∀ j u, j ≠ i → live ops keep i j = true → F j u w' → F j u w'') → (∀ j, j ≠ i → waitsFor ops i j = false → G j w' → G j w'') → K (a'.put o.dst v) w'') → if Region.wanted o (yielded ops a'.tmps) = true then o.wp P a' w' K Q else K (a'.put o.dst undef) w')
    (hend : ∀ (val : Nat → Value) (w' : World), J w' → (∀ i ∈ keep, i < ops.size → F i (val i) w') → Q .normal (putSel val (fun _ => true) ops.toList 0 a) w') :
    (Code.region id ops true).wpIn (Fence.wide.inRound l) n P Q a w := by
  refine wpIn_region_any hm ?_
  have key : ∀ (fuel : Nat) (listed : Array Bool) (val : Nat → Value) (w' : World), listed.size = ops.size → open_ ops listed ≤ fuel → J w' → (∀ i, i < ops.size → listed.getD i false = false → G i w') →
      (∀ i, i < ops.size → listed.getD i false = true → (i ∈ keep ∨ ∃ k, k < ops.size ∧ listed.getD k false = false ∧ takes ops k i = true) → F i (val i) w') → wpAnyIn (Fence.wide.inRound l) n P .any ops Q fuel listed (putSel val (fun i => listed.getD i false) ops.toList 0 a) w' := by
    intro fuel
    have fin : ∀ (listed : Array Bool) (val : Nat → Value) (w' : World), listed.size = ops.size → J w' → (∀ i, i < ops.size → listed.getD i false = true → (i ∈ keep ∨ ∃ k, k < ops.size ∧ listed.getD k false = false ∧ takes ops k i = true) → F i (val i) w') →
        Region.ready .any ops listed = [] → Q .normal (putSel val (fun i => listed.getD i false) ops.toList 0 a) w' := by
      intro listed val w' hs hJ' hF hr
      have hall := ready_nil hb listed hs hr
      have hall' : ∀ i, i < ops.size → listed.getD i false = true := fun i hi => by
        have := hall i hi
        have h4 : i < listed.size := by omega
        simp only [Array.getD_eq_getD_getElem?, Array.getElem?_eq_getElem h4, Option.getD_some] at this ⊢
        exact this
      rw [putSel_congr val val _ (fun _ => true) ops.toList 0 a fun i _ h2 => ⟨hall' i (by simpa using h2), fun _ => rfl⟩]
      exact hend val w' hJ' fun i hk hi => hF i hi (hall' i hi) (.inl hk)
    induction fuel with
    | zero =>
      intro listed val w' hs ho hJ' hG hF
      have hr : Region.ready .any ops listed = [] := by
        rw [List.eq_nil_iff_forall_not_mem]
        intro i hi
        obtain ⟨h0, o, ho', _⟩ := mem_ready.1 hi
        have hi' : i < ops.size := (Array.getElem?_eq_some_iff.1 ho').1
        have := open_set listed i hs hi' h0
        omega
      exact ⟨hr, fin listed val w' hs hJ' hF hr⟩
    | succ fuel ih =>
      intro listed val w' hs ho hJ' hG hF
      refine ⟨fin listed val w' hs hJ' hF, fun i hi => ?_⟩
      obtain ⟨h0, o, ho', hafter⟩ := mem_ready.1 hi
      have hi' : i < ops.size := (Array.getElem?_eq_some_iff.1 ho').1
      have h4 : i < listed.size := by omega
      have hlf : listed.getD i false = false := by
        simp only [Array.getD_eq_getD_getElem?, Array.getElem?_eq_getElem h4, Option.getD_some] at h0 ⊢
        exact h0
      have hol : ops.toList[i - 0]? = some o := by simpa using ho'
      unfold wpOpIn
      rw [ho']
      simp only
      have st := hstep i hi' o ho' (putSel val (fun i => listed.getD i false) ops.toList 0 a) w' val hJ' (hG i hi' hlf) ?_ (putSel_defers _ _ _ _ _) (fun t ht => putSel_other _ _ t _ _ _ ht) ?_
        (fun a' w' => wpAnyIn (Fence.wide.inRound l) n P .any ops Q fuel (listed.setIfInBounds i true) a' w') ?_
      · split
        · rename_i hw; rw [if_pos hw] at st; exact oper_in (hnd i o ho') st
        · rename_i hw; rw [if_neg hw] at st; exact ⟨fun _ _ => trivial, st⟩
      · -- the frame's size
        have : ∀ (l : List Oper) (k : Nat) (a : Act), (putSel val (fun i => listed.getD i false) l k a).tmps.size = a.tmps.size := by
          intro l
          induction l with
          | nil => intro _ _; rfl
          | cons o l ih2 => intro k a; simp only [putSel]; rw [ih2]; split; exact put_size _ _ _; rfl
        exact this _ _ _
      · intro j d hw hdj
        have hw0 := hw
        unfold takes at hw
        rw [ho'] at hw
        simp only at hw
        rw [List.any_eq_true] at hw
        obtain ⟨e, he, hw⟩ := hw
        simp only [Bool.and_eq_true, beq_iff_eq] at hw
        obtain ⟨hw1, rfl⟩ := hw
        replace he : e ∈ o.after := by simpa using he
        replace hw1 : Region.binds .any e = true := by unfold Region.binds; cases hge : e.ground <;> simp_all
        have hlj := hafter e he hw1
        cases hoj : ops[e.on]? with
        | none => rw [hoj] at hdj; simp at hdj
        | some oj =>
          rw [hoj] at hdj
          simp only [Option.bind_some] at hdj
          have hej : e.on < ops.size := (Array.getElem?_eq_some_iff.1 hoj).1
          exact ⟨putSel_slot val _ e.on d ops.toList 0 a oj hd (Nat.zero_le _) (by simpa using hoj) hdj hlj, hF e.on hej hlj (.inr ⟨i, hi', hlf, hw0⟩)⟩
      · intro v w'' hFv hJ'' hkeep hkeepG
        rw [putSel_step a.tmps.size val _ i v ops.toList 0 a o hd (Nat.zero_le _) hol hlf]
        have hsz : (listed.setIfInBounds i true).size = ops.size := by simpa using hs
        have e : putSel (fun j => if j = i then v else val j) (fun j => if j = i then true else listed.getD j false) ops.toList 0 a = putSel (fun j => if j = i then v else val j) (fun j => (listed.setIfInBounds i true).getD j false) ops.toList 0 a :=
          putSel_congr _ _ _ _ _ _ _ fun j _ _ => by
            by_cases ej : j = i
            · subst ej; simp [h4]
            · rw [getD_set_ne false (fun h => ej h.symm)]; simp [ej]
        rw [e]
        refine ih _ _ _ hsz ?_ hJ'' ?_ ?_
        · have := open_set listed i hs hi' h0; omega
        · intro j hj hlj
          have ej : j ≠ i := fun e => by subst e; simp [h4] at hlj
          rw [getD_set_ne false (fun h => ej h.symm)] at hlj
          refine hkeepG j ej ?_ (hG j hj hlj)
          cases hwk : waitsFor ops i j with
          | false => rfl
          | true =>
            unfold waitsFor at hwk
            rw [ho'] at hwk
            simp only at hwk
            rw [← Array.any_toList, List.any_eq_true] at hwk
            obtain ⟨e, he, hwk⟩ := hwk
            simp only [Bool.and_eq_true, beq_iff_eq] at hwk
            obtain ⟨hw1, rfl⟩ := hwk
            rw [hafter e (by simpa using he) hw1] at hlj
            cases hlj
        · intro j hj hlj huse
          by_cases ej : j = i
          · subst ej; simpa using hFv
          · rw [getD_set_ne false (fun h => ej h.symm)] at hlj
            simp only [if_neg ej]
            rcases huse with hk | ⟨k, hk, hkl, hkt⟩
            · exact hkeep j _ ej (by unfold live; simp [hk]) (hF j hj hlj (.inl hk))
            · have eki : k ≠ i := fun e => by subst e; simp [h4] at hkl
              rw [getD_set_ne false (fun h => eki h.symm)] at hkl
              refine hkeep j _ ej ?_ (hF j hj hlj (.inr ⟨k, hk, hkl, hkt⟩))
              unfold live
              rw [Bool.or_eq_true, List.any_eq_true]
              refine .inr ⟨k, by simpa using hk, ?_⟩
              simp only [Bool.and_eq_true, bne_iff_ne, ne_eq, Bool.not_eq_true']
              refine ⟨⟨eki, hkt⟩, ?_⟩
              cases hwk : waitsFor ops i k with
              | false => rfl
              | true =>
                unfold waitsFor at hwk
                rw [ho'] at hwk
                simp only at hwk
                rw [← Array.any_toList, List.any_eq_true] at hwk
                obtain ⟨e, he, hwk⟩ := hwk
                simp only [Bool.and_eq_true, beq_iff_eq] at hwk
                obtain ⟨hw1, rfl⟩ := hwk
                rw [hafter e (by simpa using he) hw1] at hkl
                cases hkl
  have := key ops.size (Array.replicate ops.size false) (fun _ => undef) { w with drawn := w.drawn + 1 } (by simp) (by unfold open_; exact Nat.le_trans (List.countP_le_length) (by simp)) hJ (fun i _ _ => hG0 i) (fun i hi h _ => by simp [hi] at h)
  rw [putSel_congr _ (fun _ => undef) _ (fun _ => false) ops.toList 0 a (fun i _ h2 => ⟨by simp [Array.getElem?_replicate]; split <;> rfl, fun _ => rfl⟩)] at this
  have e0 : ∀ (l : List Oper) (k : Nat) (a : Act), putSel (fun _ => undef) (fun _ => false) l k a = a := by
    intro l
    induction l with
    | nil => intro _ _; rfl
    | cons o l ih => intro k a; simp only [putSel]; exact ih _ _
  rw [e0] at this
  exact this
def StepIn (P : Program) (ops : Array Oper) (Q : Exit → Act → World → Prop) (a : Act) (keep : List Nat) (F : Nat → Value → World → Prop) (G : Nat → World → Prop) (J : World → Prop) (i : Nat) (o : Oper) : Prop :=
  ∀ (a' : Act) (w' : World), J w' → G i w' → a'.tmps.size = a.tmps.size → a'.defers = a.defers → frameFacts ops.toList a a' o.op.operands.toList → depFacts ops F a' w' o.after.toList →
    ∀ K : Act → World → Prop, (∀ v w'', F i v w'' → J w'' → (∀ j u, j ≠ i → live ops keep i j = true → F j u w' → F j u w'') → (∀ j, j ≠ i → waitsFor ops i j = false → G j w' → G j w'') → K (a'.put o.dst v) w'') →
      if Region.wanted o (yielded ops a'.tmps) = true then o.wp P a' w' K Q else K (a'.put o.dst undef) w'
def stepsIn (P : Program) (ops : Array Oper) (Q : Exit → Act → World → Prop) (a : Act) (keep : List Nat) (F : Nat → Value → World → Prop) (G : Nat → World → Prop) (J : World → Prop) : List Oper → Nat → Prop
  | [], _ => True
  | o :: l, k => StepIn P ops Q a keep F G J k o ∧ stepsIn P ops Q a keep F G J l (k + 1)
theorem stepsIn_get {a : Act} {keep : List Nat} {F : Nat → Value → World → Prop} {G : Nat → World → Prop} {J : World → Prop} : ∀ (l : List Oper) (k : Nat), stepsIn P ops Q a keep F G J l k → ∀ i o, l[i]? = some o → StepIn P ops Q a keep F G J (k + i) o
  | [], _, _, _, _, h => by simp at h
  | o' :: l, k, h, 0, o, ho => by
    simp only [List.getElem?_cons_zero, Option.some.injEq] at ho
    subst ho
    exact h.1
  | o' :: l, k, h, i + 1, o, ho => by
    have := stepsIn_get l (k + 1) h.2 i o (by simpa using ho)
    rwa [show k + 1 + i = k + (i + 1) by omega] at this
theorem region_steps_in {id : Nat} {a : Act} {w : World} (hm : P.follows .mixedOrders = true) (hd : dstsOk a.tmps.size ops.toList = true) (hb : backward ops = true) (hnd : noDefer ops = true)
    (keep : List Nat) (hk : (keep.all fun i => decide (i < ops.size)) = true) (F : Nat → Value → World → Prop) (G : Nat → World → Prop) (J : World → Prop) (hJ : J w.drew) (hG : ∀ i, G i w.drew)
    (hstep : stepsIn P ops Q a keep F G J ops.toList 0)
    (hend : ∀ (val : Nat → Value) (w' : World), J w' → factsFrom F val w' keep → Q .normal (putSel val (fun _ => true) ops.toList 0 a) w') :
    (Code.region id ops true).wpIn (Fence.wide.inRound l) n P Q a w := by
  refine region_each_in hm hd hb (noDefer_spec hnd) keep F G J hJ hG ?_ fun val w' h1 h2 => hend val w' h1 (factsFrom_mk _ fun i hi => h2 i hi (by have := List.all_eq_true.1 hk i hi; simpa using this))
  intro i hi o ho a' w' val hJ' hGi hsz hdf hfr hdep K hK
  have st := stepsIn_get ops.toList 0 hstep i o (by simpa using ho)
  rw [Nat.zero_add] at st
  refine st a' w' hJ' hGi hsz hdf ?_ ?_ K hK
  · generalize o.op.operands.toList = l'
    induction l' with
    | nil => trivial
    | cons x l'' ih =>
      cases x with
      | tmp t => exact ⟨fun h v hv => Slot.mk ((hfr t h).trans hv), ih⟩
      | _ => exact ih
  · have : ∀ l' : List Edge, (∀ e ∈ l', e ∈ o.after) → depFacts ops F a' w' l' := by
      intro l'
      induction l' with
      | nil => intro _; trivial
      | cons e l'' ih =>
        intro hl
        refine ⟨fun hg d hd => ⟨val e.on, Slot.mk (hdep e.on d ?_ hd).1, (hdep e.on d ?_ hd).2⟩, ih fun x hx => hl x (by simp [hx])⟩
        all_goals
          unfold takes
          rw [ho]
          simp only
          rw [List.any_eq_true]
          exact ⟨e, by simpa using hl e (by simp), by rw [hg]; simp⟩
    exact this _ fun e he => by simpa using he
end
end Nt

set_option linter.unusedVariables false
namespace Nt
open Go Go.RowKit
variable {F : Fence} {n : Nat} {P : Program}
def SeqStopsS (Bs : Nat) {α : Type} (Ok : α → Prop) (F : Fence) (n : Nat) (P : Program) (g : Nat) (lb : Array Value) (encs : α → Array Value) (Kp : World → World → Prop) (S Sp : List α → Prop) (N : Nat) (w : World) : Prop :=
  ∀ (l : Nat) (J Jx : List α → World → Prop) (W : World), Below w.heap.size w W → AbidesFrom W.heap.size J → AbidesFrom W.heap.size Jx → (∀ s W1 v, J s W1 → J s (W1.setCell ⟨Bs, 0, none⟩ v)) →
    (∀ pre x W1, J pre W1 → pre.length < N → Ok x → YieldAt F (n - 1) P l (encs x) W1 fun e W' =>
      (e = .returned (.bool true) ∧ J (pre ++ [x]) W' ∧ Kp W1 W') ∨ (e = .returned (.bool false) ∧ Jx (pre ++ [x]) W')) →
    J [] W →
    CallsIn F n P g (#[.func (.yield l) #[] #[]] ++ lb) W fun e W' => (∃ v, e = .returned v) ∧ ((∃ xs, S xs ∧ J xs W') ∨ (∃ pre, Sp pre ∧ Jx pre W'))
theorem wpIn_range_store {α : Type} {g : Operand} {ps : Array Tmp} {assign body : Code} {Q : Exit → Act → World → Prop} {a : Act} {w : World}
    (hro : F.round = none) (h1 : 1 ≤ n) {gf Bs : Nat} {Ok : α → Prop} {lb : Array Value} (hg : a.eval g = .func (.func gf) #[] lb) (hFg : F.fn gf) (eg : ∀ args w, (callFunc gf args).run P w = .ok (.enter gf args) w)
    {encs : α → Array Value} {Kp : World → World → Prop} {S Sp : List α → Prop} {N : Nat} {w0 : World} (hseq : SeqStopsS Bs Ok F (n - 1) P gf lb encs Kp S Sp N w0)
    (hKt : ∀ {A B C : World}, Kp A B → Kp B C → Kp A C) (hKb : ∀ (W : World) (l : Nat) (o o' : Obj), w.heap.size ≤ l → W.heap[l]? = some o → o.isCells = false → o.isWalk = false → Kp W (W.putObj l o')) (hb0 : Below w0.heap.size w0 w) (hps : ∀ x, (encs x).size = ps.size)
    (hBs : Bs < w.heap.size) (I : List α → World → Prop) (Ix : Code → List α → World → Prop) (hI : OwnFrom w.heap.size I) (hIx : ∀ c, OwnFrom w.heap.size (Ix c)) (hIs : ∀ s W v, I s W → I s (W.setCell ⟨Bs, 0, none⟩ v)) (h0 : I [] w) (a₁ : α → Act)
    (hassign : ∀ (l : Nat) (x : α) (W : World) (K : Act → World → Prop), K (a₁ x) W →
      assign.wpIn (F.inRound l) (n - 1 - 1) P (Exit.then K (fun _ _ _ => False)) { tmps := (ps.zip (encs x)).foldl (fun t (p, v) => t.setIfInBounds p v) a.tmps, defers := [] } W)
    (hbody : ∀ (l : Nat) (pre : List α) (x : α) (W : World), I pre W → pre.length < N → Ok x → body.wpIn (F.inRound l) (n - 1 - 1) P (ownPostK Kp I Ix (pre ++ [x]) W) (a₁ x) W)
    (hdone : ∀ (D : Nat) (xs : List α) (W : World), w.heap.size ≤ D → S xs → I xs W → W.heap[D]? = some (.deferred (some [])) → Q .normal { a with defers := { target := .collected D, args := #[] } :: a.defers } W)
    (hstop : ∀ (D : Nat) (c : Code) (pre : List α) (W : World), w.heap.size ≤ D → Sp pre → Ix c pre W → W.heap[D]? = some (.deferred (some [])) → c.wpIn F n P Q { a with defers := { target := .collected D, args := #[] } :: a.defers } W) :
    (Code.rangeFunc g ps assign body).wpIn F n P Q a w := by
  refine wpIn_rangeFunc ?_
  intro fn hfn
  rw [hro]
  obtain ⟨rec, hrec⟩ : ∃ rec : LoopState → Option Code → Loop, rec = fun st pe => { state := st, pending := pe, fn, tmps := a.tmps, params := ps, assign, body, defers := w.heap.size } := ⟨_, rfl⟩
  obtain ⟨W1, hW1⟩ : ∃ W1, (w.alloc (.deferred (some []))).alloc (.loop (rec .ready none)) = W1 := ⟨_, rfl⟩
  have hL1 : W1.heap[w.heap.size + 1]? = some (.loop (rec .ready none)) := by
    rw [← hW1]; have := World.alloc_heap_new (w.alloc (.deferred (some []))) (.loop (rec .ready none)); rwa [World.size_alloc] at this
  have hK1 : W1.heap[w.heap.size]? = some (.deferred (some [])) := by
    rw [← hW1]; exact (Below.heap_alloc _ _ _ (by simp)).trans (World.alloc_heap_new w _)
  have hI1 : I [] W1 := by rw [← hW1]; exact hI.alloc _ (hI.alloc _ h0)
  have hb1 : Below w0.heap.size w0 W1 := by
    rw [← hW1]; exact hb0.trans ((((Below.refl _ w).alloc (Nat.le_refl _) _).alloc (by simp) _).mono hb0.size)
  refine ⟨w.heap.size + 1, [{ target := .collected w.heap.size, args := #[] }], W1, { target := .fn (.func gf) lb, args := #[.func (.yield (w.heap.size + 1)) #[] #[]] }, W1, gf,
    #[.func (.yield (w.heap.size + 1)) #[] #[]] ++ lb, W1, ?_, ?_, ?_, ?_, fun _ => h1, ?_⟩
  · rw [← hW1, hrec]; exact run_enterLoop_outer _ _ _ _ _
  · simp only [resolve, hg]
    simp [go_sem]
  · intro f' hf'; simp [Target.leads] at hf'; subst hf'; exact hFg
  · simp [invoke, go_sem, eg]
  · -- THE ITERATOR's CONTRACT, AT THE CALLER's INVARIANT WITH THE TWO FACTS OF BOOK-KEEPING BESIDE IT
    have hnw : ∀ {A B : World} {row : Option Nat}, (∀ r, row = some r → W1.heap.size ≤ r ∧ ∃ o : Obj, A.heap[r]? = some o ∧ o.isWalk = true) → (∀ r, row = some r → w.heap.size ≤ r ∧ ∃ o : Obj, A.heap[r]? = some o ∧ o.isCells = false) :=
      fun hr r e => by obtain ⟨hB, o, ho, hw⟩ := hr r e; exact ⟨by rw [← hW1] at hB; simp at hB; omega, o, ho, Obj.not_cells_of_walk hw⟩
    refine (hseq (w.heap.size + 1)
      (fun pre W => I pre W ∧ W.heap[w.heap.size + 1]? = some (.loop (rec .ready none)) ∧ W.heap[w.heap.size]? = some (.deferred (some [])))
      (fun pre W => ∃ c, Ix c pre W ∧ W.heap[w.heap.size + 1]? = some (.loop (rec .done (some c))) ∧ W.heap[w.heap.size]? = some (.deferred (some [])))
      W1 hb1
      (fun s A B row hs hg' hr => ⟨hI s A B row hs.1 hg' (hnw (B := B) hr), (grownBy_keeps hg' (fun r e => (hr r e).2) hs.2.1 rfl).trans hs.2.1, (grownBy_keeps hg' (fun r e => (hr r e).2) hs.2.2 rfl).trans hs.2.2⟩)
      (fun s A B row hs hg' hr => by
        obtain ⟨c, hc, hl, hk⟩ := hs
        exact ⟨c, hIx c s A B row hc hg' (hnw (B := B) hr), (grownBy_keeps hg' (fun r e => (hr r e).2) hl rfl).trans hl, (grownBy_keeps hg' (fun r e => (hr r e).2) hk rfl).trans hk⟩)
      (fun s A v hs => ⟨hIs s A v hs.1, ((grownBy_setCell' A Bs v).block _ (Array.getElem?_eq_some_iff.1 hs.2.1).1 (fun e => by cases e; omega)).trans hs.2.1, ((grownBy_setCell' A Bs v).block _ (Array.getElem?_eq_some_iff.1 hs.2.2).1 (fun e => by cases e; omega)).trans hs.2.2⟩)
      ?_ ⟨hI1, hL1, hK1⟩).mono ?_
    · -- ONE ROUND
      rintro pre x W ⟨hi, hl, hk⟩ hlen hok
      have hlt : w.heap.size + 1 < W.heap.size := (Array.getElem?_eq_some_iff.1 hl).1
      have hy := run_yield (P := P) (args := encs x) hl (by rw [hrec]; exact hps x)
      rw [hrec] at hy
      refine ⟨fn, _, assign, body, hy, roundIn_of_wpIn hfn (hassign _ x W _ ⟨_, run_beginRound hl (by rw [hrec]), ?_⟩)⟩
      have hl2 : (W.putObj (w.heap.size + 1) (.loop { rec .ready none with state := .busy })).heap[w.heap.size + 1]? = some (.loop { rec .ready none with state := .busy }) := World.putObj_heap_same hlt
      have hk2 : (W.putObj (w.heap.size + 1) (.loop { rec .ready none with state := .busy })).heap[w.heap.size]? = some (.deferred (some [])) := (World.putObj_heap_other (by omega)).trans hk
      have hw2 : Kp W (W.putObj (w.heap.size + 1) (.loop { rec .ready none with state := .busy })) := hKb _ _ _ _ (by omega) hl rfl rfl
      refine wpIn_mono (hbody _ pre x _ (hI.putObj _ hi (by omega) hl rfl) hlen hok) ?_
      have fin : ∀ (jump : Option Code) (W3 : World), KeepsOthers (W.putObj (w.heap.size + 1) (.loop { rec .ready none with state := .busy })) W3 →
          (Instr.endRound (w.heap.size + 1) jump).run P W3 = .ok (.bool jump.isNone) (W3.putObj (w.heap.size + 1) (.loop (rec (if jump.isNone then .ready else .done) jump))) ∧
          W3.heap[w.heap.size + 1]? = some (.loop { rec .ready none with state := .busy }) ∧
          (W3.putObj (w.heap.size + 1) (.loop (rec (if jump.isNone then .ready else .done) jump))).heap[w.heap.size + 1]? = some (.loop (rec (if jump.isNone then .ready else .done) jump)) ∧
          (W3.putObj (w.heap.size + 1) (.loop (rec (if jump.isNone then .ready else .done) jump))).heap[w.heap.size]? = some (.deferred (some [])) := fun jump W3 hk3 => by
        have hl3 := hk3.same _ _ hl2 rfl
        have := run_endRound (P := P) jump hl3
        rw [hrec] at this ⊢
        exact ⟨this, by rw [hrec] at hl3; exact hl3, World.putObj_heap_same (Array.getElem?_eq_some_iff.1 hl3).1, (World.putObj_heap_other (by omega)).trans (hk3.same _ _ hk2 rfl)⟩
      rintro e a3 W3 hp
      cases e with
      | normal =>
        obtain ⟨hk3, hkp3, hi3⟩ := hp
        obtain ⟨hr, hl3, hl4, hk4⟩ := fin none W3 hk3
        exact ⟨_, _, hr, .inl ⟨rfl, ⟨hI.putObj _ hi3 (by omega) hl3 rfl, hl4, hk4⟩, hKt (hKt hw2 hkp3) (hKb _ _ _ _ (by omega) hl3 rfl rfl)⟩⟩
      | ret =>
        obtain ⟨hk3, hi3⟩ := hp
        obtain ⟨hr, hl3, hl4, hk4⟩ := fin (some .ret) W3 hk3
        exact ⟨_, _, hr, .inr ⟨rfl, .ret, (hIx _).putObj _ hi3 (by omega) hl3 rfl, hl4, hk4⟩⟩
      | exit id =>
        obtain ⟨hk3, hi3⟩ := hp
        obtain ⟨hr, hl3, hl4, hk4⟩ := fin (some (.exit id)) W3 hk3
        exact ⟨_, _, hr, .inr ⟨rfl, .exit id, (hIx _).putObj _ hi3 (by omega) hl3 rfl, hl4, hk4⟩⟩
      | goto t =>
        obtain ⟨hk3, hi3⟩ := hp
        obtain ⟨hr, hl3, hl4, hk4⟩ := fin (some (.goto t)) W3 hk3
        exact ⟨_, _, hr, .inr ⟨rfl, .goto t, (hIx _).putObj _ hi3 (by omega) hl3 rfl, hl4, hk4⟩⟩
      | panic ch => exact hp.elim
      | outgrown => exact hp.elim
    · -- BEHIND THE ITERATOR
      rintro e W2 ⟨⟨v, rfl⟩, (⟨xs, hS, hi, hl, hk⟩ | ⟨pre, hSp, c, hi, hl, hk⟩)⟩
      · exact ⟨none, _, by have := run_endLoop (P := P) hl (by rw [hrec]; simp); rw [hrec] at this; exact this, hdone _ xs _ (Nat.le_refl _) hS (hI.putObj _ hi (by omega) hl rfl) ((World.putObj_heap_other (by omega)).trans hk)⟩
      · exact ⟨some c, _, by have := run_endLoop (P := P) hl (by rw [hrec]; simp); rw [hrec] at this; exact this, hstop _ c pre _ (Nat.le_refl _) hSp ((hIx c).putObj _ hi (by omega) hl rfl) ((World.putObj_heap_other (by omega)).trans hk)⟩
end Nt

set_option linter.unusedVariables false
set_option linter.unusedSimpArgs false
namespace Nt.Lin
open Go Nt.Ev
def linR : List UInt8 → List UInt8 → List (List UInt8)
  | [], cur => match cur with | [] => [] | _ => [cur]
  | c :: t, cur => bif c == 10 then cur :: linR t [] else linR t (cur ++ [c])
def linP (s : List UInt8) : List (List UInt8) := linR s []
def ahead1 (s : List UInt8) : List UInt8 := s.takeWhile fun c => c != 10
def behind1 (s : List UInt8) : List UInt8 := s.drop ((ahead1 s).length + 1)
def lnF : Nat → List UInt8 → List (List UInt8)
  | 0, _ => []
  | n + 1, s => match s with
    | [] => []
    | _ => bif s.contains 10 then (ahead1 s ++ [10]) :: lnF n (behind1 s) else [s]
def lnP (s : List UInt8) : List (List UInt8) := lnF (s.length + 1) s
def trim1 (s : List UInt8) : List UInt8 := Go.Lib.trimSuffix s [10]
theorem ahead_split : ∀ s : List UInt8, s.contains 10 = true → s = ahead1 s ++ 10 :: behind1 s ∧ (ahead1 s).contains 10 = false
  | [], h => by cases h
  | c :: t, h => by
    cases hc : c != 10 with
    | false =>
      have e : c = 10 := by simpa using hc
      subst e
      have e1 : ahead1 (10 :: t) = [] := by unfold ahead1; rw [List.takeWhile_cons, hc]; rfl
      unfold behind1
      rw [e1]
      exact ⟨rfl, rfl⟩
    | true =>
      have e1 : ahead1 (c :: t) = c :: ahead1 t := by unfold ahead1; rw [List.takeWhile_cons, hc]; rfl
      have e2 : behind1 (c :: t) = behind1 t := by unfold behind1; rw [e1]; rfl
      have hn : c ≠ 10 := by simpa using hc
      have h' : t.contains 10 = true := by
        rw [List.contains_cons] at h
        have : ((10 : UInt8) == c) = false := by rw [beq_eq_false_iff_ne]; exact fun e => hn e.symm
        rwa [this, Bool.false_or] at h
      obtain ⟨a, b⟩ := ahead_split t h'
      rw [e1, e2]
      refine ⟨by rw [List.cons_append, ← a], ?_⟩
      rw [List.contains_cons, b]
      have : ((10 : UInt8) == c) = false := by rw [beq_eq_false_iff_ne]; exact fun e => hn e.symm
      rw [this]; rfl
theorem behind_lt (s : List UInt8) (h : s.contains 10 = true) : (behind1 s).length + (ahead1 s).length + 1 = s.length := by
  have := congrArg List.length (ahead_split s h).1
  rw [List.length_append, List.length_cons] at this
  omega
theorem lnF_more : ∀ (n m : Nat) (s : List UInt8), s.length < n → s.length < m → lnF n s = lnF m s
  | 0, _, s, h, _ => by omega
  | n + 1, 0, s, _, h => by omega
  | n + 1, m + 1, s, h1, h2 => by
    cases s with
    | nil => rfl
    | cons c t =>
      unfold lnF
      cases hc : (c :: t).contains 10 with
      | false => rfl
      | true =>
        have := behind_lt _ hc
        simp only [cond_true]
        rw [lnF_more n m (behind1 (c :: t)) (by omega) (by omega)]
theorem lnP_nil : lnP [] = [] := rfl
theorem lnP_feed {s : List UInt8} (h : s.contains 10 = true) : lnP s = (ahead1 s ++ [10]) :: lnP (behind1 s) := by
  have hb := behind_lt s h
  cases s with
  | nil => cases h
  | cons c t =>
    unfold lnP
    show (bif (c :: t).contains 10 then (ahead1 (c :: t) ++ [10]) :: lnF (c :: t).length (behind1 (c :: t)) else [c :: t]) = _
    rw [h, cond_true, lnF_more (c :: t).length ((behind1 (c :: t)).length + 1) _ (by omega) (by omega)]
theorem lnP_last {s : List UInt8} (h : s.contains 10 = false) (h0 : s ≠ []) : lnP s = [s] := by
  cases s with
  | nil => exact absurd rfl h0
  | cons c t =>
    unfold lnP
    show (bif (c :: t).contains 10 then (ahead1 (c :: t) ++ [10]) :: lnF (c :: t).length (behind1 (c :: t)) else [c :: t]) = _
    rw [h, cond_false]
theorem trim_feed (a : List UInt8) : trim1 (a ++ [10]) = a := by
  unfold trim1 Go.Lib.trimSuffix Go.Lib.hasSuffix
  have h : ([10] : List UInt8).isSuffixOf (a ++ [10]) = true := by rw [List.isSuffixOf_iff_suffix]; exact List.suffix_append a [10]
  rw [if_pos h]
  simp
theorem trim_none {a : List UInt8} (h : a.contains 10 = false) : trim1 a = a := by
  unfold trim1 Go.Lib.trimSuffix Go.Lib.hasSuffix
  have h2 : ¬ ([10] : List UInt8).isSuffixOf a = true := by
    rw [List.isSuffixOf_iff_suffix]
    rintro ⟨t, rfl⟩
    rw [List.contains_append] at h
    simp at h
  rw [if_neg h2]
theorem linR_ahead : ∀ (a rest cur : List UInt8), a.contains 10 = false → linR (a ++ 10 :: rest) cur = (cur ++ a) :: linR rest []
  | [], rest, cur, _ => by
    show (bif (10 : UInt8) == 10 then cur :: linR rest [] else _) = _
    rw [List.append_nil]; rfl
  | c :: a, rest, cur, h => by
    rw [List.contains_cons, Bool.or_eq_false_iff] at h
    have hc : (c == 10) = false := by
      rw [beq_eq_false_iff_ne]
      intro e; rw [e] at h; exact absurd h.1 (by decide)
    show (bif c == 10 then cur :: linR (a ++ 10 :: rest) [] else linR (a ++ 10 :: rest) (cur ++ [c])) = _
    rw [hc, cond_false, linR_ahead a rest (cur ++ [c]) h.2, List.append_assoc]; rfl
theorem linR_none : ∀ (a cur : List UInt8), a.contains 10 = false → linR a cur = match cur ++ a with | [] => [] | l => [l]
  | [], cur, _ => by rw [List.append_nil]; unfold linR; cases cur <;> rfl
  | c :: a, cur, h => by
    rw [List.contains_cons, Bool.or_eq_false_iff] at h
    have hc : (c == 10) = false := by
      rw [beq_eq_false_iff_ne]
      intro e; rw [e] at h; exact absurd h.1 (by decide)
    show (bif c == 10 then cur :: linR a [] else linR a (cur ++ [c])) = _
    rw [hc, cond_false, linR_none a (cur ++ [c]) h.2, List.append_assoc]; rfl
theorem lin_ln : ∀ (n : Nat) (s : List UInt8), s.length < n → linP s = (lnP s).map trim1
  | 0, s, h => by omega
  | n + 1, s, h => by
    cases hc : s.contains 10 with
    | true =>
      have hb := behind_lt s hc
      obtain ⟨e1, e2⟩ := ahead_split s hc
      rw [lnP_feed hc, List.map_cons, trim_feed, ← lin_ln n (behind1 s) (by omega)]
      unfold linP
      have := linR_ahead (ahead1 s) (behind1 s) [] e2
      rw [← e1, List.nil_append] at this
      exact this
    | false =>
      cases s with
      | nil => rfl
      | cons c t =>
        rw [lnP_last hc (by simp), List.map_cons, List.map_nil, trim_none hc]
        exact linR_none (c :: t) [] hc
theorem ln_len : ∀ (n : Nat) (s : List UInt8), s.length < n → (lnP s).length ≤ s.length
  | 0, s, h => by omega
  | n + 1, s, h => by
    cases hc : s.contains 10 with
    | true =>
      have hb := behind_lt s hc
      rw [lnP_feed hc, List.length_cons]
      have := ln_len n (behind1 s) (by omega)
      omega
    | false =>
      cases s with
      | nil => exact Nat.le_refl _
      | cons c t => rw [lnP_last hc (by simp), List.length_cons, List.length_cons, List.length_nil]; omega
theorem ib_ahead : ∀ (t : List UInt8), Go.Lib.indexByte t 10 = if t.contains 10 = true then ((ahead1 t).length : Int) else -1
  | [] => rfl
  | c :: t => by
    have e : Go.Lib.indexByte (c :: t) 10 = if c == 10 then 0 else if Go.Lib.indexByte t 10 == -1 then -1 else Go.Lib.indexByte t 10 + 1 := rfl
    rw [e, ib_ahead t]
    cases hc : c == 10 with
    | true =>
      have e : c = 10 := by simpa using hc
      subst e
      have e1 : ahead1 (10 :: t) = [] := rfl
      rw [e1, if_pos rfl, List.contains_cons]
      simp
    | false =>
      have hn : c ≠ 10 := by simpa using hc
      have hb : (c != 10) = true := by simpa using hn
      have e1 : ahead1 (c :: t) = c :: ahead1 t := by unfold ahead1; rw [List.takeWhile_cons, hb]; rfl
      have e2 : (c :: t).contains 10 = t.contains 10 := by
        rw [List.contains_cons]
        have : ((10 : UInt8) == c) = false := by rw [beq_eq_false_iff_ne]; exact fun e => hn e.symm
        rw [this, Bool.false_or]
      rw [e1, e2]
      cases h : t.contains 10 with
      | true =>
        have h3 : ((((ahead1 t).length : Nat) : Int) == -1) = false := by
          rw [beq_eq_false_iff_ne]; omega
        simp only [if_true, h3, List.length_cons]
        simp
      | false => simp
theorem ahead_take (s : List UInt8) (h : s.contains 10 = true) : s.take ((ahead1 s).length + 1) = ahead1 s ++ [10] := by
  conv => lhs; arg 2; rw [(ahead_split s h).1]
  rw [show ahead1 s ++ 10 :: behind1 s = (ahead1 s ++ [10]) ++ behind1 s by simp]
  exact List.take_left' (by simp)
end Nt.Lin

set_option linter.unusedVariables false
set_option linter.unusedSimpArgs false
namespace Go.Proofs.Ytochbeiihhbmeaa
open Go Go.RowKit Go.Shelf Nt Nt.Lin
attribute [local go_sem] Oper.semAt_some
theorem lines_fn (s : ByteArray) (w : World) :
    CallsIn Fence.wide 9 Try.prog 27 #[.string s] w fun e w' => e = .returned (.func (.func 37) #[] #[.pointer (some ⟨w.heap.size, 0, none⟩)]) ∧ w' = w.alloc (.cells #[.string s] 9) := by
  refine callsIn_of_wp Try.func27 rfl trivial ?_ rfl
  simp only [Try.ntmps27, List.size_toArray, List.length_cons, List.length_nil, Nat.reduceAdd, Nat.reduceSub, Array.replicate_succ, Array.replicate_zero, List.push_toArray, List.append_toArray, List.nil_append, List.cons_append]
  gi_wp2
  go_ret
  exact ⟨rfl, rfl⟩
def leftB (Bs : Nat) (W : World) : Nat := match W.cell? ⟨Bs, 0, none⟩ with | some (.string s) => s.size | _ => 0
theorem left_of {Bs : Nat} {W : World} {l : List UInt8} (h : W.heap[Bs]? = some (.cells #[Value.string ⟨l.toArray⟩] 9 (0, 0))) : leftB Bs W = l.length := by
  unfold leftB
  have : W.cell? ⟨Bs, 0, none⟩ = some (.string ⟨l.toArray⟩) := by simp [World.cell?, h]
  rw [this]; simp [ByteArray.size]
set_option maxRecDepth 100000 in
set_option maxHeartbeats 1000000 in
theorem lines1_in (l Bs : Nat) (src : List UInt8) (hsrc : src.length ≤ 4000000000) (J Jx : List (List UInt8) → World → Prop)
    (hJs : ∀ s W1 v, J s W1 → J s (W1.setCell ⟨Bs, 0, none⟩ v))
    (hJd : ∀ s W1, J s W1 → J s W1.drew)
    (hY : ∀ pre x W, J pre W → pre.length < (lnP src).length → x.length ≤ 4000000000 → YieldAt Fence.wide 8 Try.prog l #[Value.string ⟨(x).toArray⟩] W fun e W' =>
      (e = .returned (.bool true) ∧ J (pre ++ [x]) W' ∧ W'.heap[Bs]? = W.heap[Bs]?) ∨ (e = .returned (.bool false) ∧ Jx (pre ++ [x]) W'))
    (W : World) (hBs : W.heap[Bs]? = some (.cells #[Value.string ⟨(src).toArray⟩] 9 (0, 0))) (h0 : J [] W) :
    CallsIn Fence.wide 9 Try.prog 37 #[.func (.yield l) #[] #[], .pointer (some ⟨Bs, 0, none⟩)] W fun e W' => (∃ v, e = .returned v) ∧
      ((∃ ys, ys = lnP src ∧ J ys W') ∨ (∃ pre, pre <+: lnP src ∧ Jx pre W')) := by
  refine callsIn_of_wp Try.func37 rfl trivial ?_ rfl
  simp only [Try.ntmps37, List.size_toArray, List.length_cons, List.length_nil, Nat.reduceAdd, Nat.reduceSub, Array.replicate_succ, Array.replicate_zero, List.push_toArray, List.append_toArray, List.nil_append, List.cons_append]
  gi_wp2
  gi_loopw [] (fun wr => ∃ (pre : List (List UInt8)) (rest : List UInt8), wr.heap[Bs]? = some (.cells #[Value.string ⟨(rest).toArray⟩] 9 (0, 0)) ∧ lnP src = pre ++ lnP rest ∧ rest.length ≤ 4000000000 ∧ J pre wr)
    (fun wr => leftB Bs wr)
  case atStart =>
    exact ⟨[], src, hBs, rfl, hsrc, h0⟩
  case round =>
    obtain ⟨pre, rest, hB, hx, hrl, hJ⟩ := hrel
    have hcell : wr.cell? ⟨Bs, 0, none⟩ = some (Value.string ⟨(rest).toArray⟩) := by simp [World.cell?, hB]
    have hfr : wr.frozen? ⟨Bs, 0, none⟩ = false := by simp [World.frozen?, hB]
    cases rest with
    | nil =>
      gi_wp2
      go_end0
      exact ⟨⟨_, rfl⟩, .inl ⟨pre, by rw [hx, lnP_nil, List.append_nil], hJ⟩⟩
    | cons c0 t0 =>
      obtain ⟨s0, hs0⟩ : ∃ s0, c0 :: t0 = s0 := ⟨_, rfl⟩
      have hpos : 0 < s0.length := by rw [← hs0]; simp
      rw [hs0] at hB hx hcell hrl
      cases hc : s0.contains 10 with
      | true =>
        have hib := ib_ahead s0
        rw [hc, if_pos rfl] at hib
        have hb := behind_lt s0 hc
        gi_wp2
        refine ⟨trivial, ?_⟩
        refine (callsIn_wide.2 (Try.strings_IndexByte _ _ _)).mono ?_
        rintro e w1 ⟨rfl, rfl⟩
        gi_wp2
        have hmx : Try.prog.follows .mixedOrders = true := by kernel_rfl
        obtain ⟨k, hk⟩ : ∃ k, (ahead1 s0).length = k := ⟨_, rfl⟩
        rw [hk] at hb
        rw [hk]
        have hw1 : IntKind.i64.wrap ((k : Int) + 1) = (k : Int) + 1 := IntWalk.i64_in _ (by omega)
        have hw2 : (0 : Int) ≤ (k : Int) + 1 := by omega
        have hw3 : ((k : Int) + 1).toNat = k + 1 := by omega
        have hw4 : (k : Int) + 1 ≤ (s0.length : Int) := by omega
        have hw5 : k + 1 ≤ s0.length := by omega
        have hx1 : (⟨s0.toArray⟩ : ByteArray).extract 0 (k + 1) = ⟨(ahead1 s0 ++ [10]).toArray⟩ := by
          have := Nt.Ev.bs_sub s0 0 ((k + 1 : Nat) : Int)
          simp only [Int.toNat_zero, Int.toNat_natCast] at this
          rw [this, ← ahead_take s0 hc, hk]
          unfold Nt.Ev.ssub
          simp
        have hx2 : (⟨s0.toArray⟩ : ByteArray).extract (k + 1) s0.length = ⟨(behind1 s0).toArray⟩ := by
          have := Nt.Ev.bs_sub s0 ((k + 1 : Nat) : Int) (s0.length : Int)
          simp only [Int.toNat_natCast] at this
          rw [this]
          unfold Nt.Ev.ssub behind1
          rw [hk, Int.toNat_natCast, Int.toNat_natCast, List.take_of_length_le (by simp)]
        gi_region_with_o (fail)
        all_goals try rw [hx1]
        all_goals try rw [hx2]
        all_goals
          obtain ⟨W2, hW2⟩ : ∃ W2, (w1.setCell { block := Bs, off := 0 } (Value.string ⟨(behind1 s0).toArray⟩)).drew = W2 := ⟨_, rfl⟩
          rw [hW2]
          have hJ2 : J pre W2 := by rw [← hW2]; exact hJd _ _ (hJs _ _ _ hJ)
          have hB2 : W2.heap[Bs]? = some (.cells #[Value.string ⟨(behind1 s0).toArray⟩] 9 (0, 0)) := by
            rw [← hW2]
            exact Boxed.set (W := w1) (B := Bs) (t := 9) _ hB
          obtain ⟨fn, tmps, assign, body, hy, hR⟩ := hY pre (ahead1 s0 ++ [10]) W2 hJ2 (by rw [hx, lnP_feed hc]; simp) (by rw [List.length_append, List.length_cons, List.length_nil]; omega)
          gi_wp2
          refine hR.mono ?_
          rintro e W3 (⟨rfl, hJ3, hk3⟩ | ⟨rfl, hJx3⟩)
          · gi_wp2
            go_roundw
            case rel => exact ⟨pre ++ [ahead1 s0 ++ [10]], behind1 s0, hk3.trans hB2, by rw [hx, lnP_feed hc]; simp, by omega, hJ3⟩
            case measure =>
              rw [left_of (hk3.trans hB2), left_of hB]; omega
          · gi_wp2
            refine bodyPost_ret (results_none rfl _ _ _) rfl ?_
            exact ⟨⟨_, rfl⟩, .inr ⟨pre ++ [ahead1 s0 ++ [10]], ⟨lnP (behind1 s0), by rw [hx, lnP_feed hc]; simp⟩, hJx3⟩⟩
      | false =>
        have hib := ib_ahead s0
        rw [hc, if_neg (by decide)] at hib
        gi_wp2
        refine ⟨trivial, ?_⟩
        refine (callsIn_wide.2 (Try.strings_IndexByte _ _ _)).mono ?_
        rintro e w1 ⟨rfl, rfl⟩
        have hJ2 : J pre (w1.setCell { block := Bs, off := 0 } (Value.string ⟨#[]⟩)) := hJs _ _ _ hJ
        have hB2 : (w1.setCell { block := Bs, off := 0 } (Value.string ⟨#[]⟩)).heap[Bs]? = some (.cells #[Value.string ⟨([] : List UInt8).toArray⟩] 9 (0, 0)) :=
          Boxed.set (W := w1) (B := Bs) (t := 9) _ hB
        have hne : s0 ≠ [] := by rw [← hs0]; simp
        obtain ⟨fn, tmps, assign, body, hy, hR⟩ := hY pre s0 _ hJ2 (by rw [hx, lnP_last hc hne]; simp) hrl
        gi_wp2
        refine hR.mono ?_
        rintro e W3 (⟨rfl, hJ3, hk3⟩ | ⟨rfl, hJx3⟩)
        · gi_wp2
          go_roundw
          case rel => exact ⟨pre ++ [s0], [], hk3.trans hB2, by rw [hx, lnP_last hc hne, lnP_nil]; simp, by simp, hJ3⟩
          case measure =>
            rw [left_of (hk3.trans hB2), left_of hB]; simpa using hpos
        · gi_wp2
          refine bodyPost_ret (results_none rfl _ _ _) rfl ?_
          exact ⟨⟨_, rfl⟩, .inr ⟨pre ++ [s0], ⟨[], by rw [hx, lnP_last hc hne]; simp⟩, hJx3⟩⟩
theorem step_skip {P : Program} {ops : Array Oper} {Q : Exit → Act → World → Prop} {o : Oper} {a' : Act} {w' w'' : World} {K : Act → World → Prop} (hg : o.guard = none) (h : (execOp a'.eval o).run P w' = .ok .skip w'') (hk : K (a'.put o.dst undef) w'') :
    if Region.wanted o (yielded ops a'.tmps) = true then o.wp P a' w' K Q else K (a'.put o.dst undef) w' := by
  rw [if_pos (by simp [Region.wanted, hg])]
  unfold Oper.wp
  rw [h]
  exact hk
theorem ownsRow_len {W : World} {base : Nat} {e : TypeId} {size : Nat} {p : Option Addr} {n cap k : Nat} {xs : List Value} (h : W.ownsRow base e size (.slice p n cap) k xs) : n = k := by
  rcases h.2 with ⟨h1, h2⟩ | ⟨g, cap', cur, h1, _⟩
  · cases h1; omega
  · cases h1; rfl
theorem ownsRow_same {W : World} {base : Nat} {e : TypeId} {size : Nat} {v : Value} {k m : Nat} {xs ys : List Value} (h : W.ownsRow base e size v k xs) (h' : W.ownsRow base e size v m ys) : k = m := by
  rcases h.2 with ⟨rfl, h2⟩ | ⟨g, cap', cur, rfl, _⟩
  · exact (show 0 = k by omega) ▸ ownsRow_len h'
  · exact ownsRow_len h'
def FO (O : Nat) (v : Value) (k : Nat) (xs : List Value) (x : List UInt8) : Nat → Value → World → Prop
  | 0, u, _ => u = v
  | 1, u, _ => u = .string ⟨x.toArray⟩
  | 2, u, _ => u = .string ⟨(trim1 x).toArray⟩
  | 3, u, w => ∃ g, u = .slice (some ⟨g, 0, none⟩) 1 1 ∧ w.heap[g]? = some (.cells #[.string ⟨(trim1 x).toArray⟩] 9 (0, 0))
  | 4, u, w => w.ownsRow (O + 2) 9 1 u (k + 1) (xs ++ [.string ⟨(trim1 x).toArray⟩])
  | 5, _, w => ∃ u, Boxed w O 22 u ∧ w.ownsRow (O + 2) 9 1 u (k + 1) (xs ++ [.string ⟨(trim1 x).toArray⟩])
  | _, _, _ => True
def GO (O : Nat) (v : Value) (k : Nat) (xs : List Value) : Nat → World → Prop
  | 0, w => Boxed w O 22 v ∧ w.ownsRow (O + 2) 9 1 v k xs
  | 4, w => Boxed w O 22 v ∧ w.ownsRow (O + 2) 9 1 v k xs
  | 5, w => ∃ u, Boxed w O 22 u
  | _, _ => True
theorem FO_alloc {O : Nat} {v : Value} {k : Nat} {xs : List Value} {x : List UInt8} {w : World} (o : Obj) (j : Nat) (u : Value) (h : FO O v k xs x j u w) : FO O v k xs x j u (w.alloc o) := by
  unfold FO at *
  split at h
  · exact h
  · exact h
  · exact h
  · obtain ⟨g, rfl, h⟩ := h
    exact ⟨g, rfl, heap_ext h (below_alloc _ _)⟩
  · exact h.alloc _
  · obtain ⟨u, h1, h2⟩ := h
    exact ⟨u, h1.alloc _, h2.alloc _⟩
  · trivial
theorem GO_alloc {O : Nat} {v : Value} {k : Nat} {xs : List Value} {w : World} (o : Obj) (j : Nat) (h : GO O v k xs j w) : GO O v k xs j (w.alloc o) := by
  unfold GO at *
  split at h
  · exact ⟨h.1.alloc _, h.2.alloc _⟩
  · exact ⟨h.1.alloc _, h.2.alloc _⟩
  · obtain ⟨u, h⟩ := h
    exact ⟨u, h.alloc _⟩
  · trivial
theorem infoS : (Try.prog.info? 9).map (fun i => (i.zero, i.size, i.bytes)) = some (some (.string ⟨#[]⟩), 1, 16) := by kernel_rfl
abbrev strsB (l : List (List UInt8)) : List Value := l.map fun x => Value.string ⟨x.toArray⟩
set_option maxRecDepth 100000 in
set_option maxHeartbeats 2000000 in
theorem of_in (s : List UInt8) (hs : s.length ≤ 4000000000) (w : World) :
    CallsIn Fence.wide 10 Try.prog 10 #[.string ⟨s.toArray⟩] w fun e W' => ∃ v, e = .returned v ∧ W'.ownsRow w.heap.size 9 1 v (linP s).length (strsB (linP s)) ∧ Below w.heap.size w W' := by
  have hll := ln_len (s.length + 1) s (by omega)
  obtain ⟨i0, hi, hz0, hz1, hz2⟩ := info_parts infoS
  refine callsIn_of_wp_marks Try.func10 rfl trivial ?_ rfl
  simp only [Try.ntmps10, List.size_toArray, List.length_cons, List.length_nil, Nat.reduceAdd, Nat.reduceSub, Array.replicate_succ, Array.replicate_zero, List.push_toArray, List.append_toArray, List.nil_append, List.cons_append]
  gi_wp2_with (refine ⟨trivial, ?_⟩; gi_at_call 27; refine (lines_fn _ _).mono ?_; rintro e w' ⟨rfl, rfl⟩)
  have bO := Boxed.new w 22 (.slice none 0 0)
  have bN := Boxed.new (w.alloc (.cells #[.slice none 0 0] 22)) 9 (.string ⟨s.toArray⟩)
  rw [World.size_alloc] at bN
  have hB0 : Below w.heap.size w ((w.alloc (.cells #[.slice none 0 0] 22)).alloc (.cells #[.string ⟨s.toArray⟩] 9)) := ((Below.refl _ w).alloc (Nat.le_refl _) _).alloc (by simp) _
  obtain ⟨w2, hw2⟩ : ∃ w2, ((w.alloc (.cells #[.slice none 0 0] 22)).alloc (.cells #[.string ⟨s.toArray⟩] 9)) = w2 := ⟨_, rfl⟩
  have hw2s : w2.heap.size = w.heap.size + 2 := by rw [← hw2]; simp
  have bO2 : Boxed w2 w.heap.size 22 (.slice none 0 0) := by rw [← hw2]; exact bO.alloc _
  rw [hw2] at bN hB0 ⊢
  have hstops : SeqStopsS (w.heap.size + 1) (fun x : List UInt8 => x.length ≤ 4000000000) Fence.wide 9 Try.prog 37 #[.pointer (some ⟨w.heap.size + 1, 0, none⟩)] (fun x : List UInt8 => #[Value.string ⟨x.toArray⟩]) (fun A B => B.heap[w.heap.size + 1]? = A.heap[w.heap.size + 1]?) (fun ys => ys = lnP s) (fun pre => pre <+: lnP s) (lnP s).length w2 := by
    intro l J Jx W hW hJ _ hJs hY h0
    refine lines1_in l (w.heap.size + 1) s hs J Jx hJs (fun q W1 hq => hJ q W1 _ none hq ⟨rfl, rfl, rfl, Nat.le_refl _, fun _ _ _ => rfl⟩ (fun r e => by cases e)) hY W ?_ h0
    exact (hW.block _ (by omega)).trans bN
  refine wpIn_range_store (Bs := w.heap.size + 1) (F := Fence.wide) (n := 10) rfl (by omega) (gf := 37) (lb := #[.pointer (some ⟨w.heap.size + 1, 0, none⟩)]) rfl trivial (enters_of Try.func37 (by kernel_rfl) rfl)
    hstops (fun h k => k.trans h) (fun W l o o' hl h _ _ => World.putObj_heap_other (by omega)) (Below.refl _ _) (fun _ => rfl) (by omega)
    (fun pre W => (∃ v, Boxed W w.heap.size 22 v ∧ W.ownsRow (w.heap.size + 2) 9 1 v pre.length (strsB (pre.map trim1)) ∧ True) ∧ Below w.heap.size w2 W)
    (fun _ _ _ => False)
    (OwnFrom.and (Own.from (holdsRow_own (w.heap.size + 2) w.heap.size 22 9 1 (fun pre : List (List UInt8) => pre.length) (fun pre => strsB (pre.map trim1)) (fun _ _ => True)) _) (ownFrom_below (by omega) (by omega)))
    (fun _ _ _ _ _ hs _ _ => hs)
    ?store
    ⟨⟨_, bO2, World.ownsRow_nil _ _ _ _, trivial⟩, Below.refl _ _⟩
    (fun x => { tmps := #[.string ⟨s.toArray⟩, undef, .slice none 0 0, .pointer (some ⟨w.heap.size, 0, none⟩), .string ⟨x.toArray⟩, .string ⟨s.toArray⟩, .func (.func 37) #[] #[.pointer (some ⟨w.heap.size + 1, 0, none⟩)], .string ⟨x.toArray⟩, undef, undef, undef, undef, undef, undef], defers := [] }) ?assign ?body ?done ?stop
  case store =>
    rintro pre W v ⟨⟨u, hu, hr, _⟩, hB⟩
    refine ⟨⟨u, hu.other (by omega) v, hr.kept (grownBy_setCell' W _ v) ?_, trivial⟩, hB.setCell (p := ⟨w.heap.size + 1, 0, none⟩) (by simp) _⟩
    cases h : u.ownBlock with
    | none => exact .inl rfl
    | some k =>
      refine .inr fun e => ?_
      have := (hr.lt k h).1
      cases e
      omega
  case assign =>
    intro l x W K hK
    gi_wp2
    exact hK
  case body =>
    rintro l pre x W ⟨⟨v, hv, hrow, _⟩, hB⟩ hlt hxl
    have hc := hv.cell
    have hmx : Try.prog.follows .mixedOrders = true := by kernel_rfl
    gi_wp2
    have hte : 22 ≠ 9 := by decide
    have hwl : w.heap.size + 2 ≤ W.heap.size := by have := hB.size; omega
    refine region_steps_in hmx (by kernel_rfl) (by kernel_rfl) (by kernel_rfl) [5] (by decide) (FO w.heap.size v pre.length (strsB (pre.map trim1)) x) (GO w.heap.size v pre.length (strsB (pre.map trim1)))
      (fun w' => Below w.heap.size W w' ∧ KeepsOthers W w' ∧ w'.heap[w.heap.size + 1]? = W.heap[w.heap.size + 1]?) ⟨(Below.refl _ _).drew, KeepsOthers.drew _, rfl⟩ ?_ ?_ ?_
    · intro i
      unfold GO
      split
      · exact ⟨hv, hrow⟩
      · exact ⟨hv, hrow⟩
      · exact ⟨v, hv⟩
      · trivial
    · refine ⟨?_, ?_, ?_, ?_, ?_, ?_, trivial⟩
      · intro a' w' hJ hG _ _ hf hd K hK
        simp [frameFacts, depFacts, Op.operands, FO, Slot] at hf hd
        have hcl := hG.1.cell
        refine step_value rfl ?_ (hK v w' rfl hJ (fun _ _ _ _ h => h) (fun _ _ _ h => h))
        go_simp
      · intro a' w' hJ hG _ _ hf hd K hK
        simp [frameFacts, depFacts, Op.operands, FO, Slot] at hf hd
        refine step_value rfl ?_ (hK (.string ⟨x.toArray⟩) w' rfl hJ (fun _ _ _ _ h => h) (fun _ _ _ h => h))
        go_simp
      · intro a' w' hJ hG _ _ hf hd K hK
        simp [frameFacts, depFacts, Op.operands, FO, Slot] at hf hd
        refine step_call rfl (f := 28) (args := #[.string ⟨x.toArray⟩, .string ⟨#[10]⟩]) ?_ ?_
        · go_simp
        · refine Calls.mono (Try.strings_TrimSuffix _ _ _ (by simp [ByteArray.size]; omega)) ?_
          rintro e w'' ⟨rfl, rfl⟩
          exact ⟨_, rfl, hK _ _ rfl hJ (fun _ _ _ _ h => h) (fun _ _ _ h => h)⟩
      · intro a' w' hJ hG _ _ hf hd K hK
        simp [frameFacts, depFacts, Op.operands, FO, Slot] at hf hd
        refine step_value rfl ?_ (hK (.slice (some ⟨w'.heap.size, 0, none⟩) 1 1) (w'.alloc (.cells #[.string ⟨(trim1 x).toArray⟩] 9)) ⟨_, rfl, World.alloc_heap_new w' _⟩ ⟨Below.alloc hJ.1 (by have := hJ.1.size; omega) _, hJ.2.1.trans (KeepsOthers.alloc _ _), (Below.heap_alloc _ _ _ (by have := hJ.1.size; omega)).trans hJ.2.2⟩ (fun j u _ _ h => FO_alloc _ j u h) (fun j _ _ h => GO_alloc _ j h))
        go_simp
      · intro a' w' hJ hG _ _ hf hd K hK
        obtain ⟨h0, h3, _⟩ := hd
        obtain ⟨u0, ⟨h8, _⟩, e0⟩ := h0 rfl _ rfl
        have e0 : u0 = v := e0
        rw [e0] at h8
        obtain ⟨u3, ⟨h11, _⟩, g, rfl, hg⟩ := h3 rfl _ rfl
        obtain ⟨hv', hrow'⟩ := hG
        have hsz' := hJ.1.size
        have hnews : ∀ j u, ([.string ⟨(trim1 x).toArray⟩] : List Value)[j]? = some u → w'.cell? ((⟨g, 0, none⟩ : Addr).add j) = some u := by
          intro j u hj
          match j, hj with
          | 0, hj => simp at hj; subst hj; simp [Addr.add, World.cell?, hg]
        obtain ⟨v', w'', hrun, hown', hgrow, _⟩ := run_append_own (P := Try.prog) w' (w.heap.size + 2) 22 22 9 i0 (.string ⟨#[]⟩) 1 16 Try.underlying22 hi hz0 hz1 hz2 rfl (by decide) v pre.length _ hrow' ⟨g, 0, none⟩ 1 1 [.string ⟨(trim1 x).toArray⟩] rfl hnews (by simp [Value.oneCell']) (by unfold maxLen; omega) (by omega) (by omega)
        have hv2 : Boxed w'' w.heap.size 22 v := hv'.kept hgrow (hv'.not_row hte hrow')
        refine step_value rfl ?_ (hK v' w'' hown' ⟨?_, ?_, ?_⟩ (fun j u hne hl h => ?_) (fun j hne hw h => ?_))
        · simp [execOp, resolve, invoke, builtin, Act.eval, h8, h11, hrun, Result.andThen]
        · exact hJ.1.grown hgrow (by omega) (fun k e => by have := (hrow'.lt k e).1; omega)
        · refine hJ.2.1.trans (KeepsOthers.of_grownBy hgrow fun j o ej hj => ?_)
          rcases hrow'.2 with ⟨rfl, _⟩ | ⟨g', cap, cur, rfl, _, hgb, _⟩
          · simp [Value.ownBlock] at ej
          · obtain rfl : g' = j := by simpa [Value.ownBlock] using ej
            rw [hgb] at hj; cases hj; rfl
        · refine (hgrow.block _ (by omega) (fun e => ?_)).trans hJ.2.2
          have := (hrow'.lt _ e.symm).1
          omega
        · have n3 : j ≠ 3 := fun e => by subst e; exact absurd (hl.symm.trans (by kernel_rfl : _ = false)) (by decide : ¬ true = false)
          unfold FO at *
          split at h
          · exact h
          · exact h
          · exact h
          · exact absurd rfl n3
          · exact absurd rfl hne
          · exfalso
            obtain ⟨u0, hu0, hr0⟩ := h
            have e1 : u0 = v := by
              have := hu0.symm.trans hv'
              simpa using this
            subst e1
            have k1 := ownsRow_same hr0 hrow'
            omega
          · trivial
        · have n0 : j ≠ 0 := fun e => by subst e; exact absurd (hw.symm.trans (by kernel_rfl)) (by decide : ¬ false = true)
          unfold GO at *
          split at h
          · exact absurd rfl n0
          · exact absurd rfl hne
          · exact ⟨v, hv2⟩
          · trivial
      · intro a' w' hJ hG _ _ hf hd K hK
        obtain ⟨h4, _⟩ := hd
        obtain ⟨u4, ⟨h12, _⟩, hown'⟩ := h4 rfl _ rfl
        have hown' : w'.ownsRow (w.heap.size + 2) 9 1 u4 (pre.length + 1) (strsB (pre.map trim1) ++ [.string ⟨(trim1 x).toArray⟩]) := hown'
        obtain ⟨u0, hu0⟩ := hG
        have hcl := hu0.cell
        have hfr := hu0.frozen
        have hsz' := hJ.1.size
        obtain ⟨g4, cap4, rfl⟩ := ownsRow_succ hown'
        refine step_skip rfl ?_ (hK undef (w'.setCell ⟨w.heap.size, 0, none⟩ (.slice (some ⟨g4, 0, none⟩) (pre.length + 1) cap4)) ⟨_, hu0.set _, hown'.kept (grownBy_setCell' w' _ _) (.inr (hu0.not_row hte hown').symm)⟩ ⟨?_, ?_, ?_⟩ (fun j u hne hl h => ?_) (fun j hne hw h => ?_))
        · obtain ⟨h3, _⟩ := hf
          obtain ⟨h3, _⟩ := h3 rfl (.pointer (some ⟨w.heap.size, 0, none⟩)) rfl
          go_simp
        · exact hJ.1.setCell (p := ⟨w.heap.size, 0, none⟩) (Nat.le_refl _) _
        · exact hJ.2.1.trans (KeepsOthers.setCell _ _ _)
        · exact ((grownBy_setCell' w' w.heap.size _).block _ (by omega) (fun e => by have := Option.some.inj e; omega)).trans hJ.2.2
        · have n3 : j ≠ 3 := fun e => by subst e; exact absurd (hl.symm.trans (by kernel_rfl : _ = false)) (by decide : ¬ true = false)
          have n4 : j ≠ 4 := fun e => by subst e; exact absurd (hl.symm.trans (by kernel_rfl : _ = false)) (by decide : ¬ true = false)
          unfold FO at *
          split at h
          · exact h
          · exact h
          · exact h
          · exact absurd rfl n3
          · exact absurd rfl n4
          · exact absurd rfl hne
          · trivial
        · have n0 : j ≠ 0 := fun e => by subst e; exact absurd (hw.symm.trans (by kernel_rfl)) (by decide : ¬ false = true)
          have n4 : j ≠ 4 := fun e => by subst e; exact absurd (hw.symm.trans (by kernel_rfl)) (by decide : ¬ false = true)
          unfold GO at *
          split at h
          · exact absurd rfl n0
          · exact absurd rfl n4
          · exact absurd rfl hne
          · trivial
    · intro val w' hJ hF
      obtain ⟨⟨u, hu, hr⟩, _⟩ := hF
      refine ⟨hJ.2.1, hJ.2.2, ⟨u, hu, ?_, trivial⟩, hB.trans hJ.1⟩
      simpa using hr
  case done =>
    rintro D ys W hD rfl ⟨⟨v, hv, hrow, _⟩, hB⟩ hK
    have hc := hv.cell
    gi_wp2
    refine ⟨by simp, .inl ⟨_, _, rfl, run_takeDeferred hK, ?_⟩⟩
    refine ⟨_, results_tmp rfl _ _ _, v, rfl, ?_, ?_⟩
    · have hlP : linP s = (lnP s).map trim1 := lin_ln (s.length + 1) s (by omega)
      rw [hlP, List.length_map]
      exact ownsRow_mono (ownsRow_putObj hrow _ hK rfl) (by omega)
    · exact hB0.trans (hB.trans (belowK_b (w := w2) (by omega) W D _ _ hD hK rfl rfl))
  case stop =>
    rintro D c pre W _ _ h _
    exact h.elim
end Go.Proofs.Ytochbeiihhbmeaa

set_option linter.unusedVariables false
set_option linter.unusedSimpArgs false
set_option linter.unusedSectionVars false
namespace Nt.Ev.Ytochbeiihhbmeaa
open Go Nt.Num Go.Proofs.Ytochbeiihhbmeaa
noncomputable def bcOk : V → Bool | .nilp => true | .box k off => k == HL && off == 0 | _ => false
noncomputable def bbOk : V → Bool | .nilsl => true | .sl e sh (some L) xs => e == 5 && Kd.eqL [.int .u8] sh && L == 1000001002 | _ => false
noncomputable def bbS : V → List UInt8 | .sl _ _ _ xs => vbytes xs | _ => []
noncomputable def bbN : V → V | .sl e sh _ xs => .sl e sh none xs | v => v
noncomputable def bCpS : FSpec := fun a => match a with | [.bxa 0 [x, b]] => some (bcOk x, .out false (.tup []) [[.box HL 0, b]]) | _ => none
noncomputable def bStS : FSpec := fun a => match a with | [.bxa 0 [x, b]] => some (band (bcOk x) (bbOk b), .out false (.str (bbS b)) [[x, bbN b]]) | _ => none
end Nt.Ev.Ytochbeiihhbmeaa

set_option linter.unusedVariables false
set_option linter.unusedSimpArgs false
set_option linter.unusedSectionVars false
namespace Nt.Ev.Ytochbeiihhbmeaa
open Go Go.RowKit Nt Nt.Num Go.Proofs.Ytochbeiihhbmeaa
theorem bc_cases {x : V} (h : bcOk x = true) : x = .nilp ∨ x = .box HL 0 := by
  unfold bcOk at h
  split at h
  · exact .inl rfl
  · rename_i k off
    rw [Bool.and_eq_true, beq_iff_eq, beq_iff_eq] at h
    rw [h.1, h.2]; exact .inr rfl
  · cases h
theorem bCpS_ok (x b : V) (hc : bcOk x = true) : XOk vE 41 [.bxa 0 [x, b]] (.out false (.tup []) [[.box HL 0, b]]) :=
  XOk.out (copy_xc rfl x b (bc_cases hc))
theorem bStS_ok (x b : V) (hc : band (bcOk x) (bbOk b) = true) : XOk vE 32 [.bxa 0 [x, b]] (.out false (.str (bbS b)) [[x, bbN b]]) := by
  obtain ⟨h1, h2⟩ := band_true hc
  refine XOk.out ?_
  unfold bbOk at h2
  split at h2
  · exact string_nil_xc rfl x
  · rename_i e sh L xs
    rw [Bool.and_eq_true, Bool.and_eq_true, beq_iff_eq, beq_iff_eq] at h2
    obtain ⟨⟨rfl, h3⟩, rfl⟩ := h2
    have h3 := Kd.eqL_sound _ _ h3
    subst h3
    exact string_xc rfl x (by rcases bc_cases h1 with rfl | rfl <;> rfl) xs
  · cases h2
theorem bcat (a b : List UInt8) : lcat (bytesV a) (bytesV b) = bytesV (a ++ b) := by unfold lcat bytesV; simp
theorem bvb (l : List UInt8) : vbytes (bytesV l) = l := by
  unfold vbytes bytesV
  rw [List.map_map]
  refine (List.map_congr_left fun c _ => ?_).trans (List.map_id l)
  show UInt8.ofNat ((c.toNat : Int)).toNat = c
  rw [Int.toNat_natCast]; exact UInt8.ofNat_toNat
theorem bapp (a b : List UInt8) (h : a.length + b.length ≤ 16777216) : okApp (bytesV a) (bytesV b) = true := by
  rw [okApp_iff]; unfold bytesV; rw [List.length_map, List.length_map]; omega
theorem bnew (a : List UInt8) (h : a.length ≤ 16777216) : okNew (bytesV a) = true := by
  unfold okNew nle bytesV; rw [List.length_map]; exact decide_eq_true h
end Nt.Ev.Ytochbeiihhbmeaa

set_option linter.unusedVariables false
set_option linter.unusedSimpArgs false
set_option linter.unusedSectionVars false
namespace Nt.Ev.Ytochbeiihhbmeaa
open Go Nt.Num Go.Proofs.Ytochbeiihhbmeaa
open Nt.Lin
def linL (s : List UInt8) : List V := strsV (linP s)
def oddS (s : List UInt8) : Bool := s.any fun c => bnot (ieq (c.toNat : Int) 9) && (ilt (c.toNat : Int) 32 || ilt 126 (c.toNat : Int))
noncomputable def xOfS : FSpec := fun a => match a with | [.str s] => some (ile (slen s) 4000000, .sl 9 [.str] none (linL s)) | _ => none
noncomputable def xCfS : FSpec := fun a => match a with | [.str s, .fn f []] => some (band (f == 29) (ile (slen s) 4000000), .bool (oddS s)) | _ => none
noncomputable def xS0 : List (Nat × FSpec) := (10, xOfS) :: (30, xCfS) :: []
def ckP (s : List UInt8) : Int := sel (ilt 511 (slen s)) 9 (sel (oddS s) 7 0)
noncomputable def xCkS : FSpec := fun a => match a with | [.str s] => some (ile (slen s) 4000000, .int .i64 (ckP s)) | _ => none
noncomputable def xS1 : List (Nat × FSpec) := (12, xCkS) :: (13, xCkS) :: (11, xOfS) :: xS0
noncomputable def xSb : List (Nat × FSpec) := (GX + 41, bCpS) :: (GX + 32, bStS) :: []
set_option maxRecDepth 100000 in
theorem xOdd_top (F : Nat) (r : Int) (K : V → Option V) :
 evBd vE (evFn vE vS F 2) F 29 [(V.int .i32 r)] K =
 sel (bnot (ieq r 9))
 (sel (ilt r 32)
 (K (V.bool true))
 (K (V.bool (ilt 126 r))))
 (K (V.bool false)) := by kernel_rfl
noncomputable def xOf13_L0 (F : Nat) (ns : List Nat) (n : Nat) (x0 : List UInt8) (x3 : List V) (x4 : Int) (x5 : Int) (K : V → Option V) : Option V :=
 loopAt vE xS0 F 2 11 [1, 1, 1, 0, 1, 0] ns K n (mkSt 36 [(0, V.str x0), (2, V.sl 9 [(Kd.str)] (some 2) []), (3, V.sl 9 [(Kd.str)] (some 3) x3), (4, V.int .i64 x4), (5, V.int .i64 x5)] [])
set_option maxRecDepth 100000 in
theorem xOf13_top (F : Nat) (s : List UInt8) (K : V → Option V) :
 evBd vE (evFn vE xS0 F 2) F 11 [(V.str s)] K =
 xOf13_L0 F [] F s [] 0 0 K := by kernel_rfl
set_option maxRecDepth 100000 in
theorem xOf13_L0_succ (F : Nat) (n : Nat) (x0 : List UInt8) (x3 : List V) (x4 : Int) (x5 : Int) (K : V → Option V) :
 xOf13_L0 F [] (n + 1) x0 x3 x4 x5 K =
 sel (ilt x5 (slen x0))
 (sel (band (ile 0 x5) (ilt x5 (slen x0)))
 (sel (ieq (sat x0 x5) 10)
 (sel (band (band (ile 0 x5) (ile x5 (slen x0))) (band (ile 0 x4) (ile x4 x5)))
 (sel (okApp x3 [(V.str (ssub x0 x4 x5))])
 (xOf13_L0 F [] n x0 (lcat x3 [(V.str (ssub x0 x4 x5))]) (iadd .i64 x5 1) (iadd .i64 x5 1) K)
 (none))
 (none))
 (xOf13_L0 F [] n x0 x3 x4 (iadd .i64 x5 1) K))
 (none))
 (sel (ilt x4 (slen x0))
 (sel (band (ile 0 x4) (ile x4 (slen x0)))
 (sel (okApp x3 [(V.str (ssub x0 x4 (slen x0)))])
 (K (V.sl 9 [(Kd.str)] (some 34) (lcat x3 [(V.str (ssub x0 x4 (slen x0)))])))
 (none))
 (none))
 (K (V.sl 9 [(Kd.str)] (some 3) x3))) := by kernel_rfl
set_option maxRecDepth 100000 in
theorem xCheck_top (F : Nat) (s : List UInt8) (K : V → Option V) :
 evBd vE (evFn vE xS0 F 2) F 12 [(V.str s)] K =
 sel (ilt 511 (slen s))
 (K (V.int .i64 9))
 (sel (band true (ile (slen s) 4000000))
 (sel (oddS s)
 (K (V.int .i64 7))
 (K (V.int .i64 0)))
 (none)) := by kernel_rfl
noncomputable def xCheck13_L0 (F : Nat) (ns : List Nat) (n : Nat) (x0 : List UInt8) (x2 : Int) (x3 : Int) (K : V → Option V) : Option V :=
 loopAt vE xS0 F 2 13 [1, 1, 0, 1, 0] ns K n (mkSt 29 [(0, V.str x0), (2, V.int .i64 x2), (3, V.int .i64 x3)] [])
set_option maxRecDepth 100000 in
theorem xCheck13_top (F : Nat) (s : List UInt8) (K : V → Option V) :
 evBd vE (evFn vE xS0 F 2) F 13 [(V.str s)] K =
 sel (ilt 511 (slen s))
 (K (V.int .i64 9))
 (xCheck13_L0 F [] F s 0 0 K) := by kernel_rfl
set_option maxRecDepth 100000 in
theorem xCheck13_L0_succ (F : Nat) (n : Nat) (x0 : List UInt8) (x2 : Int) (x3 : Int) (K : V → Option V) :
 xCheck13_L0 F [] (n + 1) x0 x2 x3 K =
 sel (ilt x3 (slen x0))
 (sel (band (ile 0 x3) (ilt x3 (slen x0)))
 (sel (bnot (ieq (sat x0 x3) 9))
 (sel (band (ile 0 x3) (ilt x3 (slen x0)))
 (sel (ilt (sat x0 x3) 32)
 (K (V.int .i64 7))
 (sel (band (ile 0 x3) (ilt x3 (slen x0)))
 (sel (ilt 126 (sat x0 x3))
 (K (V.int .i64 7))
 (xCheck13_L0 F [] n x0 x2 (iadd .i64 x3 1) K))
 (none)))
 (none))
 (xCheck13_L0 F [] n x0 x2 (iadd .i64 x3 1) K))
 (none))
 (K (V.int .i64 0)) := by kernel_rfl
noncomputable def xFirst_L0 (F : Nat) (ns : List Nat) (n : Nat) (x0 : List UInt8) (x11 : List V) (x12 : Int) (x13 : Int) (b2_0 : Int) (b2_1 : Int) (K : V → Option V) : Option V :=
 loopAt vE xS1 F 2 14 [1, 1, 0, 1, 0] ns K n (mkSt 28 [(0, V.str x0), (2, (V.box 2 0)), (11, V.sl 9 [(Kd.str)] none x11), (12, V.int .i64 x12), (13, V.int .i64 x13)] [(2, [V.int .i64 b2_0, V.int .i64 b2_1])])
set_option maxRecDepth 100000 in
theorem xFirst_top (F : Nat) (s : List UInt8) (K : V → Option V) :
 evBd vE (evFn vE xS1 F 2) F 14 [(V.str s)] K =
 sel (ilt 1048576 (slen s))
 (K (V.agg [(V.int .i64 0), (V.int .i64 9)]))
 (sel (ile (slen s) 4000000)
 (xFirst_L0 F [] F s (linL s) (llen (linL s)) 0 0 0 K)
 (none)) := by kernel_rfl
set_option maxRecDepth 100000 in
theorem xFirst_L0_succ (F : Nat) (n : Nat) (x0 : List UInt8) (x11 : List V) (x12 : Int) (x13 : Int) (b2_0 : Int) (b2_1 : Int) (K : V → Option V) :
 xFirst_L0 F [] (n + 1) x0 x11 x12 x13 b2_0 b2_1 K =
 sel (ilt x13 x12)
 (sel (band (ile 0 x13) (ilt x13 (llen x11)))
 (sel (ile (slen (asStr (acell (lget x11 x13) 0))) 4000000)
 (sel (bnot (ieq (ckP (asStr (acell (lget x11 x13) 0))) 0))
 (K (V.agg [(V.int .i64 (iadd .i64 x13 1)), (V.int .i64 (ckP (asStr (acell (lget x11 x13) 0))))]))
 (xFirst_L0 F [] n x0 x11 x12 (iadd .i64 x13 1) b2_0 b2_1 K))
 (none))
 (none))
 (K (V.agg [(V.int .i64 0), (V.int .i64 0)])) := by kernel_rfl
noncomputable def xFirst13_L0 (F : Nat) (ns : List Nat) (n : Nat) (x0 : List UInt8) (x11 : List V) (x12 : Int) (x13 : Int) (b2_0 : Int) (b2_1 : Int) (K : V → Option V) : Option V :=
 loopAt vE xS1 F 2 15 [1, 1, 0, 1, 0] ns K n (mkSt 28 [(0, V.str x0), (2, (V.box 2 0)), (11, V.sl 9 [(Kd.str)] none x11), (12, V.int .i64 x12), (13, V.int .i64 x13)] [(2, [V.int .i64 b2_0, V.int .i64 b2_1])])
set_option maxRecDepth 100000 in
theorem xFirst13_top (F : Nat) (s : List UInt8) (K : V → Option V) :
 evBd vE (evFn vE xS1 F 2) F 15 [(V.str s)] K =
 sel (ilt 1048576 (slen s))
 (K (V.agg [(V.int .i64 0), (V.int .i64 9)]))
 (sel (ile (slen s) 4000000)
 (xFirst13_L0 F [] F s (linL s) (llen (linL s)) 0 0 0 K)
 (none)) := by kernel_rfl
set_option maxRecDepth 100000 in
theorem xFirst13_L0_succ (F : Nat) (n : Nat) (x0 : List UInt8) (x11 : List V) (x12 : Int) (x13 : Int) (b2_0 : Int) (b2_1 : Int) (K : V → Option V) :
 xFirst13_L0 F [] (n + 1) x0 x11 x12 x13 b2_0 b2_1 K =
 sel (ilt x13 x12)
 (sel (band (ile 0 x13) (ilt x13 (llen x11)))
 (sel (ile (slen (asStr (acell (lget x11 x13) 0))) 4000000)
 (sel (bnot (ieq (ckP (asStr (acell (lget x11 x13) 0))) 0))
 (K (V.agg [(V.int .i64 (iadd .i64 x13 1)), (V.int .i64 (ckP (asStr (acell (lget x11 x13) 0))))]))
 (xFirst13_L0 F [] n x0 x11 x12 (iadd .i64 x13 1) b2_0 b2_1 K))
 (none))
 (none))
 (K (V.agg [(V.int .i64 0), (V.int .i64 0)])) := by kernel_rfl
noncomputable def xJoin_L0 (F : Nat) (ns : List Nat) (n : Nat) (x0 : List V) (x6 : List V) (x7 : Int) (x8 : Int) (K : V → Option V) : Option V :=
 loopAt vE xSb F 3 16 [1, 1, 0, 1, 0] ns K n (mkSt 17 [(0, V.sl 9 [(Kd.str)] none x0), (2, V.str []), (3, (V.box 3 0)), (6, V.sl 9 [(Kd.str)] none x6), (7, V.int .i64 x7), (8, V.int .i64 x8)] [(3, [(V.nilp), (V.nilsl)])])
noncomputable def xJoin_L1 (F : Nat) (ns : List Nat) (n : Nat) (x0 : List V) (x6 : List V) (x7 : Int) (x8 : Int) (b3_1 : List V) (K : V → Option V) : Option V :=
 loopAt vE xSb F 3 16 [1, 1, 0, 1, 0] ns K n (mkSt 17 [(0, V.sl 9 [(Kd.str)] none x0), (2, V.str []), (3, (V.box 3 0)), (6, V.sl 9 [(Kd.str)] none x6), (7, V.int .i64 x7), (8, V.int .i64 x8)] [(3, [(V.box 3 0), V.sl 5 [(Kd.int .u8)] (some 40001) b3_1])])
set_option maxRecDepth 100000 in
theorem xJoin_top (F : Nat) (xs : List V) (K : V → Option V) :
 evBd vE (evFn vE xSb F 3) F 16 [(V.sl 9 [(Kd.str)] none xs)] K =
 xJoin_L0 F [] F xs xs (llen xs) 0 K := by kernel_rfl
set_option maxRecDepth 100000 in
theorem xJoin_L0_succ (F : Nat) (n : Nat) (x0 : List V) (x6 : List V) (x7 : Int) (x8 : Int) (K : V → Option V) :
 xJoin_L0 F [] (n + 1) x0 x6 x7 x8 K =
 sel (ilt x8 x7)
 (sel (band (ile 0 x8) (ilt x8 (llen x6)))
 (sel (okNew (bytesV (asStr (acell (lget x6 x8) 0))))
 (sel (okApp (bytesV (asStr (acell (lget x6 x8) 0))) (bytesV [10]))
 (xJoin_L1 F [] n x0 x6 x7 (iadd .i64 x8 1) (lcat (bytesV (asStr (acell (lget x6 x8) 0))) (bytesV [10])) K)
 (none))
 (none))
 (none))
 (K (V.str [])) := by kernel_rfl
set_option maxRecDepth 100000 in
theorem xJoin_L1_succ (F : Nat) (n : Nat) (x0 : List V) (x6 : List V) (x7 : Int) (x8 : Int) (b3_1 : List V) (K : V → Option V) :
 xJoin_L1 F [] (n + 1) x0 x6 x7 x8 b3_1 K =
 sel (ilt x8 x7)
 (sel (band (ile 0 x8) (ilt x8 (llen x6)))
 (sel (okApp b3_1 (bytesV (asStr (acell (lget x6 x8) 0))))
 (sel (okApp (lcat b3_1 (bytesV (asStr (acell (lget x6 x8) 0)))) (bytesV [10]))
 (xJoin_L1 F [] n x0 x6 x7 (iadd .i64 x8 1) (lcat (lcat b3_1 (bytesV (asStr (acell (lget x6 x8) 0)))) (bytesV [10])) K)
 (none))
 (none))
 (none))
 (K (V.str (vbytes b3_1))) := by kernel_rfl
noncomputable def xJoin13_L0 (F : Nat) (ns : List Nat) (n : Nat) (x0 : List V) (x3 : List UInt8) (x6 : List V) (x7 : Int) (x8 : Int) (K : V → Option V) : Option V :=
 loopAt vE xSb F 3 17 [1, 1, 0, 1, 0] ns K n (mkSt 18 [(0, V.sl 9 [(Kd.str)] none x0), (2, V.str []), (3, V.str x3), (6, V.sl 9 [(Kd.str)] none x6), (7, V.int .i64 x7), (8, V.int .i64 x8)] [])
set_option maxRecDepth 100000 in
theorem xJoin13_top (F : Nat) (xs : List V) (K : V → Option V) :
 evBd vE (evFn vE xSb F 3) F 17 [(V.sl 9 [(Kd.str)] none xs)] K =
 xJoin13_L0 F [] F xs [] xs (llen xs) 0 K := by kernel_rfl
set_option maxRecDepth 100000 in
theorem xJoin13_L0_succ (F : Nat) (n : Nat) (x0 : List V) (x3 : List UInt8) (x6 : List V) (x7 : Int) (x8 : Int) (K : V → Option V) :
 xJoin13_L0 F [] (n + 1) x0 x3 x6 x7 x8 K =
 sel (ilt x8 x7)
 (sel (band (ile 0 x8) (ilt x8 (llen x6)))
 (sel (okCat (asStr (acell (lget x6 x8) 0)) [10])
 (sel (okCat x3 (scat (asStr (acell (lget x6 x8) 0)) [10]))
 (xJoin13_L0 F [] n x0 (scat x3 (scat (asStr (acell (lget x6 x8) 0)) [10])) x6 x7 (iadd .i64 x8 1) K)
 (none))
 (none))
 (none))
 (K (V.str x3)) := by kernel_rfl
end Nt.Ev.Ytochbeiihhbmeaa

set_option linter.unusedVariables false
set_option linter.unusedSimpArgs false
set_option linter.unusedSectionVars false
namespace Nt.Ev.Ytochbeiihhbmeaa
open Go Go.RowKit Nt Nt.Num Nt.Lin Go.Proofs.Ytochbeiihhbmeaa
theorem new_at {G : Known} {w w' : World} (hG : GOk G w) {b : Nat} {c : Array Value} {e : TypeId} {fr : Nat × Nat} (hB : Below w.heap.size w w') (hb : w.heap.size ≤ b) (hh : w'.heap[b]? = some (.cells c e fr)) (n : Nat) (hn : n ≤ c.size) :
    New w w' G (upd G b (c.toList.take n)) := by
  refine ⟨hB, fun b' hb' => upd_other _ _ _ _ (by omega), ?_⟩
  intro b' l h
  by_cases e' : b' = b
  · subst e'
    rw [upd_same] at h
    simp only [Option.some.injEq] at h
    subst h
    refine ⟨c, e, fr, hh, ?_⟩
    have e1 : c.toList.length = c.size := by simp
    rw [List.length_take, e1, Nat.min_eq_left hn]
  · rw [upd_other _ _ _ _ e'] at h
    obtain ⟨c', e2, fr', hc, ht⟩ := hG b' l h
    exact ⟨c', e2, fr', by rw [hB.block b' (known_lt hG h)]; exact hc, ht⟩
theorem own_strs {G : Known} {w w' : World} (hG : GOk G w) {v : Value} {e : TypeId} (L : List (List UInt8)) (hB : Below w.heap.size w w') (h : w'.ownsRow w.heap.size e 1 v L.length (strVals L)) :
    ∃ G', New w w' G G' ∧ rep G' (.sl e [.str] none (strsV L)) v := by
  rcases h.2 with ⟨rfl, h0⟩ | ⟨g, cap, cur, rfl, hg, hh, hc, hm, hs, ht⟩
  · refine ⟨G, ⟨hB, fun _ _ => rfl, fun b l hl => ?_⟩, ?_⟩
    · obtain ⟨c, e, fr, hc, ht⟩ := hG b l hl
      exact ⟨c, e, fr, by rw [hB.block b (known_lt hG hl)]; exact hc, ht⟩
    · have : L = [] := List.eq_nil_of_length_eq_zero h0
      subst this
      unfold rep
      exact ⟨none, 0, rfl, Nat.le_refl _, .inl rfl⟩
  · refine ⟨_, new_at hG hB hg hh L.length (by omega), ?_⟩
    unfold rep
    refine ⟨some ⟨g, 0, none⟩, cap, by rw [strsV_len], by rw [strsV_len]; exact hc, .inr ⟨g, 0, _, rfl, upd_same _ _ _, ?_⟩⟩
    rw [Nat.mul_one] at ht
    rw [ht, List.drop_zero]
    have := repE_strs (G := upd G g (strVals L)) L []
    rw [List.append_nil] at this
    exact this
theorem xOfS_ok (s : List UInt8) (hc : ile (slen s) 4000000 = true) : Contract vE 10 [.str s] (.sl 9 [.str] none (linL s)) := by
  intro G w vs hG hg hp
  obtain ⟨x, rfl, hx⟩ := PW_one hp
  unfold rep at hx
  subst hx
  rw [ile_iff, slen_nat] at hc
  refine (callsIn_wide.1 (of_in s (by omega) w)).mono ?_
  rintro e w' ⟨v, rfl, hr, hB⟩
  obtain ⟨G', hN, hrep⟩ := own_strs hG (linP s) hB hr
  exact ⟨v, G', rfl, hN, hrep⟩
def oddR (r : Int) : Bool := sel (bnot (ieq r 9)) (sel (ilt r 32) true (ilt 126 r)) false
theorem xOdd_ev (r : Int) : Contract vE 29 [.int .i32 r] (.bool (oddR r)) := by
  refine contract_of_body vE_ok vS_ok 1 2 ?_
  rw [xOdd_top]
  unfold oddR
  cases bnot (ieq r 9) <;> cases ilt r 32 <;> rfl
theorem idx_odd (s : ByteArray) : ∀ (f pos : Nat), pos ≤ s.size → s.size - pos ≤ f → decide (0 ≤ Go.Lib.idxFuncFrom (fun r => oddR (r : Int)) true s f pos) = (s.data.toList.drop pos).any fun c => oddR (c.toNat : Int)
  | 0, pos, h1, h2 => by
    rw [List.drop_of_length_le (by rw [Array.length_toList]; exact (show s.size ≤ pos by omega))]; rfl
  | f + 1, pos, h1, h2 => by
    unfold Go.Lib.idxFuncFrom
    by_cases hp : pos < s.size
    · rw [if_pos hp]
      have hl : pos < s.data.toList.length := by rw [Array.length_toList]; exact hp
      have hd : s.data.toList.drop pos = s.data.toList[pos] :: s.data.toList.drop (pos + 1) := List.drop_eq_getElem_cons hl
      have hb : s.data.toList[pos] = s[pos]'hp := by simp; rfl
      rw [hd, List.any_cons, hb]
      by_cases h : (s[pos]'hp).toNat < 128
      · rw [decode_ascii s pos hp h]
        cases ho : oddR (((s[pos]'hp).toNat : Nat) : Int) with
        | true => rw [if_pos rfl]; simp
        | false =>
          rw [if_neg (by decide), Bool.false_or]
          exact idx_odd s f (pos + 1) (by omega) (by omega)
      · have hi := (decode_high s pos hp (by omega)).1
        have e1 : ∀ n : Nat, 128 ≤ n → oddR (n : Int) = true := fun n hn => by
          unfold oddR
          rw [ieq_f (by omega), ilt_t (show (126 : Int) < (n : Int) by omega)]
          cases ilt (n : Int) 32 <;> rfl
        rw [if_pos (e1 _ hi), e1 _ (by omega)]; simp
    · rw [if_neg hp, List.drop_of_length_le (by rw [Array.length_toList]; exact (show s.size ≤ pos by omega))]; rfl
theorem odd_any (s : List UInt8) : (s.any fun c => oddR (c.toNat : Int)) = oddS s := by
  unfold oddS
  congr 1
  funext c
  unfold oddR
  cases bnot (ieq (c.toNat : Int) 9) <;> cases ilt (c.toNat : Int) 32 <;> cases ilt 126 (c.toNat : Int) <;> rfl
theorem xCfS_ok (s : List UInt8) (f : Nat) (hc : band (f == 29) (ile (slen s) 4000000) = true) : Contract vE 30 [.str s, .fn f []] (.bool (oddS s)) := by
  obtain ⟨h1, h2⟩ := band_true hc
  obtain rfl : f = 29 := by simpa using h1
  refine contract_old fun G w vs hG hg hp => ?_
  obtain ⟨x, y, rfl, hx, hy⟩ := PW_two hp
  unfold rep at hx hy
  obtain ⟨rfl, _⟩ := hy
  subst hx
  have hp : Go.Proofs.PredGrows Go.Proofs.Try.prog 29 #[] (fun r => oddR (r : Int)) w := by
    intro W x _ hb
    refine (xOdd_ev (x : Int) G W [.int .i32 x] ?_ ?_ ?_).mono ?_
    · intro b l hl
      obtain ⟨c, e, fr, hc, ht⟩ := hG b l hl
      exact ⟨c, e, fr, by rw [hb.block b (known_lt hG hl)]; exact hc, ht⟩
    · exact hg
    · exact .cons (by unfold rep; rfl) .nil
    · rintro e w' ⟨v, G', rfl, hN, hr⟩
      simp only [resrep, sres] at hr
      unfold rep at hr
      subst hr
      exact ⟨rfl, hN.1⟩
  refine (Go.Proofs.Try.strings_ContainsFunc_grows _ #[] (Go.Proofs.enters_of Go.Proofs.Try.func29 (by kernel_rfl) rfl) _ ⟨s.toArray⟩ w hp).mono ?_
  rintro e w' ⟨rfl, hb⟩
  refine ⟨_, rfl, hb, ?_⟩
  have : decide (0 ≤ Go.Lib.idxFunc (fun r => oddR (r : Int)) true ⟨s.toArray⟩) = oddS s := by
    rw [← odd_any]
    have := idx_odd ⟨s.toArray⟩ (⟨s.toArray⟩ : ByteArray).size 0 (Nat.zero_le _) (by omega)
    rw [List.drop_zero] at this
    exact this
  rw [this]
  exact res_bool _
theorem xS0_ok : SOk vE xS0 := by
  unfold xS0
  refine SOk.cons (fun args r h => ?_) (SOk.cons (fun args r h => ?_) (SOk.nil))
  · unfold xOfS at h
    split at h
    · simp only [Option.some.injEq, Prod.mk.injEq] at h
      obtain ⟨hc, rfl⟩ := h
      exact xOfS_ok _ hc
    · cases h
  · unfold xCfS at h
    split at h
    · simp only [Option.some.injEq, Prod.mk.injEq] at h
      obtain ⟨hc, rfl⟩ := h
      exact xCfS_ok _ _ hc
    · cases h
theorem of13_loop (F : Nat) (s : List UInt8) (hs : s.length ≤ 4000000) : ∀ (j i n a : Nat) (out : List (List UInt8)), i + j = s.length → j < n → a ≤ i → out.length ≤ i →
    ∃ o, xOf13_L0 F [] n s (strsV out) (a : Int) (i : Int) some = some (V.sl 9 [.str] o (strsV (out ++ linR (s.drop i) ((s.drop a).take (i - a))))) := by
  intro j
  induction j with
  | zero =>
    intro i n a out hi hn ha ho
    obtain ⟨n, rfl⟩ : ∃ m, n = m + 1 := ⟨n - 1, by omega⟩
    rw [xOf13_L0_succ, sel_neg (ilt_f (by rw [slen_nat]; omega)), List.drop_of_length_le (show s.length ≤ i by omega)]
    have e1 : (s.drop a).take (i - a) = s.drop a := List.take_of_length_le (by rw [List.length_drop]; omega)
    rw [e1]
    by_cases h : a < s.length
    · have e2 : ssub s (a : Int) (slen s) = s.drop a := by unfold ssub; rw [Int.toNat_natCast, show (slen s).toNat = s.length by rw [slen_nat, Int.toNat_natCast]]; exact List.take_of_length_le (by rw [List.length_drop]; omega)
      have k2 : okApp (strsV out) [V.str (s.drop a)] = true := by rw [okApp_iff, strsV_len]; simp only [List.length_cons, List.length_nil]; omega
      rw [sel_pos (ilt_t (by rw [slen_nat]; omega)), sel_pos (by rw [band_iff, ile_iff, ile_iff, slen_nat]; omega), e2, k2, lcat_str]
      refine ⟨some 34, ?_⟩
      have e3 : linR [] (s.drop a) = [s.drop a] := by
        have : s.drop a ≠ [] := by intro h2; have := congrArg List.length h2; rw [List.length_drop, List.length_nil] at this; omega
        cases hq : s.drop a with
        | nil => exact absurd hq this
        | cons _ _ => rfl
      rw [e3]; rfl
    · have e2 : s.drop a = [] := List.drop_of_length_le (by omega)
      rw [sel_neg (ilt_f (by rw [slen_nat]; omega)), e2]
      exact ⟨some 3, by rw [show linR [] [] = [] from rfl, List.append_nil]⟩
  | succ j ih =>
    intro i n a out hi hn ha ho
    obtain ⟨n, rfl⟩ : ∃ m, n = m + 1 := ⟨n - 1, by omega⟩
    have hil : i < s.length := by omega
    have hd := drop_get s i hil
    have hsat : sat s (i : Int) = ((s.getD i 0).toNat : Int) := by unfold sat; rw [Int.toNat_natCast]
    have hid : iadd .i64 (i : Int) 1 = ((i + 1 : Nat) : Int) := by rw [iadd64 (by omega)]; omega
    rw [xOf13_L0_succ, sel_pos (ilt_t (by rw [slen_nat]; omega)), sel_pos (by rw [band_iff, ile_iff, ilt_iff, slen_nat]; omega), hsat, hid, hd]
    by_cases hc : s.getD i 0 = 10
    · have e1 : ieq (((s.getD i 0).toNat : Nat) : Int) 10 = true := by rw [hc]; rfl
      have e2 : ssub s (a : Int) (i : Int) = (s.drop a).take (i - a) := by unfold ssub; rw [Int.toNat_natCast, Int.toNat_natCast]
      have k2 : okApp (strsV out) [V.str ((s.drop a).take (i - a))] = true := by rw [okApp_iff, strsV_len]; simp only [List.length_cons, List.length_nil]; omega
      rw [e1, e2, k2, sel_pos (show true = true from rfl), sel_pos (by rw [band_iff, band_iff, band_iff, ile_iff, ile_iff, ile_iff, ile_iff, slen_nat]; omega), lcat_str]
      obtain ⟨o, ho'⟩ := ih (i + 1) n (i + 1) (out ++ [(s.drop a).take (i - a)]) (by omega) (by omega) (by omega) (by rw [List.length_append, List.length_cons, List.length_nil]; omega)
      refine ⟨o, ?_⟩
      rw [sel_pos (show true = true from rfl), ho', hc]
      show _ = some (V.sl _ _ o (strsV (out ++ (bif (10 : UInt8) == 10 then (s.drop a).take (i - a) :: linR (s.drop (i + 1)) [] else _))))
      rw [show ((10 : UInt8) == 10) = true from rfl, cond_true, Nat.sub_self, List.take_zero, List.append_assoc]; rfl
    · have e1 : ieq (((s.getD i 0).toNat : Nat) : Int) 10 = false := ieq_f (fun h => hc (UInt8.toNat_inj.1 (by have : (s.getD i 0).toNat = 10 := by omega
                                                                                                               exact this)))
      rw [e1]
      obtain ⟨o, ho'⟩ := ih (i + 1) n a out (by omega) (by omega) (by omega) (by omega)
      refine ⟨o, ?_⟩
      rw [sel_neg (show false = false from rfl), ho']
      have e3 : (s.getD i 0 == 10) = false := by rw [beq_eq_false_iff_ne]; exact hc
      show _ = some (V.sl _ _ o (strsV (out ++ (bif s.getD i 0 == 10 then _ else linR (s.drop (i + 1)) ((s.drop a).take (i - a) ++ [s.getD i 0])))))
      rw [e3, cond_false, mid_next s a i ha hil]
theorem xOfS_ok_noontideref13_Of (s : List UInt8) (hc : ile (slen s) 4000000 = true) : Contract vE 11 [.str s] (.sl 9 [.str] none (linL s)) := by
  rw [ile_iff, slen_nat] at hc
  obtain ⟨o, h⟩ := of13_loop (s.length + 1) s (by omega) s.length 0 (s.length + 1) 0 [] (by omega) (by omega) (by omega) (by simp)
  refine contract_drop1 (o := o) (contract_of_body vE_ok xS0_ok (s.length + 1) 2 ?_)
  rw [xOf13_top]
  exact h
theorem xCkS_ok (s : List UInt8) (hc : ile (slen s) 4000000 = true) : Contract vE 12 [.str s] (.int .i64 (ckP s)) := by
  refine contract_of_body vE_ok xS0_ok 1 2 ?_
  rw [xCheck_top, hc]
  unfold ckP
  cases ilt 511 (slen s) <;> cases oddS s <;> rfl
theorem ck13_loop (F : Nat) (s : List UInt8) (x2 : Int) (hs : s.length ≤ 4000000) : ∀ (j i n : Nat), i + j = s.length → j < n →
    xCheck13_L0 F [] n s x2 (i : Int) some = some (.int .i64 (sel (oddS (s.drop i)) 7 0)) := by
  intro j
  induction j with
  | zero =>
    intro i n hi hn
    obtain ⟨n, rfl⟩ : ∃ m, n = m + 1 := ⟨n - 1, by omega⟩
    rw [xCheck13_L0_succ, sel_neg (ilt_f (by rw [slen_nat]; omega)), List.drop_of_length_le (show s.length ≤ i by omega)]; rfl
  | succ j ih =>
    intro i n hi hn
    obtain ⟨n, rfl⟩ : ∃ m, n = m + 1 := ⟨n - 1, by omega⟩
    have hil : i < s.length := by omega
    have hd := drop_get s i hil
    have hsat : sat s (i : Int) = ((s.getD i 0).toNat : Int) := by unfold sat; rw [Int.toNat_natCast]
    have hid : iadd .i64 (i : Int) 1 = ((i + 1 : Nat) : Int) := by rw [iadd64 (by omega)]; omega
    have k1 : band (ile 0 (i : Int)) (ilt (i : Int) (slen s)) = true := by rw [band_iff, ile_iff, ilt_iff, slen_nat]; omega
    rw [xCheck13_L0_succ, k1, sel_pos (ilt_t (by rw [slen_nat]; omega)), hsat, hid, ih (i + 1) n (by omega) (by omega), hd]
    have e : oddS (s.getD i 0 :: s.drop (i + 1)) = (bnot (ieq ((s.getD i 0).toNat : Int) 9) && (ilt ((s.getD i 0).toNat : Int) 32 || ilt 126 ((s.getD i 0).toNat : Int)) || oddS (s.drop (i + 1))) := rfl
    rw [e]
    cases bnot (ieq ((s.getD i 0).toNat : Int) 9) <;> cases ilt ((s.getD i 0).toNat : Int) 32 <;> cases ilt 126 ((s.getD i 0).toNat : Int) <;> cases oddS (s.drop (i + 1)) <;> rfl
theorem xCkS_ok_noontideref13_Check (s : List UInt8) (hc : ile (slen s) 4000000 = true) : Contract vE 13 [.str s] (.int .i64 (ckP s)) := by
  rw [ile_iff, slen_nat] at hc
  refine contract_of_body vE_ok xS0_ok (s.length + 1) 2 ?_
  rw [xCheck13_top]
  unfold ckP
  cases ilt 511 (slen s) with
  | true => rfl
  | false =>
    have := ck13_loop (s.length + 1) s 0 (by omega) s.length 0 (s.length + 1) (by omega) (by omega)
    rw [List.drop_zero] at this
    rw [sF', sF']
    exact this
theorem xS1_ok : SOk vE xS1 := by
  unfold xS1
  refine SOk.cons (fun args r h => ?_) (SOk.cons (fun args r h => ?_) (SOk.cons (fun args r h => ?_) (xS0_ok)))
  · unfold xCkS at h
    split at h
    · simp only [Option.some.injEq, Prod.mk.injEq] at h
      obtain ⟨hc, rfl⟩ := h
      exact xCkS_ok _ hc
    · cases h
  · unfold xCkS at h
    split at h
    · simp only [Option.some.injEq, Prod.mk.injEq] at h
      obtain ⟨hc, rfl⟩ := h
      exact xCkS_ok_noontideref13_Check _ hc
    · cases h
  · unfold xOfS at h
    split at h
    · simp only [Option.some.injEq, Prod.mk.injEq] at h
      obtain ⟨hc, rfl⟩ := h
      exact xOfS_ok_noontideref13_Of _ hc
    · cases h
def fiP : List (List UInt8) → Nat → Int × Int
  | [], _ => (0, 0)
  | x :: l, i => bif ieq (ckP x) 0 then fiP l (i + 1) else ((i : Int) + 1, ckP x)
theorem fiP_cons (x : List UInt8) (l : List (List UInt8)) (i : Nat) : fiP (x :: l) i = bif ieq (ckP x) 0 then fiP l (i + 1) else ((i : Int) + 1, ckP x) := rfl
def fiS (s : List UInt8) : Int × Int := sel (ilt 1048576 (slen s)) (0, 9) (fiP (linP s) 0)
theorem first_gen (L : Nat → Int → Option V) (xs : List (List UInt8)) (hs : ∀ x ∈ xs, x.length ≤ 4000000) (hm : xs.length ≤ 4000000)
    (h0 : ∀ n, L (n + 1) (xs.length : Int) = some (V.agg [.int .i64 0, .int .i64 0]))
    (h1 : ∀ (n i : Nat) (hi : i < xs.length), L (n + 1) (i : Int) = sel (bnot (ieq (ckP xs[i]) 0)) (some (V.agg [.int .i64 ((i : Int) + 1), .int .i64 (ckP xs[i])])) (L n ((i + 1 : Nat) : Int))) :
    ∀ (j i n : Nat), i + j = xs.length → j < n → L n (i : Int) = some (V.agg [.int .i64 (fiP (xs.drop i) i).1, .int .i64 (fiP (xs.drop i) i).2]) := by
  intro j
  induction j with
  | zero =>
    intro i n hi hn
    obtain ⟨n, rfl⟩ : ∃ m, n = m + 1 := ⟨n - 1, by omega⟩
    rw [show i = xs.length by omega, h0, List.drop_of_length_le (Nat.le_refl _)]; rfl
  | succ j ih =>
    intro i n hi hn
    obtain ⟨n, rfl⟩ : ∃ m, n = m + 1 := ⟨n - 1, by omega⟩
    rw [h1 n i (by omega), ih (i + 1) n (by omega) (by omega), List.drop_eq_getElem_cons (by omega : i < xs.length)]
    rw [fiP_cons]
    cases ieq (ckP xs[i]) 0 <;> rfl
theorem lin_len (s : List UInt8) : ∀ x ∈ linP s, x.length ≤ s.length := by
  have key : ∀ (t cur : List UInt8), ∀ x ∈ linR t cur, x.length ≤ cur.length + t.length := by
    intro t
    induction t with
    | nil =>
      intro cur x hx
      unfold linR at hx
      split at hx
      · cases hx
      · rw [List.mem_singleton] at hx; subst hx; simp
    | cons c t ih =>
      intro cur x hx
      have hx : x ∈ (bif c == 10 then cur :: linR t [] else linR t (cur ++ [c])) := hx
      cases hc : c == 10 with
      | true =>
        rw [hc, cond_true, List.mem_cons] at hx
        rcases hx with rfl | hx
        · simp
        · have := ih [] x hx; simp only [List.length_nil, List.length_cons] at *; omega
      | false =>
        rw [hc, cond_false] at hx
        have := ih _ x hx
        rw [List.length_append] at this
        simp only [List.length_cons, List.length_nil] at *
        omega
  intro x hx
  have := key s [] x hx
  simpa using this
theorem lin_few (s : List UInt8) : (linP s).length ≤ s.length := by
  rw [lin_ln (s.length + 1) s (by omega), List.length_map]
  exact ln_len (s.length + 1) s (by omega)
theorem strs_get (L : List (List UInt8)) (i : Nat) (h : i < L.length) : asStr (acell (lget (strsV L) (i : Int)) 0) = L[i] := by
  unfold lget strsV
  rw [Int.toNat_natCast, List.getD_eq_getElem?_getD, List.getElem?_map, List.getElem?_eq_getElem h]; rfl
theorem strs_llen (L : List (List UInt8)) : llen (strsV L) = (L.length : Int) := by rw [llen_nat, strsV_len]
theorem xFiS_ok (s : List UInt8) (hc : ile (slen s) 4000000 = true) : Contract vE 14 [.str s] (.agg [.int .i64 (fiS s).1, .int .i64 (fiS s).2]) := by
  have hl := hc
  rw [ile_iff, slen_nat] at hl
  have hf := lin_few s
  refine contract_of_body vE_ok xS1_ok (s.length + 1) 2 ?_
  rw [xFirst_top, hc]
  unfold fiS
  cases ilt 1048576 (slen s) with
  | true => rfl
  | false =>
    have e : llen (linL s) = ((linP s).length : Int) := strs_llen _
    rw [sF', sF', sT', e]
    refine first_gen (fun n i => xFirst_L0 (s.length + 1) [] n s (linL s) ((linP s).length : Int) i 0 0 some) (linP s) (fun x hx => Nat.le_trans (lin_len s x hx) (by omega)) (by omega) (fun n => ?_) (fun n i hi => ?_) (linP s).length 0 (s.length + 1) (by omega) (by omega)
    · show xFirst_L0 _ _ _ _ _ _ _ _ _ _ = _
      rw [xFirst_L0_succ, sel_neg (ilt_f (by omega))]
    · show xFirst_L0 _ _ _ _ _ _ _ _ _ _ = _
      have e2 : asStr (acell (lget (linL s) (i : Int)) 0) = (linP s)[i] := strs_get _ i hi
      have h3 := lin_len s _ (List.getElem_mem hi)
      have k : ile (slen (linP s)[i]) 4000000 = true := ile_t (by rw [slen_nat]; omega)
      rw [xFirst_L0_succ, sel_pos (ilt_t (by omega)), sel_pos (by rw [band_iff, ile_iff, ilt_iff, e]; omega), e2, k, iadd64 (by omega), show (i : Int) + 1 = ((i + 1 : Nat) : Int) by omega]; rfl
theorem xFiS_ok_noontideref13_First (s : List UInt8) (hc : ile (slen s) 4000000 = true) : Contract vE 15 [.str s] (.agg [.int .i64 (fiS s).1, .int .i64 (fiS s).2]) := by
  have hl := hc
  rw [ile_iff, slen_nat] at hl
  have hf := lin_few s
  refine contract_of_body vE_ok xS1_ok (s.length + 1) 2 ?_
  rw [xFirst13_top, hc]
  unfold fiS
  cases ilt 1048576 (slen s) with
  | true => rfl
  | false =>
    have e : llen (linL s) = ((linP s).length : Int) := strs_llen _
    rw [sF', sF', sT', e]
    refine first_gen (fun n i => xFirst13_L0 (s.length + 1) [] n s (linL s) ((linP s).length : Int) i 0 0 some) (linP s) (fun x hx => Nat.le_trans (lin_len s x hx) (by omega)) (by omega) (fun n => ?_) (fun n i hi => ?_) (linP s).length 0 (s.length + 1) (by omega) (by omega)
    · show xFirst13_L0 _ _ _ _ _ _ _ _ _ _ = _
      rw [xFirst13_L0_succ, sel_neg (ilt_f (by omega))]
    · show xFirst13_L0 _ _ _ _ _ _ _ _ _ _ = _
      have e2 : asStr (acell (lget (linL s) (i : Int)) 0) = (linP s)[i] := strs_get _ i hi
      have h3 := lin_len s _ (List.getElem_mem hi)
      have k : ile (slen (linP s)[i]) 4000000 = true := ile_t (by rw [slen_nat]; omega)
      rw [xFirst13_L0_succ, sel_pos (ilt_t (by omega)), sel_pos (by rw [band_iff, ile_iff, ilt_iff, e]; omega), e2, k, iadd64 (by omega), show (i : Int) + 1 = ((i + 1 : Nat) : Int) by omega]; rfl
theorem xSb_ok : SOk vE xSb := by
  unfold xSb
  refine SOk.consX (fun args r h => ?_) (SOk.consX (fun args r h => ?_) (SOk.nil))
  · unfold bCpS at h
    split at h
    · simp only [Option.some.injEq, Prod.mk.injEq] at h
      obtain ⟨hc, rfl⟩ := h
      exact bCpS_ok _ _ hc
    · cases h
  · unfold bStS at h
    split at h
    · simp only [Option.some.injEq, Prod.mk.injEq] at h
      obtain ⟨hc, rfl⟩ := h
      exact bStS_ok _ _ hc
    · cases h
def joF (l : List (List UInt8)) : List UInt8 := (l.map fun x => x ++ [10]).flatten
def joT (xs : List V) : List UInt8 := joF (strsOf xs)
def joC (xs : List V) : Bool := decide ((joT xs).length ≤ 4000000 ∧ xs.length ≤ 4000000)
theorem joF_cons (x : List UInt8) (l : List (List UInt8)) : joF (x :: l) = x ++ [10] ++ joF l := rfl
theorem jo1 (F : Nat) (xs : List V) (hx : xs.length ≤ 4000000) : ∀ (j i n : Nat) (b : List UInt8), i + j = xs.length → j < n → b.length + (joF ((strsOf xs).drop i)).length ≤ 9000000 →
    xJoin_L1 F [] n xs xs (llen xs) (i : Int) (bytesV b) some = some (.str (b ++ joF ((strsOf xs).drop i))) := by
  intro j
  induction j with
  | zero =>
    intro i n b hi hn hl
    obtain ⟨n, rfl⟩ : ∃ m, n = m + 1 := ⟨n - 1, by omega⟩
    rw [xJoin_L1_succ, sel_neg (ilt_f (by rw [llen_nat]; omega)), bvb, List.drop_of_length_le (by rw [vs_len]; omega), show joF [] = [] from rfl, List.append_nil]
  | succ j ih =>
    intro i n b hi hn hl
    obtain ⟨n, rfl⟩ : ∃ m, n = m + 1 := ⟨n - 1, by omega⟩
    rw [vs_drop xs i (by omega)] at hl ⊢
    generalize hq : asStr (acell (lget xs (i : Int)) 0) = x at hl ⊢
    rw [joF_cons] at hl ⊢
    simp only [List.length_append, List.length_cons, List.length_nil] at hl
    rw [xJoin_L1_succ, sel_pos (ilt_t (by rw [llen_nat]; omega)), sel_pos (by rw [band_iff, ile_iff, ilt_iff, llen_nat]; omega), hq, sel_pos (bapp b x (by omega)), bcat, sel_pos (bapp (b ++ x) [10] (by rw [List.length_append]; simp only [List.length_cons, List.length_nil]; omega)), bcat, iadd64 (by omega), show (i : Int) + 1 = ((i + 1 : Nat) : Int) by omega,
      ih (i + 1) n _ (by omega) (by omega) (by simp only [List.length_append, List.length_cons, List.length_nil]; omega)]
    simp only [List.append_assoc]
theorem xJoS_ok (xs : List V) (hc : joC xs = true) : Contract vE 16 [.sl 9 [.str] none xs] (.str (joT xs)) := by
  unfold joC at hc
  rw [decide_eq_true_iff] at hc
  refine contract_of_body vE_ok xSb_ok (xs.length + 1) 3 ?_
  rw [xJoin_top]
  unfold joT at *
  match xs, hc with
  | [], _ => rfl
  | y :: l, hc =>
    have e0 := vs_drop (y :: l) 0 (by simp)
    rw [List.drop_zero, Nat.zero_add] at e0
    generalize hq : asStr (acell (lget (y :: l) ((0 : Nat) : Int)) 0) = x at e0
    rw [e0] at hc ⊢
    rw [joF_cons] at hc ⊢
    simp only [List.length_append, List.length_cons, List.length_nil] at hc
    have hq' : asStr (acell (lget (y :: l) 0) 0) = x := hq
    rw [show (y :: l).length + 1 = (y :: l).length + 1 from rfl, xJoin_L0_succ, sel_pos (ilt_t (by rw [llen_nat, List.length_cons]; omega)), sel_pos (by rw [band_iff, ile_iff, ilt_iff, llen_nat, List.length_cons]; omega), hq', sel_pos (bnew x (by omega)), sel_pos (bapp x [10] (by simp only [List.length_cons, List.length_nil]; omega)), bcat, show iadd .i64 0 1 = ((1 : Nat) : Int) from rfl,
      jo1 _ (y :: l) (by rw [List.length_cons]; omega) l.length 1 _ _ (by rw [List.length_cons]; omega) (by rw [List.length_cons]; omega) (by simp only [List.length_append, List.length_cons, List.length_nil]; omega)]
theorem jo13 (F : Nat) (xs : List V) (hx : xs.length ≤ 4000000) : ∀ (j i n : Nat) (b : List UInt8), i + j = xs.length → j < n → b.length + (joF ((strsOf xs).drop i)).length ≤ 9000000 →
    xJoin13_L0 F [] n xs b xs (llen xs) (i : Int) some = some (.str (b ++ joF ((strsOf xs).drop i))) := by
  intro j
  induction j with
  | zero =>
    intro i n b hi hn hl
    obtain ⟨n, rfl⟩ : ∃ m, n = m + 1 := ⟨n - 1, by omega⟩
    rw [xJoin13_L0_succ, sel_neg (ilt_f (by rw [llen_nat]; omega)), List.drop_of_length_le (by rw [vs_len]; omega), show joF [] = [] from rfl, List.append_nil]
  | succ j ih =>
    intro i n b hi hn hl
    obtain ⟨n, rfl⟩ : ∃ m, n = m + 1 := ⟨n - 1, by omega⟩
    rw [vs_drop xs i (by omega)] at hl ⊢
    generalize hq : asStr (acell (lget xs (i : Int)) 0) = x at hl ⊢
    rw [joF_cons] at hl ⊢
    simp only [List.length_append, List.length_cons, List.length_nil] at hl
    have k1 : okCat x [10] = true := by rw [okCat_iff]; simp only [List.length_cons, List.length_nil]; omega
    have k2 : okCat b (scat x [10]) = true := by rw [okCat_iff]; unfold scat; simp only [List.length_append, List.length_cons, List.length_nil]; omega
    rw [xJoin13_L0_succ, sel_pos (ilt_t (by rw [llen_nat]; omega)), sel_pos (by rw [band_iff, ile_iff, ilt_iff, llen_nat]; omega), hq, k1, k2, iadd64 (by omega), show (i : Int) + 1 = ((i + 1 : Nat) : Int) by omega]
    show xJoin13_L0 F [] n xs (b ++ (x ++ [10])) xs (llen xs) ((i + 1 : Nat) : Int) some = _
    rw [ih (i + 1) n _ (by omega) (by omega) (by simp only [List.length_append, List.length_cons, List.length_nil]; omega)]
    simp only [List.append_assoc]
theorem xJoS_ok_noontideref13_Join (xs : List V) (hc : joC xs = true) : Contract vE 17 [.sl 9 [.str] none xs] (.str (joT xs)) := by
  unfold joC at hc
  rw [decide_eq_true_iff] at hc
  refine contract_of_body vE_ok xSb_ok (xs.length + 1) 3 ?_
  rw [xJoin13_top]
  have := jo13 (xs.length + 1) xs (by omega) xs.length 0 (xs.length + 1) [] (by omega) (by omega) (by rw [List.drop_zero]; have := hc.1; unfold joT at this; simp only [List.length_nil]; omega)
  rw [List.drop_zero, List.nil_append] at this
  exact this
end Nt.Ev.Ytochbeiihhbmeaa

set_option linter.unusedVariables false
set_option linter.unusedSimpArgs false
set_option linter.unusedSectionVars false
namespace Nt.Ev.Ytochbeiihhbmeaa
open Go Nt.Num Go.Proofs.Ytochbeiihhbmeaa
open Nt.Lin
def fiL (s : List UInt8) : Int := (fiS s).1
def fiE (s : List UInt8) : Int := (fiS s).2
noncomputable def xFiS : FSpec := fun a => match a with | [.str s] => some (ile (slen s) 4000000, .agg [.int .i64 (fiL s), .int .i64 (fiE s)]) | _ => none
noncomputable def xJoS : FSpec := fun a => match a with | [.sl 9 [.str] none xs] => some (joC xs, .str (joT xs)) | _ => none
noncomputable def xSmS : FSpec := fun a => match a with | [.sl 9 [.str] none xs, .sl 9 [.str] none ys] => some (ile (llen xs) 1000000000, .bool (sameL xs ys)) | _ => none
noncomputable def xLvS : FSpec := fun a => match a with | [] => some (true, .bool true) | _ => none
noncomputable def xLd : List (Nat × FSpec) := (14, xFiS) :: (15, xFiS) :: (16, xJoS) :: (17, xJoS) :: (9, xSmS) :: xS1
noncomputable def xLe : List (Nat × FSpec) := (14, xFiS) :: (15, xFiS) :: (9, xSmS) :: (GX + 41, bCpS) :: (GX + 32, bStS) :: xS1
noncomputable def xL : List (Nat × FSpec) := (8, xLvS) :: xLd
noncomputable def l13T_L0 (F : Nat) (ns : List Nat) (n : Nat) (x0 : List UInt8) (x1 : List UInt8) (x2 : List V) (x6 : Bool) (x23 : List V) (x24 : Int) (x25 : Int) (K : V → Option V) : Option V :=
 loopAt vE xL F 2 3 [1, 1, 0, 1, 0] ns K n (mkSt 63 [(0, V.str x0), (1, V.str x1), (2, V.sl 9 [(Kd.str)] none x2), (6, V.bool x6), (23, V.sl 9 [(Kd.str)] none x23), (24, V.int .i64 x24), (25, V.int .i64 x25)] [])
set_option maxRecDepth 100000 in
theorem l13T_top (F : Nat) (s : List UInt8) (q : List UInt8) (xs : List V) (K : V → Option V) :
 evBd vE (evFn vE xL F 2) F 3 [(V.str s), (V.str q), (V.sl 9 [(Kd.str)] none xs)] K =
 sel (ilt 20000 (slen s))
 (K (V.bool true))
 (sel (ilt 2000 (slen q))
 (K (V.bool true))
 (sel (ilt 100 (llen xs))
 (K (V.bool true))
 (l13T_L0 F [] F s q xs false xs (llen xs) 0 K))) := by kernel_rfl
set_option maxRecDepth 100000 in
theorem l13T_L0_succ (F : Nat) (n : Nat) (x0 : List UInt8) (x1 : List UInt8) (x2 : List V) (x6 : Bool) (x23 : List V) (x24 : Int) (x25 : Int) (K : V → Option V) :
 l13T_L0 F [] (n + 1) x0 x1 x2 x6 x23 x24 x25 K =
 sel (ilt x25 x24)
 (sel (band (ile 0 x25) (ilt x25 (llen x23)))
 (sel (ilt 1000 (slen (asStr (acell (lget x23 x25) 0))))
 (K (V.bool true))
 (l13T_L0 F [] n x0 x1 x2 x6 x23 x24 (iadd .i64 x25 1) K))
 (none))
 (sel (ile (slen x0) 4000000)
 (sel (ile (slen x0) 4000000)
 (sel (ile (llen (linL x0)) 1000000000)
 (sel (sameL (linL x0) (linL x0))
 (sel (ile (slen x1) 4000000)
 (sel (ile (slen x1) 4000000)
 (sel (ieq (ckP x1) (ckP x1))
 (sel (ile (slen x0) 4000000)
 (sel (ile (slen x0) 4000000)
 (sel (band (ieq (fiL x0) (fiL x0)) (ieq (fiE x0) (fiE x0)))
 (sel (joC x2)
 (sel (joC x2)
 (sel (seq (joT x2) (joT x2))
 (K (V.bool true))
 (K (V.bool false)))
 (none))
 (none))
 (K (V.bool false)))
 (none))
 (none))
 (K (V.bool false)))
 (none))
 (none))
 (K (V.bool false)))
 (none))
 (none))
 (none)) := by kernel_rfl
noncomputable def l13B_L0 (F : Nat) (ns : List Nat) (n : Nat) (x0 : List UInt8) (x1 : List V) (x4 : Bool) (x5 : Bool) (x25 : List V) (x26 : Int) (x27 : Int) (K : V → Option V) : Option V :=
 loopAt vE xL F 2 4 [1, 1, 1, 1, 0, 1, 0] ns K n (mkSt 128 [(0, V.str x0), (1, V.sl 9 [(Kd.str)] none x1), (4, V.bool x4), (5, V.bool x5), (9, V.tup []), (10, V.tup []), (11, V.tup []), (12, V.tup []), (13, V.tup []), (14, V.tup []), (25, V.sl 9 [(Kd.str)] none x25), (26, V.int .i64 x26), (27, V.int .i64 x27), (91, V.tup []), (92, V.tup []), (93, V.tup [])] [])
noncomputable def l13B_L1 (F : Nat) (ns : List Nat) (n : Nat) (x0 : List UInt8) (x1 : List V) (x4 : Bool) (x5 : Bool) (x7 : List UInt8) (x8 : Int) (x25 : List V) (x26 : Int) (x27 : Int) (K : V → Option V) : Option V :=
 loopAt vE xL F 2 4 [1, 1, 1, 1, 0, 1, 0, 0, 1, 1, 0, 0, 1, 1, 1, 0] ns K n (mkSt 128 [(0, V.str x0), (1, V.sl 9 [(Kd.str)] none x1), (4, V.bool x4), (5, V.bool x5), (7, V.str x7), (8, V.int .i64 x8), (9, V.tup []), (10, V.tup []), (11, V.tup []), (12, V.tup []), (13, V.tup []), (14, V.tup []), (25, V.sl 9 [(Kd.str)] none x25), (26, V.int .i64 x26), (27, V.int .i64 x27), (91, V.tup []), (92, V.tup []), (93, V.tup [])] [])
noncomputable def l13B_L2 (F : Nat) (ns : List Nat) (n : Nat) (x0 : List UInt8) (x1 : List V) (x4 : Bool) (x5 : Bool) (x9 : List V) (x10 : List UInt8) (x25 : List V) (x26 : Int) (x27 : Int) (x91 : List V) (x92 : Int) (x93 : Int) (b11_0 : Int) (b11_1 : Int) (K : V → Option V) : Option V :=
 loopAt vE xL F 2 4 [1, 1, 1, 1, 1, 1, 1, 1, 1, 1, 0, 1, 0] ns K n (mkSt 128 [(0, V.str x0), (1, V.sl 9 [(Kd.str)] none x1), (4, V.bool x4), (5, V.bool x5), (9, V.sl 9 [(Kd.str)] none x9), (10, V.str x10), (11, (V.box 11 0)), (25, V.sl 9 [(Kd.str)] none x25), (26, V.int .i64 x26), (27, V.int .i64 x27), (91, V.sl 9 [(Kd.str)] none x91), (92, V.int .i64 x92), (93, V.int .i64 x93)] [(11, [V.int .i64 b11_0, V.int .i64 b11_1])])
set_option maxRecDepth 100000 in
theorem l13B_top (F : Nat) (s : List UInt8) (xs : List V) (K : V → Option V) :
 evBd vE (evFn vE xL F 2) F 4 [(V.str s), (V.sl 9 [(Kd.str)] none xs)] K =
 sel (ilt 20000 (slen s))
 (K (V.bool true))
 (sel (ilt 100 (llen xs))
 (K (V.bool true))
 (l13B_L0 F [] F s xs false true xs (llen xs) 0 K)) := by kernel_rfl
set_option maxRecDepth 100000 in
theorem l13B_L0_succ (F : Nat) (n : Nat) (x0 : List UInt8) (x1 : List V) (x4 : Bool) (x5 : Bool) (x25 : List V) (x26 : Int) (x27 : Int) (K : V → Option V) :
 l13B_L0 F [] (n + 1) x0 x1 x4 x5 x25 x26 x27 K =
 sel (ilt x27 x26)
 (sel (band (ile 0 x27) (ilt x27 (llen x25)))
 (sel (ilt 1000 (slen (asStr (acell (lget x25 x27) 0))))
 (K (V.bool true))
 (l13B_L1 F [n] F x0 x1 x4 x5 (asStr (acell (lget x25 x27) 0)) 0 x25 x26 x27 K))
 (none))
 (sel x5
 (sel (joC x1)
 (sel (ile (slen (joT x1)) 4000000)
 (sel (ile (llen (linL (joT x1))) 1000000000)
 (sel (bnot (sameL (linL (joT x1)) x1))
 (K (V.bool false))
 (sel (ile (slen x0) 4000000)
 (sel (joC (linL x0))
 (sel (bnot (seq (joT (linL x0)) x0))
 (sel (okCat x0 [10])
 (sel (bnot (seq (joT (linL x0)) (scat x0 [10])))
 (K (V.bool false))
 (sel (ile (slen x0) 4000000)
 (sel (ilt (fiL x0) 0)
 (K (V.bool false))
 (sel (ilt (llen (linL x0)) (fiL x0))
 (K (V.bool false))
 (sel (bnot (beq (ilt 0 (fiL x0)) (bnot (ieq (fiE x0) 0))))
 (K (V.bool false))
 (l13B_L2 F [] F x0 x1 x4 x5 (linL x0) (joT (linL x0)) x25 x26 x27 (linL x0) (llen (linL x0)) 0 (fiL x0) (fiE x0) K))))
 (none)))
 (none))
 (sel (ile (slen x0) 4000000)
 (sel (ilt (fiL x0) 0)
 (K (V.bool false))
 (sel (ilt (llen (linL x0)) (fiL x0))
 (K (V.bool false))
 (sel (bnot (beq (ilt 0 (fiL x0)) (bnot (ieq (fiE x0) 0))))
 (K (V.bool false))
 (l13B_L2 F [] F x0 x1 x4 x5 (linL x0) (joT (linL x0)) x25 x26 x27 (linL x0) (llen (linL x0)) 0 (fiL x0) (fiE x0) K))))
 (none)))
 (none))
 (none)))
 (none))
 (none))
 (none))
 (sel (ile (slen x0) 4000000)
 (sel (joC (linL x0))
 (sel (bnot (seq (joT (linL x0)) x0))
 (sel (okCat x0 [10])
 (sel (bnot (seq (joT (linL x0)) (scat x0 [10])))
 (K (V.bool false))
 (sel (ile (slen x0) 4000000)
 (sel (ilt (fiL x0) 0)
 (K (V.bool false))
 (sel (ilt (llen (linL x0)) (fiL x0))
 (K (V.bool false))
 (sel (bnot (beq (ilt 0 (fiL x0)) (bnot (ieq (fiE x0) 0))))
 (K (V.bool false))
 (l13B_L2 F [] F x0 x1 x4 x5 (linL x0) (joT (linL x0)) x25 x26 x27 (linL x0) (llen (linL x0)) 0 (fiL x0) (fiE x0) K))))
 (none)))
 (none))
 (sel (ile (slen x0) 4000000)
 (sel (ilt (fiL x0) 0)
 (K (V.bool false))
 (sel (ilt (llen (linL x0)) (fiL x0))
 (K (V.bool false))
 (sel (bnot (beq (ilt 0 (fiL x0)) (bnot (ieq (fiE x0) 0))))
 (K (V.bool false))
 (l13B_L2 F [] F x0 x1 x4 x5 (linL x0) (joT (linL x0)) x25 x26 x27 (linL x0) (llen (linL x0)) 0 (fiL x0) (fiE x0) K))))
 (none)))
 (none))
 (none))) := by kernel_rfl
set_option maxRecDepth 100000 in
theorem l13B_L1_succ (F : Nat) (m0 : Nat) (n : Nat) (x0 : List UInt8) (x1 : List V) (x4 : Bool) (x5 : Bool) (x7 : List UInt8) (x8 : Int) (x25 : List V) (x26 : Int) (x27 : Int) (K : V → Option V) :
 l13B_L1 F [m0] (n + 1) x0 x1 x4 x5 x7 x8 x25 x26 x27 K =
 sel (ilt x8 (slen x7))
 (sel x5
 (sel (band (ile 0 x8) (ilt x8 (slen x7)))
 (l13B_L1 F [m0] n x0 x1 x4 (bnot (ieq (sat x7 x8) 10)) x7 (iadd .i64 x8 1) x25 x26 x27 K)
 (none))
 (l13B_L1 F [m0] n x0 x1 x4 false x7 (iadd .i64 x8 1) x25 x26 x27 K))
 (l13B_L0 F [] m0 x0 x1 x4 x5 x25 x26 (iadd .i64 x27 1) K) := by kernel_rfl
set_option maxRecDepth 100000 in
theorem l13B_L2_succ (F : Nat) (n : Nat) (x0 : List UInt8) (x1 : List V) (x4 : Bool) (x5 : Bool) (x9 : List V) (x10 : List UInt8) (x25 : List V) (x26 : Int) (x27 : Int) (x91 : List V) (x92 : Int) (x93 : Int) (b11_0 : Int) (b11_1 : Int) (K : V → Option V) :
 l13B_L2 F [] (n + 1) x0 x1 x4 x5 x9 x10 x25 x26 x27 x91 x92 x93 b11_0 b11_1 K =
 sel (ilt x93 x92)
 (sel (band (ile 0 x93) (ilt x93 (llen x91)))
 (sel (ile (slen (asStr (acell (lget x91 x93) 0))) 4000000)
 (sel (ilt x93 (isub .i64 b11_0 1))
 (sel (bnot (ieq (ckP (asStr (acell (lget x91 x93) 0))) 0))
 (K (V.bool false))
 (sel (ieq x93 (isub .i64 b11_0 1))
 (sel (bnot (ieq (ckP (asStr (acell (lget x91 x93) 0))) b11_1))
 (K (V.bool false))
 (l13B_L2 F [] n x0 x1 x4 x5 x9 x10 x25 x26 x27 x91 x92 (iadd .i64 x93 1) b11_0 b11_1 K))
 (l13B_L2 F [] n x0 x1 x4 x5 x9 x10 x25 x26 x27 x91 x92 (iadd .i64 x93 1) b11_0 b11_1 K)))
 (sel (ieq b11_0 0)
 (sel (bnot (ieq (ckP (asStr (acell (lget x91 x93) 0))) 0))
 (K (V.bool false))
 (sel (ieq x93 (isub .i64 b11_0 1))
 (sel (bnot (ieq (ckP (asStr (acell (lget x91 x93) 0))) b11_1))
 (K (V.bool false))
 (l13B_L2 F [] n x0 x1 x4 x5 x9 x10 x25 x26 x27 x91 x92 (iadd .i64 x93 1) b11_0 b11_1 K))
 (l13B_L2 F [] n x0 x1 x4 x5 x9 x10 x25 x26 x27 x91 x92 (iadd .i64 x93 1) b11_0 b11_1 K)))
 (sel (ieq x93 (isub .i64 b11_0 1))
 (sel (bnot (ieq (ckP (asStr (acell (lget x91 x93) 0))) b11_1))
 (K (V.bool false))
 (l13B_L2 F [] n x0 x1 x4 x5 x9 x10 x25 x26 x27 x91 x92 (iadd .i64 x93 1) b11_0 b11_1 K))
 (l13B_L2 F [] n x0 x1 x4 x5 x9 x10 x25 x26 x27 x91 x92 (iadd .i64 x93 1) b11_0 b11_1 K))))
 (none))
 (none))
 (K (V.bool true)) := by kernel_rfl
noncomputable def l13L_L0 (F : Nat) (ns : List Nat) (n : Nat) (x0 : Int) (x1 : Int) (x4 : Bool) (x5 : List V) (x19 : Int) (x20 : Int) (K : V → Option V) : Option V :=
 loopAt vE xL F 2 5 [1, 1, 1, 1, 0, 1, 0] ns K n (mkSt 64 [(0, V.int .i64 x0), (1, V.int .u8 x1), (4, V.bool x4), (5, V.sl 5 [(Kd.int .u8)] (some 5) x5), (7, V.tup []), (19, V.int .i64 x19), (20, V.int .i64 x20)] [])
set_option maxRecDepth 100000 in
theorem l13L_top (F : Nat) (n : Int) (c : Int) (K : V → Option V) :
 evBd vE (evFn vE xL F 2) F 5 [(V.int .i64 n), (V.int .u8 c)] K =
 sel (ilt n 1048570)
 (K (V.bool true))
 (sel (ilt 1048580 n)
 (K (V.bool true))
 (sel (band (ile 0 n) (band (ile n n) (ile n 16777216)))
 (l13L_L0 F [] F n c false (lrep n (V.int .u8 0)) (llen (lrep n (V.int .u8 0))) 0 K)
 (none))) := by kernel_rfl
set_option maxRecDepth 100000 in
theorem l13L_L0_succ (F : Nat) (n : Nat) (x0 : Int) (x1 : Int) (x4 : Bool) (x5 : List V) (x19 : Int) (x20 : Int) (K : V → Option V) :
 l13L_L0 F [] (n + 1) x0 x1 x4 x5 x19 x20 K =
 sel (ilt x20 x19)
 (sel (band (ile 0 x20) (ilt x20 (llen x5)))
 (sel (ieq (irem x20 500) 499)
 (sel (band (ile 0 x20) (ilt x20 (llen (lset x5 x20 (V.int .u8 32)))))
 (l13L_L0 F [] n x0 x1 x4 (lset (lset x5 x20 (V.int .u8 32)) x20 (V.int .u8 10)) x19 (iadd .i64 x20 1) K)
 (none))
 (l13L_L0 F [] n x0 x1 x4 (lset x5 x20 (V.int .u8 32)) x19 (iadd .i64 x20 1) K))
 (none))
 (sel (band (ile 0 0) (ilt 0 (llen x5)))
 (sel (ile (slen (vbytes (lset x5 0 (V.int .u8 x1)))) 4000000)
 (sel (ilt 1048576 x0)
 (K (V.bool (band (ieq (fiL (vbytes (lset x5 0 (V.int .u8 x1)))) 0) (ieq (fiE (vbytes (lset x5 0 (V.int .u8 x1)))) 9))))
 (sel (bnot (ieq x1 9))
 (sel (bnot (ieq x1 10))
 (sel (ilt x1 32)
 (K (V.bool (band (ieq (fiL (vbytes (lset x5 0 (V.int .u8 x1)))) 1) (ieq (fiE (vbytes (lset x5 0 (V.int .u8 x1)))) 7))))
 (sel (ilt 126 x1)
 (K (V.bool (band (ieq (fiL (vbytes (lset x5 0 (V.int .u8 x1)))) 1) (ieq (fiE (vbytes (lset x5 0 (V.int .u8 x1)))) 7))))
 (K (V.bool (band (ieq (fiL (vbytes (lset x5 0 (V.int .u8 x1)))) 0) (ieq (fiE (vbytes (lset x5 0 (V.int .u8 x1)))) 0))))))
 (K (V.bool (band (ieq (fiL (vbytes (lset x5 0 (V.int .u8 x1)))) 0) (ieq (fiE (vbytes (lset x5 0 (V.int .u8 x1)))) 0)))))
 (K (V.bool (band (ieq (fiL (vbytes (lset x5 0 (V.int .u8 x1)))) 0) (ieq (fiE (vbytes (lset x5 0 (V.int .u8 x1)))) 0))))))
 (none))
 (none)) := by kernel_rfl
end Nt.Ev.Ytochbeiihhbmeaa

set_option linter.unusedVariables false
set_option linter.unusedSimpArgs false
set_option linter.unusedSectionVars false
namespace Nt.Ev.Ytochbeiihhbmeaa
open Go Go.RowKit Nt Nt.Num Nt.Lin Go.Proofs.Ytochbeiihhbmeaa
theorem xSmS_ok (xs ys : List V) (hc : ile (llen xs) 1000000000 = true) : Contract vE 9 [.sl 9 [.str] none xs, .sl 9 [.str] none ys] (.bool (sameL xs ys)) :=
  vSame_ev xs ys (by rw [ile_iff, llen_nat] at hc; omega)
theorem xLd_ok : SOk vE xLd := by
  unfold xLd
  refine SOk.cons (fun args r h => ?_) (SOk.cons (fun args r h => ?_) (SOk.cons (fun args r h => ?_) (SOk.cons (fun args r h => ?_) (SOk.cons (fun args r h => ?_) (xS1_ok)))))
  · unfold xFiS at h
    split at h
    · simp only [Option.some.injEq, Prod.mk.injEq] at h
      obtain ⟨hc, rfl⟩ := h
      exact xFiS_ok _ hc
    · cases h
  · unfold xFiS at h
    split at h
    · simp only [Option.some.injEq, Prod.mk.injEq] at h
      obtain ⟨hc, rfl⟩ := h
      exact xFiS_ok_noontideref13_First _ hc
    · cases h
  · unfold xJoS at h
    split at h
    · simp only [Option.some.injEq, Prod.mk.injEq] at h
      obtain ⟨hc, rfl⟩ := h
      exact xJoS_ok _ hc
    · cases h
  · unfold xJoS at h
    split at h
    · simp only [Option.some.injEq, Prod.mk.injEq] at h
      obtain ⟨hc, rfl⟩ := h
      exact xJoS_ok_noontideref13_Join _ hc
    · cases h
  · unfold xSmS at h
    split at h
    · simp only [Option.some.injEq, Prod.mk.injEq] at h
      obtain ⟨hc, rfl⟩ := h
      exact xSmS_ok _ _ hc
    · cases h
theorem xLe_ok : SOk vE xLe := by
  unfold xLe
  refine SOk.cons (fun args r h => ?_) (SOk.cons (fun args r h => ?_) (SOk.cons (fun args r h => ?_) (SOk.consX (fun args r h => ?_) (SOk.consX (fun args r h => ?_) (xS1_ok)))))
  · unfold xFiS at h
    split at h
    · simp only [Option.some.injEq, Prod.mk.injEq] at h
      obtain ⟨hc, rfl⟩ := h
      exact xFiS_ok _ hc
    · cases h
  · unfold xFiS at h
    split at h
    · simp only [Option.some.injEq, Prod.mk.injEq] at h
      obtain ⟨hc, rfl⟩ := h
      exact xFiS_ok_noontideref13_First _ hc
    · cases h
  · unfold xSmS at h
    split at h
    · simp only [Option.some.injEq, Prod.mk.injEq] at h
      obtain ⟨hc, rfl⟩ := h
      exact xSmS_ok _ _ hc
    · cases h
  · unfold bCpS at h
    split at h
    · simp only [Option.some.injEq, Prod.mk.injEq] at h
      obtain ⟨hc, rfl⟩ := h
      exact bCpS_ok _ _ hc
    · cases h
  · unfold bStS at h
    split at h
    · simp only [Option.some.injEq, Prod.mk.injEq] at h
      obtain ⟨hc, rfl⟩ := h
      exact bStS_ok _ _ hc
    · cases h
set_option maxRecDepth 100000 in
theorem xLvS_ok (hc : true = true) : Contract vE 8 [] (.bool true) := by
  refine contract_of_body vE_ok xLe_ok 600 4 ?_
  kernel_rfl
theorem xL_ok : SOk vE xL := by
  unfold xL
  refine SOk.cons (fun args r h => ?_) (xLd_ok)
  · unfold xLvS at h
    split at h
    · simp only [Option.some.injEq, Prod.mk.injEq] at h
      obtain ⟨hc, rfl⟩ := h
      exact xLvS_ok  rfl
    · cases h
theorem lin_join : ∀ (l : List (List UInt8)), (∀ x ∈ l, x.contains 10 = false) → linP (joF l) = l
  | [], _ => rfl
  | x :: l, h => by
    have := linR_ahead x (joF l) [] (h x List.mem_cons_self)
    have ih := lin_join l (fun y hy => h y (List.mem_cons_of_mem _ hy))
    rw [joF_cons]
    unfold linP at ih ⊢
    rw [show x ++ [10] ++ joF l = x ++ 10 :: joF l by simp, this, ih]; rfl
theorem join_lin : ∀ (t cur : List UInt8), joF (linR t cur) = cur ++ t ∨ joF (linR t cur) = cur ++ t ++ [10]
  | [], cur => by
    cases cur with
    | nil => exact .inl rfl
    | cons c l => exact .inr (by show joF [c :: l] = _; rw [joF_cons]; simp [joF])
  | c :: t, cur => by
    cases hc : c == 10 with
    | true =>
      have e : c = 10 := by simpa using hc
      subst e
      have e2 : linR (10 :: t) cur = cur :: linR t [] := rfl
      rw [e2, joF_cons]
      rcases join_lin t [] with h | h
      · left; rw [h]; simp
      · right; rw [h]; simp
    | false =>
      have e2 : linR (c :: t) cur = linR t (cur ++ [c]) := by show (bif c == 10 then _ else linR t (cur ++ [c])) = _; rw [hc]; rfl
      rw [e2]
      rcases join_lin t (cur ++ [c]) with h | h
      · left; rw [h]; simp
      · right; rw [h]; simp
theorem joT_lin (s : List UInt8) : joT (linL s) = joF (linP s) := by
  show joF (strsOf (strsV (linP s))) = _
  have : strsOf (strsV (linP s)) = linP s := by
    unfold strsOf strsV
    rw [List.map_map]
    exact (List.map_congr_left fun _ _ => rfl).trans (List.map_id _)
  rw [this]
theorem strsOf_V (l : List (List UInt8)) : strsOf (strsV l) = l := by
  unfold strsOf strsV
  rw [List.map_map]
  exact (List.map_congr_left fun _ _ => rfl).trans (List.map_id _)
theorem fi_spec : ∀ (l : List (List UInt8)) (k : Nat), ((fiP l k).1 = 0 ∧ (fiP l k).2 = 0 ∧ ∀ i (h : i < l.length), ckP l[i] = 0) ∨
    ∃ i, ∃ h : i < l.length, (fiP l k).1 = ((k + i + 1 : Nat) : Int) ∧ (fiP l k).2 = ckP l[i] ∧ ckP l[i] ≠ 0 ∧ ∀ j (hj : j < i), ckP (l[j]'(by omega)) = 0
  | [], k => .inl ⟨rfl, rfl, fun i h => by simp at h⟩
  | x :: l, k => by
    rw [fiP_cons]
    by_cases hc : ckP x = 0
    · rw [ieq_t hc, cond_true]
      rcases fi_spec l (k + 1) with ⟨h1, h2, h3⟩ | ⟨i, h, h1, h2, h3, h4⟩
      · refine .inl ⟨h1, h2, fun i hi => ?_⟩
        cases i with
        | zero => exact hc
        | succ i => exact h3 i (by simpa using hi)
      · refine .inr ⟨i + 1, by simpa using h, by rw [h1]; congr 1; omega, h2, h3, fun j hj => ?_⟩
        cases j with
        | zero => exact hc
        | succ j => exact h4 j (by omega)
    · rw [ieq_f hc, cond_false]
      exact .inr ⟨0, by simp, by simp, rfl, hc, fun j hj => by omega⟩
theorem jo_len {xs : List V} (hp : ∀ i : Nat, i < xs.length → ilt 1000 (slen (asStr (acell (lget xs (i : Int)) 0))) = false) : ∀ (j i : Nat), i + j = xs.length → (joF ((strsOf xs).drop i)).length ≤ 1001 * j := by
  intro j
  induction j with
  | zero => intro i h; rw [List.drop_of_length_le (by rw [vs_len]; omega)]; exact Nat.le_refl _
  | succ j ih =>
    intro i h
    rw [vs_drop xs i (by omega), joF_cons]
    have := hp i (by omega)
    have h3 : ¬ (1000 < slen (asStr (acell (lget xs (i : Int)) 0))) := fun h => by rw [ilt_t h] at this; cases this
    rw [slen_nat] at h3
    have := ih (i + 1) (by omega)
    simp only [List.length_append, List.length_cons, List.length_nil]; omega
theorem lT_ev (s q : List UInt8) (xs : List V) : Contract vE 3 [.str s, .str q, .sl 9 [.str] none xs] (.bool true) := by
  refine contract_of_body vE_ok xL_ok (1 + xs.length) 2 ?_
  rw [l13T_top]
  by_cases h1 : 20000 < slen s
  · rw [sel_pos (ilt_t h1)]
  rw [sel_neg (ilt_f (by omega))]
  by_cases h2 : 2000 < slen q
  · rw [sel_pos (ilt_t h2)]
  rw [sel_neg (ilt_f (by omega))]
  by_cases h3 : 100 < llen xs
  · rw [sel_pos (ilt_t h3)]
  rw [sel_neg (ilt_f (by omega))]
  rw [llen_nat] at h3
  have hs : ∀ (r i : Nat), i < xs.length → l13T_L0 (1 + xs.length) [] (r + 1) s q xs false xs (llen xs) (i : Int) some = sel (ilt 1000 (slen (asStr (acell (lget xs (i : Int)) 0)))) (some (.bool true)) (l13T_L0 (1 + xs.length) [] r s q xs false xs (llen xs) ((i + 1 : Nat) : Int) some) := fun r i hi => by
    rw [l13T_L0_succ, sel_pos (ilt_t (by rw [llen_nat]; omega)), sel_pos (by rw [band_iff, ile_iff, ilt_iff, llen_nat]; omega), iadd64 (by omega), show (i : Int) + 1 = ((i + 1 : Nat) : Int) by omega]
  rcases scanE (fun r i => l13T_L0 (1 + xs.length) [] r s q xs false xs (llen xs) i some) (fun i => ilt 1000 (slen (asStr (acell (lget xs i) 0)))) (some (.bool true)) xs.length 1 hs with e | ⟨hp, e⟩
  · exact e
  · refine e.trans ?_
    show l13T_L0 (1 + xs.length) [] (0 + 1) s q xs false xs (llen xs) (xs.length : Int) some = _
    have c1 : ile (slen s) 4000000 = true := ile_t (by omega)
    have c2 : ile (slen q) 4000000 = true := ile_t (by omega)
    have c3 : joC xs = true := by
      unfold joC
      rw [decide_eq_true_iff]
      have := jo_len hp xs.length 0 (by omega)
      rw [List.drop_zero] at this
      unfold joT
      omega
    have hf := lin_few s
    have c4 : ile (llen (linL s)) 1000000000 = true := ile_t (by rw [show llen (linL s) = _ from strs_llen _]; rw [slen_nat] at h1; omega)
    rw [l13T_L0_succ, sel_neg (ilt_f (by rw [llen_nat]; omega)), c1, c2, c3, c4, sameL_refl, iR, iR, iR, sR]; rfl
def noF (x : List UInt8) : Bool := x.all fun c => bnot (ieq (c.toNat : Int) 10)
theorem noF_iff {x : List UInt8} (h : noF x = true) : x.contains 10 = false := by
  unfold noF at h
  rw [List.all_eq_true] at h
  cases hc : x.contains 10 with
  | false => rfl
  | true =>
    have := h 10 (by simpa using hc)
    cases this
theorem lB_in (F : Nat) (s : List UInt8) (xs : List V) (x4 : Bool) (m0 : Nat) (x7 : List UInt8) (x25 : List V) (x26 x27 : Int) (hl : x7.length ≤ 4000000) : ∀ (j i n : Nat) (x5 : Bool), i + j = x7.length → j < n →
    l13B_L1 F [m0] n s xs x4 x5 x7 (i : Int) x25 x26 x27 some = l13B_L0 F [] m0 s xs x4 (x5 && noF (x7.drop i)) x25 x26 (iadd .i64 x27 1) some := by
  intro j
  induction j with
  | zero =>
    intro i n x5 hi hn
    obtain ⟨n, rfl⟩ : ∃ m, n = m + 1 := ⟨n - 1, by omega⟩
    rw [l13B_L1_succ, sel_neg (ilt_f (by rw [slen_nat]; omega)), List.drop_of_length_le (show x7.length ≤ i by omega), show noF [] = true from rfl, Bool.and_true]
  | succ j ih =>
    intro i n x5 hi hn
    obtain ⟨n, rfl⟩ : ∃ m, n = m + 1 := ⟨n - 1, by omega⟩
    have hd := drop_get x7 i (by omega)
    have hsat : sat x7 (i : Int) = ((x7.getD i 0).toNat : Int) := by unfold sat; rw [Int.toNat_natCast]
    have k1 : band (ile 0 (i : Int)) (ilt (i : Int) (slen x7)) = true := by rw [band_iff, ile_iff, ilt_iff, slen_nat]; omega
    rw [l13B_L1_succ, k1, sel_pos (ilt_t (by rw [slen_nat]; omega)), hsat, iadd64 (by omega), show (i : Int) + 1 = ((i + 1 : Nat) : Int) by omega, sT', ih (i + 1) n _ (by omega) (by omega), ih (i + 1) n _ (by omega) (by omega), hd]
    show _ = l13B_L0 F [] m0 s xs x4 (x5 && (bnot (ieq ((x7.getD i 0).toNat : Int) 10) && noF (x7.drop (i + 1)))) x25 x26 _ some
    cases x5
    · rfl
    · rw [Bool.true_and]; rfl
def lB_end (s : List UInt8) (xs : List V) (x5 : Bool) : Prop := x5 = true → ∀ i : Nat, i < xs.length → noF (asStr (acell (lget xs (i : Int)) 0)) = true
theorem lB_out (F : Nat) (hF : 4000000 < F) (s : List UInt8) (xs : List V) (x4 : Bool) (hm : xs.length ≤ 100) (R : Option V)
    (hR : ∀ (n : Nat) (x5 : Bool), (∀ i : Nat, i < xs.length → ilt 1000 (slen (asStr (acell (lget xs (i : Int)) 0))) = false) → lB_end s xs x5 → l13B_L0 F [] (n + 1) s xs x4 x5 xs (llen xs) (xs.length : Int) some = R) (hRt : R = some (.bool true)) :
    ∀ (j i n : Nat) (x5 : Bool), i + j = xs.length → j < n → (∀ k : Nat, k < i → ilt 1000 (slen (asStr (acell (lget xs (k : Int)) 0))) = false) → (x5 = true → ∀ k : Nat, k < i → noF (asStr (acell (lget xs (k : Int)) 0)) = true) →
    l13B_L0 F [] n s xs x4 x5 xs (llen xs) (i : Int) some = R := by
  intro j
  induction j with
  | zero =>
    intro i n x5 hi hn h1 h2
    obtain ⟨n, rfl⟩ : ∃ m, n = m + 1 := ⟨n - 1, by omega⟩
    obtain rfl : i = xs.length := by omega
    exact hR n x5 h1 h2
  | succ j ih =>
    intro i n x5 hi hn h1 h2
    obtain ⟨n, rfl⟩ : ∃ m, n = m + 1 := ⟨n - 1, by omega⟩
    rw [l13B_L0_succ, sel_pos (ilt_t (by rw [llen_nat]; omega)), sel_pos (by rw [band_iff, ile_iff, ilt_iff, llen_nat]; omega)]
    by_cases hl : ilt 1000 (slen (asStr (acell (lget xs (i : Int)) 0))) = true
    · rw [sel_pos hl, hRt]
    · have hl' : ilt 1000 (slen (asStr (acell (lget xs (i : Int)) 0))) = false := by simpa using hl
      have h3 : ¬ (1000 < slen (asStr (acell (lget xs (i : Int)) 0))) := fun h => hl (ilt_t h)
      rw [slen_nat] at h3
      rw [sel_neg hl']
      have := lB_in F s xs x4 n (asStr (acell (lget xs (i : Int)) 0)) xs (llen xs) (i : Int) (by omega) (asStr (acell (lget xs (i : Int)) 0)).length 0 F x5 (by omega) (by omega)
      refine this.trans ?_
      rw [List.drop_zero, iadd64 (by omega), show (i : Int) + 1 = ((i + 1 : Nat) : Int) by omega]
      refine ih (i + 1) n _ (by omega) (by omega) (fun k hk => ?_) (fun hx k hk => ?_)
      · rcases Nat.lt_or_ge k i with h | h
        · exact h1 k h
        · obtain rfl : k = i := by omega
          exact hl'
      · rw [Bool.and_eq_true] at hx
        rcases Nat.lt_or_ge k i with h | h
        · exact h2 hx.1 k h
        · obtain rfl : k = i := by omega
          exact hx.2
theorem lB_scan (F : Nat) (s : List UInt8) (xs : List V) (x4 x5 : Bool) (x9 : List V) (x10 : List UInt8) (x25 : List V) (x26 x27 : Int) (L : List (List UInt8)) (a b : Int) (hm : L.length ≤ 4000000) (hL : ∀ x ∈ L, x.length ≤ 4000000)
    (ha : 0 ≤ a ∧ a ≤ L.length) (h0 : ∀ i (h : i < L.length), ((i : Int) < a - 1 ∨ a = 0) → ckP L[i] = 0) (h1 : ∀ i (h : i < L.length), (i : Int) = a - 1 → ckP L[i] = b) : ∀ (j i n : Nat), i + j = L.length → j < n →
    l13B_L2 F [] n s xs x4 x5 x9 x10 x25 x26 x27 (strsV L) (llen (strsV L)) (i : Int) a b some = some (.bool true) := by
  intro j
  induction j with
  | zero =>
    intro i n hi hn
    obtain ⟨n, rfl⟩ : ∃ m, n = m + 1 := ⟨n - 1, by omega⟩
    rw [l13B_L2_succ, sel_neg (ilt_f (by rw [strs_llen]; omega))]
  | succ j ih =>
    intro i n hi hn
    obtain ⟨n, rfl⟩ : ∃ m, n = m + 1 := ⟨n - 1, by omega⟩
    have hil : i < L.length := by omega
    have e2 := strs_get L i hil
    have h3 := hL _ (List.getElem_mem hil)
    rw [l13B_L2_succ, sel_pos (ilt_t (by rw [strs_llen]; omega)), sel_pos (by rw [band_iff, ile_iff, ilt_iff, strs_llen]; omega), e2, sel_pos (ile_t (by rw [slen_nat]; omega)), iadd64 (by omega), show (i : Int) + 1 = ((i + 1 : Nat) : Int) by omega, ih (i + 1) n (by omega) (by omega), isub64 (by omega)]
    by_cases c1 : (i : Int) < a - 1
    · rw [sel_pos (ilt_t c1), h0 i hil (.inl c1), ieq_f (show (i : Int) ≠ a - 1 by omega)]; rfl
    · rw [sel_neg (ilt_f (by omega))]
      by_cases c2 : a = 0
      · rw [ieq_t c2, h0 i hil (.inr c2), ieq_f (show (i : Int) ≠ a - 1 by omega)]; rfl
      · rw [ieq_f c2]
        by_cases c3 : (i : Int) = a - 1
        · rw [ieq_t c3, h1 i hil c3, iR]; rfl
        · rw [ieq_f c3]; rfl
theorem lB_tail (F : Nat) (hF : 4000000 < F) (s : List UInt8) (hs : s.length ≤ 20000) (xs : List V) (x4 x5 : Bool) (x25 : List V) (x26 x27 : Int) :
        (sel (ile (slen s) 4000000)
          (sel (joC (linL s))
            (sel (bnot (seq (joT (linL s)) s))
              (sel (okCat s [10])
                (sel (bnot (seq (joT (linL s)) (scat s [10])))
                  (some (V.bool false))
                  (sel (ile (slen s) 4000000)
                    (sel (ilt (fiL s) 0)
                      (some (V.bool false))
                      (sel (ilt (llen (linL s)) (fiL s))
                        (some (V.bool false))
                        (sel (bnot (beq (ilt 0 (fiL s)) (bnot (ieq (fiE s) 0))))
                          (some (V.bool false))
                          (l13B_L2 F [] F s xs x4 x5 (linL s) (joT (linL s)) x25 x26 x27 (linL s) (llen (linL s)) 0 (fiL s) (fiE s) some))))
                    (none)))
                (none))
              (sel (ile (slen s) 4000000)
                (sel (ilt (fiL s) 0)
                  (some (V.bool false))
                  (sel (ilt (llen (linL s)) (fiL s))
                    (some (V.bool false))
                    (sel (bnot (beq (ilt 0 (fiL s)) (bnot (ieq (fiE s) 0))))
                      (some (V.bool false))
                      (l13B_L2 F [] F s xs x4 x5 (linL s) (joT (linL s)) x25 x26 x27 (linL s) (llen (linL s)) 0 (fiL s) (fiE s) some))))
                (none)))
            (none))
          (none)) = some (.bool true) := by
  have c1 : ile (slen s) 4000000 = true := ile_t (by rw [slen_nat]; omega)
  have hj := join_lin s []
  rw [List.nil_append] at hj
  have hj' : joT (linL s) = s ∨ joT (linL s) = s ++ [10] := by rw [joT_lin]; exact hj
  have hf := lin_few s
  have c2 : joC (linL s) = true := by
    unfold joC
    rw [decide_eq_true_iff]
    refine ⟨?_, by unfold linL; rw [strsV_len]; omega⟩
    rcases hj' with h | h <;> rw [h]
    · omega
    · rw [List.length_append]; simp only [List.length_cons, List.length_nil]; omega
  have hfi : fiL s = (fiP (linP s) 0).1 ∧ fiE s = (fiP (linP s) 0).2 := by
    unfold fiL fiE fiS
    rw [ilt_f (by rw [slen_nat]; omega)]; exact ⟨rfl, rfl⟩
  have hrest : (sel (ilt (fiL s) 0) (some (V.bool false)) (sel (ilt (llen (linL s)) (fiL s)) (some (V.bool false)) (sel (bnot (beq (ilt 0 (fiL s)) (bnot (ieq (fiE s) 0)))) (some (V.bool false))
      (l13B_L2 F [] F s xs x4 x5 (linL s) (joT (linL s)) x25 x26 x27 (linL s) (llen (linL s)) 0 (fiL s) (fiE s) some)))) = some (.bool true) := by
    rw [hfi.1, hfi.2]
    have hsc := fun a b => lB_scan F s xs x4 x5 (linL s) (joT (linL s)) x25 x26 x27 (linP s) a b (by omega) (fun x hx => Nat.le_trans (lin_len s x hx) (by omega))
    have e : llen (linL s) = ((linP s).length : Int) := strs_llen _
    rcases fi_spec (linP s) 0 with ⟨h1, h2, h3⟩ | ⟨i, h, h1, h2, h3, h4⟩
    · rw [h1, h2]
      have := hsc 0 0 (by omega) (fun i hi _ => h3 i hi) (fun i hi h => by omega) (linP s).length 0 F (by omega) (by omega)
      rw [sel_neg (ilt_f (by omega)), sel_neg (ilt_f (by rw [e]; omega)), show bnot (beq (ilt 0 0) (bnot (ieq 0 0))) = false from rfl, sF']
      exact this
    · rw [h1, h2]
      have := hsc ((0 + i + 1 : Nat) : Int) (ckP (linP s)[i]) (by omega) (fun j hj hc => h4 j (by omega)) (fun j hj hc => by
        obtain rfl : j = i := by omega
        rfl) (linP s).length 0 F (by omega) (by omega)
      rw [sel_neg (ilt_f (by omega)), sel_neg (ilt_f (by rw [e]; omega)), ilt_t (show (0 : Int) < ((0 + i + 1 : Nat) : Int) by omega), ieq_f h3, show bnot (beq true (bnot false)) = false from rfl, sF']
      exact this
  simp only [c1, c2, sT', hrest]
  rcases hj' with h | h
  · rw [h, sR]; rfl
  · have c3 : okCat s [10] = true := by rw [okCat_iff]; simp only [List.length_cons, List.length_nil]; omega
    have c4 : seq (joT (linL s)) (scat s [10]) = true := by rw [h]; exact sR _
    rw [c3, c4]
    cases seq (joT (linL s)) s <;> rfl
theorem lB_ev (s : List UInt8) (xs : List V) : Contract vE 4 [.str s, .sl 9 [.str] none xs] (.bool true) := by
  refine contract_of_body vE_ok xL_ok 4000001 2 ?_
  rw [l13B_top]
  by_cases h1 : 20000 < slen s
  · rw [sel_pos (ilt_t h1)]
  rw [sel_neg (ilt_f (by omega))]
  by_cases h3 : 100 < llen xs
  · rw [sel_pos (ilt_t h3)]
  rw [sel_neg (ilt_f (by omega))]
  rw [llen_nat] at h3
  rw [slen_nat] at h1
  refine lB_out 4000001 (by omega) s xs false (by omega) (some (.bool true)) (fun n x5 hp hx => ?_) rfl xs.length 0 4000001 true (by omega) (by omega) (fun k hk => by omega) (fun _ k hk => by omega)
  rw [l13B_L0_succ, sel_neg (ilt_f (by rw [llen_nat]; omega)), lB_tail 4000001 (by omega) s (by omega)]
  cases x5 with
  | false => rfl
  | true =>
    have hno : ∀ x ∈ strsOf xs, x.contains 10 = false := by
      intro x hx'
      obtain ⟨i, hi, he⟩ := List.getElem_of_mem hx'
      rw [vs_len] at hi
      have := hx rfl i hi
      have e := vs_drop xs i hi
      rw [List.drop_eq_getElem_cons (by rw [vs_len]; exact hi)] at e
      have e1 := (List.cons.inj e).1
      rw [← e1, he] at this
      exact noF_iff this
    have hjl := jo_len hp xs.length 0 (by omega)
    rw [List.drop_zero] at hjl
    have c3 : joC xs = true := by unfold joC; rw [decide_eq_true_iff]; unfold joT; omega
    have c4 : ile (slen (joT xs)) 4000000 = true := ile_t (by rw [slen_nat]; unfold joT; omega)
    have e5 : linP (joT xs) = strsOf xs := lin_join _ hno
    have c5 : ile (llen (linL (joT xs))) 1000000000 = true := ile_t (by rw [show llen (linL (joT xs)) = _ from strs_llen _, e5, vs_len]; omega)
    have c6 : sameL (linL (joT xs)) xs = true := by
      rw [sameL_iff]
      show strsOf (strsV (linP (joT xs))) = _
      rw [strsOf_V, e5]
    rw [c3, c4, c5, c6]; rfl
def gB (i : Nat) : UInt8 := if i % 500 = 499 then 10 else 32
theorem odd32 : ∀ i, gB i = 10 ∨ gB i = 32 := fun i => by unfold gB; split <;> simp
theorem ll_len : ∀ (m a : Nat) (cur : List UInt8), cur.length ≤ a % 500 → ∀ x ∈ linR ((List.range' a m).map gB) cur, x.length ≤ 499
  | 0, a, cur, hc, x, hx => by
    have hx : x ∈ (match cur with | [] => ([] : List (List UInt8)) | _ => [cur]) := hx
    cases cur with
    | nil => cases hx
    | cons c l => rw [List.mem_singleton] at hx; subst hx; have := Nat.mod_lt a (show 0 < 500 by omega); omega
  | m + 1, a, cur, hc, x, hx => by
    rw [List.range'_succ, List.map_cons] at hx
    have hx : x ∈ (bif gB a == 10 then cur :: linR ((List.range' (a + 1) m).map gB) [] else linR ((List.range' (a + 1) m).map gB) (cur ++ [gB a])) := hx
    by_cases h : a % 500 = 499
    · have e : gB a = 10 := by unfold gB; rw [if_pos h]
      rw [e, show ((10 : UInt8) == 10) = true from rfl, cond_true, List.mem_cons] at hx
      rcases hx with rfl | hx
      · omega
      · exact ll_len m (a + 1) [] (Nat.zero_le _) x hx
    · have e : gB a = 32 := by unfold gB; rw [if_neg h]
      rw [e, show ((32 : UInt8) == 10) = false from rfl, cond_false] at hx
      refine ll_len m (a + 1) _ ?_ x hx
      rw [List.length_append]
      simp only [List.length_cons, List.length_nil]
      omega
theorem odd_app (a b : List UInt8) : oddS (a ++ b) = (oddS a || oddS b) := by unfold oddS; rw [List.any_append]
theorem ll_odd : ∀ (T cur : List UInt8), (∀ b ∈ T, b = 10 ∨ b = 32) → oddS cur = false → ∀ x ∈ linR T cur, oddS x = false
  | [], cur, _, hc, x, hx => by
    have hx : x ∈ (match cur with | [] => ([] : List (List UInt8)) | _ => [cur]) := hx
    cases cur with
    | nil => cases hx
    | cons c l => rw [List.mem_singleton] at hx; subst hx; exact hc
  | c :: T, cur, hT, hc, x, hx => by
    have hx : x ∈ (bif c == 10 then cur :: linR T [] else linR T (cur ++ [c])) := hx
    have hT' : ∀ b ∈ T, b = 10 ∨ b = 32 := fun b hb => hT b (List.mem_cons_of_mem _ hb)
    rcases hT c List.mem_cons_self with rfl | rfl
    · rw [show ((10 : UInt8) == 10) = true from rfl, cond_true, List.mem_cons] at hx
      rcases hx with rfl | hx
      · exact hc
      · exact ll_odd T [] hT' rfl x hx
    · rw [show ((32 : UInt8) == 10) = false from rfl, cond_false] at hx
      exact ll_odd T _ hT' (by rw [odd_app, hc]; rfl) x hx
theorem ll_head : ∀ (T cur : List UInt8), cur ≠ [] → ∃ u rest, linR T cur = (cur ++ u) :: rest
  | [], cur, h => by
    cases cur with
    | nil => exact absurd rfl h
    | cons c l => exact ⟨[], [], by rw [List.append_nil]; rfl⟩
  | c :: T, cur, h => by
    cases hc : c == 10 with
    | true => exact ⟨[], linR T [], by show (bif c == 10 then cur :: linR T [] else _) = _; rw [hc, cond_true, List.append_nil]⟩
    | false =>
      obtain ⟨u, rest, e⟩ := ll_head T (cur ++ [c]) (by simp)
      refine ⟨c :: u, rest, ?_⟩
      show (bif c == 10 then _ else linR T (cur ++ [c])) = _
      rw [hc, cond_false, e]; simp
theorem ck_ok {x : List UInt8} (h1 : x.length ≤ 499) (h2 : oddS x = false) : ckP x = 0 := by
  unfold ckP
  rw [ilt_f (by rw [slen_nat]; omega), h2]; rfl
theorem ck_odd {x : List UInt8} (h1 : x.length ≤ 499) (h2 : oddS x = true) : ckP x = 7 := by
  unfold ckP
  rw [ilt_f (by rw [slen_nat]; omega), h2]; rfl
theorem fi_all : ∀ (l : List (List UInt8)) (k : Nat), (∀ x ∈ l, ckP x = 0) → fiP l k = (0, 0)
  | [], _, _ => rfl
  | x :: l, k, h => by rw [fiP_cons, ieq_t (h x List.mem_cons_self), cond_true]; exact fi_all l (k + 1) fun y hy => h y (List.mem_cons_of_mem _ hy)
def srcL (c : UInt8) (n : Nat) : List UInt8 := c :: (List.range' 1 n).map gB
theorem gB_all (a m : Nat) : ∀ b ∈ (List.range' a m).map gB, b = 10 ∨ b = 32 := by
  intro b hb
  obtain ⟨i, _, rfl⟩ := List.mem_map.1 hb
  exact odd32 i
theorem src_ten (n : Nat) : fiP (linP (srcL 10 n)) 0 = (0, 0) := by
  refine fi_all _ _ fun x hx => ?_
  have hx : x ∈ [] :: linR ((List.range' 1 n).map gB) [] := hx
  rcases List.mem_cons.1 hx with rfl | hx
  · rfl
  · exact ck_ok (ll_len n 1 [] (Nat.zero_le _) x hx) (ll_odd _ _ (gB_all 1 n) rfl x hx)
theorem src_lin (c : UInt8) (n : Nat) (h : (c == 10) = false) : linP (srcL c n) = linR ((List.range' 1 n).map gB) [c] := by
  show (bif c == 10 then _ else linR ((List.range' 1 n).map gB) ([] ++ [c])) = _
  rw [h]; rfl
theorem src_ok (c : UInt8) (n : Nat) (h : (c == 10) = false) (ho : oddS [c] = false) : fiP (linP (srcL c n)) 0 = (0, 0) := by
  rw [src_lin c n h]
  exact fi_all _ _ fun x hx => ck_ok (ll_len n 1 [c] (by simp) x hx) (ll_odd _ _ (gB_all 1 n) ho x hx)
theorem src_bad (c : UInt8) (n : Nat) (h : (c == 10) = false) (ho : oddS [c] = true) : fiP (linP (srcL c n)) 0 = (1, 7) := by
  rw [src_lin c n h]
  obtain ⟨u, rest, e⟩ := ll_head ((List.range' 1 n).map gB) [c] (by simp)
  have hl := ll_len n 1 [c] (by simp) ([c] ++ u) (by rw [e]; exact List.mem_cons_self)
  have h7 := ck_odd hl (by rw [odd_app, ho]; rfl)
  rw [e, fiP_cons, h7]; rfl
def laidL (m i : Nat) : List V := (List.range' 0 i).map (fun k => V.int .u8 ((gB k).toNat : Int)) ++ List.replicate (m - i) (V.int .u8 0)
theorem laid_len (m i : Nat) (h : i ≤ m) : (laidL m i).length = m := by unfold laidL; simp; omega
theorem laid_set (m i : Nat) (h : i < m) (v : V) : lset (laidL m i) (i : Int) v = (List.range' 0 i).map (fun k => V.int .u8 ((gB k).toNat : Int)) ++ (v :: List.replicate (m - (i + 1)) (V.int .u8 0)) := by
  unfold lset laidL
  rw [Int.toNat_natCast, List.set_append_right _ _ (by simp), List.length_map, List.length_range', Nat.sub_self, show m - i = (m - (i + 1)) + 1 by omega, List.replicate_succ, List.set_cons_zero]
theorem laid_next (m i : Nat) (v : V) (hv : v = V.int .u8 ((gB i).toNat : Int)) : (List.range' 0 i).map (fun k => V.int .u8 ((gB k).toNat : Int)) ++ (v :: List.replicate (m - (i + 1)) (V.int .u8 0)) = laidL m (i + 1) := by
  unfold laidL
  have hr : List.range' 0 (i + 1) = List.range' 0 i ++ [i] := by rw [List.range'_concat]; simp
  rw [hr, List.map_append, List.append_assoc, hv]; rfl
theorem set_set (m i : Nat) (h : i < m) (v u : V) : lset (lset (laidL m i) (i : Int) v) (i : Int) u = lset (laidL m i) (i : Int) u := by
  unfold lset
  rw [List.set_set]
theorem lL_loop (F : Nat) (k c : Int) (x4 : Bool) (m : Nat) (hm : m ≤ 4000000) : ∀ (j i n : Nat), i + j = m → l13L_L0 F [] (n + j) k c x4 (laidL m i) (m : Int) (i : Int) some = l13L_L0 F [] n k c x4 (laidL m m) (m : Int) (m : Int) some := by
  intro j
  induction j with
  | zero => intro i n hi; obtain rfl : i = m := by omega
            rfl
  | succ j ih =>
    intro i n hi
    have hil : i < m := by omega
    rw [show n + (j + 1) = (n + j) + 1 by omega, l13L_L0_succ, sel_pos (ilt_t (by omega)), sel_pos (by rw [band_iff, ile_iff, ilt_iff, llen_nat, laid_len m i (by omega)]; omega), iadd64 (by omega), show (i : Int) + 1 = ((i + 1 : Nat) : Int) by omega]
    have e1 : irem (i : Int) 500 = ((i % 500 : Nat) : Int) := by unfold irem; rw [Int.tmod_eq_emod_of_nonneg (by omega)]; omega
    rw [e1, set_set m i hil, sel_pos (a := l13L_L0 F [] (n + j) k c x4 (lset (laidL m i) (i : Int) (V.int .u8 10)) (m : Int) ((i + 1 : Nat) : Int) some) (by rw [band_iff, ile_iff, ilt_iff, llen_nat]; unfold lset; rw [List.length_set, laid_len m i (by omega)]; omega), laid_set m i hil, laid_set m i hil]
    by_cases h : i % 500 = 499
    · rw [ieq_t (by omega), sT', laid_next m i _ (by unfold gB; rw [if_pos h]; rfl)]
      exact ih (i + 1) n (by omega)
    · rw [ieq_f (by omega), sF', laid_next m i _ (by unfold gB; rw [if_neg h]; rfl)]
      exact ih (i + 1) n (by omega)
theorem laid_bytes (m : Nat) (h : 0 < m) (c : UInt8) : vbytes (lset (laidL m m) 0 (V.int .u8 (c.toNat : Int))) = srcL c (m - 1) := by
  obtain ⟨k, rfl⟩ : ∃ k, m = k + 1 := ⟨m - 1, by omega⟩
  have e : laidL (k + 1) (k + 1) = bytesV ((List.range' 0 (k + 1)).map gB) := by
    unfold laidL bytesV
    rw [Nat.sub_self, List.replicate_zero, List.append_nil, List.map_map]; rfl
  have e2 : lset (bytesV ((List.range' 0 (k + 1)).map gB)) 0 (V.int .u8 (c.toNat : Int)) = bytesV (srcL c k) := by
    unfold lset bytesV srcL
    rw [List.range'_succ]; rfl
  rw [e, e2, bvb]; rfl
theorem u8_ten {b : UInt8} (h : (b.toNat : Int) = 10) : b = 10 := by
  have h2 : b.toNat = (10 : UInt8).toNat := by show b.toNat = 10; omega
  exact UInt8.toNat_inj.1 h2
theorem lL_ev (n c : Int) (hn : Fits n) (hc : 0 ≤ c ∧ c ≤ 255) : Contract vE 5 [.int .i64 n, .int .u8 c] (.bool true) := by
  refine contract_of_body vE_ok xL_ok (1 + n.toNat) 2 ?_
  rw [l13L_top]
  by_cases h1 : n < 1048570
  · rw [sel_pos (ilt_t h1)]
  rw [sel_neg (ilt_f (by omega))]
  by_cases h2 : 1048580 < n
  · rw [sel_pos (ilt_t h2)]
  rw [sel_neg (ilt_f (by omega)), sel_pos (by rw [band_iff, band_iff, ile_iff, ile_iff, ile_iff]; omega)]
  obtain ⟨m, rfl⟩ : ∃ m : Nat, n = (m : Int) := ⟨n.toNat, by omega⟩
  rw [Int.toNat_natCast]
  have e0 : lrep (m : Int) (V.int .u8 0) = laidL m 0 := by unfold lrep laidL; rw [Int.toNat_natCast]; rfl
  have e1 : llen (laidL m 0) = (m : Int) := by rw [llen_nat, laid_len m 0 (Nat.zero_le _)]
  rw [e0, e1]
  refine (lL_loop (1 + m) (m : Int) c false m (by omega) m 0 1 (by omega)).trans ?_
  obtain ⟨b, rfl⟩ : ∃ b : UInt8, c = (b.toNat : Int) := ⟨UInt8.ofNat c.toNat, by rw [UInt8.toNat_ofNat']; omega⟩
  have hb := laid_bytes m (by omega) b
  have hlen : (srcL b (m - 1)).length = m := by unfold srcL; simp; omega
  rw [show (1 : Nat) = 0 + 1 from rfl, l13L_L0_succ, sel_neg (ilt_f (by omega)), sel_pos (by rw [band_iff, ile_iff, ilt_iff, llen_nat, laid_len m m (Nat.le_refl _)]; omega), hb, sel_pos (ile_t (by rw [slen_nat, hlen]; omega))]
  by_cases h3 : 1048576 < (m : Int)
  · have e3 : fiS (srcL b (m - 1)) = (0, 9) := by unfold fiS; rw [ilt_t (by rw [slen_nat, hlen]; omega)]; rfl
    rw [ilt_t h3]
    unfold fiL fiE
    rw [e3]; rfl
  · have e3 : fiS (srcL b (m - 1)) = fiP (linP (srcL b (m - 1))) 0 := by unfold fiS; rw [ilt_f (by rw [slen_nat, hlen]; omega)]; rfl
    have eo : oddS [b] = (bnot (ieq (b.toNat : Int) 9) && (ilt (b.toNat : Int) 32 || ilt 126 (b.toNat : Int))) := by unfold oddS; simp
    rw [ilt_f (by omega)]
    unfold fiL fiE
    rw [e3]
    by_cases h10 : b = 10
    · subst h10
      rw [src_ten]; rfl
    · have h10' : (b == 10) = false := by rw [beq_eq_false_iff_ne]; exact h10
      have i10 : ieq (b.toNat : Int) 10 = false := ieq_f (fun h => h10 (u8_ten h))
      rw [i10]
      cases h9 : ieq (b.toNat : Int) 9 with
      | true => rw [src_ok b _ h10' (by rw [eo, h9]; rfl)]; rfl
      | false =>
        cases a1 : ilt (b.toNat : Int) 32 with
        | true => rw [src_bad b _ h10' (by rw [eo, h9, a1]; rfl)]; rfl
        | false =>
          cases a2 : ilt 126 (b.toNat : Int) with
          | true => rw [src_bad b _ h10' (by rw [eo, h9, a1, a2]; rfl)]; rfl
          | false => rw [src_ok b _ h10' (by rw [eo, h9, a1, a2]; rfl)]; rfl
end Nt.Ev.Ytochbeiihhbmeaa
