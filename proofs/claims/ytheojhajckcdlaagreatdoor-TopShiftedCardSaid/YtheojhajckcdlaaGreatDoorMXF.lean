/-
  A map that a call makes, with strings as keys and whatever elements: read as a function to Option of values. An append of one struct. A region that draws its order and whose last operation waits for all others: what is known of the world ahead of it, and behind it.
-/
import Derived.Test.YtheojhajckcdlaaGreatDoorMR
import Derived.Test.YtheojhajckcdlaaGreatDoorMQ
import Derived.Maps.AppendAt
set_option linter.unusedVariables false
set_option linter.unusedSimpArgs false
set_option linter.unusedSectionVars false
namespace Nt.Maps
open Go Go.Maps Go.RowKit Go.WideMaps
abbrev DV := DataW Value
def anyElem (v : Value) : Option (DV × List MemPlace) := some (.held v, [])
def RelAny (D : DV) (f : List UInt8 → Option Value) : Prop := ∀ (l : List UInt8) (z : DV), D.atKey (.string l) z = match f l with | none => z | some t => .held t
def OwnAny (w : World) (P : Program) (k : TypeId) (b n : Nat) (f : List UInt8 → Option Value) : Prop := ∃ D : DV, w.ownsMap P k anyElem b n D ∧ RelAny D f
section
variable {P : Program} {k e t : TypeId} {w : World} {b n : Nat} {f : List UInt8 → Option Value}
theorem OwnAny.made (w : World) (P : Program) (k : TypeId) : OwnAny (w.alloc (.map #[] 0)) P k w.heap.size 0 (fun _ => none) := ⟨_, World.ownsMap_made _ _ _ _, fun _ _ => rfl⟩
theorem OwnAny.lt (h : OwnAny w P k b n f) : b < w.heap.size := h.elim fun _ h => h.1.lt
theorem OwnAny.kept {w' : World} {row : Option Nat} (h : OwnAny w P k b n f) (hg : w.grownBy w' row) (hne : some b ≠ row) : OwnAny w' P k b n f := h.elim fun D h => ⟨D, h.1.kept hg hne, h.2⟩
theorem OwnAny.alloc (h : OwnAny w P k b n f) (o : Obj) : OwnAny (w.alloc o) P k b n f := h.elim fun D h => ⟨D, h.1.alloc o, h.2⟩
theorem OwnAny.ext {w' : World} (h : OwnAny w P k b n f) (hb : Below w.heap.size w w') : OwnAny w' P k b n f := by
  have hlt := h.lt
  obtain ⟨D, ⟨es, clock, hh, r⟩, h2⟩ := h
  exact ⟨D, ⟨es, clock, (hb.block b hlt).trans hh, r⟩, h2⟩
theorem rel_put_any {D : DV} (hD : IsMap D) (h : RelAny D f) (l : List UInt8) (x : Value) : RelAny (D.put (.string l) (.held x)) (fun y => if y = l then some x else f y) := by
  intro y z
  by_cases e : y = l
  · subst e
    rw [atKey_put_same hD (show WideAt.IsKeyLit (.string y) from trivial)]; show _ = _; simp
  · rw [atKey_put_other (fun q => e (by cases q; rfl)), h y z]; simp [e]
theorem look_any (hk : P.underlying k = some .string) (ht : P.underlying t = some (.map k e)) {z : Value} (hz : (zeroValue e).run P w = .ok z w) (hown : OwnAny w P k b n f) (l : List UInt8) (hl : l.length ≤ maxLen) :
    (Instr.lookup t (.map (some b)) (.string ⟨l.toArray⟩) false).run P w = .ok ((f l).getD z) w := by
  obtain ⟨D, hD, hR⟩ := hown
  obtain ⟨v, ps, hrun, hv⟩ := hD.lookup (string_keyed hk) ht hz (show anyElem z = some (.held z, []) from rfl) (key_of hk l hl)
  have h1 : DataW.held v = D.atKey (.string l) (.held z) := congrArg Prod.fst (Option.some.inj hv)
  rw [hR l] at h1
  rw [hrun]
  cases hf : f l with
  | none => rw [hf] at h1; simp at h1; rw [h1]; rfl
  | some x => rw [hf] at h1; simp at h1; rw [h1]; rfl
theorem put_any (hk : P.underlying k = some .string) (ht : P.underlying t = some (.map k e)) (hn : n < maxLen) (hown : OwnAny w P k b n f) (l : List UInt8) (hl : l.length ≤ maxLen) (x : Value) :
    ∃ w', (Instr.mapUpdate t (.map (some b)) (.string ⟨l.toArray⟩) x).run P w = .ok () w' ∧ OwnAny w' P k b (n + 1) (fun y => if y = l then some x else f y) ∧ w.grownBy w' (some b) := by
  obtain ⟨D, hD, hR⟩ := hown
  obtain ⟨w', hrun, h1, h2⟩ := hD.update (string_keyed hk) ht hn (key_of hk l hl) (show anyElem x = some (.held x, []) from rfl)
  exact ⟨w', hrun, ⟨_, h1, rel_put_any hD.isMap hR l x⟩, h2⟩
theorem wpList_look_any {ops : Array Oper} {rest : List Oper} {o : Oper} {a : Act} {Q : Exit → Act → World → Prop} (hg : o.guard = none) (m x : Operand) (t : TypeId) (hop : o.op = Op.lookup t m x false) (k e : TypeId) (hk : P.underlying k = some .string) (ht : P.underlying t = some (.map k e))
    (z : Value) (hz : (zeroValue e).run P w = .ok z w) (b n : Nat) (f : List UInt8 → Option Value) (hm : a.eval m = .map (some b)) (hown : OwnAny w P k b n f) (l : List UInt8) (hl : l.length ≤ maxLen) (hx : a.eval x = .string ⟨l.toArray⟩)
    (hK : wpList P ops Q rest (a.put o.dst ((f l).getD z)) w) : wpList P ops Q (o :: rest) a w := by
  refine wpList_plain hg fun K' hK' => ?_
  have hrun := look_any hk ht hz hown l hl
  unfold Oper.wp
  simp [execOp, hop, hm, hx, hrun, Result.andThen]
  exact hK' _ _ hK
end
end Nt.Maps
namespace Nt
open Go Go.RowKit
theorem run_append_st {P : Program} {w : World} (base t ty e : TypeId) (z : Value) (size bytes : Nat) (ht : P.underlying t = some (.slice e)) (hinfo : (P.info? e).map (fun i => (i.zero, i.size, i.bytes)) = some (some z, size, bytes)) (hzs : z.cells.size = size) (hsz : 0 < size) (hb : 0 < bytes)
    (v : Value) (n : Nat) (xs : List Value) (hown : w.ownsRow base e size v n xs) (g : Nat) (R : Array Value) (e' : TypeId) (hg : w.heap[g]? = some (.cells R e' (0, 0))) (hR : R.size = size) (hy : ∀ u ∈ R.toList, u.oneCell' = true) (hbytes : (n + 1) * bytes ≤ 140737488355328) (hbase : base ≤ w.heap.size) :
    ∃ v' w', (Builtin.append_ #[t, t] ty #[v, .slice (some ⟨g, 0, none⟩) 1 1]).run P w = .ok v' w' ∧ w'.ownsRow base e size v' (n + 1) (xs ++ R.toList) ∧ w.grownBy w' v.ownBlock := by
  obtain ⟨i0, hi, hz0, hz1, hz2⟩ := info_parts hinfo
  have hlen' : n + 1 ≤ 140737488355328 := Nat.le_trans (Nat.le_mul_of_pos_right _ hb) hbytes
  have hnews : ∀ j u, R.toList[j]? = some u → w.cell? ((⟨g, 0, none⟩ : Addr).add j) = some u := by
    intro j u hj
    have hj' : R[j]? = some u := by simpa using hj
    by_cases h0 : j = 0
    · subst h0; simp [Addr.add, World.cell?, hg, hj']
    · simp [Addr.add, World.cell?, hg, hj', h0]
  obtain ⟨v', w', h1, h2, h3, _⟩ := run_append_own (P := P) w base t ty e i0 z size bytes ht hi hz0 hz1 hz2 hzs hsz v n xs hown ⟨g, 0, none⟩ 1 1 R.toList (by simp [hR]) hnews hy (by unfold maxLen; omega) hbytes hbase
  exact ⟨v', w', h1, h2, h3⟩
end Nt

namespace Nt
open Go Go.RowKit
section
variable {P : Program} {ops : Array Oper} {Q : Exit → Act → World → Prop}
theorem region_each_last {id : Nat} {a : Act} {w : World} (hm : P.follows .mixedOrders = true) (hd : dstsOk a.tmps.size ops.toList = true) (hb : backward ops = true)
    (keep : List Nat) (F : Nat → Value → World → Prop) (J Jl : World → Prop) (last : Nat) (hlt : last < ops.size) (hlast : ∀ i, i < ops.size → i ≠ last → waitsFor ops last i = true) (hJ : J { w with drawn := w.drawn + 1 })
    (hstep : ∀ i, i < ops.size → ∀ (o : Oper), ops[i]? = some o → ∀ (a' : Act) (w' : World) (val : Nat → Value), J w' → a'.tmps.size = a.tmps.size → a'.defers = a.defers →
      (∀ t, (ops.toList.all fun o => o.dst != some t) = true → a'.tmps[t]? = a.tmps[t]?) →
      (∀ j d, takes ops i j = true → ((ops[j]?).bind (·.dst)) = some d → a'.tmps[d]? = some (val j) ∧ F j (val j) w') →
      ∀ K : Act → World → Prop, (∀ v w'', F i v w'' → (if i = last then Jl w'' else J w'') → (∀ j u, j ≠ i → live ops keep i j = true → F j u w' → F j u w'') → K (a'.put o.dst v) w'') → if Region.wanted o (yielded ops a'.tmps) = true then o.wp P a' w' K Q else K (a'.put o.dst undef) w')
    (hend : ∀ (val : Nat → Value) (w' : World), Jl w' → (∀ i ∈ keep, i < ops.size → F i (val i) w') → Q .normal (putSel val (fun _ => true) ops.toList 0 a) w') :
    (Code.region id ops true).wp P Q a w := by
  refine wp_region_any hm ?_
  have key : ∀ (fuel : Nat) (listed : Array Bool) (val : Nat → Value) (w' : World), listed.size = ops.size → open_ ops listed ≤ fuel → (listed.getD last false = false → J w') → (listed.getD last false = true → Jl w' ∧ ∀ i, i < ops.size → listed.getD i false = true) →
      (∀ i, i < ops.size → listed.getD i false = true → (i ∈ keep ∨ ∃ k, k < ops.size ∧ listed.getD k false = false ∧ takes ops k i = true) → F i (val i) w') → wpAny P .any ops Q fuel listed (putSel val (fun i => listed.getD i false) ops.toList 0 a) w' := by
    intro fuel
    have fin : ∀ (listed : Array Bool) (val : Nat → Value) (w' : World), listed.size = ops.size → (listed.getD last false = true → Jl w' ∧ ∀ i, i < ops.size → listed.getD i false = true) → (∀ i, i < ops.size → listed.getD i false = true → (i ∈ keep ∨ ∃ k, k < ops.size ∧ listed.getD k false = false ∧ takes ops k i = true) → F i (val i) w') →
        Region.ready .any ops listed = [] → Q .normal (putSel val (fun i => listed.getD i false) ops.toList 0 a) w' := by
      intro listed val w' hs hJl' hF hr
      have hall := ready_nil hb listed hs hr
      have hall' : ∀ i, i < ops.size → listed.getD i false = true := fun i hi => by
        have := hall i hi
        have h4 : i < listed.size := by omega
        simp only [Array.getD_eq_getD_getElem?, Array.getElem?_eq_getElem h4, Option.getD_some] at this ⊢
        exact this
      rw [putSel_congr val val _ (fun _ => true) ops.toList 0 a fun i _ h2 => ⟨hall' i (by simpa using h2), fun _ => rfl⟩]
      exact hend val w' (hJl' (hall' last hlt)).1 fun i hk hi => hF i hi (hall' i hi) (.inl hk)
    induction fuel with
    | zero =>
      intro listed val w' hs ho hJ0 hJl' hF
      have hr : Region.ready .any ops listed = [] := by
        rw [List.eq_nil_iff_forall_not_mem]
        intro i hi
        obtain ⟨h0, o, ho', _⟩ := mem_ready.1 hi
        have hi' : i < ops.size := (Array.getElem?_eq_some_iff.1 ho').1
        have := open_set listed i hs hi' h0
        omega
      exact ⟨hr, fin listed val w' hs hJl' hF hr⟩
    | succ fuel ih =>
      intro listed val w' hs ho hJ0 hJl' hF
      refine ⟨fin listed val w' hs hJl' hF, fun i hi => ?_⟩
      obtain ⟨h0, o, ho', hafter⟩ := mem_ready.1 hi
      have hi' : i < ops.size := (Array.getElem?_eq_some_iff.1 ho').1
      have h4 : i < listed.size := by omega
      have hlf : listed.getD i false = false := by
        simp only [Array.getD_eq_getD_getElem?, Array.getElem?_eq_getElem h4, Option.getD_some] at h0 ⊢
        exact h0
      have hnl : listed.getD last false = false := by
        cases hq : listed.getD last false with
        | false => rfl
        | true => rw [(hJl' hq).2 i hi'] at hlf; cases hlf
      have hJ' := hJ0 hnl
      have hol : ops.toList[i - 0]? = some o := by simpa using ho'
      unfold wpOp
      rw [ho']
      simp only
      have st := hstep i hi' o ho' (putSel val (fun i => listed.getD i false) ops.toList 0 a) w' val hJ' ?_ (putSel_defers _ _ _ _ _) (fun t ht => putSel_other _ _ t _ _ _ ht) ?_
        (fun a' w' => wpAny P .any ops Q fuel (listed.setIfInBounds i true) a' w') ?_
      · split
        · rename_i hw; rw [if_pos hw] at st; exact .inl st
        · rename_i hw; rw [if_neg hw] at st; exact st
      · -- the frame's size
        have : ∀ (l : List Oper) (k : Nat) (a : Act), (putSel val (fun i => listed.getD i false) l k a).tmps.size = a.tmps.size := by
          intro l
          induction l with
          | nil => intro _ _; rfl
          | cons o l ih2 => intro k a; simp only [putSel]; rw [ih2]; split; exact put_size _ _ _; rfl
        exact this _ _ _
      · intro j d hw hdj
        have hw0 := hw
        unfold takes at hw
        rw [ho'] at hw
        simp only at hw
        rw [List.any_eq_true] at hw
        obtain ⟨e, he, hw⟩ := hw
        simp only [Bool.and_eq_true, beq_iff_eq] at hw
        obtain ⟨hw1, rfl⟩ := hw
        replace he : e ∈ o.after := by simpa using he
        replace hw1 : Region.binds .any e = true := by unfold Region.binds; cases hge : e.ground <;> simp_all
        have hlj := hafter e he hw1
        cases hoj : ops[e.on]? with
        | none => rw [hoj] at hdj; simp at hdj
        | some oj =>
          rw [hoj] at hdj
          simp only [Option.bind_some] at hdj
          have hej : e.on < ops.size := (Array.getElem?_eq_some_iff.1 hoj).1
          exact ⟨putSel_slot val _ e.on d ops.toList 0 a oj hd (Nat.zero_le _) (by simpa using hoj) hdj hlj, hF e.on hej hlj (.inr ⟨i, hi', hlf, hw0⟩)⟩
      · intro v w'' hFv hJ'' hkeep
        rw [putSel_step a.tmps.size val _ i v ops.toList 0 a o hd (Nat.zero_le _) hol hlf]
        have hsz : (listed.setIfInBounds i true).size = ops.size := by simpa using hs
        have e : putSel (fun j => if j = i then v else val j) (fun j => if j = i then true else listed.getD j false) ops.toList 0 a = putSel (fun j => if j = i then v else val j) (fun j => (listed.setIfInBounds i true).getD j false) ops.toList 0 a :=
          putSel_congr _ _ _ _ _ _ _ fun j _ _ => by
            by_cases ej : j = i
            · subst ej; simp [h4]
            · rw [getD_set_ne false (fun h => ej h.symm)]; simp [ej]
        rw [e]
        refine ih _ _ _ hsz ?_ ?_ ?_ ?_
        · have := open_set listed i hs hi' h0; omega
        · intro hq
          by_cases ei : i = last
          · subst ei; simp [h4] at hq
          · rw [if_neg ei] at hJ''; exact hJ''
        · intro hq
          by_cases ei : i = last
          · rw [if_pos ei] at hJ''
            refine ⟨hJ'', fun j hj => ?_⟩
            by_cases ej : j = i
            · subst ej; simp [h4]
            · rw [getD_set_ne false (fun h => ej h.symm)]
              have hw := hlast j hj (fun e => ej (e.trans ei.symm))
              unfold waitsFor at hw
              rw [← ei, ho'] at hw
              simp only at hw
              rw [← Array.any_toList, List.any_eq_true] at hw
              obtain ⟨e, he, hw⟩ := hw
              simp only [Bool.and_eq_true, beq_iff_eq] at hw
              obtain ⟨hw1, rfl⟩ := hw
              exact hafter e (by simpa using he) hw1
          · rw [getD_set_ne false ei, hnl] at hq; cases hq
        · intro j hj hlj huse
          by_cases ej : j = i
          · subst ej; simpa using hFv
          · rw [getD_set_ne false (fun h => ej h.symm)] at hlj
            simp only [if_neg ej]
            rcases huse with hk | ⟨k, hk, hkl, hkt⟩
            · exact hkeep j _ ej (by unfold live; simp [hk]) (hF j hj hlj (.inl hk))
            · have eki : k ≠ i := fun e => by subst e; simp [h4] at hkl
              rw [getD_set_ne false (fun h => eki h.symm)] at hkl
              refine hkeep j _ ej ?_ (hF j hj hlj (.inr ⟨k, hk, hkl, hkt⟩))
              unfold live
              rw [Bool.or_eq_true, List.any_eq_true]
              refine .inr ⟨k, by simpa using hk, ?_⟩
              simp only [Bool.and_eq_true, bne_iff_ne, ne_eq, Bool.not_eq_true']
              refine ⟨⟨eki, hkt⟩, ?_⟩
              cases hwk : waitsFor ops i k with
              | false => rfl
              | true =>
                unfold waitsFor at hwk
                rw [ho'] at hwk
                simp only at hwk
                rw [← Array.any_toList, List.any_eq_true] at hwk
                obtain ⟨e, he, hwk⟩ := hwk
                simp only [Bool.and_eq_true, beq_iff_eq] at hwk
                obtain ⟨hw1, rfl⟩ := hwk
                rw [hafter e (by simpa using he) hw1] at hkl
                cases hkl
  have := key ops.size (Array.replicate ops.size false) (fun _ => undef) { w with drawn := w.drawn + 1 } (by simp) (by unfold open_; exact Nat.le_trans (List.countP_le_length) (by simp)) (fun _ => hJ) (fun h => by simp [hlt] at h) (fun i hi h _ => by simp [hi] at h)
  rw [putSel_congr _ (fun _ => undef) _ (fun _ => false) ops.toList 0 a (fun i _ h2 => ⟨by simp [Array.getElem?_replicate]; split <;> rfl, fun _ => rfl⟩)] at this
  have e0 : ∀ (l : List Oper) (k : Nat) (a : Act), putSel (fun _ => undef) (fun _ => false) l k a = a := by
    intro l
    induction l with
    | nil => intro _ _; rfl
    | cons o l ih => intro k a; simp only [putSel]; exact ih _ _
  rw [e0] at this
  exact this
def StepOfL (P : Program) (ops : Array Oper) (Q : Exit → Act → World → Prop) (a : Act) (keep : List Nat) (F : Nat → Value → World → Prop) (J Jl : World → Prop) (last : Nat) (i : Nat) (o : Oper) : Prop :=
  ∀ (a' : Act) (w' : World), J w' → a'.tmps.size = a.tmps.size → a'.defers = a.defers → frameFacts ops.toList a a' o.op.operands.toList → depFacts ops F a' w' o.after.toList →
    ∀ K : Act → World → Prop, (∀ v w'', F i v w'' → (if i = last then Jl w'' else J w'') → (∀ j u, j ≠ i → live ops keep i j = true → F j u w' → F j u w'') → K (a'.put o.dst v) w'') → if Region.wanted o (yielded ops a'.tmps) = true then o.wp P a' w' K Q else K (a'.put o.dst undef) w'
def stepsFromL (P : Program) (ops : Array Oper) (Q : Exit → Act → World → Prop) (a : Act) (keep : List Nat) (F : Nat → Value → World → Prop) (J Jl : World → Prop) (last : Nat) : List Oper → Nat → Prop
  | [], _ => True
  | o :: l, k => StepOfL P ops Q a keep F J Jl last k o ∧ stepsFromL P ops Q a keep F J Jl last l (k + 1)
theorem stepsFromL_get {a : Act} {keep : List Nat} {F : Nat → Value → World → Prop} {J Jl : World → Prop} {last : Nat} : ∀ (l : List Oper) (k : Nat), stepsFromL P ops Q a keep F J Jl last l k → ∀ i o, l[i]? = some o → StepOfL P ops Q a keep F J Jl last (k + i) o
  | [], _, _, _, _, h => by simp at h
  | o' :: l, k, h, 0, o, ho => by
    simp only [List.getElem?_cons_zero, Option.some.injEq] at ho
    subst ho
    exact h.1
  | o' :: l, k, h, i + 1, o, ho => by
    have := stepsFromL_get l (k + 1) h.2 i o (by simpa using ho)
    rwa [show k + 1 + i = k + (i + 1) by omega] at this
theorem region_steps_last {id : Nat} {a : Act} {w : World} (hm : P.follows .mixedOrders = true) (hd : dstsOk a.tmps.size ops.toList = true) (hb : backward ops = true)
    (keep : List Nat) (hk : (keep.all fun i => decide (i < ops.size)) = true) (F : Nat → Value → World → Prop) (J Jl : World → Prop) (last : Nat) (hlt : last < ops.size) (hlast : ((List.range ops.size).all fun i => i == last || waitsFor ops last i) = true) (hJ : J w.drew)
    (hstep : stepsFromL P ops Q a keep F J Jl last ops.toList 0)
    (hend : ∀ (val : Nat → Value) (w' : World), Jl w' → factsFrom F val w' keep → Q .normal (putSel val (fun _ => true) ops.toList 0 a) w') :
    (Code.region id ops true).wp P Q a w := by
  refine region_each_last hm hd hb keep F J Jl last hlt (fun i hi hne => by have := List.all_eq_true.1 hlast i (by simpa using hi); simpa [hne] using this) hJ ?_ fun val w' h1 h2 => hend val w' h1 (factsFrom_mk _ fun i hi => h2 i hi (by have := List.all_eq_true.1 hk i hi; simpa using this))
  intro i hi o ho a' w' val hJ' hsz hdf hfr hdep K hK
  have st := stepsFromL_get ops.toList 0 hstep i o (by simpa using ho)
  rw [Nat.zero_add] at st
  refine st a' w' hJ' hsz hdf ?_ ?_ K hK
  · generalize o.op.operands.toList = l
    induction l with
    | nil => trivial
    | cons x l ih =>
      cases x with
      | tmp t => exact ⟨fun h v hv => Slot.mk ((hfr t h).trans hv), ih⟩
      | _ => exact ih
  · have : ∀ l : List Edge, (∀ e ∈ l, e ∈ o.after) → depFacts ops F a' w' l := by
      intro l
      induction l with
      | nil => intro _; trivial
      | cons e l ih =>
        intro hl
        refine ⟨fun hg d hd => ⟨val e.on, Slot.mk (hdep e.on d ?_ hd).1, (hdep e.on d ?_ hd).2⟩, ih fun x hx => hl x (by simp [hx])⟩
        all_goals
          unfold takes
          rw [ho]
          simp only
          rw [List.any_eq_true]
          exact ⟨e, by simpa using hl e (by simp), by rw [hg]; simp⟩
    exact this _ fun e he => by simpa using he
end
end Nt
