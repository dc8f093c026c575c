/-
  A map that a call makes, with strings as keys and whatever elements: read as a function to Option of values. An append of one struct. A region that draws its order and whose last operation waits for all others: what is known of the world ahead of it, and behind it. apart.Check, walked at two rules. apart.Check at two rules; the statement: eras that end earlier to the east.
-/
import Derived.Test.YteccmgkfmeoekaaDoorMR
import Derived.Test.YteccmgkfmeoekaaDoorMQ
import Derived.Maps.AppendAt
import Derived.Test.YteccmgkfmeoekaaDoorMXE
import Derived.Test.YteccmgkfmeoekaaDoorMS
import Derived.WalkKit
import Derived.Maps.Own
set_option linter.unusedVariables false
set_option linter.unusedSimpArgs false
namespace Nt.Maps
open Go Go.Maps Go.RowKit Go.WideMaps
abbrev DV := DataW Value
def anyElem (v : Value) : Option (DV × List MemPlace) := some (.held v, [])
def RelAny (D : DV) (f : List UInt8 → Option Value) : Prop := ∀ (l : List UInt8) (z : DV), D.atKey (.string l) z = match f l with | none => z | some t => .held t
def OwnAny (w : World) (P : Program) (k : TypeId) (b n : Nat) (f : List UInt8 → Option Value) : Prop := ∃ D : DV, w.ownsMap P k anyElem b n D ∧ RelAny D f
section
variable {P : Program} {k e t : TypeId} {w : World} {b n : Nat} {f : List UInt8 → Option Value}
theorem OwnAny.made (w : World) (P : Program) (k : TypeId) : OwnAny (w.alloc (.map #[] 0)) P k w.heap.size 0 (fun _ => none) := ⟨_, World.ownsMap_made _ _ _ _, fun _ _ => rfl⟩
theorem OwnAny.lt (h : OwnAny w P k b n f) : b < w.heap.size := h.elim fun _ h => h.1.lt
theorem OwnAny.kept {w' : World} {row : Option Nat} (h : OwnAny w P k b n f) (hg : w.grownBy w' row) (hne : some b ≠ row) : OwnAny w' P k b n f := h.elim fun D h => ⟨D, h.1.kept hg hne, h.2⟩
theorem OwnAny.alloc (h : OwnAny w P k b n f) (o : Obj) : OwnAny (w.alloc o) P k b n f := h.elim fun D h => ⟨D, h.1.alloc o, h.2⟩
theorem OwnAny.ext {w' : World} (h : OwnAny w P k b n f) (hb : Below w.heap.size w w') : OwnAny w' P k b n f := by
  have hlt := h.lt
  obtain ⟨D, ⟨es, clock, hh, r⟩, h2⟩ := h
  exact ⟨D, ⟨es, clock, (hb.block b hlt).trans hh, r⟩, h2⟩
theorem rel_put_any {D : DV} (hD : IsMap D) (h : RelAny D f) (l : List UInt8) (x : Value) : RelAny (D.put (.string l) (.held x)) (fun y => if y = l then some x else f y) := by
  intro y z
  by_cases e : y = l
  · subst e
    rw [atKey_put_same hD (show WideAt.IsKeyLit (.string y) from trivial)]; show _ = _; simp
  · rw [atKey_put_other (fun q => e (by cases q; rfl)), h y z]; simp [e]
theorem look_any (hk : P.underlying k = some .string) (ht : P.underlying t = some (.map k e)) {z : Value} (hz : (zeroValue e).run P w = .ok z w) (hown : OwnAny w P k b n f) (l : List UInt8) (hl : l.length ≤ maxLen) :
    (Instr.lookup t (.map (some b)) (.string ⟨l.toArray⟩) false).run P w = .ok ((f l).getD z) w := by
  obtain ⟨D, hD, hR⟩ := hown
  obtain ⟨v, ps, hrun, hv⟩ := hD.lookup (string_keyed hk) ht hz (show anyElem z = some (.held z, []) from rfl) (key_of hk l hl)
  have h1 : DataW.held v = D.atKey (.string l) (.held z) := congrArg Prod.fst (Option.some.inj hv)
  rw [hR l] at h1
  rw [hrun]
  cases hf : f l with
  | none => rw [hf] at h1; simp at h1; rw [h1]; rfl
  | some x => rw [hf] at h1; simp at h1; rw [h1]; rfl
theorem put_any (hk : P.underlying k = some .string) (ht : P.underlying t = some (.map k e)) (hn : n < maxLen) (hown : OwnAny w P k b n f) (l : List UInt8) (hl : l.length ≤ maxLen) (x : Value) :
    ∃ w', (Instr.mapUpdate t (.map (some b)) (.string ⟨l.toArray⟩) x).run P w = .ok () w' ∧ OwnAny w' P k b (n + 1) (fun y => if y = l then some x else f y) ∧ w.grownBy w' (some b) := by
  obtain ⟨D, hD, hR⟩ := hown
  obtain ⟨w', hrun, h1, h2⟩ := hD.update (string_keyed hk) ht hn (key_of hk l hl) (show anyElem x = some (.held x, []) from rfl)
  exact ⟨w', hrun, ⟨_, h1, rel_put_any hD.isMap hR l x⟩, h2⟩
theorem wpList_look_any {ops : Array Oper} {rest : List Oper} {o : Oper} {a : Act} {Q : Exit → Act → World → Prop} (hg : o.guard = none) (m x : Operand) (t : TypeId) (hop : o.op = Op.lookup t m x false) (k e : TypeId) (hk : P.underlying k = some .string) (ht : P.underlying t = some (.map k e))
    (z : Value) (hz : (zeroValue e).run P w = .ok z w) (b n : Nat) (f : List UInt8 → Option Value) (hm : a.eval m = .map (some b)) (hown : OwnAny w P k b n f) (l : List UInt8) (hl : l.length ≤ maxLen) (hx : a.eval x = .string ⟨l.toArray⟩)
    (hK : wpList P ops Q rest (a.put o.dst ((f l).getD z)) w) : wpList P ops Q (o :: rest) a w := by
  refine wpList_plain hg fun K' hK' => ?_
  have hrun := look_any hk ht hz hown l hl
  unfold Oper.wp
  simp [execOp, hop, hm, hx, hrun, Result.andThen]
  exact hK' _ _ hK
end
end Nt.Maps
namespace Nt
open Go Go.RowKit
theorem run_append_st {P : Program} {w : World} (base t ty e : TypeId) (z : Value) (size bytes : Nat) (ht : P.underlying t = some (.slice e)) (hinfo : (P.info? e).map (fun i => (i.zero, i.size, i.bytes)) = some (some z, size, bytes)) (hzs : z.cells.size = size) (hsz : 0 < size) (hb : 0 < bytes)
    (v : Value) (n : Nat) (xs : List Value) (hown : w.ownsRow base e size v n xs) (g : Nat) (R : Array Value) (e' : TypeId) (hg : w.heap[g]? = some (.cells R e' (0, 0))) (hR : R.size = size) (hy : ∀ u ∈ R.toList, u.oneCell' = true) (hbytes : (n + 1) * bytes ≤ 140737488355328) (hbase : base ≤ w.heap.size) :
    ∃ v' w', (Builtin.append_ #[t, t] ty #[v, .slice (some ⟨g, 0, none⟩) 1 1]).run P w = .ok v' w' ∧ w'.ownsRow base e size v' (n + 1) (xs ++ R.toList) ∧ w.grownBy w' v.ownBlock := by
  obtain ⟨i0, hi, hz0, hz1, hz2⟩ := info_parts hinfo
  have hlen' : n + 1 ≤ 140737488355328 := Nat.le_trans (Nat.le_mul_of_pos_right _ hb) hbytes
  have hnews : ∀ j u, R.toList[j]? = some u → w.cell? ((⟨g, 0, none⟩ : Addr).add j) = some u := by
    intro j u hj
    have hj' : R[j]? = some u := by simpa using hj
    by_cases h0 : j = 0
    · subst h0; simp [Addr.add, World.cell?, hg, hj']
    · simp [Addr.add, World.cell?, hg, hj', h0]
  obtain ⟨v', w', h1, h2, h3, _⟩ := run_append_own (P := P) w base t ty e i0 z size bytes ht hi hz0 hz1 hz2 hzs hsz v n xs hown ⟨g, 0, none⟩ 1 1 R.toList (by simp [hR]) hnews hy (by unfold maxLen; omega) hbytes hbase
  exact ⟨v', w', h1, h2, h3⟩
theorem run_append_st2 {P : Program} {w : World} (base t ty e : TypeId) (z : Value) (size bytes : Nat) (ht : P.underlying t = some (.slice e)) (hinfo : (P.info? e).map (fun i => (i.zero, i.size, i.bytes)) = some (some z, size, bytes)) (hzs : z.cells.size = size) (hsz : 0 < size) (hb : 0 < bytes)
    (v : Value) (n : Nat) (xs : List Value) (hown : w.ownsRow base e size v n xs) (g : Nat) (R : Array Value) (e' : TypeId) (hg : w.heap[g]? = some (.cells R e' (0, 0))) (hR : R.size = size) (hy : ∀ u ∈ R.toList, u.oneCell' = true) (hbytes : (n + 1) * bytes ≤ 140737488355328) (hbase : base ≤ w.heap.size) :
    ∃ v' w', (Builtin.append_ #[t, t] ty #[v, .slice (some ⟨g, 0, none⟩) 1 1]).run P w = .ok v' w' ∧ w'.ownsRow base e size v' (n + 1) (xs ++ R.toList) ∧ w'.ownsRow base e size v n xs ∧ w.grownBy w' v.ownBlock := by
  have hown0 := hown
  obtain ⟨hxl, hcase⟩ := hown
  rcases hcase with ⟨hv, hn⟩ | ⟨gb, cap, cur, hv, hbg, hgh, hnc, hcm, hcs, htake⟩
  · obtain ⟨v', w', h1, h2, h3⟩ := run_append_st base t ty e z size bytes ht hinfo hzs hsz hb v n xs hown0 g R e' hg hR hy hbytes hbase
    exact ⟨v', w', h1, h2, ⟨hxl, .inl ⟨hv, hn⟩⟩, h3⟩
  · subst hv
    obtain ⟨i0, hi, hz0, hz1, hz2⟩ := info_parts hinfo
    have hnews : ∀ j u, R.toList[j]? = some u → w.cell? ((⟨g, 0, none⟩ : Addr).add j) = some u := by
      intro j u hj
      have hj' : R[j]? = some u := by simpa using hj
      by_cases h0 : j = 0
      · subst h0; simp [Addr.add, World.cell?, hg, hj']
      · simp [Addr.add, World.cell?, hg, hj', h0]
    by_cases hroom : n + 1 ≤ cap
    · have hmul : (n + 1) * size ≤ cap * size := Nat.mul_le_mul_right _ hroom
      have hs1 : (n + 1) * size = n * size + size := by rw [Nat.add_mul, Nat.one_mul]
      have hRl : R.toList.length = size := by simp [hR]
      have hfit : n * i0.size + R.toList.length ≤ cur.size := by rw [hz1, hRl, hcs]; omega
      have hr := run_append_room (P := P) (ty := ty) w t e i0 ht hi gb n cap cur hgh ⟨g, 0, none⟩ 1 1 R.toList (by rw [hRl, hz1, Nat.one_mul]) hnews hy hroom hfit
      rw [hz1] at hr
      have htl : (cur.toList.take (n * size)).length = n * size := by rw [List.length_take, Array.length_toList]; omega
      refine ⟨_, _, hr, ⟨?_, .inr ⟨gb, cap, _, rfl, hbg, setRow_heap w gb cur _ e _ hgh, hroom, hcm, ?_, ?_⟩⟩, ⟨hxl, .inr ⟨gb, cap, _, rfl, hbg, setRow_heap w gb cur _ e _ hgh, hnc, hcm, ?_, ?_⟩⟩, ⟨rfl, rfl, rfl, by simp, fun k _ hk => setRow_other w gb k _ (fun e => hk (by simp [Value.ownBlock, e]))⟩⟩
      · rw [List.length_append, hxl, hRl, hs1]
      · simp only [List.size_toArray, List.length_append, List.length_drop, Array.length_toList, htl, hRl]
        omega
      · simp only [htake]
        rw [show (n + 1) * size = (xs ++ R.toList).length by rw [List.length_append, hxl, hRl, hs1]]
        exact List.take_left
      · simp only [List.size_toArray, List.length_append, List.length_drop, Array.length_toList, htl, hRl]
        omega
      · simp only [htake, List.append_assoc]
        rw [← hxl]
        exact List.take_left
    · have hlen' : n + 1 ≤ 140737488355328 := Nat.le_trans (Nat.le_mul_of_pos_right _ hb) hbytes
      have holds : ∀ j u, xs[j]? = some u → w.cell? ((⟨gb, 0, none⟩ : Addr).add j) = some u := hown0.cells (g := gb) rfl
      obtain ⟨v', w', h1, h2, h3⟩ := run_append_arg_grows (P := P) (w := w) t ty e i0 z size bytes ht hi hz0 hz1 hz2 hzs hsz ⟨gb, 0, none⟩ n cap xs hxl holds ⟨g, 0, none⟩ 1 1 R.toList (by simp [hR]) hnews (by omega) (by unfold maxLen; omega) hbytes
      exact ⟨v', w', h1, ownsRow_mono h2 hbase, ownsRow_ext hown0 (below_grown h3), ⟨h3.os, h3.tape, h3.output, h3.size, fun k hk _ => h3.block k hk (by simp)⟩⟩
end Nt

set_option linter.unusedVariables false
set_option linter.unusedSimpArgs false
namespace Nt
open Go Go.RowKit
section
variable {P : Program} {ops : Array Oper} {Q : Exit → Act → World → Prop}
theorem region_each_last {id : Nat} {a : Act} {w : World} (hm : P.follows .mixedOrders = true) (hd : dstsOk a.tmps.size ops.toList = true) (hb : backward ops = true)
    (keep : List Nat) (F : Nat → Value → World → Prop) (J Jl : World → Prop) (last : Nat) (hlt : last < ops.size) (hlast : ∀ i, i < ops.size → i ≠ last → waitsFor ops last i = true) (hJ : J { w with drawn := w.drawn + 1 })
    (hstep : ∀ i, i < ops.size → ∀ (o : Oper), ops[i]? = some o → ∀ (a' : Act) (w' : World) (val : Nat → Value), J w' → a'.tmps.size = a.tmps.size → a'.defers = a.defers →
      (∀ t, (ops.toList.all fun o => o.dst != some t) = true → a'.tmps[t]? = a.tmps[t]?) →
      (∀ j d, takes ops i j = true → ((ops[j]?).bind (·.dst)) = some d → a'.tmps[d]? = some (val j) ∧ F j (val j) w') →
      ∀ K : Act → World → Prop, (∀ v w'', F i v w'' → (if i = last then Jl w'' else J w'') → (∀ j u, j ≠ i → live ops keep i j = true → F j u w' → F j u w'') → K (a'.put o.dst v) w'') → if Region.wanted o (yielded ops a'.tmps) = true then o.wp P a' w' K Q else K (a'.put o.dst undef) w')
    (hend : ∀ (val : Nat → Value) (w' : World), Jl w' → (∀ i ∈ keep, i < ops.size → F i (val i) w') → Q .normal (putSel val (fun _ => true) ops.toList 0 a) w') :
    (Code.region id ops true).wp P Q a w := by
  refine wp_region_any hm ?_
  have key : ∀ (fuel : Nat) (listed : Array Bool) (val : Nat → Value) (w' : World), listed.size = ops.size → open_ ops listed ≤ fuel → (listed.getD last false = false → J w') → (listed.getD last false = true → Jl w' ∧ ∀ i, i < ops.size → listed.getD i false = true) →
      (∀ i, i < ops.size → listed.getD i false = true → (i ∈ keep ∨ ∃ k, k < ops.size ∧ listed.getD k false = false ∧ takes ops k i = true) → F i (val i) w') → wpAny P .any ops Q fuel listed (putSel val (fun i => listed.getD i false) ops.toList 0 a) w' := by
    intro fuel
    have fin : ∀ (listed : Array Bool) (val : Nat → Value) (w' : World), listed.size = ops.size → (listed.getD last false = true → Jl w' ∧ ∀ i, i < ops.size → listed.getD i false = true) → (∀ i, i < ops.size → listed.getD i false = true → (i ∈ keep ∨ ∃ k, k < ops.size ∧ listed.getD k false = false ∧ takes ops k i = true) → F i (val i) w') →
        Region.ready .any ops listed = [] → Q .normal (putSel val (fun i => listed.getD i false) ops.toList 0 a) w' := by
      intro listed val w' hs hJl' hF hr
      have hall := ready_nil hb listed hs hr
      have hall' : ∀ i, i < ops.size → listed.getD i false = true := fun i hi => by
        have := hall i hi
        have h4 : i < listed.size := by omega
        simp only [Array.getD_eq_getD_getElem?, Array.getElem?_eq_getElem h4, Option.getD_some] at this ⊢
        exact this
      rw [putSel_congr val val _ (fun _ => true) ops.toList 0 a fun i _ h2 => ⟨hall' i (by simpa using h2), fun _ => rfl⟩]
      exact hend val w' (hJl' (hall' last hlt)).1 fun i hk hi => hF i hi (hall' i hi) (.inl hk)
    induction fuel with
    | zero =>
      intro listed val w' hs ho hJ0 hJl' hF
      have hr : Region.ready .any ops listed = [] := by
        rw [List.eq_nil_iff_forall_not_mem]
        intro i hi
        obtain ⟨h0, o, ho', _⟩ := mem_ready.1 hi
        have hi' : i < ops.size := (Array.getElem?_eq_some_iff.1 ho').1
        have := open_set listed i hs hi' h0
        omega
      exact ⟨hr, fin listed val w' hs hJl' hF hr⟩
    | succ fuel ih =>
      intro listed val w' hs ho hJ0 hJl' hF
      refine ⟨fin listed val w' hs hJl' hF, fun i hi => ?_⟩
      obtain ⟨h0, o, ho', hafter⟩ := mem_ready.1 hi
      have hi' : i < ops.size := (Array.getElem?_eq_some_iff.1 ho').1
      have h4 : i < listed.size := by omega
      have hlf : listed.getD i false = false := by
        simp only [Array.getD_eq_getD_getElem?, Array.getElem?_eq_getElem h4, Option.getD_some] at h0 ⊢
        exact h0
      have hnl : listed.getD last false = false := by
        cases hq : listed.getD last false with
        | false => rfl
        | true => rw [(hJl' hq).2 i hi'] at hlf; cases hlf
      have hJ' := hJ0 hnl
      have hol : ops.toList[i - 0]? = some o := by simpa using ho'
      unfold wpOp
      rw [ho']
      simp only
      have st := hstep i hi' o ho' (putSel val (fun i => listed.getD i false) ops.toList 0 a) w' val hJ' ?_ (putSel_defers _ _ _ _ _) (fun t ht => putSel_other _ _ t _ _ _ ht) ?_
        (fun a' w' => wpAny P .any ops Q fuel (listed.setIfInBounds i true) a' w') ?_
      · split
        · rename_i hw; rw [if_pos hw] at st; exact .inl st
        · rename_i hw; rw [if_neg hw] at st; exact st
      · -- the frame's size
        have : ∀ (l : List Oper) (k : Nat) (a : Act), (putSel val (fun i => listed.getD i false) l k a).tmps.size = a.tmps.size := by
          intro l
          induction l with
          | nil => intro _ _; rfl
          | cons o l ih2 => intro k a; simp only [putSel]; rw [ih2]; split; exact put_size _ _ _; rfl
        exact this _ _ _
      · intro j d hw hdj
        have hw0 := hw
        unfold takes at hw
        rw [ho'] at hw
        simp only at hw
        rw [List.any_eq_true] at hw
        obtain ⟨e, he, hw⟩ := hw
        simp only [Bool.and_eq_true, beq_iff_eq] at hw
        obtain ⟨hw1, rfl⟩ := hw
        replace he : e ∈ o.after := by simpa using he
        replace hw1 : Region.binds .any e = true := by unfold Region.binds; cases hge : e.ground <;> simp_all
        have hlj := hafter e he hw1
        cases hoj : ops[e.on]? with
        | none => rw [hoj] at hdj; simp at hdj
        | some oj =>
          rw [hoj] at hdj
          simp only [Option.bind_some] at hdj
          have hej : e.on < ops.size := (Array.getElem?_eq_some_iff.1 hoj).1
          exact ⟨putSel_slot val _ e.on d ops.toList 0 a oj hd (Nat.zero_le _) (by simpa using hoj) hdj hlj, hF e.on hej hlj (.inr ⟨i, hi', hlf, hw0⟩)⟩
      · intro v w'' hFv hJ'' hkeep
        rw [putSel_step a.tmps.size val _ i v ops.toList 0 a o hd (Nat.zero_le _) hol hlf]
        have hsz : (listed.setIfInBounds i true).size = ops.size := by simpa using hs
        have e : putSel (fun j => if j = i then v else val j) (fun j => if j = i then true else listed.getD j false) ops.toList 0 a = putSel (fun j => if j = i then v else val j) (fun j => (listed.setIfInBounds i true).getD j false) ops.toList 0 a :=
          putSel_congr _ _ _ _ _ _ _ fun j _ _ => by
            by_cases ej : j = i
            · subst ej; simp [h4]
            · rw [getD_set_ne false (fun h => ej h.symm)]; simp [ej]
        rw [e]
        refine ih _ _ _ hsz ?_ ?_ ?_ ?_
        · have := open_set listed i hs hi' h0; omega
        · intro hq
          by_cases ei : i = last
          · subst ei; simp [h4] at hq
          · rw [if_neg ei] at hJ''; exact hJ''
        · intro hq
          by_cases ei : i = last
          · rw [if_pos ei] at hJ''
            refine ⟨hJ'', fun j hj => ?_⟩
            by_cases ej : j = i
            · subst ej; simp [h4]
            · rw [getD_set_ne false (fun h => ej h.symm)]
              have hw := hlast j hj (fun e => ej (e.trans ei.symm))
              unfold waitsFor at hw
              rw [← ei, ho'] at hw
              simp only at hw
              rw [← Array.any_toList, List.any_eq_true] at hw
              obtain ⟨e, he, hw⟩ := hw
              simp only [Bool.and_eq_true, beq_iff_eq] at hw
              obtain ⟨hw1, rfl⟩ := hw
              exact hafter e (by simpa using he) hw1
          · rw [getD_set_ne false ei, hnl] at hq; cases hq
        · intro j hj hlj huse
          by_cases ej : j = i
          · subst ej; simpa using hFv
          · rw [getD_set_ne false (fun h => ej h.symm)] at hlj
            simp only [if_neg ej]
            rcases huse with hk | ⟨k, hk, hkl, hkt⟩
            · exact hkeep j _ ej (by unfold live; simp [hk]) (hF j hj hlj (.inl hk))
            · have eki : k ≠ i := fun e => by subst e; simp [h4] at hkl
              rw [getD_set_ne false (fun h => eki h.symm)] at hkl
              refine hkeep j _ ej ?_ (hF j hj hlj (.inr ⟨k, hk, hkl, hkt⟩))
              unfold live
              rw [Bool.or_eq_true, List.any_eq_true]
              refine .inr ⟨k, by simpa using hk, ?_⟩
              simp only [Bool.and_eq_true, bne_iff_ne, ne_eq, Bool.not_eq_true']
              refine ⟨⟨eki, hkt⟩, ?_⟩
              cases hwk : waitsFor ops i k with
              | false => rfl
              | true =>
                unfold waitsFor at hwk
                rw [ho'] at hwk
                simp only at hwk
                rw [← Array.any_toList, List.any_eq_true] at hwk
                obtain ⟨e, he, hwk⟩ := hwk
                simp only [Bool.and_eq_true, beq_iff_eq] at hwk
                obtain ⟨hw1, rfl⟩ := hwk
                rw [hafter e (by simpa using he) hw1] at hkl
                cases hkl
  have := key ops.size (Array.replicate ops.size false) (fun _ => undef) { w with drawn := w.drawn + 1 } (by simp) (by unfold open_; exact Nat.le_trans (List.countP_le_length) (by simp)) (fun _ => hJ) (fun h => by simp [hlt] at h) (fun i hi h _ => by simp [hi] at h)
  rw [putSel_congr _ (fun _ => undef) _ (fun _ => false) ops.toList 0 a (fun i _ h2 => ⟨by simp [Array.getElem?_replicate]; split <;> rfl, fun _ => rfl⟩)] at this
  have e0 : ∀ (l : List Oper) (k : Nat) (a : Act), putSel (fun _ => undef) (fun _ => false) l k a = a := by
    intro l
    induction l with
    | nil => intro _ _; rfl
    | cons o l ih => intro k a; simp only [putSel]; exact ih _ _
  rw [e0] at this
  exact this
def StepOfL (P : Program) (ops : Array Oper) (Q : Exit → Act → World → Prop) (a : Act) (keep : List Nat) (F : Nat → Value → World → Prop) (J Jl : World → Prop) (last : Nat) (i : Nat) (o : Oper) : Prop :=
  ∀ (a' : Act) (w' : World), J w' → a'.tmps.size = a.tmps.size → a'.defers = a.defers → frameFacts ops.toList a a' o.op.operands.toList → depFacts ops F a' w' o.after.toList →
    ∀ K : Act → World → Prop, (∀ v w'', F i v w'' → (if i = last then Jl w'' else J w'') → (∀ j u, j ≠ i → live ops keep i j = true → F j u w' → F j u w'') → K (a'.put o.dst v) w'') → if Region.wanted o (yielded ops a'.tmps) = true then o.wp P a' w' K Q else K (a'.put o.dst undef) w'
def stepsFromL (P : Program) (ops : Array Oper) (Q : Exit → Act → World → Prop) (a : Act) (keep : List Nat) (F : Nat → Value → World → Prop) (J Jl : World → Prop) (last : Nat) : List Oper → Nat → Prop
  | [], _ => True
  | o :: l, k => StepOfL P ops Q a keep F J Jl last k o ∧ stepsFromL P ops Q a keep F J Jl last l (k + 1)
theorem stepsFromL_get {a : Act} {keep : List Nat} {F : Nat → Value → World → Prop} {J Jl : World → Prop} {last : Nat} : ∀ (l : List Oper) (k : Nat), stepsFromL P ops Q a keep F J Jl last l k → ∀ i o, l[i]? = some o → StepOfL P ops Q a keep F J Jl last (k + i) o
  | [], _, _, _, _, h => by simp at h
  | o' :: l, k, h, 0, o, ho => by
    simp only [List.getElem?_cons_zero, Option.some.injEq] at ho
    subst ho
    exact h.1
  | o' :: l, k, h, i + 1, o, ho => by
    have := stepsFromL_get l (k + 1) h.2 i o (by simpa using ho)
    rwa [show k + 1 + i = k + (i + 1) by omega] at this
theorem region_steps_last {id : Nat} {a : Act} {w : World} (hm : P.follows .mixedOrders = true) (hd : dstsOk a.tmps.size ops.toList = true) (hb : backward ops = true)
    (keep : List Nat) (hk : (keep.all fun i => decide (i < ops.size)) = true) (F : Nat → Value → World → Prop) (J Jl : World → Prop) (last : Nat) (hlt : last < ops.size) (hlast : ((List.range ops.size).all fun i => i == last || waitsFor ops last i) = true) (hJ : J w.drew)
    (hstep : stepsFromL P ops Q a keep F J Jl last ops.toList 0)
    (hend : ∀ (val : Nat → Value) (w' : World), Jl w' → factsFrom F val w' keep → Q .normal (putSel val (fun _ => true) ops.toList 0 a) w') :
    (Code.region id ops true).wp P Q a w := by
  refine region_each_last hm hd hb keep F J Jl last hlt (fun i hi hne => by have := List.all_eq_true.1 hlast i (by simpa using hi); simpa [hne] using this) hJ ?_ fun val w' h1 h2 => hend val w' h1 (factsFrom_mk _ fun i hi => h2 i hi (by have := List.all_eq_true.1 hk i hi; simpa using this))
  intro i hi o ho a' w' val hJ' hsz hdf hfr hdep K hK
  have st := stepsFromL_get ops.toList 0 hstep i o (by simpa using ho)
  rw [Nat.zero_add] at st
  refine st a' w' hJ' hsz hdf ?_ ?_ K hK
  · generalize o.op.operands.toList = l
    induction l with
    | nil => trivial
    | cons x l ih =>
      cases x with
      | tmp t => exact ⟨fun h v hv => Slot.mk ((hfr t h).trans hv), ih⟩
      | _ => exact ih
  · have : ∀ l : List Edge, (∀ e ∈ l, e ∈ o.after) → depFacts ops F a' w' l := by
      intro l
      induction l with
      | nil => intro _; trivial
      | cons e l ih =>
        intro hl
        refine ⟨fun hg d hd => ⟨val e.on, Slot.mk (hdep e.on d ?_ hd).1, (hdep e.on d ?_ hd).2⟩, ih fun x hx => hl x (by simp [hx])⟩
        all_goals
          unfold takes
          rw [ho]
          simp only
          rw [List.any_eq_true]
          exact ⟨e, by simpa using hl e (by simp), by rw [hg]; simp⟩
    exact this _ fun e he => by simpa using he
end
end Nt

set_option linter.unusedVariables false
set_option linter.unusedSimpArgs false
namespace Go.Proofs.YteccmgkfmeoekaaDoor
open Go Go.RowKit Go.Shelf Nt Nt.Maps
abbrev usS : Value := .string ⟨#[85, 83]⟩
def uA (k i : Nat) : Int := ((([[0, 2007, 32767, 3, 2, 0, 8, 7200, 0, 3600], [0, 2007, 32767, 11, 2, 0, 1, 7200, 0, 0]] : List (List Int)).getD k []).getD i 0)
def uL (k : Nat) : ByteArray := if k = 0 then ⟨#[68]⟩ else ⟨#[83]⟩
abbrev rowU (k : Nat) : Array Value := #[usS, .int .i64 (uA k 1), .int .i64 (uA k 2), .int .i64 (uA k 3), .int .i64 (uA k 4), .int .i64 (uA k 5), .int .i64 (uA k 6), .int .i64 (uA k 7), .int .i64 (uA k 8), .int .i64 (uA k 9), .string (uL k)]
def CellsU (w : World) (b off k : Nat) : Prop := w.cell? ⟨b, off, none⟩ = some usS ∧ w.cell? ⟨b, off + 1, none⟩ = some (.int .i64 (uA k 1)) ∧ w.cell? ⟨b, off + 2, none⟩ = some (.int .i64 (uA k 2)) ∧ w.cell? ⟨b, off + 3, none⟩ = some (.int .i64 (uA k 3)) ∧ w.cell? ⟨b, off + 4, none⟩ = some (.int .i64 (uA k 4)) ∧ w.cell? ⟨b, off + 5, none⟩ = some (.int .i64 (uA k 5)) ∧ w.cell? ⟨b, off + 6, none⟩ = some (.int .i64 (uA k 6)) ∧ w.cell? ⟨b, off + 7, none⟩ = some (.int .i64 (uA k 7)) ∧ w.cell? ⟨b, off + 8, none⟩ = some (.int .i64 (uA k 8)) ∧ w.cell? ⟨b, off + 9, none⟩ = some (.int .i64 (uA k 9)) ∧ w.cell? ⟨b, off + 10, none⟩ = some (.string (uL k))
theorem CellsU.below {w w' : World} {B b off k : Nat} (h : CellsU w b off k) (hb : Below B w w') (hlt : b < B) : CellsU w' b off k := by
  obtain ⟨h0, h1, h2, h3, h4, h5, h6, h7, h8, h9, h10⟩ := h
  exact ⟨(hb.cell hlt).trans h0, (hb.cell hlt).trans h1, (hb.cell hlt).trans h2, (hb.cell hlt).trans h3, (hb.cell hlt).trans h4, (hb.cell hlt).trans h5, (hb.cell hlt).trans h6, (hb.cell hlt).trans h7, (hb.cell hlt).trans h8, (hb.cell hlt).trans h9, (hb.cell hlt).trans h10⟩
theorem CellsU.new (w : World) (k : Nat) (e : TypeId) : CellsU (w.alloc (Obj.cells (rowU k) e)) w.heap.size 0 k := by
  have h := heap_alloc_new w (Obj.cells (rowU k) e)
  unfold CellsU
  refine ⟨?_, ?_, ?_, ?_, ?_, ?_, ?_, ?_, ?_, ?_, ?_⟩ <;> (unfold World.cell?; rw [h]; rfl)
def fU (k : Nat) (v : Value) : List UInt8 → Option Value := fun y => if y = [85, 83] then (if k = 0 then none else some v) else none
def xsU : Nat → List Value
  | 0 => []
  | k + 1 => xsU k ++ (rowU k).toList
theorem zeroSl (w : World) : (zeroValue 22).run Tryd.prog w = .ok (.slice none 0 0) w := by kernel_rfl
theorem infoR : (Tryd.prog.info? 67).map (fun i => (i.zero, i.size, i.bytes)) = some (some (.agg #[.string ⟨#[]⟩, .int .i64 0, .int .i64 0, .int .i64 0, .int .i64 0, .int .i64 0, .int .i64 0, .int .i64 0, .int .i64 0, .int .i64 0, .string ⟨#[]⟩]), 11, 104) := by kernel_rfl
theorem CellsU.heap {w w' : World} {b off k : Nat} (h : CellsU w b off k) (hb : w'.heap[b]? = w.heap[b]?) : CellsU w' b off k := by
  have e : ∀ i, w'.cell? ⟨b, i, none⟩ = w.cell? ⟨b, i, none⟩ := fun i => World.cell?_of_block (w := w) (w' := w') (a := ⟨b, i, none⟩) hb
  obtain ⟨h0, h1, h2, h3, h4, h5, h6, h7, h8, h9, h10⟩ := h
  exact ⟨(e _).trans h0, (e _).trans h1, (e _).trans h2, (e _).trans h3, (e _).trans h4, (e _).trans h5, (e _).trans h6, (e _).trans h7, (e _).trans h8, (e _).trans h9, (e _).trans h10⟩
def PostU (B k : Nat) (w0 w' : World) : Prop := ∃ pv cv, OwnAny w' Tryd.prog 9 B (k + 1) (fU (k + 1) (.slice pv (k + 1) cv)) ∧ w'.ownsRow (B + 1) 67 11 (.slice pv (k + 1) cv) (k + 1) (xsU (k + 1)) ∧ Below B w0 w' ∧ B + 1 ≤ w'.heap.size
def FU (B H k : Nat) (v : Value) : Nat → Value → World → Prop
  | 0, u, w' => u = .map (some B) ∧ OwnAny w' Tryd.prog 9 B k (fU k v)
  | 1, u, _ => u = .pointer (some ⟨H, 0, none⟩)
  | 2, u, _ => u = usS
  | 3, u, w' => u = .map (some B) ∧ OwnAny w' Tryd.prog 9 B k (fU k v) ∧ w'.ownsRow (B + 1) 67 11 v k (xsU k)
  | 4, u, _ => u = .pointer (some ⟨H, 0, none⟩)
  | 5, u, _ => u = usS
  | 6, u, w' => u = v ∧ w'.ownsRow (B + 1) 67 11 v k (xsU k)
  | 7, u, _ => u = .agg (rowU k)
  | 8, u, w' => ∃ g, u = .slice (some ⟨g, 0, none⟩) 1 1 ∧ w'.heap[g]? = some (.cells (rowU k) 67 (0, 0))
  | 9, u, w' => w'.ownsRow (B + 1) 67 11 u (k + 1) (xsU (k + 1))
  | _, _, _ => True
theorem FU_ext {B H k : Nat} {v : Value} {w w' : World} (hb : Below w.heap.size w w') (j : Nat) (u : Value) (h : FU B H k v j u w) : FU B H k v j u w' := by
  unfold FU at *
  split at h
  · exact ⟨h.1, h.2.ext hb⟩
  · exact h
  · exact h
  · exact ⟨h.1, h.2.1.ext hb, ownsRow_ext h.2.2 hb⟩
  · exact h
  · exact h
  · exact ⟨h.1, ownsRow_ext h.2 hb⟩
  · exact h
  · obtain ⟨g, h1, h2⟩ := h; exact ⟨g, h1, heap_ext h2 hb⟩
  · exact ownsRow_ext h hb
  · trivial
theorem dead {b : Bool} (h : b = true) (hf : b = false) : False := by rw [hf] at h; cases h
theorem rowU_one (k : Nat) : ∀ u ∈ (rowU k).toList, u.oneCell' = true := List.all_eq_true.1 (by rfl : (rowU k).toList.all (fun u => u.oneCell') = true)
theorem fU_put (k : Nat) (v v' : Value) : (fun y => if y = [85, 83] then some v' else fU k v y) = fU (k + 1) v' := by
  funext y
  unfold fU
  by_cases e : y = [85, 83]
  · rw [if_pos e, if_pos e, if_neg (by omega)]
  · rw [if_neg e, if_neg e, if_neg e]
def JU (B H k : Nat) (v : Value) (w0 w' : World) : Prop := Below B w0 w' ∧ B + 1 ≤ w'.heap.size ∧ CellsU w' H 0 k ∧ OwnAny w' Tryd.prog 9 B k (fU k v) ∧ w'.ownsRow (B + 1) 67 11 v k (xsU k)
theorem CellsU.lt {w : World} {b off k : Nat} (h : CellsU w b off k) : b < w.heap.size := World.block_lt_of_cell? w _ h.1
theorem JU.ext {B H k : Nat} {v : Value} {w0 w w' : World} (h : JU B H k v w0 w) (hb : Below w.heap.size w w') : JU B H k v w0 w' :=
  ⟨h.1.trans (hb.mono (by have := h.2.1; omega)), Nat.le_trans h.2.1 hb.size, h.2.2.1.below hb h.2.2.1.lt, h.2.2.2.1.ext hb, ownsRow_ext h.2.2.2.2 hb⟩
set_option maxRecDepth 100000 in
set_option maxHeartbeats 2000000 in
theorem check_walk (b0 off cap : Nat) (w : World) (hb0 : b0 < w.heap.size) (hc : ∀ k, k < 2 → CellsU w b0 (off + k * 11) k)
    (hp : ∀ w', Below w.heap.size w w' → Calls Tryd.prog 22 #[.agg (rowU 0), .agg (rowU 1)] w' fun e w'' => e = .returned (.int .i64 0) ∧ Below w'.heap.size w' w'') :
    Calls Tryd.prog 6 #[.slice (some ⟨b0, off, none⟩) 2 cap] w fun e w' => e = .returned (.tuple #[.int .i64 (-1), .int .i64 0]) ∧ Below w.heap.size w w' := by
  have hmm := @run_makeMap Tryd.prog
  go_enter Tryd.func6, Tryd.ntmps6
  go_wp2
  go_loopw [13] (fun i wr => ∃ (k : Nat) (pv : Option Addr) (cv : Nat), k ≤ 2 ∧ i = .int .i64 k ∧ OwnAny wr Tryd.prog 9 w.heap.size k (fU k (.slice pv k cv)) ∧ wr.ownsRow (w.heap.size + 1) 67 11 (.slice pv k cv) k (xsU k) ∧ (k = 0 → pv = none ∧ cv = 0) ∧ Below w.heap.size w wr ∧ w.heap.size + 1 ≤ wr.heap.size)
    (fun i _ => 2 - (intOf i).toNat)
  case atStart =>
    refine ⟨0, none, 0, by omega, rfl, ?_, World.ownsRow_nil _ _ _ _, fun _ => ⟨rfl, rfl⟩, (Below.refl _ _).alloc (Nat.le_refl _) _, by simp⟩
    rw [show fU 0 (.slice none 0 0) = fun _ => none by funext y; unfold fU; split <;> rfl]
    exact OwnAny.made w Tryd.prog 9
  case round =>
    obtain ⟨k, pv, cv, hk, rfl, hown, hrow, h0, hnx, hsz⟩ := hrel
    by_cases hlt : k < 2
    · have hcu := (hc k hlt).below hnx hb0
      obtain ⟨c0, c1, c2, c3, c4, c5, c6, c7, c8, c9, c10⟩ := hcu
      clear hc
      have hv : (fU k (.slice pv k cv) [85, 83]).getD (.slice none 0 0) = .slice pv k cv := by
        unfold fU
        rw [if_pos rfl]
        split
        · rename_i e; obtain ⟨rfl, rfl⟩ := h0 e; rw [e]; rfl
        · rfl
      go_wp2_with (first
          | (at_lookup; refine wpList_look_any rfl _ _ 65 rfl 9 22 Tryd.underlying9 Tryd.underlying65 _ (zeroSl _) w.heap.size k (fU k (.slice pv k cv)) rfl (hown.alloc _) [85, 83] (by decide) rfl ?_; rw [hv])
          | go_in)
      obtain ⟨H, hH⟩ : ∃ H, H = wr.heap.size := ⟨_, rfl⟩
      have hbox := CellsU.new wr k 67
      have hin : Below wr.heap.size wr (wr.alloc (Obj.cells (rowU k) 67)) := (Below.refl _ _).alloc (Nat.le_refl _) _
      have hws : (wr.alloc (Obj.cells (rowU k) 67)).heap.size = wr.heap.size + 1 := by simp
      obtain ⟨wi, hwi⟩ : ∃ wi, wi = wr.alloc (Obj.cells (rowU k) 67) := ⟨_, rfl⟩
      rw [← hwi] at hbox hin hws ⊢
      have hown := hown.ext hin
      have hrow0 := hrow
      have hrow := ownsRow_ext hrow hin
      have hnx : Below w.heap.size w wi := hnx.trans (hin.mono hnx.size)
      rw [← hH] at hbox hin hws hsz ⊢
      have hvH : ∀ g, (Value.slice pv k cv).ownBlock = some g → g < H := fun g hg => by rw [hH]; exact (hrow0.lt g hg).2
      clear hwi hH hin hrow0 c0 c1 c2 c3 c4 c5 c6 c7 c8 c9 c10
      go_loopw [23] (fun i wq => ∃ j : Nat, j ≤ k ∧ i = .int .i64 j ∧ Below wi.heap.size wi wq) (fun i _ => k - (intOf i).toNat)
      case atStart => exact ⟨0, by omega, rfl, Below.refl _ _⟩
      case round =>
        obtain ⟨j, hj, rfl, hq⟩ := hrel
        have hbox := hbox.below hq (by omega)
        have hHl : H < wr.heap.size := by have := hq.size; omega
        obtain ⟨d0, d1, d2, d3, d4, d5, d6, d7, d8, d9, d10⟩ := hbox
        simp only [Nat.zero_add] at d1 d2 d3 d4 d5 d6 d7 d8 d9 d10
        by_cases hjk : j < k
        · have hj0 : j = 0 := by omega
          have hk1 : k = 1 := by omega
          have hp' : ∀ w', Below w.heap.size w w' → Calls Tryd.prog 22 #[.agg (rowU 0), .agg (rowU k)] w' fun e w'' => e = .returned (.int .i64 0) ∧ Below w'.heap.size w' w'' := by rw [hk1]; exact hp
          obtain ⟨g, hg, hpv, hcg⟩ : ∃ g, g < wi.heap.size ∧ pv = some ⟨g, 0, none⟩ ∧ CellsU wi g (j * 11) 0 := by
            rcases hrow.2 with ⟨_, e⟩ | ⟨g, cap1, cur, e, _⟩
            · omega
            · cases e
              refine ⟨g, (hrow.lt g rfl).2, rfl, ?_⟩
              have hat := fun i (hi : i < 11) => hrow.cellAt i (by omega)
              rw [hj0]
              unfold CellsU
              have hx : xsU k = (rowU 0).toList := by rw [hk1]; rfl
              rw [hx] at hat
              exact ⟨hat 0 (by omega), hat 1 (by omega), hat 2 (by omega), hat 3 (by omega), hat 4 (by omega), hat 5 (by omega), hat 6 (by omega), hat 7 (by omega), hat 8 (by omega), hat 9 (by omega), hat 10 (by omega)⟩
          subst hpv
          obtain ⟨e0, e1, e2, e3, e4, e5, e6, e7, e8, e9, e10⟩ := hcg.below hq hg
          clear hcg
          clear hj0 hk1
          go_wp2_with fail
          refine (hp' _ ((hnx.trans (hq.mono hnx.size)).alloc (by have := hnx.size; have := hq.size; omega) _)).mono ?_
          rintro e w1 ⟨rfl, hB1⟩
          have hq1 := (hq.alloc hq.size _).trans (hB1.mono (by simp; have := hq.size; omega))
          clear d0 d1 d2 d3 d4 d5 d6 d7 d8 d9 d10 e0 e1 e2 e3 e4 e5 e6 e7 e8 e9 e10 hp'
          go_wp2_with fail
          exact ⟨⟨j + 1, by omega, by go_num, hq1⟩, by simp [intOf]; omega⟩
        · have hown := hown.ext hq
          have hrow := ownsRow_ext hrow hq
          have hnx : Below w.heap.size w wr := hnx.trans (hq.mono hnx.size)
          have hbx : CellsU wr H 0 k := ⟨d0, d1, d2, d3, d4, d5, d6, d7, d8, d9, d10⟩
          clear d0 d1 d2 d3 d4 d5 d6 d7 d8 d9 d10 hp
          have hmix : Tryd.prog.follows .mixedOrders = true := by kernel_rfl
          go_wp2
          refine region_steps_last hmix (by kernel_rfl) (by kernel_rfl) [] (by decide) (FU w.heap.size H k (.slice pv k cv)) (JU w.heap.size H k (.slice pv k cv) w) (PostU w.heap.size k w) 10 (by decide) (by kernel_rfl) ⟨hnx.drew, by have := hq.size; show w.heap.size + 1 ≤ wr.heap.size; omega, hbx, hown, hrow⟩ ?_ ?_
          · refine ⟨?_, ?_, ?_, ?_, ?_, ?_, ?_, ?_, ?_, ?_, ?_, trivial⟩
            · intro a' w' hJ _ _ hf hd K hK
              simp [frameFacts, depFacts, Op.operands, FU, Slot] at hf hd
              refine step_value rfl ?_ (hK (.map (some w.heap.size)) w' ⟨rfl, hJ.2.2.2.1⟩ hJ (fun _ _ _ _ h => h))
              go_simp
            · intro a' w' hJ _ _ hf hd K hK
              simp [frameFacts, depFacts, Op.operands, FU, Slot] at hf hd
              refine step_value rfl ?_ (hK (.pointer (some ⟨H, 0, none⟩)) w' rfl hJ (fun _ _ _ _ h => h))
              go_simp
            · intro a' w' hJ _ _ hf hd K hK
              simp [frameFacts, depFacts, Op.operands, FU, Slot] at hf hd
              obtain ⟨d0, _⟩ := hJ.2.2.1
              refine step_value rfl ?_ (hK usS w' rfl hJ (fun _ _ _ _ h => h))
              go_simp
            · intro a' w' hJ _ _ hf hd K hK
              simp [frameFacts, depFacts, Op.operands, FU, Slot] at hf hd
              refine step_value rfl ?_ (hK (.map (some w.heap.size)) w' ⟨rfl, hJ.2.2.2.1, hJ.2.2.2.2⟩ hJ (fun _ _ _ _ h => h))
              go_simp
            · intro a' w' hJ _ _ hf hd K hK
              simp [frameFacts, depFacts, Op.operands, FU, Slot] at hf hd
              refine step_value rfl ?_ (hK (.pointer (some ⟨H, 0, none⟩)) w' rfl hJ (fun _ _ _ _ h => h))
              go_simp
            · intro a' w' hJ _ _ hf hd K hK
              simp [frameFacts, depFacts, Op.operands, FU, Slot] at hf hd
              obtain ⟨d0, _⟩ := hJ.2.2.1
              refine step_value rfl ?_ (hK usS w' rfl hJ (fun _ _ _ _ h => h))
              go_simp
            · intro a' w' hJ _ _ hf hd K hK
              simp [frameFacts, depFacts, Op.operands, FU, Slot] at hf hd
              obtain ⟨⟨u, ⟨hm1, _⟩, rfl, hoa, hrw⟩, hk1, _⟩ := hd
              have hrun : (Instr.lookup 65 (.map (some w.heap.size)) usS false).run Tryd.prog w' = .ok (.slice pv k cv) w' := by
                have := look_any (P := Tryd.prog) Tryd.underlying9 Tryd.underlying65 (zeroSl w') hoa [85, 83] (by decide)
                rw [hv] at this
                exact this
              refine step_value rfl ?_ (hK (.slice pv k cv) w' ⟨rfl, hrw⟩ hJ (fun _ _ _ _ h => h))
              simp [execOp, Act.eval, hm1, hk1, hrun, Result.andThen]
            · intro a' w' hJ _ _ hf hd K hK
              simp [frameFacts, depFacts, Op.operands, FU, Slot] at hf hd
              obtain ⟨d0, d1, d2, d3, d4, d5, d6, d7, d8, d9, d10⟩ := hJ.2.2.1
              simp only [Nat.zero_add] at d1 d2 d3 d4 d5 d6 d7 d8 d9 d10
              refine step_value rfl ?_ (hK (.agg (rowU k)) w' rfl hJ (fun _ _ _ _ h => h))
              go_simp
            · intro a' w' hJ _ _ hf hd K hK
              simp [frameFacts, depFacts, Op.operands, FU, Slot] at hf hd
              refine step_value rfl ?_ (hK (.slice (some ⟨w'.heap.size, 0, none⟩) 1 1) (w'.alloc (.cells (rowU k) 67)) ⟨_, rfl, heap_alloc_new w' _⟩ (JU.ext hJ (below_alloc _ _)) (fun j u _ _ h => FU_ext (below_alloc _ _) j u h))
              go_simp
            · intro a' w' hJ _ _ hf hd K hK
              simp [frameFacts, depFacts, Op.operands, FU, Slot] at hf hd
              obtain ⟨⟨u, ⟨h41, _⟩, rfl, hrw⟩, u8, ⟨h43, _⟩, g, rfl, hgh⟩ := hd
              obtain ⟨v', w'', hrun, h1', h2', h3'⟩ := run_append_st2 (P := Tryd.prog) (w.heap.size + 1) 22 22 67 _ 11 104 Tryd.underlying22 infoR rfl (by decide) (by decide) (.slice pv k cv) k (xsU k) hrw g (rowU k) 67 hgh rfl (rowU_one k) (by omega) hJ.2.1
              have hbv : ∀ q, (Value.slice pv k cv).ownBlock = some q → w.heap.size + 1 ≤ q := fun q hq => (hrw.lt q hq).1
              have hob := hJ.2.2.2.1.kept h3' (fun e => by have := hbv _ e.symm; omega)
              have hHlt := hJ.2.2.1.lt
              refine step_value rfl ?_ (hK v' w'' h1' (show JU _ _ _ _ _ _ from ⟨hJ.1.grown h3' (by have := hJ.2.1; omega) (fun q hq => by have := hbv q hq; omega), Nat.le_trans hJ.2.1 h3'.size, hJ.2.2.1.heap (h3'.block H hHlt (fun e => by have := hvH _ e.symm; omega)), hob, h2'⟩) (fun j u hne hl h => ?_))
              · simp [execOp, resolve, invoke, builtin, Act.eval, h41, h43, hrun, Result.andThen]
              · have n3 : j ≠ 3 := fun e => by subst e; exact dead hl (by kernel_rfl)
                have n6 : j ≠ 6 := fun e => by subst e; exact dead hl (by kernel_rfl)
                have n8 : j ≠ 8 := fun e => by subst e; exact dead hl (by kernel_rfl)
                unfold FU at *
                split at h
                case h_1 => exact ⟨h.1, hob⟩
                case h_4 => exact absurd rfl n3
                case h_7 => exact absurd rfl n6
                case h_9 => exact absurd rfl n8
                case h_10 => exact absurd rfl hne
                all_goals exact h
            · intro a' w' hJ _ _ hf hd K hK
              simp [frameFacts, depFacts, Op.operands, FU, Slot] at hf hd
              obtain ⟨⟨u0, ⟨h35, _⟩, rfl, hoa⟩, ⟨h37, _⟩, u9, ⟨h44, _⟩, hrw⟩ := hd
              obtain ⟨g, cap1, hgb, rfl⟩ : ∃ g cap1, w.heap.size + 1 ≤ g ∧ u9 = .slice (some ⟨g, 0, none⟩) (k + 1) cap1 := by
                rcases hrw.2 with ⟨_, e⟩ | ⟨g, cap1, cur, rfl, hbg, _⟩
                · omega
                · exact ⟨g, cap1, hbg, rfl⟩
              obtain ⟨w'', hrun, ho, hgr⟩ := put_any (P := Tryd.prog) Tryd.underlying9 Tryd.underlying65 (by unfold maxLen; omega) hoa [85, 83] (by decide) (.slice (some ⟨g, 0, none⟩) (k + 1) cap1)
              rw [fU_put] at ho
              replace hrun : (Instr.mapUpdate 65 (.map (some w.heap.size)) usS (.slice (some ⟨g, 0, none⟩) (k + 1) cap1)).run Tryd.prog w' = .ok () w'' := hrun
              refine step_law rfl ?_
              unfold Oper.wp
              simp [execOp, Act.eval, h35, h37, h44, hrun, Result.andThen]
              refine hK undef w'' trivial (show PostU _ _ _ _ from ⟨some ⟨g, 0, none⟩, cap1, ho, hrw.kept hgr (.inr (fun e => by simp [Value.ownBlock] at e; omega)), hJ.1.grown hgr (by have := hJ.2.1; omega) (fun q hq => by cases hq; exact Nat.le_refl _), Nat.le_trans hJ.2.1 hgr.size⟩) (fun j u hne hl h => ?_)
              · have n0 : j ≠ 0 := fun e => by subst e; exact dead hl (by kernel_rfl)
                have n3 : j ≠ 3 := fun e => by subst e; exact dead hl (by kernel_rfl)
                have n6 : j ≠ 6 := fun e => by subst e; exact dead hl (by kernel_rfl)
                have n8 : j ≠ 8 := fun e => by subst e; exact dead hl (by kernel_rfl)
                have n9 : j ≠ 9 := fun e => by subst e; exact dead hl (by kernel_rfl)
                unfold FU at *
                split at h
                case h_1 => exact absurd rfl n0
                case h_4 => exact absurd rfl n3
                case h_7 => exact absurd rfl n6
                case h_9 => exact absurd rfl n8
                case h_10 => exact absurd rfl n9
                all_goals exact h
          · intro val w5 hJ hfin
            obtain ⟨pv', cv', ho, hr, hB, hs⟩ := hJ
            simp [putSel, Act.put]
            go_wp2
            exact ⟨⟨k + 1, pv', cv', by omega, by go_num, ho, hr, fun e => absurd e (by omega), hB, hs⟩, by simp [intOf]; omega⟩
    · go_wp2
      go_ret2
      exact ⟨rfl, hnx⟩
end Go.Proofs.YteccmgkfmeoekaaDoor

set_option linter.unusedVariables false
set_option linter.unusedSimpArgs false
set_option linter.unusedSectionVars false
namespace Nt.Ev.YteccmgkfmeoekaaDoor.Es
set_option maxRecDepth 100000
open Go Go.RowKit Nt Nt.Num Go.Proofs.YteccmgkfmeoekaaDoor Nt.Ev.YteccmgkfmeoekaaDoor Nt.Civil Nt.Ev.YteccmgkfmeoekaaDoor.Rl Nt.Ev.YteccmgkfmeoekaaDoor.Oc Nt.Ev.YteccmgkfmeoekaaDoor.Un
variable [MLen]
theorem gok_below {G : Known} {w w' : World} (h : GOk G w) (hb : Below w.heap.size w w') : GOk G w' := fun b l hl => by
  obtain ⟨c, e, fr, h1, h2⟩ := h b l hl
  exact ⟨c, e, fr, heap_ext h1 hb, h2⟩
def cellsU (k : Nat) : List V := [.str [85, 83], .int .i64 (uA k 1), .int .i64 (uA k 2), .int .i64 (uA k 3), .int .i64 (uA k 4), .int .i64 (uA k 5), .int .i64 (uA k 6), .int .i64 (uA k 7), .int .i64 (uA k 8), .int .i64 (uA k 9), .str (uL k).data.toList]
theorem usV_eq : usV = [.agg (cellsU 0), .agg (cellsU 1)] := rfl
theorem repL_u {G : Known} (k : Nat) (a : List Value) : repL G (cellsU k) a ↔ a = (rowU k).toList := by
  unfold cellsU
  simp only [repL, rep]
  constructor
  · rintro ⟨_, _, rfl, rfl, _, _, rfl, rfl, _, _, rfl, rfl, _, _, rfl, rfl, _, _, rfl, rfl, _, _, rfl, rfl, _, _, rfl, rfl, _, _, rfl, rfl, _, _, rfl, rfl, _, _, rfl, rfl, _, _, rfl, rfl, rfl⟩
    simp [rowU]
  · rintro rfl
    exact ⟨_, _, rfl, rfl, _, _, rfl, rfl, _, _, rfl, rfl, _, _, rfl, rfl, _, _, rfl, rfl, _, _, rfl, rfl, _, _, rfl, rfl, _, _, rfl, rfl, _, _, rfl, rfl, _, _, rfl, rfl, _, _, rfl, by simp, rfl⟩
theorem rep_u {G : Known} (k : Nat) : rep G (.agg (cellsU k)) (.agg (rowU k)) := by
  unfold rep
  exact ⟨(rowU k).toList, by simp, (repL_u k _).2 rfl⟩
theorem pa_us : paP [85, 83] (uA 0 1) (uA 0 2) (uA 0 3) (uA 0 4) (uA 0 5) (uA 0 6) (uA 0 7) (uA 0 8) (uA 0 9) (uL 0).data.toList [85, 83] (uA 1 1) (uA 1 2) (uA 1 3) (uA 1 4) (uA 1 5) (uA 1 6) (uA 1 7) (uA 1 8) (uA 1 9) (uL 1).data.toList = 0 := by kernel_rfl
theorem pair_us {G : Known} {w : World} (hG : GOk G w) (hg : GlobOk fE G) : Calls Go.Proofs.Tryd.prog 22 #[.agg (rowU 0), .agg (rowU 1)] w fun e w' => e = .returned (.int .i64 0) ∧ Below w.heap.size w w' := by
  have h := kPaS_ok [85, 83] (uA 0 1) (uA 0 2) (uA 0 3) (uA 0 4) (uA 0 5) (uA 0 6) (uA 0 7) (uA 0 8) (uA 0 9) (uL 0).data.toList [85, 83] (uA 1 1) (uA 1 2) (uA 1 3) (uA 1 4) (uA 1 5) (uA 1 6) (uA 1 7) (uA 1 8) (uA 1 9) (uL 1).data.toList (by kernel_rfl)
  rw [pa_us] at h
  refine (h G w [.agg (rowU 0), .agg (rowU 1)] hG hg (.cons (rep_u 0) (.cons (rep_u 1) .nil))).mono ?_
  rintro e w' ⟨v, G', rfl, hn, hr⟩
  have hv : v = .int .i64 0 := by simp only [resrep, sres] at hr; unfold rep at hr; exact hr
  exact ⟨by rw [hv], hn.1⟩
theorem us_cells {G : Known} {w : World} (hG : GOk G w) {e : Nat} {o : Option Nat} {v : Value} (h : rep G (.sl e [.str, .int .i64, .int .i64, .int .i64, .int .i64, .int .i64, .int .i64, .int .i64, .int .i64, .int .i64, .str] o usV) v) :
    ∃ b off cap, v = .slice (some ⟨b, off, none⟩) 2 cap ∧ b < w.heap.size ∧ ∀ k, k < 2 → CellsU w b (off + k * 11) k := by
  unfold rep at h
  obtain ⟨p, cap, rfl, _, h⟩ := h
  rcases h with h | ⟨b, off, l, rfl, hGb, hE⟩
  · exact absurd h (by rw [usV_eq]; simp)
  · refine ⟨b, off, cap, rfl, known_lt hG hGb, fun k hk => ?_⟩
    have hx : usV[k]? = some (.agg (cellsU k)) := by
      rw [usV_eq]
      match k, hk with
      | 0, _ => rfl
      | 1, _ => rfl
    obtain ⟨hf, u, hu, hcs⟩ := repE_get _ _ hE k _ hx
    unfold rep at hu
    obtain ⟨a, rfl, hu⟩ := hu
    rw [repL_u] at hu
    subst hu
    have hcs : List.take 11 (List.drop (k * 11) (List.drop off l)) = (rowU k).toList := hcs
    have g : ∀ i, i < 11 → ∀ u, (rowU k).toList[i]? = some u → w.cell? ⟨b, off + k * 11 + i, none⟩ = some u := by
      intro i hi u hu
      refine known_cell hG hGb ?_
      rw [← hcs, List.getElem?_take, if_pos hi, List.getElem?_drop, List.getElem?_drop] at hu
      rw [← hu]
      congr 1
      omega
    exact ⟨g 0 (by omega) _ rfl, g 1 (by omega) _ rfl, g 2 (by omega) _ rfl, g 3 (by omega) _ rfl, g 4 (by omega) _ rfl, g 5 (by omega) _ rfl, g 6 (by omega) _ rfl, g 7 (by omega) _ rfl, g 8 (by omega) _ rfl, g 9 (by omega) _ rfl, g 10 (by omega) _ rfl⟩
theorem sCkS_ok (e : Nat) (o1 : Option Nat) (xs : List V) (hc : isUs xs = true) : Contract fE 6 [.sl e [.str, .int .i64, .int .i64, .int .i64, .int .i64, .int .i64, .int .i64, .int .i64, .int .i64, .int .i64, .str] o1 xs] (.tup [.int .i64 (-1), .int .i64 0]) := by
  obtain rfl := is_us hc
  refine contract_old fun G w vs hG hg hp => ?_
  obtain ⟨x, rfl, hx⟩ := PW_one hp
  obtain ⟨b, off, cap, rfl, hb, hcl⟩ := us_cells hG hx
  refine (check_walk b off cap w hb hcl fun w' hw => pair_us (gok_below hG hw) hg).mono ?_
  rintro e w' ⟨rfl, hB⟩
  exact ⟨_, rfl, hB, res_two (same_int _ _) (same_int _ _)⟩
theorem sS0_ok : SOk fE sS0 := by
  unfold sS0
  refine SOk.cons (fun args r h => ?_) (SOk.cons (fun args r h => ?_) (SOk.cons (fun args r h => ?_) (SOk.cons (fun args r h => ?_) (SOk.cons (fun args r h => ?_) (SOk.nil)))))
  · unfold sUsS at h
    split at h
    · simp only [Option.some.injEq, Prod.mk.injEq] at h
      obtain ⟨hc, rfl⟩ := h
      exact sUsS_ok  rfl
    · cases h
  · unfold sCkS at h
    split at h
    · simp only [Option.some.injEq, Prod.mk.injEq] at h
      obtain ⟨hc, rfl⟩ := h
      exact sCkS_ok _ _ _ hc
    · cases h
  · unfold sLtS at h
    split at h
    · simp only [Option.some.injEq, Prod.mk.injEq] at h
      obtain ⟨hc, rfl⟩ := h
      exact sLtS_ok _ _ _ rfl
    · cases h
  · unfold uErS at h
    split at h
    · simp only [Option.some.injEq, Prod.mk.injEq] at h
      obtain ⟨hc, rfl⟩ := h
      exact uErS_ok _ _ _ _ _ _ _ _ _ _ _ _ _ rfl
    · cases h
  · unfold uInS at h
    split at h
    · simp only [Option.some.injEq, Prod.mk.injEq] at h
      obtain ⟨hc, rfl⟩ := h
      exact uInS_ok _ _ _ _ _ _ _ _ _ _ _ _ _ _ _ _ hc
    · cases h
theorem es_all (xs : List V) (o k v : Int) (r q : List UInt8) (h : Bool) (y m ok ow od c b by_ : Int) : Contract fE 3 [.sl 67 [.str, .int .i64, .int .i64, .int .i64, .int .i64, .int .i64, .int .i64, .int .i64, .int .i64, .int .i64, .str] none xs, .agg [.int .i64 o, .int .i64 k, .int .i64 v, .str r, .str q, .bool h, .int .i64 y, .int .i64 m, .int .i64 ok, .int .i64 ow, .int .i64 od, .int .i64 c, .int .i64 b], .int .i64 by_] (.bool true) := es_T sS0_ok xs o k v r q h y m ok ow od c b by_
end Nt.Ev.YteccmgkfmeoekaaDoor.Es
