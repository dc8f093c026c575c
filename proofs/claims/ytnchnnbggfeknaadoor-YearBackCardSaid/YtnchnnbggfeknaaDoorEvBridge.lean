/-
  From the evaluator's contracts to the rows: what is known of a world where a statement begins.
-/
import Derived.Test.YtnchnnbggfeknaaDoorEvLib
import Derived.ChangeArms
import Derived.OpenShut
import Derived.FnData
set_option linter.unusedVariables false
set_option linter.unusedSimpArgs false
namespace Nt.Ev
open Go Go.RowKit

/-- All rows of the memory. -/
def heapG (w : World) : Known := fun b => match w.heap[b]? with | some (.cells c _ _) => some c.toList | _ => none
theorem heapG_ok (w : World) : GOk (heapG w) w := by
  intro b l h
  unfold heapG at h
  split at h
  · rename_i c e fr hc
    simp only [Option.some.injEq] at h
    subst h
    exact ⟨c, e, fr, hc, List.take_length⟩
  · cases h

/-- A cell of a listed variable's data. -/
def cellD {H : Type} (P : Program) : Nat → TypeId → DataW H → Nat → Option V
  | 0, _, _, _ => none
  | f + 1, t, d, i =>
    match P.underlying t, d with
    | some (.int k), .lit (.int _ n) => (match i with | 0 => some (.int k n) | _ => none)
    | some .bool, .lit (.bool b) => (match i with | 0 => some (.bool b) | _ => none)
    | some .string, .lit (.string l) => (match i with | 0 => some (.str l) | _ => none)
    | some (.struct fs), .agg ds => (List.range ds.length).findSome? fun j =>
        match fs[j]?, ds[j]? with
        | some fd, some x => (match Nat.ble fd.offset i && Nat.blt i (fd.offset + P.cellsOf fd.type) with | true => cellD P f fd.type x (i - fd.offset) | false => none)
        | _, _ => none
    | some (.array n e), .agg ds => (match ds[i / P.cellsOf e]? with | some x => cellD P f e x (i % P.cellsOf e) | none => none)
    | _, _ => none

variable {H : Type} {enc : TypeId × Value → H} {P : Program} {w : World} {base : Nat} {spare : Nat → Bool} {held : Bool}

theorem cellD_rep (G : Known) : ∀ (f : Nat) (t : TypeId) (d : DataW H) (i : Nat) (v : V), cellD P f t d i = some v → ∀ (fuel : Nat) (cs : List Value) (p : List MemPlace), DataW.trod enc P w base spare held fuel t cs = some (d, p) →
    ∃ u, cs[i]? = some u ∧ rep G v u
  | 0, _, _, _, _, h, _, _, _, _ => by simp [cellD] at h
  | f + 1, t, d, i, v, h, fuel, cs, p, hd => by
    unfold cellD at h
    split at h
    · rename_i k k' n hu
      obtain ⟨m, rfl, e, _⟩ := DataW.trod_int hu hd
      simp only [Prod.mk.injEq, DataW.lit.injEq, Lit.int.injEq] at e
      obtain ⟨⟨rfl, rfl⟩, _⟩ := e
      split at h
      · simp only [Option.some.injEq] at h
        subst h
        exact ⟨_, rfl, by unfold rep; rfl⟩
      · cases h
    · rename_i b hu
      obtain ⟨m, rfl, e⟩ := DataW.trod_bool hu hd
      simp only [Prod.mk.injEq, DataW.lit.injEq, Lit.bool.injEq] at e
      obtain ⟨rfl, _⟩ := e
      split at h
      · simp only [Option.some.injEq] at h
        subst h
        exact ⟨_, rfl, by unfold rep; rfl⟩
      · cases h
    · rename_i l hu
      obtain ⟨s, rfl, e, _⟩ := DataW.trod_string hu hd
      simp only [Prod.mk.injEq, DataW.lit.injEq, Lit.string.injEq] at e
      obtain ⟨rfl, _⟩ := e
      split at h
      · simp only [Option.some.injEq] at h
        subst h
        exact ⟨_, rfl, by unfold rep; cases s; simp⟩
      · cases h
    · rename_i fs ds hu
      obtain ⟨xs, m, _, e, hlen, hn, hel⟩ := DataW.trod_struct hu hd
      simp only [Prod.mk.injEq, DataW.agg.injEq] at e
      obtain ⟨j, _, hj⟩ := List.exists_of_findSome?_eq_some h
      split at hj
      · rename_i fd x hfd hx
        split at hj
        · rename_i hb
          rw [Bool.and_eq_true] at hb
          have h1 := Nat.le_of_ble_eq_true hb.1
          have h2 : i < fd.offset + P.cellsOf fd.type := by have := hb.2; rwa [Nat.blt_eq] at this
          rw [e.1, List.getElem?_map] at hx
          obtain ⟨y, hy, hy1⟩ := Option.map_eq_some_iff.1 hx
          have := hel j fd hfd
          rw [hy] at this
          obtain ⟨u, hu', hr⟩ := cellD_rep G f fd.type x _ v hj m _ y.2 (by rw [this, ← hy1])
          refine ⟨u, ?_, hr⟩
          rw [List.getElem?_take_of_lt (by omega), List.getElem?_drop, show fd.offset + (i - fd.offset) = i by omega] at hu'
          exact hu'
        · cases hj
      · cases hj
    · rename_i n e ds hu
      obtain ⟨xs, m, _, ex, hlen, hn, hel⟩ := DataW.trod_array hu hd
      simp only [Prod.mk.injEq, DataW.agg.injEq] at ex
      split at h
      · rename_i x hx
        rw [ex.1, List.getElem?_map] at hx
        obtain ⟨y, hy, hy1⟩ := Option.map_eq_some_iff.1 hx
        have hlt : i / P.cellsOf e < n := by rw [← hn]; exact (List.getElem?_eq_some_iff.1 hy).1
        have := hel _ hlt
        rw [hy] at this
        obtain ⟨u, hu', hr⟩ := cellD_rep G f e x _ v h m _ y.2 (by rw [this, ← hy1])
        refine ⟨u, ?_, hr⟩
        by_cases h0 : P.cellsOf e = 0
        · rw [h0, List.take_zero] at hu'
          cases hu'
        · rw [List.getElem?_take_of_lt (Nat.mod_lt _ (by omega)), List.getElem?_drop, Nat.mul_comm, Nat.div_add_mod] at hu'
          exact hu'
      · cases h
    · cases h

theorem mapM_get {α β : Type} {f : α → Option β} : ∀ {l : List α} {ys : List β}, l.mapM f = some ys → ys.length = l.length ∧ ∀ (i : Nat) a y, l[i]? = some a → ys[i]? = some y → f a = some y
  | [], ys, h => by simp at h; subst h; exact ⟨rfl, by simp⟩
  | a :: l, ys, h => by
    rw [List.mapM_cons] at h
    cases ha : f a with
    | none => rw [ha] at h; cases h
    | some y =>
      rw [ha] at h
      cases hl : l.mapM f with
      | none => rw [hl] at h; cases h
      | some zs =>
        rw [hl] at h
        simp at h
        subst h
        obtain ⟨h1, h2⟩ := mapM_get hl
        refine ⟨by simp [h1], fun i a' y' h3 h4 => ?_⟩
        cases i with
        | zero => simp at h3 h4; subst h3; subst h4; exact ha
        | succ i => exact h2 i a' y' (by simpa using h3) (by simpa using h4)

/-- A listed variable, by its data. -/
theorem glob_data {name : String} {g : Nat} {cs : Array Value} {t : TypeId} {fuel f : Nat} {d : DataW H} {p : List MemPlace} {sh : List Kd} {xs : List V} (hg : P.globalNamed name = some g) (hv : w.var? P name = some cs)
    (hd : DataW.trod enc P w base spare held fuel t cs.toList = some (d, p)) (hx : (List.range sh.length).mapM (cellD P f t d) = some xs) (hf : fitsE sh (.agg xs) = true) :
    rep (heapG w) (.rptr sh (.agg xs) 0) (.pointer (some ⟨g, 0, none⟩)) := by
  obtain ⟨h1, h2⟩ := mapM_get hx
  rw [List.length_range] at h1
  have hcell : ∀ (i : Nat) (x : V), xs[i]? = some x → ∃ u, cs.toList[i]? = some u ∧ rep (heapG w) x u := by
    intro i x hxi
    have hi : i < sh.length := by rw [← h1]; exact (List.getElem?_eq_some_iff.1 hxi).1
    exact cellD_rep (heapG w) f t d i x (h2 i i x (by rw [List.getElem?_range hi]) hxi) fuel _ p hd
  have hsz : xs.length ≤ cs.toList.length := by
    rcases Nat.lt_or_ge cs.toList.length xs.length with hlt | hge
    · obtain ⟨u, hu, _⟩ := hcell cs.toList.length xs[cs.toList.length] (List.getElem?_eq_getElem hlt)
      rw [List.getElem?_eq_none (Nat.le_refl _)] at hu
      cases hu
    · exact hge
  unfold rep
  refine ⟨g, 0, cs.toList, rfl, ?_, hf, .agg (cs.toList.take sh.length).toArray, ?_, ?_⟩
  · simp only [World.var?, hg, Option.bind_some] at hv
    split at hv
    · rename_i c e fr hc
      simp only [Option.some.injEq] at hv
      subst hv
      unfold heapG
      rw [hc]
    · cases hv
  · unfold rep
    refine ⟨_, rfl, ?_⟩
    rw [repL_iff]
    refine ⟨by rw [List.length_take]; omega, fun i x u hxi hui => ?_⟩
    obtain ⟨u', hu', hr⟩ := hcell i x hxi
    have hi : i < sh.length := by rw [← h1]; exact (List.getElem?_eq_some_iff.1 hxi).1
    rw [List.getElem?_take_of_lt hi, hu'] at hui
    simp only [Option.some.injEq] at hui
    rw [← hui]; exact hr
  · simp [Value.cells]

/-- A listed variable with one cell. -/
theorem glob_cell {g : Nat} {k : IntKind} {m : Int} (h : w.cell? ⟨g, 0, none⟩ = some (.int k m)) : rep (heapG w) (.rptr [.int k] (.int k m) 0) (.pointer (some ⟨g, 0, none⟩)) := by
  simp only [World.cell?] at h
  split at h
  · rename_i c e fr hc
    unfold rep
    refine ⟨g, 0, c.toList, rfl, by unfold heapG; rw [hc], by simp [fitsE, V.cells, fitsL, fits, band], .int k m, by unfold rep; rfl, ?_⟩
    have h0 : c.toList[0]? = some (.int k m) := by simpa using h
    cases hc : c.toList with
    | nil => rw [hc] at h0; cases h0
    | cons a t => rw [hc] at h0; simp at h0; subst h0; rfl
  · cases h

/-- A statement's contract, told of the model. -/
theorem contract_row {E : Env} {f : Nat} {args : List V} {vs : List Value} (c : Contract E f args (.bool true)) (hg : GlobOk E (heapG w)) (hp : PW (rep (heapG w)) args vs) :
    Calls E.P f vs.toArray w fun e w' => e = .returned (.bool true) ∧ Below w.heap.size w w' := by
  refine (c (heapG w) w vs (heapG_ok w) hg hp).mono ?_
  rintro e w' ⟨v, G', rfl, hN, hr⟩
  have : v = .bool true := hr
  rw [this]
  exact ⟨rfl, hN.1⟩
end Nt.Ev
