/-
  What a row's arguments are, by their data: structs of whole numbers, texts and truth values. What a row's arguments are, by their data: slices, too, of numbers, texts, truth values, structs, slices. A row's frame: the given variables' data and the world's shape together. What a row may lean on that speaks of inputs of a given bulk alone: how long its texts are in all.
-/
import Derived.Test.YtochbeiihhbmeaaDoorMBB
import Derived.Handed
import Derived.HandedShaped
import Derived.Test.YtochbeiihhbmeaaDoorRows
import Derived.Deep.DeepHandedRow
import Derived.Test.YtochbeiihhbmeaaDoorMC
set_option linter.unusedVariables false
set_option linter.unusedSimpArgs false
namespace Nt.Ev
open Go Go.RowKit
variable {H : Type} {enc : TypeId × Value → H} {P : Program} {w : World} {base : Nat} {spare : Nat → Bool} {held : Bool}
end Nt.Ev

set_option linter.unusedVariables false
set_option linter.unusedSimpArgs false
namespace Nt.Ev
open Go Go.RowKit
def shaped (P : Program) (e : Nat) (sh : List Kd) (x : V) : Prop := match isAggT P e with | some true => ∃ ys, x = .agg ys ∧ fitsL sh ys = true | _ => fitsL sh [x] = true
mutual
def okC (P : Program) : V → Prop
  | .int k n => (Lit.int k n).wf = true
  | .str l => l.length ≤ maxLen
  | .agg ys => okCl P ys
  | .sl e sh o xs => o = none ∧ xs.length ≤ maxLen ∧ (∀ x ∈ xs, shaped P e sh x) ∧ okCl P xs
  | _ => True
def okCl (P : Program) : List V → Prop
  | [] => True
  | x :: xs => okC P x ∧ okCl P xs
end
variable {H : Type} {enc : TypeId × Value → H} {P : Program} {w : World} {base : Nat} {spare : Nat → Bool} {held : Bool}
theorem mapM_cells (w : World) (b o : Nat) : ∀ (n : Nat) (cs : List Value), (List.range n).mapM (fun i => w.cell? ⟨b, o + i, none⟩) = some cs → 0 < n → ∃ l, heapG w b = some l ∧ (l.drop o).take n = cs := by
  intro n cs h hn
  have hlen := mapM_some_length h
  rw [List.length_range] at hlen
  have hget := fun i (hi : i < n) => mapM_some_get h i i (by simp [hi])
  have h0 := hget 0 hn
  rw [List.getElem?_eq_getElem (by omega)] at h0
  have hb : ∃ c e fr, w.heap[b]? = some (.cells c e fr) := by
    unfold World.cell? at h0
    simp only at h0
    split at h0
    · rename_i c e fr hc; exact ⟨c, e, fr, hc⟩
    · cases h0
  obtain ⟨c, e, fr, hc⟩ := hb
  refine ⟨c.toList, by unfold heapG; rw [hc], ?_⟩
  apply List.ext_getElem?
  intro i
  rw [List.getElem?_take]
  by_cases hi : i < n
  · rw [if_pos hi, List.getElem?_drop]
    have := hget i hi
    unfold World.cell? at this
    rw [hc] at this
    simp only [Option.isSome_none, Bool.false_eq_true, if_false] at this
    rw [Array.getElem?_toList, this]
  · rw [if_neg hi, List.getElem?_eq_none (by omega)]
theorem repE_of {G : Known} {sh : List Kd} : ∀ (xs : List V) (l : List Value), (∀ i x, xs[i]? = some x → fitsE sh x = true ∧ ∃ u, rep G x u ∧ (l.drop (i * sh.length)).take sh.length = u.cells.toList) → repE G sh xs l
  | [], _, _ => repE_nil
  | x :: xs, l, h => by
    unfold repE
    obtain ⟨h1, u, h2, h3⟩ := h 0 x rfl
    refine ⟨h1, ⟨u, h2, by simpa using h3⟩, repE_of xs _ fun i y hy => ?_⟩
    obtain ⟨k1, v, k2, k3⟩ := h (i + 1) y (by simpa using hy)
    refine ⟨k1, v, k2, ?_⟩
    rw [List.drop_drop, ← k3, Nat.add_mul, Nat.one_mul, Nat.add_comm]
end Nt.Ev

set_option linter.unusedVariables false
namespace Nt.Ev
open Go
variable {H : Type} {enc : TypeId × Value → H}
end Nt.Ev

set_option linter.unusedVariables false
set_option linter.unusedSimpArgs false
namespace Go.Proofs.YtochbeiihhbmeaaDoor
open Go Go.RowKit Go.ChangeShapes Go.WideShapes Go.ChangeAt Nt Nt.Ev
section
variable {H : Type} {enc : TypeId × Value → H} {P : Program}
theorem mapM_of_get {α β : Type} {f : α → Option β} : ∀ (l : List α) (cs : List β), l.length = cs.length → (∀ (i : Nat) a c, l[i]? = some a → cs[i]? = some c → f a = some c) → l.mapM f = some cs
  | [], [], _, _ => rfl
  | [], _ :: _, h, _ => by cases h
  | _ :: _, [], h, _ => by cases h
  | a :: l, c :: cs, h, hg => by
    have h0 := hg 0 a c rfl rfl
    have h1 := mapM_of_get l cs (by simpa using h) (fun i a c ha hc => hg (i + 1) a c (by simpa using ha) (by simpa using hc))
    rw [List.mapM_cons, h0, h1]; rfl
theorem bulk_strs : ∀ (ss : List ByteArray), (ss.map fun s => s.data.toList.length).sum + ss.length ≤ Rows.uptoBulkAll (ss.map fun s => (.lit (.string s.data.toList) : DataW H))
  | [] => Nat.zero_le _
  | s :: ss => by
    have e : Rows.uptoBulkAll ((s :: ss).map fun s => (.lit (.string s.data.toList) : DataW H)) = (s.data.toList.length + 1) + Rows.uptoBulkAll (ss.map fun s => (.lit (.string s.data.toList) : DataW H)) := by
      rw [List.map_cons, Rows.uptoBulkAll, Rows.uptoBulk]
    have := bulk_strs ss
    rw [e, List.map_cons, List.sum_cons, List.length_cons]
    omega
theorem open_strs_bulk {t e : TypeId} (ht : P.underlying t = some (.slice e)) (he : P.underlying e = some .string) (hc : P.cellsOf e = 1) {W : World} {a : Option Addr} {len cap : Nat} {d : DataW H} {p : List MemPlace}
    (h : DataW.Trod enc P W 0 (fun _ => true) true t (.slice a len cap) d p) :
    ∃ ls : List (List UInt8), rep (heapG W) (.sl e [.str] none (ls.map V.str)) (.slice a len cap) ∧ (ls.map List.length).sum + ls.length ≤ Rows.uptoBulk d := by
  obtain ⟨fuel, hf⟩ := h
  rcases open_strings ht he hc hf with ⟨hcs, _⟩ | ⟨x, l, c, ss, hcs, _, hl, hm, hz, hx, hcell, hws⟩
  · simp [Value.cells] at hcs
    obtain ⟨rfl, rfl, rfl⟩ := hcs
    exact ⟨[], by unfold rep; exact ⟨none, 0, rfl, Nat.le_refl _, .inl rfl⟩, Nat.zero_le _⟩
  · simp [Value.cells] at hcs
    obtain ⟨rfl, rfl, rfl⟩ := hcs
    simp only [if_true] at hz
    simp only [Prod.mk.injEq] at hx
    obtain ⟨rfl, _⟩ := hx
    refine ⟨(ss.take len).map fun s => s.data.toList, ?_, ?_⟩
    · have hlen : ((ss.take len).map fun s => s.data.toList).length = len := by simp; omega
      unfold rep
      refine ⟨some x, cap, by rw [List.length_map, hlen], by rw [List.length_map, hlen]; exact hl, ?_⟩
      by_cases h0 : len = 0
      · left
        subst h0
        rfl
      · right
        obtain ⟨b, off, spot⟩ := x
        have h1 := hcell 0 (by omega)
        have hspot : spot = none := by simpa [Addr.add] using World.cell?_spot h1
        subst hspot
        have hlt : b < W.heap.size := World.block_lt_of_cell? W _ (by simpa [Addr.add] using h1)
        obtain ⟨L, hL, hLt⟩ := Nt.Ev.mapM_cells W b off len (((ss.take len).map fun s => Value.string s)) (by
          refine (mapM_of_get _ _ ?_ ?_)
          · simp; omega
          · intro i a c ha hc
            have hi : i < len := by have := (List.getElem?_eq_some_iff.1 ha).1; rwa [List.length_range] at this
            have hi' := hcell i (by omega)
            rw [List.getElem?_range hi] at ha
            obtain rfl := Option.some.inj ha
            have e1 : ((⟨b, off, none⟩ : Addr).add i) = ⟨b, off + i, none⟩ := by
              cases i with
              | zero => simp [Addr.add]
              | succ i => simp [Addr.add]
            rw [e1] at hi'
            rw [List.getElem?_map, List.getElem?_take_of_lt hi, List.getElem?_eq_getElem (by omega : i < ss.length)] at hc
            obtain rfl := Option.some.inj hc
            rw [List.getD_eq_getElem?_getD, List.getElem?_eq_getElem (by omega : i < ss.length)] at hi'
            exact hi') (by omega)
        refine ⟨b, off, L, rfl, hL, repE_of _ _ fun i y hy => ?_⟩
        have hi : i < len := by
          have := (List.getElem?_eq_some_iff.1 hy).1
          rw [List.length_map, hlen] at this
          exact this
        rw [List.getElem?_map, List.getElem?_map] at hy
        rw [List.getElem?_take_of_lt hi, List.getElem?_eq_getElem (by omega : i < ss.length)] at hy
        simp only [Option.map_some, Option.some.injEq] at hy
        subst hy
        refine ⟨rfl, .string (ss[i]'(by omega)), by unfold rep; cases (ss[i]'(by omega)); simp, ?_⟩
        have h2 := congrArg (fun l => l[i]?) hLt
        simp only [List.getElem?_map, List.getElem?_take_of_lt hi, List.getElem?_eq_getElem (by omega : i < ss.length), Option.map_some] at h2
        rw [List.length_singleton, Nat.mul_one]
        show ((L.drop off).drop i).take 1 = [_]
        have h3 : ((L.drop off).drop i)[0]? = some (Value.string (ss[i]'(by omega))) := by
          rw [List.getElem?_drop, Nat.add_zero]; exact h2
        cases hq : (L.drop off).drop i with
        | nil => rw [hq] at h3; cases h3
        | cons z t => rw [hq] at h3; simp at h3; subst h3; rfl
    · have e : Rows.uptoBulk (.slice (strs (ss.take len)) (strs (ss.drop len)) : DataW H) = Rows.uptoBulkAll (strs (H := H) (ss.take len)) + Rows.uptoBulkAll (strs (H := H) (ss.drop len)) + 1 := by rw [Rows.uptoBulk]
      have := bulk_strs (H := H) (ss.take len)
      rw [e]
      simp only [List.map_map, List.length_map]
      have e2 : (List.length ∘ fun s : ByteArray => s.data.toList) = fun s => s.data.toList.length := rfl
      rw [e2]
      unfold strs
      omega
theorem bulk_cons (d : DataW H) (ds : List (DataW H)) : Rows.uptoBulkAll (d :: ds) = Rows.uptoBulk d + Rows.uptoBulkAll ds := by rw [Rows.uptoBulkAll]
theorem witness_row_shaped {C : Checked} {os : Os} {f : FuncId} {fn : Func} {s : OpenSpec} {conds : List PathCond} {apart : Bool} {laid : List (String × DataW Unit)} (w0 : World) (args : Array Value) (hos : w0.os = os)
    (hsh : (w0.forCall (fun _ _ => 0) ⟨#[], args, []⟩).Shaped C.prog)
    (hok : Input.okWideB C.prog (w0.forCall (fun _ _ => 0) ⟨#[], args, []⟩) f ⟨#[], args, []⟩ = true)
    (hrow : s.preRow enc C.prog fn conds apart laid (w0.forCall (fun _ _ => 0) ⟨#[], args, []⟩).memory args) :
    ∃ (w : World) (tape : Tape) (i : Input), w.os = os ∧ (w.forCall tape i).Shaped C.prog ∧ i.vars = [] ∧ Input.okWide C.prog (w.forCall tape i) .any w.heap.size f i ∧
      s.preRow enc C.prog fn conds apart laid (w.forCall tape i).memory i.args ∧ ({} : Assume).holds C.prog (lone (Frame.enter C.prog f i.args .normal) [] (w.forCall tape i)) :=
  ⟨w0, fun _ _ => 0, ⟨#[], args, []⟩, hos, hsh, (Input.okWide_of_okWideB (base := 0) hok).1, (Input.okWide_of_okWideB hok).2, hrow, by
    simp only [Assume.holds]
    exact ⟨by simp, by simp, fun _ => Modest.zero, by simp, by simp⟩⟩
end
end Go.Proofs.YtochbeiihhbmeaaDoor
