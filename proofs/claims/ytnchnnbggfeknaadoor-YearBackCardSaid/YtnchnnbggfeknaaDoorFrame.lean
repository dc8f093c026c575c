/-
  What a law's row gives the walk, and what the walk gives back: facts that hold of every program.
-/
import Derived.Test.YtnchnnbggfeknaaDoorBase
import Derived.ProofKit
import Derived.OpenShut
import Derived.ShutString
import Derived.ChangeOld
import Derived.Below
import Derived.SliceStrings
import Derived.LaidMore
import Derived.Stop.Joined
namespace Nt
open Go Go.RowKit Go.ChangeShapes Go.WideShapes Go.ChangeAt
open Go.ChangeMaps (open_string shut_string)
section
variable {H : Type} {enc : TypeId × Value → H} {P : Program}

/-- All arguments read, behind a call that has turned nothing that was there, as they read before. -/
theorem trodAll_below (hl : laidOutB P = true) {W W' : World} (hb : Below W.heap.size W W') :
    ∀ (ts : List TypeId) (vs : List Value) (ds : List (DataW H)) (ps : List MemPlace), (ts.all fun t => P.readableRec t && decide (t < P.types.size)) = true →
    DataW.TrodAll enc P W 0 (fun _ => true) true ts vs ds ps → DataW.TrodAll enc P W' 0 (fun b => decide (b < W.heap.size)) true ts vs ds ps
  | [], [], [], _, _, h => h
  | [], _ :: _, _, _, _, h => by simp [DataW.TrodAll] at h
  | [], [], _ :: _, _, _, h => by simp [DataW.TrodAll] at h
  | _ :: _, [], _, _, _, h => by simp [DataW.TrodAll] at h
  | _ :: _, _ :: _, [], _, _, h => by simp [DataW.TrodAll] at h
  | t :: ts, v :: vs, d :: ds, ps, hr, h => by
    simp only [List.all_cons, Bool.and_eq_true, decide_eq_true_eq] at hr
    obtain ⟨p, q, hp, hq, e⟩ := h
    refine ⟨p, q, ?_, trodAll_below hl hb ts vs ds q hr.2 hq, e⟩
    have lt : ∀ x ∈ p, x.block < W.heap.size := by obtain ⟨m, hm⟩ := hp; exact DataW.trod_lt m _ _ _ hm
    exact Below.trod hl hr.1.1 hr.1.2 hp hb lt

/-- A slice of strings among the arguments. -/
theorem strs_open {t e : TypeId} (ht : P.underlying t = some (.slice e)) (he : P.underlying e = some .string) (hc : P.cellsOf e = 1) {W : World} {a : Option Addr} {len cap : Nat} {d : DataW H} {p : List MemPlace}
    (h : DataW.Trod enc P W 0 (fun _ => true) true t (.slice a len cap) d p) : ∃ ss, Strs W a len ss := by
  have lt : ∀ x ∈ p, x.block < W.heap.size := by obtain ⟨m, hm⟩ := h; exact DataW.trod_lt m _ _ _ hm
  obtain ⟨fuel, hf⟩ := h
  rcases open_strings ht he hc hf with ⟨hcs, _⟩ | ⟨x, l, c, ss, hcs, _, hl, hm, hz, hx, hcell, hws⟩
  · simp [Value.cells] at hcs
    obtain ⟨rfl, rfl, rfl⟩ := hcs
    exact ⟨[], rfl, by simp, fun h => absurd h (by omega)⟩
  · simp [Value.cells] at hcs
    obtain ⟨rfl, rfl, rfl⟩ := hcs
    simp only [if_true] at hz
    refine ⟨ss.take len, by simp; omega, fun s hs => hws s (List.mem_of_mem_take hs), fun hp => ?_⟩
    obtain ⟨b, off, spot⟩ := x
    have h0 := hcell 0 (by omega)
    have hspot : spot = none := by simpa [Addr.add] using World.cell?_spot h0
    subst hspot
    have h0' : W.cell? ⟨b, off, none⟩ = some (.string (ss.getD 0 ByteArray.empty)) := by simpa [Addr.add] using h0
    refine ⟨b, off, rfl, World.block_lt_of_cell? W _ h0', fun i hi => ?_⟩
    have hi' := hcell i (by omega)
    rw [List.getD_eq_getElem?_getD, List.getElem?_take_of_lt hi, ← List.getD_eq_getElem?_getD, ← hi']
    by_cases hz0 : i = 0
    · subst hz0; simp [Addr.add]
    · simp [Addr.add, hz0]

/-- A variable that is an array of strings, as the row lists it. -/
theorem strs_laid {t e : TypeId} {n : Nat} (ht : P.underlying t = some (.array n e)) (he : P.underlying e = some .string) (hc : P.cellsOf e = 1) {W : World} {name : String} {g : Nat} {cs : Array Value} {fuel : Nat} {p : List MemPlace} {spare : Nat → Bool} {held : Bool}
    (ss : List ByteArray) (hss : ∀ s ∈ ss, s.size ≤ maxLen) (hg : P.globalNamed name = some g) (hv : W.var? P name = some cs)
    (hd : DataW.trod enc P W 0 spare held fuel t cs.toList = some (.agg (ss.map fun s => .lit (.string s.data.toList)), p)) : Strs W (some ⟨g, 0, none⟩) n ss := by
  obtain ⟨xs, m1, rfl, hx1, hlen, hn, hel⟩ := DataW.trod_array ht hd
  simp only [Prod.mk.injEq, DataW.agg.injEq] at hx1
  have hl : ss.length = n := by
    have := congrArg List.length hx1.1
    simp at this; omega
  refine ⟨hl, hss, fun hp => ⟨g, 0, rfl, ?_, fun i hi => ?_⟩⟩
  all_goals
    have key : ∀ i, i < n → W.cell? ⟨g, i, none⟩ = some (.string (ss.getD i ByteArray.empty)) := by
      intro i hi
      have h1 := hel i hi
      rw [hc, List.getElem?_eq_getElem (by omega)] at h1
      obtain ⟨s, e1, e2, _⟩ := DataW.trod_string he h1
      have h2 := congrArg (fun l => l[i]?) hx1.1
      simp only [List.getElem?_map, List.getElem?_eq_getElem (show i < xs.length by omega), List.getElem?_eq_getElem (show i < ss.length by omega), Option.map_some, Option.some.injEq] at h2
      rw [e2] at h2
      simp only [DataW.lit.injEq, Lit.string.injEq] at h2
      have hs : s = ss[i] := by
        have h3 : s.data = (ss[i]).data := by
          apply Array.toList_inj.1
          exact h2.symm
        cases s; cases hq : ss[i]; rw [hq] at h3; simp at h3; subst h3; rfl
      rw [World.var?_cell hg hv i, List.getD_eq_getElem?_getD, List.getElem?_eq_getElem (by omega), Option.getD_some, ← hs]
      rw [Nat.mul_one] at e1
      have h4 := congrArg (fun l => l[0]?) e1
      simp only [List.getElem?_take, List.getElem?_drop, Nat.add_zero] at h4
      simpa using h4
  · exact World.block_lt_of_cell? W _ (key 0 (by omega))
  · rw [Nat.zero_add]; exact key i hi
end
end Nt
