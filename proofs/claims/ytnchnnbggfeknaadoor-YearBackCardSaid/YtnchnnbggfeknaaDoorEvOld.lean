/-
  From contracts of calls that turn no given block to the evaluator's contracts.
-/
import Derived.Test.YtnchnnbggfeknaaDoorEvLib
import Derived.Test.YtnchnnbggfeknaaDoorEvShelf
import Derived.Test.YtnchnnbggfeknaaDoorBase
set_option linter.unusedVariables false
set_option linter.unusedSimpArgs false
namespace Nt.Ev
open Go Go.RowKit Nt

/-- A contract whose answer names no new block. -/
theorem contract_old {E : Env} {f : Nat} {args : List V} {r : V} (h : ∀ (G : Known) (w : World) (vs : List Value), GOk G w → GlobOk E G → PW (rep G) args vs →
    Calls E.P f vs.toArray w fun e w' => ∃ v, e = .returned v ∧ Below w.heap.size w w' ∧ ∀ (G' : Known) (w' : World) (B : Nat), resrep G' w' B r v) : Contract E f args r := by
  intro G w vs hG hg hp
  refine (h G w vs hG hg hp).mono ?_
  rintro e w' ⟨v, rfl, hb, hr⟩
  refine ⟨v, G, rfl, ⟨hb, fun _ _ => rfl, fun b l hl => ?_⟩, hr _ _ _⟩
  obtain ⟨c, e, fr, hc, ht⟩ := hG b l hl
  exact ⟨c, e, fr, by rw [hb.block b (known_lt hG hl)]; exact hc, ht⟩

theorem res_int (k : IntKind) (n : Int) : ∀ (G' : Known) (w' : World) (B : Nat), resrep G' w' B (.int k n) (.int k n) := fun _ _ _ => by simp only [resrep, sres]; unfold rep; rfl
theorem res_bool (b : Bool) : ∀ (G' : Known) (w' : World) (B : Nat), resrep G' w' B (.bool b) (.bool b) := fun _ _ _ => by simp only [resrep, sres]; unfold rep; rfl
theorem res_str (l : List UInt8) : ∀ (G' : Known) (w' : World) (B : Nat), resrep G' w' B (.str l) (.string ⟨l.toArray⟩) := fun _ _ _ => by simp only [resrep, sres]; unfold rep; rfl
/-- A cell that says the same in every world. -/
def Same (x : V) (v : Value) : Prop := hasL x = false ∧ ∀ (G' : Known) (w' : World) (B : Nat), sres G' w' B x v
theorem same_int (k : IntKind) (n : Int) : Same (.int k n) (.int k n) := ⟨rfl, fun _ _ _ => by simp only [sres]; unfold rep; rfl⟩
theorem same_bool (b : Bool) : Same (.bool b) (.bool b) := ⟨rfl, fun _ _ _ => by simp only [sres]; unfold rep; rfl⟩
theorem same_str (l : List UInt8) : Same (.str l) (.string ⟨l.toArray⟩) := ⟨rfl, fun _ _ _ => by simp only [sres]; unfold rep; rfl⟩
theorem res_tup {xs : List V} {vs : List Value} (h : PW Same xs vs) : ∀ (G' : Known) (w' : World) (B : Nat), resrep G' w' B (.tup xs) (.tuple vs.toArray) := by
  intro G w B
  refine ⟨vs, rfl, h.mono fun x _ v hx => hx.2 G w B, ?_⟩
  have : xs.countP hasL = 0 := by
    rw [List.countP_eq_zero]
    intro x hx
    obtain ⟨i, hi⟩ := List.getElem?_of_mem hx
    obtain ⟨v, _, hv⟩ := h.get hi
    rw [hv.1]; decide
  omega
theorem res_two {x y : V} {a b : Value} (h : Same x a) (k : Same y b) : ∀ (G' : Known) (w' : World) (B : Nat), resrep G' w' B (.tup [x, y]) (.tuple #[a, b]) := res_tup (vs := [a, b]) (.cons h (.cons k .nil))
theorem res_three {x y z : V} {a b c : Value} (h : Same x a) (k : Same y b) (l : Same z c) : ∀ (G' : Known) (w' : World) (B : Nat), resrep G' w' B (.tup [x, y, z]) (.tuple #[a, b, c]) := res_tup (vs := [a, b, c]) (.cons h (.cons k (.cons l .nil)))

/-- A slice of strings among a contract's arguments. -/
theorem rep_strs {G : Known} {w : World} (hG : GOk G w) {e : Nat} {o : Option Nat} {ws : List V} {v : Value} (h : rep G (.sl e [.str] o ws) v) (hws : ∀ x ∈ ws, ∃ l, x = .str l ∧ l.length ≤ 1000) :
    ∃ p cap, v = .slice p ws.length cap ∧ Strs w p ws.length (ws.map fun x => (⟨(asStr x).toArray⟩ : ByteArray)) := by
  unfold rep at h
  obtain ⟨p, cap, rfl, hcap, h⟩ := h
  refine ⟨p, cap, rfl, by simp, ?_, fun hpos => ?_⟩
  · intro s hs
    rw [List.mem_map] at hs
    obtain ⟨x, hx, rfl⟩ := hs
    obtain ⟨l, rfl, hl⟩ := hws x hx
    have : (⟨(asStr (V.str l)).toArray⟩ : ByteArray).size = l.length := by simp [ByteArray.size, asStr]
    rw [this]
    unfold maxLen; omega
  · rcases h with h | ⟨b, off, l, rfl, hGb, hE⟩
    · rw [h] at hpos; simp at hpos
    · refine ⟨b, off, rfl, known_lt hG hGb, fun i hi => ?_⟩
      obtain ⟨hf, u, hu, hcs⟩ := repE_get _ _ hE i _ (List.getElem?_eq_getElem hi)
      obtain ⟨l', hl', _⟩ := hws _ (List.getElem_mem hi)
      refine known_cell hG hGb ?_
      rw [hl'] at hu
      unfold rep at hu
      subst hu
      have h0 := congrArg (fun q => q[0]?) hcs
      simp only [List.length_singleton, Nat.mul_one, Value.cells] at h0
      have h1 : ((l.drop off).drop i)[0]? = some (Value.string ⟨l'.toArray⟩) := by
        rw [List.getElem?_take] at h0
        simpa using h0
      rw [List.getElem?_drop, List.getElem?_drop] at h1
      rw [show off + i = off + (i + 0) by omega, h1]
      congr 2
      rw [List.getD_eq_getElem?_getD, List.getElem?_map, List.getElem?_eq_getElem hi, hl']
      rfl
end Nt.Ev
