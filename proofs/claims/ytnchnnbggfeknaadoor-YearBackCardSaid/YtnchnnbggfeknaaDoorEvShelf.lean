/-
  From the shelf's contracts to the evaluator's: slices of strings that a call makes.
-/
import Derived.Test.YtnchnnbggfeknaaDoorEvLib
import Derived.Lib.SplitLaws
set_option linter.unusedVariables false
set_option linter.unusedSimpArgs false
namespace Nt.Ev
open Go Go.RowKit

/-- What the world holds of the processor's kind. -/
class MLen where val : Int

def strsV (L : List (List UInt8)) : List V := L.map V.str
def strVals (L : List (List UInt8)) : List Value := L.map fun l => Value.string ⟨l.toArray⟩

theorem repE_strs {G : Known} : ∀ (L : List (List UInt8)) (rest : List Value), repE G [.str] (strsV L) (strVals L ++ rest)
  | [], _ => repE_nil
  | l :: L, rest => by
    show repE G [.str] (V.str l :: strsV L) (Value.string ⟨l.toArray⟩ :: (strVals L ++ rest))
    unfold repE
    refine ⟨rfl, ⟨.string ⟨l.toArray⟩, by unfold rep; rfl, rfl⟩, ?_⟩
    exact repE_strs L rest

/-- A new block of strings. -/
theorem new_strs {G : Known} {w : World} (hG : GOk G w) (e : Nat) (t : TypeId) (L : List (List UInt8)) (n cap : Nat) (hn : n = L.length) (hcap : n ≤ cap) :
    ∃ G', New w (w.alloc (.cells (strVals L).toArray t)) G G' ∧ rep G' (.sl e [.str] none (strsV L)) (.slice (some ⟨w.heap.size, 0, none⟩) n cap) := by
  refine ⟨_, new_row hG (below_alloc _ _) (heap_alloc_new w _) (strVals L).length (by simp), ?_⟩
  unfold rep
  have hl : (strsV L).length = n := by unfold strsV; simp [hn]
  refine ⟨_, cap, by rw [hl], by omega, .inr ⟨w.heap.size, 0, _, rfl, upd_same _ _ _, ?_⟩⟩
  have := repE_strs (G := upd G w.heap.size (List.take (strVals L).length (strVals L).toArray.toList)) L []
  simpa using this

theorem str_bs (s : ByteArray) : s = ⟨s.data.toList.toArray⟩ := by cases s; simp

theorem PW_two {G : Known} {a b : V} {vs : List Value} (h : PW (rep G) [a, b] vs) : ∃ x y, vs = [x, y] ∧ rep G a x ∧ rep G b y := by
  obtain ⟨x, t, rfl, h1, h2⟩ := h.cons_inv
  obtain ⟨y, t, rfl, h3, h4⟩ := h2.cons_inv
  exact ⟨x, y, by rw [h4.nil_iff], h1, h3⟩
theorem PW_one {G : Known} {a : V} {vs : List Value} (h : PW (rep G) [a] vs) : ∃ x, vs = [x] ∧ rep G a x := by
  obtain ⟨x, t, rfl, h1, h2⟩ := h.cons_inv
  exact ⟨x, by rw [h2.nil_iff], h1⟩

/-- A listed variable with one cell. -/
theorem glob_int {E : Env} {G : Known} {w : World} (hG : GOk G w) (hg : GlobOk E G) {n : Nat} {k : IntKind} {m : Int} (h : E.glob n = some (.rptr [.int k] (.int k m) 0)) : w.cell? ⟨n, 0, none⟩ = some (.int k m) := by
  have := (hg n _ h).2
  unfold rep at this
  obtain ⟨b, o, l, e, hb, _, u, hu, hc⟩ := this
  unfold rep at hu
  subst hu
  simp only [Value.pointer.injEq, Option.some.injEq, Addr.mk.injEq, Nat.add_zero, and_true] at e
  obtain ⟨rfl, rfl⟩ := e
  refine known_cell hG hb ?_
  have h1 := congrArg (fun l => l[0]?) hc
  simpa [Value.cells] using h1

/-- Split's answer. -/
theorem contract_split {E : Env} {f T mx : Nat} {mv : Int} (hmx : E.glob mx = some (.rptr [.int .i64] (.int .i64 mv) 0)) (s sep : List UInt8) (h1 : 1 ≤ sep.length) (hs : s.length < 4294967281)
    (hc : ∀ (s sep : ByteArray) (m : Int) (w : World), s.size < 4294967281 → w.cell? ⟨mx, 0, none⟩ = some (.int .i64 m) → 1 ≤ sep.size → Calls E.P f #[.string s, .string sep] w fun e w' =>
      e = .returned (.slice (some ⟨w.heap.size, 0, none⟩) (Lib.countB s sep + 1) (Lib.countB s sep + 1)) ∧ w' = w.alloc (.cells ((Lib.splitB sep 0 (Lib.countB s sep) s).map Value.string).toArray T)) :
    Contract E f [.str s, .str sep] (.sl T [.str] none (strsV (Lib.splitK sep 0 (Lib.count s sep) s))) := by
  intro G w vs hG hg hp
  obtain ⟨x, y, rfl, hx, hy⟩ := PW_two hp
  unfold rep at hx hy
  subst hx; subst hy
  refine (hc ⟨s.toArray⟩ ⟨sep.toArray⟩ mv w (show s.toArray.size < _ by simpa using hs) (glob_int hG hg hmx) (show 1 ≤ sep.toArray.size by simpa using h1)).mono ?_
  rintro e w' ⟨rfl, rfl⟩
  have e1 : Lib.countB ⟨s.toArray⟩ ⟨sep.toArray⟩ = Lib.count s sep := rfl
  have e2 : (Lib.splitB ⟨sep.toArray⟩ 0 (Lib.count s sep) ⟨s.toArray⟩).map Value.string = strVals (Lib.splitK sep 0 (Lib.count s sep) s) := by
    have := Lib.splitB_data ⟨sep.toArray⟩ 0 (Lib.count s sep) ⟨s.toArray⟩
    rw [show (ByteArray.mk sep.toArray).data.toList = sep from rfl, show (ByteArray.mk s.toArray).data.toList = s from rfl] at this
    unfold strVals
    rw [← this, List.map_map]
    exact List.map_congr_left fun b _ => by show Value.string b = _; rw [Function.comp_apply, ← str_bs]
  rw [e1, e2]
  have hlen : (Lib.splitK sep 0 (Lib.count s sep) s).length = Lib.count s sep + 1 := by
    have h3 := Lib.splitB_all ⟨sep.toArray⟩ (show 1 ≤ sep.toArray.size by simpa using h1) 0 _ ⟨s.toArray⟩ rfl
    have h4 := congrArg List.length e2
    unfold strVals at h4
    rw [List.length_map, List.length_map] at h4
    rw [← h4]
    exact h3
  obtain ⟨G', hN, hr⟩ := new_strs hG T T (Lib.splitK sep 0 (Lib.count s sep) s) (Lib.count s sep + 1) (Lib.count s sep + 1) hlen.symm (Nat.le_refl _)
  exact ⟨_, G', rfl, hN, hr⟩

theorem lcat_str (L : List (List UInt8)) (p : List UInt8) : lcat (strsV L) [V.str p] = strsV (L ++ [p]) := by unfold lcat strsV; simp
theorem strsV_len (L : List (List UInt8)) : (strsV L).length = L.length := by unfold strsV; simp
theorem mid_next (s : List UInt8) (a k : Nat) (h : a ≤ k) (hk : k < s.length) : (s.drop a).take (k + 1 - a) = (s.drop a).take (k - a) ++ [s.getD k 0] := by
  rw [show k + 1 - a = (k - a) + 1 by omega, List.take_add_one]
  congr 1
  rw [List.getElem?_drop, show a + (k - a) = k by omega, List.getElem?_eq_getElem hk, List.getD_eq_getElem?_getD, List.getElem?_eq_getElem hk]
  rfl
theorem drop_get (s : List UInt8) (k : Nat) (hk : k < s.length) : s.drop k = s.getD k 0 :: s.drop (k + 1) := by
  rw [List.drop_eq_getElem_cons hk, List.getD_eq_getElem?_getD, List.getElem?_eq_getElem hk]
  rfl
end Nt.Ev
