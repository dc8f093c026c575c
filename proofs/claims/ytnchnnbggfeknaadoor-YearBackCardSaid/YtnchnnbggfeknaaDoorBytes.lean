/-
  '[]byte(s)': a new row of the string's bytes.
-/
import Derived.Test.YtnchnnbggfeknaaDoorBase
import Derived.Laws.IdiomStrings
set_option linter.unusedVariables false
set_option linter.unusedSimpArgs false
namespace Nt
open Go Go.RowKit

theorem run_bytes {P : Program} (w : World) (src dst e : TypeId) (s : ByteArray) (hs : P.underlying src = some .string) (hd : P.underlying dst = some (.slice e)) (he : P.underlying e = some (.int .u8)) :
    ∃ cap w2, (convert src dst (.string s)).run P w = .ok (.slice (some ⟨w.heap.size, 0, none⟩) s.size cap) w2 ∧ Below w.heap.size w w2 ∧ w.heap.size < w2.heap.size ∧ ∀ i (h : i < s.size), w2.cell? ⟨w.heap.size, i, none⟩ = some (.int .u8 (s[i].toNat : Int)) := by
  refine ⟨_, _, run_bytes_of_string w src dst e s hs hd he, (Below.refl _ _).drew.alloc (Nat.le_refl _) _, by simp, fun i h => ?_⟩
  have hn : (w.drew.alloc (.cells (bytesRow s (grownCap w s.size 0 e)) e ((bytesRow s (grownCap w s.size 0 e)).size, (bytesRow s (grownCap w s.size 0 e)).size + 1))).heap[w.heap.size]? = some (.cells (bytesRow s (grownCap w s.size 0 e)) e ((bytesRow s (grownCap w s.size 0 e)).size, (bytesRow s (grownCap w s.size 0 e)).size + 1)) := heap_alloc_new w.drew _
  unfold World.cell?
  simp only [hn]
  unfold bytesRow
  have h' : i < (s.data.map fun b => Value.int .u8 (b.toNat : Int)).size := by simpa using h
  simp only [Option.isSome_none, Bool.false_eq_true, if_false]
  rw [Array.getElem?_append_left h', Array.getElem?_map, Array.getElem?_eq_getElem (by simpa using h)]
  rfl

end Nt
