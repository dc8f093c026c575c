/-
  RlAny: equations of functions, as the evaluator prints them. Two rules that are too close, whatever their letters are. apart.Check, walked at whatever rules. Shift: equations of functions, as the evaluator prints them. The contracts that the statement of shifted eras needs. An era that is by so much more ahead: the same rule is told, the same is saved, the next one is the same. The statement of shifted eras as a contract.
-/
import Derived.Test.YtheojhajckcdlaaGreatDoorMXD
import Derived.Test.YtheojhajckcdlaaGreatDoorMXF
import Derived.Test.YtheojhajckcdlaaGreatDoorMXJ
import Derived.Test.YtheojhajckcdlaaGreatDoorMS
import Derived.WalkKit
import Derived.Maps.Own
import Derived.Test.YtheojhajckcdlaaGreatDoorMC
import Derived.Test.YtheojhajckcdlaaGreatDoorMXI
import Derived.Test.YtheojhajckcdlaaGreatDoorMZ
set_option linter.unusedVariables false
set_option linter.unusedSimpArgs false
set_option linter.unusedSectionVars false
namespace Nt.Ev.YtheojhajckcdlaaGreatDoor.Ra
set_option maxRecDepth 100000
open Go Nt.Num Go.Proofs.YtheojhajckcdlaaGreatDoor
variable [MLen]
open Nt.Ev.YtheojhajckcdlaaGreatDoor
open Nt.Civil
open Nt.Ev.YtheojhajckcdlaaGreatDoor.Rl
noncomputable def aLeS : FSpec := fun a => match a with | [.str s] => some (true, .tup [.str (leT s), .int .i64 (leW s)]) | _ => none
noncomputable def aS0 : List (Nat × FSpec) := (67, aLeS) :: fS3
noncomputable def aLtS : FSpec := fun a => match a with | [.str s] => some (true, .tup [.str (ltT s), .int .i64 (ltW s)]) | _ => none
noncomputable def aS1 : List (Nat × FSpec) := (42, aLtS) :: kS2
noncomputable def aRrS : FSpec := fun a => match a with | [.agg [.str n, .int .i64 f, .int .i64 t, .int .i64 m, .int .i64 k, .int .i64 w, .int .i64 d, .int .i64 c, .int .i64 b, .int .i64 v, .str l]] => some (true, .bool (ruP n f t m k w d c b v l)) | _ => none
noncomputable def aS2 : List (Nat × FSpec) := (22, aRrS) :: kS5
theorem aLt_top (F : Nat) (s : List UInt8) (K : V → Option V) :
 evBd fE (evFn fE aS0 F 2) F 42 [(V.str s)] K =
 sel (seq s [])
 (K (V.tup [(V.str [45]), (V.int .i64 0)]))
 (sel (bnot (ieq (leW s) 0))
 (K (V.tup [(V.str []), (V.int .i64 4)]))
 (sel (bnot (seq (leT s) s))
 (K (V.tup [(V.str []), (V.int .i64 4)]))
 (K (V.tup [(V.str s), (V.int .i64 0)])))) := by kernel_rfl
theorem aRr_top (F : Nat) (n : List UInt8) (f : Int) (t : Int) (m : Int) (k : Int) (w : Int) (d : Int) (c : Int) (b : Int) (v : Int) (l : List UInt8) (K : V → Option V) :
 evBd fE (evFn fE aS1 F 2) F 22 [(V.agg [(V.str n), (V.int .i64 f), (V.int .i64 t), (V.int .i64 m), (V.int .i64 k), (V.int .i64 w), (V.int .i64 d), (V.int .i64 c), (V.int .i64 b), (V.int .i64 v), (V.str l)])] K =
 sel (ieq (txWy f t) 0)
 (sel (ieq (fxW f) 0)
 (sel (ieq (ltW l) 0)
 (sel (ieq (nmI n) 0)
 (sel (ftP k w d m)
 (sel (rightC c b)
 (sel (ile (-10800) v)
 (K (V.bool (ile v 10800)))
 (K (V.bool false)))
 (K (V.bool false)))
 (K (V.bool false)))
 (K (V.bool false)))
 (K (V.bool false)))
 (K (V.bool false)))
 (K (V.bool false)) := by kernel_rfl
theorem aPa_top (F : Nat) (n : List UInt8) (f : Int) (t : Int) (m : Int) (k : Int) (w : Int) (d : Int) (c : Int) (b : Int) (v : Int) (l : List UInt8) (n2 : List UInt8) (f2 : Int) (t2 : Int) (m2 : Int) (k2 : Int) (w2 : Int) (d2 : Int) (c2 : Int) (b2 : Int) (v2 : Int) (l2 : List UInt8) (K : V → Option V) :
 evBd fE (evFn fE aS2 F 2) F 11 [(V.agg [(V.str n), (V.int .i64 f), (V.int .i64 t), (V.int .i64 m), (V.int .i64 k), (V.int .i64 w), (V.int .i64 d), (V.int .i64 c), (V.int .i64 b), (V.int .i64 v), (V.str l)]), (V.agg [(V.str n2), (V.int .i64 f2), (V.int .i64 t2), (V.int .i64 m2), (V.int .i64 k2), (V.int .i64 w2), (V.int .i64 d2), (V.int .i64 c2), (V.int .i64 b2), (V.int .i64 v2), (V.str l2)])] K =
 sel (bnot (ruP n f t m k w d c b v l))
 (K (V.int .i64 4))
 (sel (bnot (ruP n2 f2 t2 m2 k2 w2 d2 c2 b2 v2 l2))
 (K (V.int .i64 4))
 (sel (band (ruP n f t m k w d c b v l) (ruP n2 f2 t2 m2 k2 w2 d2 c2 b2 v2 l2))
 (sel (neP f t (ofL m k w d c) (ofH m k w d c) f2 t2 (ofL m2 k2 w2 d2 c2) (ofH m2 k2 w2 d2 c2))
 (K (V.int .i64 15))
 (K (V.int .i64 0)))
 (none))) := by kernel_rfl
end Nt.Ev.YtheojhajckcdlaaGreatDoor.Ra

namespace Nt.Ev.YtheojhajckcdlaaGreatDoor.Ra
set_option maxRecDepth 100000
open Go Go.RowKit Nt Nt.Num Go.Proofs.YtheojhajckcdlaaGreatDoor Nt.Ev.YtheojhajckcdlaaGreatDoor Nt.Civil Nt.Ev.YtheojhajckcdlaaGreatDoor.Rl
variable [MLen]
theorem aLeS_ok (s : List UInt8) (hc : true = true) : Contract fE 67 [.str s] (.tup [.str (leT s), .int .i64 (leW s)]) := by
  by_cases h : s.length ≤ 1000
  · exact letterS_ok s (ile_t (by rw [slen_nat]; omega))
  · refine contract_of_body fE_ok fS2_ok 5 2 ?_
    have h1 : ¬ s = [45] := fun e => by rw [e] at h; simp at h
    rw [fLetter_top, sel_neg (by rw [← Bool.not_eq_true, seq_iff]; exact h1), sel_pos (ilt_t (by rw [slen_nat]; omega))]
    unfold leT leW leP
    rw [if_neg h1, if_pos (by omega)]
theorem aS0_ok : SOk fE aS0 := by
  unfold aS0
  refine SOk.cons (fun args r h => ?_) (fS3_ok)
  · unfold aLeS at h
    split at h
    · simp only [Option.some.injEq, Prod.mk.injEq] at h
      obtain ⟨hc, rfl⟩ := h
      exact aLeS_ok _ rfl
    · cases h
theorem aLtS_ok (s : List UInt8) (hc : true = true) : Contract fE 42 [.str s] (.tup [.str (ltT s), .int .i64 (ltW s)]) := by
  refine contract_of_body fE_ok aS0_ok 5 2 ?_
  rw [aLt_top]
  unfold ltT ltW ltP
  simp only [sel_if, seq_iff, bnot_iff, ieq_iff]
  by_cases h1 : s = []
  · rw [if_pos h1, if_pos h1]
  · rw [if_neg h1, if_neg h1]
    by_cases h2 : leW s = 0
    · rw [if_neg (by simpa using h2)]
      by_cases h3 : leT s = s
      · rw [if_neg (by simpa using h3), if_neg (by simp [h2, h3])]
      · rw [if_pos h3, if_pos (.inr h3)]
    · rw [if_pos h2, if_pos (.inl h2)]
theorem aS1_ok : SOk fE aS1 := by
  unfold aS1
  refine SOk.cons (fun args r h => ?_) (kS2_ok)
  · unfold aLtS at h
    split at h
    · simp only [Option.some.injEq, Prod.mk.injEq] at h
      obtain ⟨hc, rfl⟩ := h
      exact aLtS_ok _ rfl
    · cases h
theorem aRrS_ok (n : List UInt8) (f t m k w d c b v : Int) (l : List UInt8) (hc : true = true) : Contract fE 22 [.agg [.str n, .int .i64 f, .int .i64 t, .int .i64 m, .int .i64 k, .int .i64 w, .int .i64 d, .int .i64 c, .int .i64 b, .int .i64 v, .str l]] (.bool (ruP n f t m k w d c b v l)) := by
  refine contract_of_body fE_ok aS1_ok 5 2 ?_
  rw [aRr_top]
  unfold ruP
  rw [← yr_p]
  cases ieq (txWy f t) 0 <;> cases ieq (fxW f) 0 <;> cases ieq (ltW l) 0 <;> cases ieq (nmI n) 0 <;> cases ftP k w d m <;> cases rightC c b <;> cases ile (-10800) v <;> cases ile v 10800 <;> rfl
theorem aS2_ok : SOk fE aS2 := by
  unfold aS2
  refine SOk.cons (fun args r h => ?_) (kS5_ok)
  · unfold aRrS at h
    split at h
    · simp only [Option.some.injEq, Prod.mk.injEq] at h
      obtain ⟨hc, rfl⟩ := h
      exact aRrS_ok _ _ _ _ _ _ _ _ _ _ _ rfl
    · cases h
theorem pair_any (n : List UInt8) (f t m k w d c b v : Int) (l : List UInt8) (n2 : List UInt8) (f2 t2 m2 k2 w2 d2 c2 b2 v2 : Int) (l2 : List UInt8) : Contract fE 11 [.agg [.str n, .int .i64 f, .int .i64 t, .int .i64 m, .int .i64 k, .int .i64 w, .int .i64 d, .int .i64 c, .int .i64 b, .int .i64 v, .str l], .agg [.str n2, .int .i64 f2, .int .i64 t2, .int .i64 m2, .int .i64 k2, .int .i64 w2, .int .i64 d2, .int .i64 c2, .int .i64 b2, .int .i64 v2, .str l2]] (.int .i64 (paP n f t m k w d c b v l n2 f2 t2 m2 k2 w2 d2 c2 b2 v2 l2)) := by
  refine contract_of_body fE_ok aS2_ok 5 2 ?_
  rw [aPa_top]
  unfold paP
  cases ruP n f t m k w d c b v l <;> cases ruP n2 f2 t2 m2 k2 w2 d2 c2 b2 v2 l2 <;> cases neP f t (ofL m k w d c) (ofH m k w d c) f2 t2 (ofL m2 k2 w2 d2 c2) (ofH m2 k2 w2 d2 c2) <;> rfl
end Nt.Ev.YtheojhajckcdlaaGreatDoor.Ra

namespace Go.Proofs.YtheojhajckcdlaaGreatDoor
open Go Go.RowKit Go.Shelf Nt Nt.Maps
theorem run_append_st3 {P : Program} {w : World} (base t ty e : TypeId) (z : Value) (size bytes : Nat) (ht : P.underlying t = some (.slice e)) (hinfo : (P.info? e).map (fun i => (i.zero, i.size, i.bytes)) = some (some z, size, bytes)) (hzs : z.cells.size = size) (hsz : 0 < size) (hb : 0 < bytes)
    (v : Value) (n : Nat) (xs : List Value) (hown : w.ownsRow base e size v n xs) (g : Nat) (R : Array Value) (e' : TypeId) (hg : w.heap[g]? = some (.cells R e' (0, 0))) (hR : R.size = size) (hy : ∀ u ∈ R.toList, u.oneCell' = true) (hbytes : (n + 1) * bytes ≤ 140737488355328) (hbase : base ≤ w.heap.size) :
    ∃ v' w', (Builtin.append_ #[t, t] ty #[v, .slice (some ⟨g, 0, none⟩) 1 1]).run P w = .ok v' w' ∧ w'.ownsRow base e size v' (n + 1) (xs ++ R.toList) ∧ w'.ownsRow base e size v n xs ∧ w.grownBy w' v.ownBlock ∧ (v'.ownBlock = v.ownBlock ∨ ∀ q, v'.ownBlock = some q → w.heap.size ≤ q) := by
  have hown0 := hown
  obtain ⟨hxl, hcase⟩ := hown
  rcases hcase with ⟨hv, hn⟩ | ⟨gb, cap, cur, hv, hbg, hgh, hnc, hcm, hcs, htake⟩
  · have hown1 : w.ownsRow w.heap.size e size v n xs := ⟨hxl, .inl ⟨hv, hn⟩⟩
    obtain ⟨v', w', h1, h2, h3⟩ := run_append_st w.heap.size t ty e z size bytes ht hinfo hzs hsz hb v n xs hown1 g R e' hg hR hy hbytes (Nat.le_refl _)
    exact ⟨v', w', h1, ownsRow_mono h2 hbase, ⟨hxl, .inl ⟨hv, hn⟩⟩, h3, .inr fun q hq => (h2.lt q hq).1⟩
  · subst hv
    obtain ⟨i0, hi, hz0, hz1, hz2⟩ := info_parts hinfo
    have hnews : ∀ j u, R.toList[j]? = some u → w.cell? ((⟨g, 0, none⟩ : Addr).add j) = some u := by
      intro j u hj
      have hj' : R[j]? = some u := by simpa using hj
      by_cases h0 : j = 0
      · subst h0; simp [Addr.add, World.cell?, hg, hj']
      · simp [Addr.add, World.cell?, hg, hj', h0]
    by_cases hroom : n + 1 ≤ cap
    · have hmul : (n + 1) * size ≤ cap * size := Nat.mul_le_mul_right _ hroom
      have hs1 : (n + 1) * size = n * size + size := by rw [Nat.add_mul, Nat.one_mul]
      have hRl : R.toList.length = size := by simp [hR]
      have hfit : n * i0.size + R.toList.length ≤ cur.size := by rw [hz1, hRl, hcs]; omega
      have hr := run_append_room (P := P) (ty := ty) w t e i0 ht hi gb n cap cur hgh ⟨g, 0, none⟩ 1 1 R.toList (by rw [hRl, hz1, Nat.one_mul]) hnews hy hroom hfit
      rw [hz1] at hr
      have htl : (cur.toList.take (n * size)).length = n * size := by rw [List.length_take, Array.length_toList]; omega
      refine ⟨_, _, hr, ⟨?_, .inr ⟨gb, cap, _, rfl, hbg, setRow_heap w gb cur _ e _ hgh, hroom, hcm, ?_, ?_⟩⟩, ⟨hxl, .inr ⟨gb, cap, _, rfl, hbg, setRow_heap w gb cur _ e _ hgh, hnc, hcm, ?_, ?_⟩⟩, ⟨rfl, rfl, rfl, by simp, fun k _ hk => setRow_other w gb k _ (fun e => hk (by simp [Value.ownBlock, e]))⟩, .inl rfl⟩
      · rw [List.length_append, hxl, hRl, hs1]
      · simp only [List.size_toArray, List.length_append, List.length_drop, Array.length_toList, htl, hRl]
        omega
      · simp only [htake]
        rw [show (n + 1) * size = (xs ++ R.toList).length by rw [List.length_append, hxl, hRl, hs1]]
        exact List.take_left
      · simp only [List.size_toArray, List.length_append, List.length_drop, Array.length_toList, htl, hRl]
        omega
      · simp only [htake, List.append_assoc]
        rw [← hxl]
        exact List.take_left
    · have hlen' : n + 1 ≤ 140737488355328 := Nat.le_trans (Nat.le_mul_of_pos_right _ hb) hbytes
      have holds : ∀ j u, xs[j]? = some u → w.cell? ((⟨gb, 0, none⟩ : Addr).add j) = some u := hown0.cells (g := gb) rfl
      obtain ⟨v', w', h1, h2, h3⟩ := run_append_arg_grows (P := P) (w := w) t ty e i0 z size bytes ht hi hz0 hz1 hz2 hzs hsz ⟨gb, 0, none⟩ n cap xs hxl holds ⟨g, 0, none⟩ 1 1 R.toList (by simp [hR]) hnews (by omega) (by unfold maxLen; omega) hbytes
      exact ⟨v', w', h1, ownsRow_mono h2 hbase, ownsRow_ext hown0 (below_grown h3), ⟨h3.os, h3.tape, h3.output, h3.size, fun k hk _ => h3.block k hk (by simp)⟩, .inr fun q hq => (h2.lt q hq).1⟩
theorem zeroSlR (w : World) : (zeroValue 22).run Tryz.prog w = .ok (.slice none 0 0) w := by kernel_rfl
theorem deadR {b : Bool} (h : b = true) (hf : b = false) : False := by rw [hf] at h; cases h
section
variable (nl : Nat → List UInt8) (ia : Nat → Nat → Int) (lt : Nat → ByteArray) (pe : Nat → Nat → Int)
def grp (k : Nat) (y : List UInt8) : List Nat := (List.range k).filter fun j => nl j == y
abbrev rowG (j : Nat) : Array Value := rowR ⟨(nl j).toArray⟩ (ia j) (lt j)
def cellsG (l : List Nat) : List Value := l.flatMap fun j => (rowG nl ia lt j).toList
def firstE (k : Nat) : List Nat → Int
  | [] => 0
  | j :: l => if pe j k = 0 then firstE k l else pe j k
def ckR : Nat → Nat → Int × Int
  | 0, _ => (-1, 0)
  | m + 1, k => if firstE pe k (grp nl k (nl k)) = 0 then ckR m (k + 1) else ((k : Int), firstE pe k (grp nl k (nl k)))
def valF (f : List UInt8 → Option Value) (y : List UInt8) : Value := (f y).getD (.slice none 0 0)
def Rows (B k : Nat) (f : List UInt8 → Option Value) (w : World) : Prop := ∀ y, ∃ pv cv, valF f y = .slice pv (grp nl k y).length cv ∧ w.ownsRow (B + 1) 41 11 (valF f y) (grp nl k y).length (cellsG nl ia lt (grp nl k y))
def Apart (f : List UInt8 → Option Value) : Prop := ∀ y z, y ≠ z → ∀ b, (valF f y).ownBlock = some b → (valF f z).ownBlock ≠ some b
end
section
variable {nl : Nat → List UInt8} {ia : Nat → Nat → Int} {lt : Nat → ByteArray} {pe : Nat → Nat → Int}
theorem grp_succ (k : Nat) (y : List UInt8) : grp nl (k + 1) y = if nl k = y then grp nl k y ++ [k] else grp nl k y := by
  unfold grp
  rw [List.range_succ, List.filter_append]
  by_cases h : nl k = y
  · rw [if_pos h, List.filter_cons_of_pos (by simpa using h)]; rfl
  · rw [if_neg h, List.filter_cons_of_neg (by simpa using h)]; simp
theorem grp_le (k : Nat) (y : List UInt8) : (grp nl k y).length ≤ k := by
  unfold grp
  have := List.length_filter_le (fun j => nl j == y) (List.range k)
  rw [List.length_range] at this; exact this
theorem grp_lt {k : Nat} {y : List UInt8} {j : Nat} (h : j ∈ grp nl k y) : j < k := by
  unfold grp at h
  exact List.mem_range.1 (List.mem_filter.1 h).1
theorem rowG_one (j : Nat) : ∀ u ∈ (rowG nl ia lt j).toList, u.oneCell' = true := List.all_eq_true.1 (by rfl : (rowG nl ia lt j).toList.all (fun u => u.oneCell') = true)
theorem cellsG_app (l : List Nat) (k : Nat) : cellsG nl ia lt (l ++ [k]) = cellsG nl ia lt l ++ (rowG nl ia lt k).toList := by
  unfold cellsG
  rw [List.flatMap_append, List.flatMap_cons, List.flatMap_nil, List.append_nil]
theorem cellsG_at : ∀ (l : List Nat) (j i : Nat) (a : Nat), l[j]? = some a → i < 11 → (cellsG nl ia lt l)[j * 11 + i]? = (rowG nl ia lt a).toList[i]?
  | [], j, i, a, h, _ => by simp at h
  | x :: l, 0, i, a, h, hi => by
    simp only [List.getElem?_cons_zero, Option.some.injEq] at h
    subst h
    unfold cellsG
    rw [List.flatMap_cons, List.getElem?_append_left (by simpa [rowG] using hi), Nat.zero_mul, Nat.zero_add]
  | x :: l, j + 1, i, a, h, hi => by
    simp only [List.getElem?_cons_succ] at h
    have := cellsG_at l j i a h hi
    unfold cellsG at this ⊢
    rw [List.flatMap_cons, List.getElem?_append_right (by simp [rowG]; omega), ← this]
    congr 1
    simp [rowG]; omega
theorem Rows.ext {B k : Nat} {f : List UInt8 → Option Value} {w w' : World} (h : Rows nl ia lt B k f w) (hb : Below w.heap.size w w') : Rows nl ia lt B k f w' := fun y => by
  obtain ⟨pv, cv, h1, h2⟩ := h y
  exact ⟨pv, cv, h1, ownsRow_ext h2 hb⟩
theorem Rows.start (B : Nat) (w : World) : Rows nl ia lt B 0 (fun _ => none) w := fun y => ⟨none, 0, rfl, World.ownsRow_nil _ _ _ _⟩
def PostG (B k : Nat) (w0 w' : World) : Prop := ∃ f, OwnAny w' Tryz.prog 9 B (k + 1) f ∧ Rows nl ia lt B (k + 1) f w' ∧ Apart f ∧ Below B w0 w' ∧ B + 1 ≤ w'.heap.size
def FG (B H k : Nat) (f : List UInt8 → Option Value) : Nat → Value → World → Prop
  | 0, u, _ => u = .map (some B)
  | 1, u, _ => u = .pointer (some ⟨H, 0, none⟩)
  | 2, u, _ => u = .string ⟨(nl k).toArray⟩
  | 3, u, _ => u = .map (some B)
  | 4, u, _ => u = .pointer (some ⟨H, 0, none⟩)
  | 5, u, _ => u = .string ⟨(nl k).toArray⟩
  | 6, u, _ => u = valF f (nl k)
  | 7, u, _ => u = .agg (rowG nl ia lt k)
  | 8, u, w' => ∃ g, u = .slice (some ⟨g, 0, none⟩) 1 1 ∧ w'.heap[g]? = some (.cells (rowG nl ia lt k) 41 (0, 0))
  | 9, u, w' => w'.ownsRow (B + 1) 41 11 u ((grp nl k (nl k)).length + 1) (cellsG nl ia lt (grp nl k (nl k)) ++ (rowG nl ia lt k).toList) ∧ ∀ z, z ≠ nl k → ∀ b, u.ownBlock = some b → (valF f z).ownBlock ≠ some b
  | _, _, _ => True
theorem FG_ext {B H k : Nat} {f : List UInt8 → Option Value} {w w' : World} (hb : Below w.heap.size w w') (j : Nat) (u : Value) (h : FG (nl := nl) (ia := ia) (lt := lt) B H k f j u w) : FG (nl := nl) (ia := ia) (lt := lt) B H k f j u w' := by
  unfold FG at *
  split at h
  · exact h
  · exact h
  · exact h
  · exact h
  · exact h
  · exact h
  · exact h
  · exact h
  · obtain ⟨g, h1, h2⟩ := h; exact ⟨g, h1, heap_ext h2 hb⟩
  · exact ⟨ownsRow_ext h.1 hb, h.2⟩
  · trivial
def JG (B H k : Nat) (f : List UInt8 → Option Value) (w0 w' : World) : Prop := Below B w0 w' ∧ B + 1 ≤ w'.heap.size ∧ CellsR w' H 0 ⟨(nl k).toArray⟩ (ia k) (lt k) ∧ OwnAny w' Tryz.prog 9 B k f ∧ Rows nl ia lt B k f w'
theorem JG.ext {B H k : Nat} {f : List UInt8 → Option Value} {w0 w w' : World} (h : JG (nl := nl) (ia := ia) (lt := lt) B H k f w0 w) (hb : Below w.heap.size w w') : JG (nl := nl) (ia := ia) (lt := lt) B H k f w0 w' :=
  ⟨h.1.trans (hb.mono (by have := h.2.1; omega)), Nat.le_trans h.2.1 hb.size, h.2.2.1.below hb h.2.2.1.lt, h.2.2.2.1.ext hb, h.2.2.2.2.ext hb⟩
theorem valF_put (f : List UInt8 → Option Value) (y : List UInt8) (v : Value) (z : List UInt8) : valF (fun x => if x = y then some v else f x) z = if z = y then v else valF f z := by
  unfold valF
  show ((if z = y then some v else f z)).getD _ = _
  by_cases h : z = y
  · rw [if_pos h, if_pos h]; rfl
  · rw [if_neg h, if_neg h]
theorem firstE_drop (k : Nat) (l : List Nat) (j a : Nat) (h : l[j]? = some a) : firstE pe k (l.drop j) = if pe a k = 0 then firstE pe k (l.drop (j + 1)) else pe a k := by
  obtain ⟨h1, h2⟩ := List.getElem?_eq_some_iff.1 h
  rw [List.drop_eq_getElem_cons h1, h2]
  rfl
set_option maxRecDepth 100000 in
set_option maxHeartbeats 4000000 in
theorem check_any (B : Nat) (b0 off n cap : Nat) (p : Option Addr) (w : World) (hB0 : B = w.heap.size) (hn : n * 104 ≤ 140737488355328) (hp : ∀ k, k < n → p = some ⟨b0, off, none⟩ ∧ b0 < B ∧ CellsR w b0 (off + k * 11) ⟨(nl k).toArray⟩ (ia k) (lt k)) (hlen : ∀ k, k < n → (nl k).length ≤ maxLen)
    (hpair : ∀ a b w', a < n → b < n → Below B w w' → Calls Tryz.prog 11 #[.agg (rowG nl ia lt a), .agg (rowG nl ia lt b)] w' fun e w'' => e = .returned (.int .i64 (pe a b)) ∧ Below w'.heap.size w' w'') :
    Calls Tryz.prog 5 #[.slice p n cap] w fun e w' => e = .returned (.tuple #[.int .i64 (ckR nl pe n 0).1, .int .i64 (ckR nl pe n 0).2]) ∧ Below B w w' := by
  have hmm := @run_makeMap Tryz.prog
  go_enter Tryz.func5, Tryz.ntmps5
  go_wp2
  have hmade := OwnAny.made w Tryz.prog 9
  have hin0 : Below w.heap.size w (w.alloc (Obj.map #[] 0)) := below_alloc _ _
  rw [← hB0] at hmade hin0 ⊢
  have hws0 : (w.alloc (Obj.map #[] 0)).heap.size = B + 1 := by simp [hB0]
  obtain ⟨w1, hw1⟩ : ∃ w1, w1 = w.alloc (Obj.map #[] 0) := ⟨_, rfl⟩
  rw [← hw1] at hmade hin0 hws0 ⊢
  clear hw1 hB0 hmm
  go_loopw [13] (fun i wr => ∃ (k : Nat) (f : List UInt8 → Option Value), k ≤ n ∧ i = .int .i64 k ∧ OwnAny wr Tryz.prog 9 B k f ∧ Rows nl ia lt B k f wr ∧ Apart f ∧ ckR nl pe (n - k) k = ckR nl pe n 0 ∧ Below B w wr ∧ B + 1 ≤ wr.heap.size)
    (fun i _ => n - (intOf i).toNat)
  case atStart => exact ⟨0, fun _ => none, by omega, rfl, hmade, Rows.start B w1, (fun y z _ b hb => by cases hb), rfl, hin0, by omega⟩
  case round =>
    obtain ⟨k, f, hk, rfl, hown, hrows, hap, hck, hnx, hsz⟩ := hrel
    by_cases hlt : k < n
    · obtain ⟨hpp, hb0, hcu⟩ := hp k hlt
      subst hpp
      have hcu := hcu.below hnx hb0
      obtain ⟨c0, c1, c2, c3, c4, c5, c6, c7, c8, c9, c10⟩ := hcu
      have hl := hlen k hlt
      obtain ⟨pv, cv, hv, hrow⟩ := hrows (nl k)
      rw [hv] at hrow
      have hgl := grp_le (nl := nl) k (nl k)
      have hgm : ∀ a, a ∈ grp nl k (nl k) → a < k := fun a => grp_lt
      obtain ⟨L, hL⟩ : ∃ L, L = grp nl k (nl k) := ⟨_, rfl⟩
      rw [← hL] at hv hrow hgl hgm
      have hv' : (f (nl k)).getD (.slice none 0 0) = .slice pv L.length cv := hv
      have hck' : firstE pe k L = firstE pe k (L.drop 0) := rfl
      have hck2 : ckR nl pe n 0 = if firstE pe k L = 0 then ckR nl pe (n - (k + 1)) (k + 1) else ((k : Int), firstE pe k L) := by
        rw [← hck, show n - k = (n - (k + 1)) + 1 by omega, hL]; rfl
      have hrowlt : ∀ g, (Value.slice pv L.length cv).ownBlock = some g → g < wr.heap.size := fun g hg => (hrow.lt g hg).2
      have hLh : ∃ L', L' = L ∧ L' = grp nl k (nl k) := ⟨L, rfl, hL⟩
      clear hp hlen hck hck' hL
      go_wp2_with (first
          | (at_lookup; refine wpList_look_any rfl _ _ 51 rfl 9 22 Tryz.underlying9 Tryz.underlying51 _ (zeroSlR _) B k f rfl (hown.alloc _) (nl k) hl rfl ?_; rw [hv'])
          | go_in)
      obtain ⟨H, hH⟩ : ∃ H, H = wr.heap.size := ⟨_, rfl⟩
      have hbox := CellsR.new wr ⟨(nl k).toArray⟩ (ia k) (lt k) 41
      have hin : Below wr.heap.size wr (wr.alloc (Obj.cells (rowR ⟨(nl k).toArray⟩ (ia k) (lt k)) 41)) := (Below.refl _ _).alloc (Nat.le_refl _) _
      have hws : (wr.alloc (Obj.cells (rowR ⟨(nl k).toArray⟩ (ia k) (lt k)) 41)).heap.size = wr.heap.size + 1 := by simp
      obtain ⟨wi, hwi⟩ : ∃ wi, wi = wr.alloc (Obj.cells (rowR ⟨(nl k).toArray⟩ (ia k) (lt k)) 41) := ⟨_, rfl⟩
      rw [← hwi] at hbox hin hws ⊢
      have hown := hown.ext hin
      have hrows := hrows.ext hin
      have hrow := ownsRow_ext hrow hin
      have hnx : Below B w wi := hnx.trans (hin.mono (show B ≤ wr.heap.size by omega))
      rw [← hH] at hbox hin hws hsz hrowlt ⊢
      clear hwi hH hin c0 c1 c2 c3 c4 c5 c6 c7 c8 c9 c10
      go_loopw [23] (fun i wq => ∃ j : Nat, j ≤ L.length ∧ i = .int .i64 j ∧ firstE pe k L = firstE pe k (L.drop j) ∧ Below wi.heap.size wi wq) (fun i _ => L.length - (intOf i).toNat)
      case atStart => exact ⟨0, by omega, rfl, rfl, Below.refl _ _⟩
      case round =>
        obtain ⟨j, hj, rfl, hfe, hq⟩ := hrel
        have hbox := hbox.below hq (by omega)
        have hHl : H < wr.heap.size := by have := hq.size; omega
        by_cases hjk : j < L.length
        · obtain ⟨a, ha⟩ : ∃ a, L[j]? = some a := ⟨_, List.getElem?_eq_getElem hjk⟩
          have hak := hgm a (List.mem_of_getElem? ha)
          rw [firstE_drop k L j a ha] at hfe
          obtain ⟨d0, d1, d2, d3, d4, d5, d6, d7, d8, d9, d10⟩ := hbox
          simp only [Nat.zero_add] at d1 d2 d3 d4 d5 d6 d7 d8 d9 d10
          obtain ⟨g, hg, hpv, hcg⟩ : ∃ g, g < wi.heap.size ∧ pv = some ⟨g, 0, none⟩ ∧ CellsR wi g (j * 11) ⟨(nl a).toArray⟩ (ia a) (lt a) := by
            rcases hrow.2 with ⟨_, e⟩ | ⟨g, cap1, cur, e, _⟩
            · omega
            · cases e
              have hm : (j + 1) * 11 ≤ L.length * 11 := Nat.mul_le_mul_right _ hjk
              have hat := fun i (hi : i < 11) => (hrow.cellAt (j * 11 + i) (by omega)).trans (cellsG_at L j i a ha hi)
              exact ⟨g, (hrow.lt g rfl).2, rfl, hat 0 (by omega), hat 1 (by omega), hat 2 (by omega), hat 3 (by omega), hat 4 (by omega), hat 5 (by omega), hat 6 (by omega), hat 7 (by omega), hat 8 (by omega), hat 9 (by omega), hat 10 (by omega)⟩
          subst hpv
          obtain ⟨e0, e1, e2, e3, e4, e5, e6, e7, e8, e9, e10⟩ := hcg.below hq hg
          have hpa := fun w' => hpair a k w' (by omega) hlt
          clear hcg hpair hrow hv hv'
          go_wp2_with fail
          refine (hpa _ ((hnx.trans (hq.mono (by omega))).alloc (by have := hq.size; omega) _)).mono ?_
          rintro e w1 ⟨rfl, hB1⟩
          have hq1 := (hq.alloc hq.size _).trans (hB1.mono (by simp; have := hq.size; omega))
          clear d0 d1 d2 d3 d4 d5 d6 d7 d8 d9 d10 e0 e1 e2 e3 e4 e5 e6 e7 e8 e9 e10 hpa
          obtain ⟨E, hE⟩ : ∃ E, E = pe a k := ⟨_, rfl⟩
          rw [← hE] at hfe ⊢
          clear hE
          go_wp2
          · rename_i hz
            have hz : ¬ E = 0 := by simpa using hz
            rw [if_neg hz] at hfe
            go_ret2
            rw [hck2, hfe, if_neg hz]
            exact ⟨rfl, hnx.trans (hq1.mono (by omega))⟩
          · rename_i hz
            have hz : E = 0 := by simpa using hz
            rw [if_pos hz] at hfe
            exact ⟨⟨j + 1, by omega, by go_num, hfe, hq1⟩, by simp [intOf]; omega⟩
        · have hdone : firstE pe k L = 0 := by rw [hfe, List.drop_eq_nil_of_le (by omega)]; rfl
          rw [if_pos hdone] at hck2
          have hown := hown.ext hq
          have hrows := hrows.ext hq
          have hnx : Below B w wr := hnx.trans (hq.mono (by omega))
          have hJ0 : JG (nl := nl) (ia := ia) (lt := lt) B H k f w wr := ⟨hnx, by omega, hbox, hown, hrows⟩
          have hvH : ∀ g, (valF f (nl k)).ownBlock = some g → g < H := fun g hg => hrowlt g (by rw [← hv]; exact hg)
          clear hpair hdone hfe hv hv' hrow
          have hmix : Tryz.prog.follows .mixedOrders = true := by kernel_rfl
          go_wp2
          refine region_steps_last hmix (by kernel_rfl) (by kernel_rfl) [] (by decide) (FG (nl := nl) (ia := ia) (lt := lt) B H k f) (JG (nl := nl) (ia := ia) (lt := lt) B H k f w) (PostG (nl := nl) (ia := ia) (lt := lt) B k w) 10 (by decide) (by kernel_rfl) ⟨hJ0.1.drew, hJ0.2.1, hJ0.2.2.1, hJ0.2.2.2.1, hJ0.2.2.2.2⟩ ?_ ?_
          · refine ⟨?_, ?_, ?_, ?_, ?_, ?_, ?_, ?_, ?_, ?_, ?_, trivial⟩
            · intro a' w' hJ _ _ hf hd K hK
              simp [frameFacts, depFacts, Op.operands, FG, Slot] at hf hd
              refine step_value rfl ?_ (hK (.map (some B)) w' rfl hJ (fun _ _ _ _ h => h))
              go_simp
            · intro a' w' hJ _ _ hf hd K hK
              simp [frameFacts, depFacts, Op.operands, FG, Slot] at hf hd
              refine step_value rfl ?_ (hK (.pointer (some ⟨H, 0, none⟩)) w' rfl hJ (fun _ _ _ _ h => h))
              go_simp
            · intro a' w' hJ _ _ hf hd K hK
              simp [frameFacts, depFacts, Op.operands, FG, Slot] at hf hd
              obtain ⟨d0, _⟩ := hJ.2.2.1
              refine step_value rfl ?_ (hK (.string ⟨(nl k).toArray⟩) w' rfl hJ (fun _ _ _ _ h => h))
              go_simp
            · intro a' w' hJ _ _ hf hd K hK
              simp [frameFacts, depFacts, Op.operands, FG, Slot] at hf hd
              refine step_value rfl ?_ (hK (.map (some B)) w' rfl hJ (fun _ _ _ _ h => h))
              go_simp
            · intro a' w' hJ _ _ hf hd K hK
              simp [frameFacts, depFacts, Op.operands, FG, Slot] at hf hd
              refine step_value rfl ?_ (hK (.pointer (some ⟨H, 0, none⟩)) w' rfl hJ (fun _ _ _ _ h => h))
              go_simp
            · intro a' w' hJ _ _ hf hd K hK
              simp [frameFacts, depFacts, Op.operands, FG, Slot] at hf hd
              obtain ⟨d0, _⟩ := hJ.2.2.1
              refine step_value rfl ?_ (hK (.string ⟨(nl k).toArray⟩) w' rfl hJ (fun _ _ _ _ h => h))
              go_simp
            · intro a' w' hJ _ _ hf hd K hK
              simp [frameFacts, depFacts, Op.operands, FG, Slot] at hf hd
              obtain ⟨⟨hm1, _⟩, hk1, _⟩ := hd
              have hrun : (Instr.lookup 51 (.map (some B)) (.string ⟨(nl k).toArray⟩) false).run Tryz.prog w' = .ok (valF f (nl k)) w' := look_any (P := Tryz.prog) Tryz.underlying9 Tryz.underlying51 (zeroSlR w') hJ.2.2.2.1 (nl k) hl
              refine step_value rfl ?_ (hK (valF f (nl k)) w' rfl hJ (fun _ _ _ _ h => h))
              simp [execOp, Act.eval, hm1, hk1, hrun, Result.andThen]
            · intro a' w' hJ _ _ hf hd K hK
              simp [frameFacts, depFacts, Op.operands, FG, Slot] at hf hd
              obtain ⟨d0, d1, d2, d3, d4, d5, d6, d7, d8, d9, d10⟩ := hJ.2.2.1
              simp only [Nat.zero_add] at d1 d2 d3 d4 d5 d6 d7 d8 d9 d10
              refine step_value rfl ?_ (hK (.agg (rowG nl ia lt k)) w' rfl hJ (fun _ _ _ _ h => h))
              go_simp
            · intro a' w' hJ _ _ hf hd K hK
              simp [frameFacts, depFacts, Op.operands, FG, Slot] at hf hd
              refine step_value rfl ?_ (hK (.slice (some ⟨w'.heap.size, 0, none⟩) 1 1) (w'.alloc (.cells (rowG nl ia lt k) 41)) ⟨_, rfl, heap_alloc_new w' _⟩ (JG.ext hJ (below_alloc _ _)) (fun j u _ _ h => FG_ext (below_alloc _ _) j u h))
              go_simp
            · intro a' w' hJ _ _ hf hd K hK
              simp [frameFacts, depFacts, Op.operands, FG, Slot] at hf hd
              obtain ⟨⟨h41, _⟩, u, ⟨h43, _⟩, g, rfl, hgh⟩ := hd
              obtain ⟨pv1, cv1, hv1, hrw⟩ := hJ.2.2.2.2 (nl k)
              have hg1 := grp_le (nl := nl) k (nl k)
              obtain ⟨v', w'', hrun, h1', h2', h3', h4'⟩ := run_append_st3 (P := Tryz.prog) (B + 1) 22 22 41 _ 11 104 Tryz.underlying22 infoRl rfl (by decide) (by decide) (valF f (nl k)) (grp nl k (nl k)).length _ hrw g (rowG nl ia lt k) 41 hgh rfl (rowG_one k) (by omega) hJ.2.1
              have hbv : ∀ q, (valF f (nl k)).ownBlock = some q → B + 1 ≤ q := fun q hq => (hrw.lt q hq).1
              have hob := hJ.2.2.2.1.kept h3' (fun e => by have := hbv _ e.symm; omega)
              have hHlt := hJ.2.2.1.lt
              have hrs : Rows nl ia lt B k f w'' := fun y => by
                by_cases hy : y = nl k
                · subst hy; exact ⟨pv1, cv1, hv1, h2'⟩
                · obtain ⟨p2, c2, q1, q2⟩ := hJ.2.2.2.2 y
                  refine ⟨p2, c2, q1, q2.kept h3' ?_⟩
                  cases ho : (valF f y).ownBlock with
                  | none => exact .inl rfl
                  | some b => exact .inr fun e => hap y (nl k) hy b ho e.symm
              refine step_value rfl ?_ (hK v' w'' ⟨h1', fun z hz b hb hb2 => ?_⟩ (show JG _ _ _ _ _ _ from ⟨hJ.1.grown h3' (by have := hJ.2.1; omega) (fun q hq => by have := hbv q hq; omega), Nat.le_trans hJ.2.1 h3'.size, hJ.2.2.1.heap (h3'.block H hHlt (fun e => by have := hvH _ e.symm; omega)), hob, hrs⟩) (fun j u hne hl h => ?_))
              · simp [execOp, resolve, invoke, builtin, Act.eval, h41, h43, hrun, Result.andThen]
              · obtain ⟨p2, c2, q1, q2⟩ := hJ.2.2.2.2 z
                rcases h4' with h4' | h4'
                · rw [h4'] at hb
                  exact hap (nl k) z (fun e => hz e.symm) b hb hb2
                · have h5 := h4' b hb
                  have h6 := (q2.lt b hb2).2
                  omega
              · have n8 : j ≠ 8 := fun e => by subst e; exact deadR hl (by kernel_rfl)
                unfold FG at *
                split at h
                case h_9 => exact absurd rfl n8
                case h_10 => exact absurd rfl hne
                all_goals exact h
            · intro a' w' hJ _ _ hf hd K hK
              simp [frameFacts, depFacts, Op.operands, FG, Slot] at hf hd
              obtain ⟨⟨h35, _⟩, ⟨h37, _⟩, u9, ⟨h44, _⟩, hrw, hds⟩ := hd
              obtain ⟨g, cap1, hgb, hu9⟩ : ∃ g cap1, B + 1 ≤ g ∧ u9 = .slice (some ⟨g, 0, none⟩) ((grp nl k (nl k)).length + 1) cap1 := by
                rcases hrw.2 with ⟨_, e⟩ | ⟨g, cap1, cur, e, hbg, _⟩
                · omega
                · exact ⟨g, cap1, hbg, e⟩
              obtain ⟨w'', hrun, ho, hgr⟩ := put_any (P := Tryz.prog) Tryz.underlying9 Tryz.underlying51 (by unfold maxLen; omega) hJ.2.2.2.1 (nl k) hl u9
              replace hrun : (Instr.mapUpdate 51 (.map (some B)) (.string ⟨(nl k).toArray⟩) u9).run Tryz.prog w' = .ok () w'' := hrun
              refine step_law rfl ?_
              unfold Oper.wp
              simp [execOp, Act.eval, h35, h37, h44, hrun, Result.andThen]
              refine hK undef w'' trivial (show PostG _ _ _ _ from ⟨fun y => if y = nl k then some u9 else f y, ho, fun y => ?_, fun y z hyz b hb => ?_, hJ.1.grown hgr (by have := hJ.2.1; omega) (fun q hq => by cases hq; exact Nat.le_refl _), Nat.le_trans hJ.2.1 hgr.size⟩) (fun j u hne hl h => ?_)
              · rw [valF_put, grp_succ]
                by_cases hy : y = nl k
                · rw [if_pos hy, if_pos hy.symm, hy, List.length_append, cellsG_app]
                  exact ⟨_, cap1, hu9, hrw.kept hgr (.inr (fun e => by rw [hu9] at e; simp [Value.ownBlock] at e; omega))⟩
                · rw [if_neg hy, if_neg (fun e => hy e.symm)]
                  obtain ⟨p2, c2, q1, q2⟩ := hJ.2.2.2.2 y
                  refine ⟨p2, c2, q1, q2.kept hgr ?_⟩
                  cases ho : (valF f y).ownBlock with
                  | none => exact .inl rfl
                  | some b => exact .inr fun e => by cases e; have := (q2.lt B ho).1; omega
              · rw [valF_put] at hb
                rw [valF_put]
                by_cases hy : y = nl k
                · rw [if_pos hy] at hb
                  rw [if_neg (fun e => hyz (hy.trans e.symm))]
                  exact hds z (fun e => hyz (hy.trans e.symm)) b hb
                · rw [if_neg hy] at hb
                  by_cases hz : z = nl k
                  · rw [if_pos hz]
                    exact fun e => hds y hy b e hb
                  · rw [if_neg hz]
                    exact hap y z hyz b hb
              · have n8 : j ≠ 8 := fun e => by subst e; exact deadR hl (by kernel_rfl)
                have n9 : j ≠ 9 := fun e => by subst e; exact deadR hl (by kernel_rfl)
                unfold FG at *
                split at h
                case h_9 => exact absurd rfl n8
                case h_10 => exact absurd rfl n9
                all_goals exact h
          · intro val w5 hJ hfin
            obtain ⟨f', ho, hr, hap', hB, hs⟩ := hJ
            simp [putSel, Act.put]
            go_wp2
            exact ⟨⟨k + 1, f', by omega, by go_num, ho, hr, hap', hck2.symm, hB, hs⟩, by simp [intOf]; omega⟩
    · have hk2 : n - k = 0 := by omega
      rw [hk2] at hck
      have hck : ckR nl pe n 0 = (-1, 0) := hck.symm
      go_wp2
      go_ret2
      rw [hck]
      exact ⟨rfl, hnx⟩
end
end Go.Proofs.YtheojhajckcdlaaGreatDoor

namespace Nt.Ev.YtheojhajckcdlaaGreatDoor.Sf
set_option maxRecDepth 100000
open Go Nt.Num Go.Proofs.YtheojhajckcdlaaGreatDoor
variable [MLen]
open Nt.Ev.YtheojhajckcdlaaGreatDoor
open Nt.Civil
open Nt.Ev.YtheojhajckcdlaaGreatDoor.Rl
open Nt.Ev.YtheojhajckcdlaaGreatDoor.Oc
open Nt.Ev.YtheojhajckcdlaaGreatDoor.Un
open Nt.Ev.YtheojhajckcdlaaGreatDoor.On
open Nt.Ev.YtheojhajckcdlaaGreatDoor.Cn
open Nt.Ev.YtheojhajckcdlaaGreatDoor.Fo
noncomputable def hN0 : List (Nat × FSpec) := []
noncomputable def slK (K : List Kd) (x : V) : Bool := match x with | .nilsl => true | .sl _ sh _ _ => Kd.eqL K sh | _ => false
noncomputable def xsOf : V → List V | .sl _ _ _ xs => xs | _ => []
def liE (e : V) : Bool := ile (slen (asStr (acell e 0))) 200 && ile (slen (asStr (acell e 10))) 200
def liB (xs : List V) : Bool := ile (llen xs) 12 && xs.all liE
noncomputable def hLiS : FSpec := fun a => match a with | [.sl e [.str, .int .i64, .int .i64, .int .i64, .int .i64, .int .i64, .int .i64, .int .i64, .int .i64, .int .i64, .str] o1 xs] => some (true, .bool (liB xs)) | _ => none
def paX (xs : List V) (i j : Nat) : Int := paP (asStr (acell (lget xs i) 0)) (asInt (acell (lget xs i) 1)) (asInt (acell (lget xs i) 2)) (asInt (acell (lget xs i) 3)) (asInt (acell (lget xs i) 4)) (asInt (acell (lget xs i) 5)) (asInt (acell (lget xs i) 6)) (asInt (acell (lget xs i) 7)) (asInt (acell (lget xs i) 8)) (asInt (acell (lget xs i) 9)) (asStr (acell (lget xs i) 10)) (asStr (acell (lget xs j) 0)) (asInt (acell (lget xs j) 1)) (asInt (acell (lget xs j) 2)) (asInt (acell (lget xs j) 3)) (asInt (acell (lget xs j) 4)) (asInt (acell (lget xs j) 5)) (asInt (acell (lget xs j) 6)) (asInt (acell (lget xs j) 7)) (asInt (acell (lget xs j) 8)) (asInt (acell (lget xs j) 9)) (asStr (acell (lget xs j) 10))
def ckG (xs : List V) : Bool := decide (xs.length * 104 ≤ 140737488355328) && xs.all fun e => decide ((asStr (acell e 0)).length ≤ maxLen)
def ckA (xs : List V) : Int := (Go.Proofs.YtheojhajckcdlaaGreatDoor.ckR (fun k => asStr (acell (lget xs k) 0)) (paX xs) xs.length 0).1
def ckE (xs : List V) : Int := (Go.Proofs.YtheojhajckcdlaaGreatDoor.ckR (fun k => asStr (acell (lget xs k) 0)) (paX xs) xs.length 0).2
noncomputable def hCkS : FSpec := fun a => match a with | [.sl e [.str, .int .i64, .int .i64, .int .i64, .int .i64, .int .i64, .int .i64, .int .i64, .int .i64, .int .i64, .str] o1 xs] => some (ckG xs, .tup [.int .i64 (ckA xs), .int .i64 (ckE xs)]) | _ => none
noncomputable def faO (xs : List V) (o k v : Int) (r q : List UInt8) (p : Bool) (t : Int) : Int := if p = true then avO xs (vaL xs r o q) r o k v t else 0
noncomputable def faS (xs : List V) (o k v : Int) (r q : List UInt8) (p : Bool) (t : Int) : Int := if p = true then avS xs (vaL xs r o q) r o k v t else 0
noncomputable def faT (xs : List V) (o k v : Int) (r q : List UInt8) (p : Bool) (t : Int) : List UInt8 := if p = true then avT xs (vaL xs r o q) r o q k v t else []
def faE (p : Bool) : Int := if p = true then 0 else 4
noncomputable def otX (xs : List V) (o k v : Int) (r q : List UInt8) (t : Int) : List V := otL xs (vaL xs r o q) (avO xs (vaL xs r o q) r o k v t) (avS xs (vaL xs r o q) r o k v t) (avT xs (vaL xs r o q) r o q k v t)
noncomputable def stR (xs : List V) (r : List UInt8) (o k t : Int) : Int := if atB xs r o k t = true then atR xs r o k t else -1
noncomputable def stN (xs : List V) (r : List UInt8) (o k t : Int) : Int := if atB xs r o k t = true then atN xs r o k t else -2192387558400
noncomputable def fnB (xs : List V) (o k v : Int) (r q : List UInt8) (p : Bool) (t : Int) : Bool := if p = true ∧ k = 2 then nxB (otX xs o k v r q t) r (stR xs r o k t) (stN xs r o k t) else false
noncomputable def fnI (xs : List V) (o k v : Int) (r q : List UInt8) (p : Bool) (t : Int) : Int := if p = true ∧ k = 2 then ivI (nxB (otX xs o k v r q t) r (stR xs r o k t) (stN xs r o k t)) xs r o (nxR (otX xs o k v r q t) r (stR xs r o k t) (stN xs r o k t)) (nxY (otX xs o k v r q t) r (stR xs r o k t) (stN xs r o k t)) (nxN (otX xs o k v r q t) r (stR xs r o k t) (stN xs r o k t)) else 0
noncomputable def hAtS : FSpec := fun a => match a with | [x, .agg [.int .i64 o, .int .i64 k, .int .i64 v, .str r, .str q, .bool h, .int .i64 y, .int .i64 m, .int .i64 ok, .int .i64 ow, .int .i64 od, .int .i64 c, .int .i64 b], .int .i64 t] => some (band (slK [.str, .int .i64, .int .i64, .int .i64, .int .i64, .int .i64, .int .i64, .int .i64, .int .i64, .int .i64, .str] x) (rsOk (xsOf x)), .tup [.agg [.int .i64 (faO (xsOf x) o k v r q (erP o k v r q h y m ok ow od c b) t), .int .i64 (faS (xsOf x) o k v r q (erP o k v r q h y m ok ow od c b) t), .str (faT (xsOf x) o k v r q (erP o k v r q h y m ok ow od c b) t)], .int .i64 (faE (erP o k v r q h y m ok ow od c b))]) | _ => none
noncomputable def hNtS : FSpec := fun a => match a with | [.sl e [.str, .int .i64, .int .i64, .int .i64, .int .i64, .int .i64, .int .i64, .int .i64, .int .i64, .int .i64, .str] o1 xs, .agg [.int .i64 o, .int .i64 k, .int .i64 v, .str r, .str q, .bool h, .int .i64 y, .int .i64 m, .int .i64 ok, .int .i64 ow, .int .i64 od, .int .i64 c, .int .i64 b], .int .i64 t] => some (rsOk xs, .tup [.int .i64 (fnI xs o k v r q (erP o k v r q h y m ok ow od c b) t), .bool (fnB xs o k v r q (erP o k v r q h y m ok ow od c b) t)]) | _ => none
noncomputable def hS : List (Nat × FSpec) := (4, hAtS) :: (8, hNtS) :: (5, hCkS) :: (6, hLiS) :: (7, uErS) :: []
noncomputable def hLi_L0 (F : Nat) (ns : List Nat) (n : Nat) (x0 : List V) (x2 : Bool) (x8 : List V) (x9 : Int) (x10 : Int) (K : V → Option V) : Option V :=
 loopAt jE hN0 F 2 6 [1, 1, 0, 1, 0] ns K n (mkSt 25 [(0, V.sl 41 [(Kd.str), (Kd.int .i64), (Kd.int .i64), (Kd.int .i64), (Kd.int .i64), (Kd.int .i64), (Kd.int .i64), (Kd.int .i64), (Kd.int .i64), (Kd.int .i64), (Kd.str)] none x0), (2, V.bool x2), (8, V.sl 41 [(Kd.str), (Kd.int .i64), (Kd.int .i64), (Kd.int .i64), (Kd.int .i64), (Kd.int .i64), (Kd.int .i64), (Kd.int .i64), (Kd.int .i64), (Kd.int .i64), (Kd.str)] none x8), (9, V.int .i64 x9), (10, V.int .i64 x10)] [])
theorem hLi_top (F : Nat) (xs : List V) (K : V → Option V) :
 evBd jE (evFn jE hN0 F 2) F 6 [(V.sl 41 [(Kd.str), (Kd.int .i64), (Kd.int .i64), (Kd.int .i64), (Kd.int .i64), (Kd.int .i64), (Kd.int .i64), (Kd.int .i64), (Kd.int .i64), (Kd.int .i64), (Kd.str)] none xs)] K =
 sel (ilt 12 (llen xs))
 (K (V.bool false))
 (hLi_L0 F [] F xs false xs (llen xs) 0 K) := by kernel_rfl
theorem hLi_L0_succ (F : Nat) (n : Nat) (x0 : List V) (x2 : Bool) (x8 : List V) (x9 : Int) (x10 : Int) (K : V → Option V) :
 hLi_L0 F [] (n + 1) x0 x2 x8 x9 x10 K =
 sel (ilt x10 x9)
 (sel (band (ile 0 x10) (ilt x10 (llen x8)))
 (sel (ilt 200 (slen (asStr (acell (lget x8 x10) 0))))
 (K (V.bool false))
 (sel (ilt 200 (slen (asStr (acell (lget x8 x10) 10))))
 (K (V.bool false))
 (hLi_L0 F [] n x0 x2 x8 x9 (iadd .i64 x10 1) K)))
 (none))
 (K (V.bool true)) := by kernel_rfl
noncomputable def hT_L0 (F : Nat) (ns : List Nat) (n : Nat) (x0 : List V) (x1_0 : Int) (x1_1 : Int) (x1_2 : Int) (x1_3 : List UInt8) (x1_4 : List UInt8) (x1_5 : Bool) (x1_6 : Int) (x1_7 : Int) (x1_8 : Int) (x1_9 : Int) (x1_10 : Int) (x1_11 : Int) (x1_12 : Int) (x2 : Int) (x3 : Int) (x8 : Bool) (x10 : Int) (x12 : Int) (x13 : Int) (x79 : List V) (x80 : Int) (x81 : Int) (b11_0 : Int) (b11_1 : Int) (b11_2 : Int) (b11_3 : List UInt8) (b11_4 : List UInt8) (b11_5 : Bool) (b11_6 : Int) (b11_7 : Int) (b11_8 : Int) (b11_9 : Int) (b11_10 : Int) (b11_11 : Int) (b11_12 : Int) (b9_0 : Int) (b9_1 : Int) (b9_2 : List UInt8) (b5_0 : Int) (b5_1 : Int) (b5_2 : Int) (b5_3 : List UInt8) (b5_4 : List UInt8) (b5_5 : Bool) (b5_6 : Int) (b5_7 : Int) (b5_8 : Int) (b5_9 : Int) (b5_10 : Int) (b5_11 : Int) (b5_12 : Int) (K : V → Option V) : Option V :=
 loopAt jE hS F 2 3 [1, 1, 1, 1, 1, 1, 0, 1, 0] ns K n (mkSt 193 [(0, V.sl 41 [(Kd.str), (Kd.int .i64), (Kd.int .i64), (Kd.int .i64), (Kd.int .i64), (Kd.int .i64), (Kd.int .i64), (Kd.int .i64), (Kd.int .i64), (Kd.int .i64), (Kd.str)] none x0), (1, V.agg [V.int .i64 x1_0, V.int .i64 x1_1, V.int .i64 x1_2, V.str x1_3, V.str x1_4, V.bool x1_5, V.int .i64 x1_6, V.int .i64 x1_7, V.int .i64 x1_8, V.int .i64 x1_9, V.int .i64 x1_10, V.int .i64 x1_11, V.int .i64 x1_12]), (2, V.int .i64 x2), (3, V.int .i64 x3), (5, (V.box 5 0)), (8, V.bool x8), (9, (V.box 9 0)), (10, V.int .i64 x10), (11, (V.box 11 0)), (12, V.int .i64 x12), (13, V.int .i64 x13), (16, V.tup []), (17, V.tup []), (18, V.tup []), (19, V.tup []), (20, V.tup []), (21, V.tup []), (22, V.tup []), (23, V.tup []), (79, V.sl 41 [(Kd.str), (Kd.int .i64), (Kd.int .i64), (Kd.int .i64), (Kd.int .i64), (Kd.int .i64), (Kd.int .i64), (Kd.int .i64), (Kd.int .i64), (Kd.int .i64), (Kd.str)] none x79), (80, V.int .i64 x80), (81, V.int .i64 x81)] [(11, [V.int .i64 b11_0, V.int .i64 b11_1, V.int .i64 b11_2, V.str b11_3, V.str b11_4, V.bool b11_5, V.int .i64 b11_6, V.int .i64 b11_7, V.int .i64 b11_8, V.int .i64 b11_9, V.int .i64 b11_10, V.int .i64 b11_11, V.int .i64 b11_12]), (9, [V.int .i64 b9_0, V.int .i64 b9_1, V.str b9_2]), (5, [V.int .i64 b5_0, V.int .i64 b5_1, V.int .i64 b5_2, V.str b5_3, V.str b5_4, V.bool b5_5, V.int .i64 b5_6, V.int .i64 b5_7, V.int .i64 b5_8, V.int .i64 b5_9, V.int .i64 b5_10, V.int .i64 b5_11, V.int .i64 b5_12])])
theorem hT_top (F : Nat) (xs : List V) (o : Int) (k : Int) (v : Int) (r : List UInt8) (q : List UInt8) (h : Bool) (y : Int) (m : Int) (ok : Int) (ow : Int) (od : Int) (c : Int) (b : Int) (t : Int) (by_ : Int) (K : V → Option V) :
 evBd jE (evFn jE hS F 2) F 3 [(V.sl 41 [(Kd.str), (Kd.int .i64), (Kd.int .i64), (Kd.int .i64), (Kd.int .i64), (Kd.int .i64), (Kd.int .i64), (Kd.int .i64), (Kd.int .i64), (Kd.int .i64), (Kd.str)] none xs), (V.agg [(V.int .i64 o), (V.int .i64 k), (V.int .i64 v), (V.str r), (V.str q), (V.bool h), (V.int .i64 y), (V.int .i64 m), (V.int .i64 ok), (V.int .i64 ow), (V.int .i64 od), (V.int .i64 c), (V.int .i64 b)]), (V.int .i64 t), (V.int .i64 by_)] K =
 sel (band true (rsOk []))
 (sel (bnot (ieq (faO [] 3600 0 0 [] [88] (erP 3600 0 0 [] [88] false 0 0 0 0 0 0 0) 0) 3600))
 (K (V.bool false))
 (sel (bnot (ieq (faE (erP 3600 0 0 [] [88] false 0 0 0 0 0 0 0)) 0))
 (K (V.bool false))
 (sel (ckG xs)
 (sel (bnot (liB xs))
 (K (V.bool true))
 (sel (ilt 100 (slen r))
 (K (V.bool true))
 (sel (ile 0 (ckA xs))
 (K (V.bool true))
 (sel (bnot (ieq (ckE xs) 0))
 (K (V.bool true))
 (sel (bnot (erP o k v r q h y m ok ow od c b))
 (K (V.bool true))
 (sel (bnot (erP by_ k v r q h y m ok ow od c b))
 (K (V.bool true))
 (sel (ilt 1099511627776 t)
 (K (V.bool true))
 (sel (ilt t (-1099511627776))
 (K (V.bool true))
 (hT_L0 F [] F xs o k v r q h y m ok ow od c b t by_ false (faE (erP 3600 0 0 [] [88] false 0 0 0 0 0 0 0)) (ckA xs) (ckE xs) xs (llen xs) 0 by_ k v r q h y m ok ow od c b (faO [] 3600 0 0 [] [88] (erP 3600 0 0 [] [88] false 0 0 0 0 0 0 0) 0) (faS [] 3600 0 0 [] [88] (erP 3600 0 0 [] [88] false 0 0 0 0 0 0 0) 0) (faT [] 3600 0 0 [] [88] (erP 3600 0 0 [] [88] false 0 0 0 0 0 0 0) 0) o k v r q h y m ok ow od c b K)))))))))
 (none))))
 (none) := by kernel_rfl
theorem hT_L0_succ (F : Nat) (n : Nat) (x0 : List V) (x1_0 : Int) (x1_1 : Int) (x1_2 : Int) (x1_3 : List UInt8) (x1_4 : List UInt8) (x1_5 : Bool) (x1_6 : Int) (x1_7 : Int) (x1_8 : Int) (x1_9 : Int) (x1_10 : Int) (x1_11 : Int) (x1_12 : Int) (x2 : Int) (x3 : Int) (x8 : Bool) (x10 : Int) (x12 : Int) (x13 : Int) (x79 : List V) (x80 : Int) (x81 : Int) (b11_0 : Int) (b11_1 : Int) (b11_2 : Int) (b11_3 : List UInt8) (b11_4 : List UInt8) (b11_5 : Bool) (b11_6 : Int) (b11_7 : Int) (b11_8 : Int) (b11_9 : Int) (b11_10 : Int) (b11_11 : Int) (b11_12 : Int) (b9_0 : Int) (b9_1 : Int) (b9_2 : List UInt8) (b5_0 : Int) (b5_1 : Int) (b5_2 : Int) (b5_3 : List UInt8) (b5_4 : List UInt8) (b5_5 : Bool) (b5_6 : Int) (b5_7 : Int) (b5_8 : Int) (b5_9 : Int) (b5_10 : Int) (b5_11 : Int) (b5_12 : Int) (K : V → Option V) :
 hT_L0 F [] (n + 1) x0 x1_0 x1_1 x1_2 x1_3 x1_4 x1_5 x1_6 x1_7 x1_8 x1_9 x1_10 x1_11 x1_12 x2 x3 x8 x10 x12 x13 x79 x80 x81 b11_0 b11_1 b11_2 b11_3 b11_4 b11_5 b11_6 b11_7 b11_8 b11_9 b11_10 b11_11 b11_12 b9_0 b9_1 b9_2 b5_0 b5_1 b5_2 b5_3 b5_4 b5_5 b5_6 b5_7 b5_8 b5_9 b5_10 b5_11 b5_12 K =
 sel (ilt x81 x80)
 (sel (band (ile 0 x81) (ilt x81 (llen x79)))
 (sel (seq (asStr (acell (lget x79 x81) 0)) b5_3)
 (sel (ieq (asInt (acell (lget x79 x81) 8)) 2)
 (K (V.bool true))
 (hT_L0 F [] n x0 x1_0 x1_1 x1_2 x1_3 x1_4 x1_5 x1_6 x1_7 x1_8 x1_9 x1_10 x1_11 x1_12 x2 x3 x8 x10 x12 x13 x79 x80 (iadd .i64 x81 1) b11_0 b11_1 b11_2 b11_3 b11_4 b11_5 b11_6 b11_7 b11_8 b11_9 b11_10 b11_11 b11_12 b9_0 b9_1 b9_2 b5_0 b5_1 b5_2 b5_3 b5_4 b5_5 b5_6 b5_7 b5_8 b5_9 b5_10 b5_11 b5_12 K))
 (hT_L0 F [] n x0 x1_0 x1_1 x1_2 x1_3 x1_4 x1_5 x1_6 x1_7 x1_8 x1_9 x1_10 x1_11 x1_12 x2 x3 x8 x10 x12 x13 x79 x80 (iadd .i64 x81 1) b11_0 b11_1 b11_2 b11_3 b11_4 b11_5 b11_6 b11_7 b11_8 b11_9 b11_10 b11_11 b11_12 b9_0 b9_1 b9_2 b5_0 b5_1 b5_2 b5_3 b5_4 b5_5 b5_6 b5_7 b5_8 b5_9 b5_10 b5_11 b5_12 K))
 (none))
 (sel (band true (rsOk x0))
 (sel (band true (rsOk x0))
 (sel (rsOk x0)
 (sel (rsOk x0)
 (sel (bnot (ieq (faE (erP b5_0 b5_1 b5_2 b5_3 b5_4 b5_5 b5_6 b5_7 b5_8 b5_9 b5_10 b5_11 b5_12)) 0))
 (K (V.bool false))
 (sel (bnot (ieq (faE (erP b11_0 b11_1 b11_2 b11_3 b11_4 b11_5 b11_6 b11_7 b11_8 b11_9 b11_10 b11_11 b11_12)) 0))
 (K (V.bool false))
 (sel (bnot (ieq (faS x0 b5_0 b5_1 b5_2 b5_3 b5_4 (erP b5_0 b5_1 b5_2 b5_3 b5_4 b5_5 b5_6 b5_7 b5_8 b5_9 b5_10 b5_11 b5_12) (isub .i64 x2 b5_0)) (faS x0 b11_0 b11_1 b11_2 b11_3 b11_4 (erP b11_0 b11_1 b11_2 b11_3 b11_4 b11_5 b11_6 b11_7 b11_8 b11_9 b11_10 b11_11 b11_12) (isub .i64 x2 b11_0))))
 (K (V.bool false))
 (sel (bnot (ieq (isub .i64 (faO x0 b5_0 b5_1 b5_2 b5_3 b5_4 (erP b5_0 b5_1 b5_2 b5_3 b5_4 b5_5 b5_6 b5_7 b5_8 b5_9 b5_10 b5_11 b5_12) (isub .i64 x2 b5_0)) b5_0) (isub .i64 (faO x0 b11_0 b11_1 b11_2 b11_3 b11_4 (erP b11_0 b11_1 b11_2 b11_3 b11_4 b11_5 b11_6 b11_7 b11_8 b11_9 b11_10 b11_11 b11_12) (isub .i64 x2 b11_0)) b11_0)))
 (K (V.bool false))
 (sel (seq b5_4 [37, 122])
 (K (V.bool true))
 (sel (seq (faT x0 b5_0 b5_1 b5_2 b5_3 b5_4 (erP b5_0 b5_1 b5_2 b5_3 b5_4 b5_5 b5_6 b5_7 b5_8 b5_9 b5_10 b5_11 b5_12) (isub .i64 x2 b5_0)) (faT x0 b11_0 b11_1 b11_2 b11_3 b11_4 (erP b11_0 b11_1 b11_2 b11_3 b11_4 b11_5 b11_6 b11_7 b11_8 b11_9 b11_10 b11_11 b11_12) (isub .i64 x2 b11_0)))
 (sel (beq (fnB x0 b5_0 b5_1 b5_2 b5_3 b5_4 (erP b5_0 b5_1 b5_2 b5_3 b5_4 b5_5 b5_6 b5_7 b5_8 b5_9 b5_10 b5_11 b5_12) (isub .i64 x2 b5_0)) (fnB x0 b11_0 b11_1 b11_2 b11_3 b11_4 (erP b11_0 b11_1 b11_2 b11_3 b11_4 b11_5 b11_6 b11_7 b11_8 b11_9 b11_10 b11_11 b11_12) (isub .i64 x2 b11_0)))
 (sel (bnot (fnB x0 b5_0 b5_1 b5_2 b5_3 b5_4 (erP b5_0 b5_1 b5_2 b5_3 b5_4 b5_5 b5_6 b5_7 b5_8 b5_9 b5_10 b5_11 b5_12) (isub .i64 x2 b5_0)))
 (K (V.bool true))
 (K (V.bool (ieq (iadd .i64 (fnI x0 b5_0 b5_1 b5_2 b5_3 b5_4 (erP b5_0 b5_1 b5_2 b5_3 b5_4 b5_5 b5_6 b5_7 b5_8 b5_9 b5_10 b5_11 b5_12) (isub .i64 x2 b5_0)) b5_0) (iadd .i64 (fnI x0 b11_0 b11_1 b11_2 b11_3 b11_4 (erP b11_0 b11_1 b11_2 b11_3 b11_4 b11_5 b11_6 b11_7 b11_8 b11_9 b11_10 b11_11 b11_12) (isub .i64 x2 b11_0)) b11_0)))))
 (K (V.bool false)))
 (K (V.bool false))))))))
 (none))
 (none))
 (none))
 (none)) := by kernel_rfl
end Nt.Ev.YtheojhajckcdlaaGreatDoor.Sf

namespace Nt.Ev.YtheojhajckcdlaaGreatDoor.Sf
set_option maxRecDepth 100000
open Go Go.RowKit Nt Nt.Num Go.Proofs.YtheojhajckcdlaaGreatDoor Nt.Ev.YtheojhajckcdlaaGreatDoor Nt.Civil Nt.Ev.YtheojhajckcdlaaGreatDoor.Rl Nt.Ev.YtheojhajckcdlaaGreatDoor.Oc Nt.Ev.YtheojhajckcdlaaGreatDoor.Un Nt.Ev.YtheojhajckcdlaaGreatDoor.On Nt.Ev.YtheojhajckcdlaaGreatDoor.Cn Nt.Ev.YtheojhajckcdlaaGreatDoor.Fo
variable [MLen]
theorem hN0_ok : SOk jE hN0 := SOk.nil
theorem li_loop (F : Nat) (xs : List V) (x0 : List V) (K : V → Option V) : ∀ (k : Nat) (i : Nat) (G : Nat), i + k = xs.length → k < G → xs.length ≤ 12 →
    hLi_L0 F [] G x0 false xs (llen xs) i K = K (.bool ((xs.drop i).all liE)) := by
  intro k
  induction k with
  | zero =>
    intro i G h1 h2 h3
    obtain ⟨G, rfl⟩ := Nat.exists_eq_succ_of_ne_zero (show G ≠ 0 by omega)
    rw [hLi_L0_succ, sel_neg (ilt_f (by rw [llen_nat]; omega)), List.drop_eq_nil_of_le (by omega)]
    rfl
  | succ k ih =>
    intro i G h1 h2 h3
    obtain ⟨G, rfl⟩ := Nat.exists_eq_succ_of_ne_zero (show G ≠ 0 by omega)
    have hi : i < xs.length := by omega
    have e : lget xs i = xs[i] := by rw [lget_nat, List.getD_eq_getElem?_getD, List.getElem?_eq_getElem hi, Option.getD_some]
    rw [hLi_L0_succ, sel_pos (ilt_t (by rw [llen_nat]; omega)), sel_pos (by rw [band_iff, ile_iff, ilt_iff, llen_nat]; omega), iadd64 (by omega), e, List.drop_eq_getElem_cons hi, List.all_cons, show ((i : Int) + 1) = ((i + 1 : Nat) : Int) by omega, ih (i + 1) G (by omega) (by omega) h3]
    unfold liE
    by_cases g1 : 200 < slen (asStr (acell xs[i] 0))
    · rw [sel_pos (ilt_t g1), ile_f g1]; rfl
    · rw [sel_neg (ilt_f (by omega)), ile_t (show slen (asStr (acell xs[i] 0)) ≤ 200 by omega)]
      by_cases g2 : 200 < slen (asStr (acell xs[i] 10))
      · rw [sel_pos (ilt_t g2), ile_f g2]; rfl
      · rw [sel_neg (ilt_f (by omega)), ile_t (show slen (asStr (acell xs[i] 10)) ≤ 200 by omega)]; rfl
theorem hLiS_ok (e : Nat) (o1 : Option Nat) (xs : List V) (hc : true = true) : Contract jE 6 [.sl e [.str, .int .i64, .int .i64, .int .i64, .int .i64, .int .i64, .int .i64, .int .i64, .int .i64, .int .i64, .str] o1 xs] (.bool (liB xs)) := by
  refine lift1j (t := 41) (contract_of_body jE_ok hN0_ok 20 2 ?_)
  rw [hLi_top]
  unfold liB
  by_cases h : 12 < llen xs
  · rw [sel_pos (ilt_t h), ile_f h]; rfl
  · have h' : xs.length ≤ 12 := by rw [llen_nat] at h; omega
    rw [sel_neg (ilt_f (by omega)), ile_t (by omega)]
    have := li_loop 20 xs xs some xs.length 0 20 (by omega) (by omega) h'
    rw [List.drop_zero] at this
    exact this
theorem rep_slx {G : Known} {K : List Kd} {x : V} {v : Value} (e : Nat) (h : slK K x = true) (hr : rep G x v) : rep G (.sl e K none (xsOf x)) v := by
  unfold slK at h
  cases x with
  | nilsl =>
    unfold rep at hr
    subst hr
    unfold rep
    exact ⟨none, 0, rfl, Nat.le_refl _, .inl rfl⟩
  | sl e' sh o xs =>
    have := Kd.eqL_sound _ _ h
    subst this
    exact sl_any hr
  | _ => cases h
theorem rep_rowx (G : Known) (xs : List V) (k : Nat) : rep G (.agg [.str (asStr (acell (lget xs k) 0)), .int .i64 (asInt (acell (lget xs k) 1)), .int .i64 (asInt (acell (lget xs k) 2)), .int .i64 (asInt (acell (lget xs k) 3)), .int .i64 (asInt (acell (lget xs k) 4)), .int .i64 (asInt (acell (lget xs k) 5)), .int .i64 (asInt (acell (lget xs k) 6)), .int .i64 (asInt (acell (lget xs k) 7)), .int .i64 (asInt (acell (lget xs k) 8)), .int .i64 (asInt (acell (lget xs k) 9)), .str (asStr (acell (lget xs k) 10))]) (.agg (rowG (fun k => asStr (acell (lget xs k) 0)) (iaX xs) (ltX xs) k)) := by
  unfold rep
  refine ⟨_, rfl, ?_⟩
  simp only [repL, rep]
  exact ⟨_, _, rfl, rfl, _, _, rfl, rfl, _, _, rfl, rfl, _, _, rfl, rfl, _, _, rfl, rfl, _, _, rfl, rfl, _, _, rfl, rfl, _, _, rfl, rfl, _, _, rfl, rfl, _, _, rfl, rfl, _, _, rfl, rfl, rfl⟩
theorem hCkS_ok (e : Nat) (o1 : Option Nat) (xs : List V) (hc : ckG xs = true) : Contract jE 5 [.sl e [.str, .int .i64, .int .i64, .int .i64, .int .i64, .int .i64, .int .i64, .int .i64, .int .i64, .int .i64, .str] o1 xs] (.tup [.int .i64 (ckA xs), .int .i64 (ckE xs)]) := by
  unfold ckG at hc
  rw [Bool.and_eq_true, decide_eq_true_eq, List.all_eq_true] at hc
  obtain ⟨h1, h2⟩ := hc
  refine contract_old fun G w vs hG hg hp => ?_
  obtain ⟨x, rfl, hx⟩ := PW_one hp
  obtain ⟨p, cap, rfl, hcap, hcs⟩ := rules_cells hG hx
  obtain ⟨b0, off, hcc⟩ : ∃ b0 off, ∀ j, j < xs.length → p = some ⟨b0, off, none⟩ ∧ b0 < w.heap.size ∧ CellsR w b0 (off + j * 11) (nmX xs j) (iaX xs j) (ltX xs j) := by
    rcases hcs with rfl | ⟨b0, off, hpp, hb0, hc⟩
    · exact ⟨0, 0, fun j hj => by simp at hj⟩
    · exact ⟨b0, off, fun j hj => ⟨hpp, hb0, hc j hj⟩⟩
  have hlen : ∀ k, k < xs.length → (asStr (acell (lget xs k) 0)).length ≤ maxLen := fun k hk => by
    have := h2 (lget xs k) (by
      unfold lget
      rw [List.getD_eq_getElem?_getD, Int.toNat_natCast, List.getElem?_eq_getElem hk]
      exact List.getElem_mem _)
    simpa using this
  refine (check_any (nl := fun k => asStr (acell (lget xs k) 0)) (ia := iaX xs) (lt := ltX xs) (pe := paX xs) w.heap.size b0 off xs.length cap p w rfl h1 hcc hlen fun i j w' hi hj hB => ?_).mono ?_
  · have hp := Nt.Ev.YtheojhajckcdlaaGreatDoor.Ra.pair_any (asStr (acell (lget xs i) 0)) (asInt (acell (lget xs i) 1)) (asInt (acell (lget xs i) 2)) (asInt (acell (lget xs i) 3)) (asInt (acell (lget xs i) 4)) (asInt (acell (lget xs i) 5)) (asInt (acell (lget xs i) 6)) (asInt (acell (lget xs i) 7)) (asInt (acell (lget xs i) 8)) (asInt (acell (lget xs i) 9)) (asStr (acell (lget xs i) 10)) (asStr (acell (lget xs j) 0)) (asInt (acell (lget xs j) 1)) (asInt (acell (lget xs j) 2)) (asInt (acell (lget xs j) 3)) (asInt (acell (lget xs j) 4)) (asInt (acell (lget xs j) 5)) (asInt (acell (lget xs j) 6)) (asInt (acell (lget xs j) 7)) (asInt (acell (lget xs j) 8)) (asInt (acell (lget xs j) 9)) (asStr (acell (lget xs j) 10))
    refine (toJ hp G w' [.agg (rowG (fun k => asStr (acell (lget xs k) 0)) (iaX xs) (ltX xs) i), .agg (rowG (fun k => asStr (acell (lget xs k) 0)) (iaX xs) (ltX xs) j)] (gok_bel hG hB) hg (.cons (rep_rowx G xs i) (.cons (rep_rowx G xs j) .nil))).mono ?_
    rintro e w'' ⟨v, G', rfl, hn, hr⟩
    have hv : v = .int .i64 (paX xs i j) := by simp only [resrep, sres] at hr; unfold rep at hr; exact hr
    exact ⟨by rw [hv], hn.1⟩
  · rintro e w' ⟨rfl, hB⟩
    exact ⟨_, rfl, hB, res_two (same_int _ _) (same_int _ _)⟩
theorem er_q (o k v : Int) (r q : List UInt8) (h : Bool) (y m ok ow od c b : Int) (he : erP o k v r q h y m ok ow od c b = true) : ile (slen q) 900 = true ∧ inR o 54000 = true := by
  have h1 := (er_en he).1
  refine ⟨?_, r_in h1⟩
  unfold erP at he
  simp only [Bool.and_eq_true, ile_iff, ieq_iff] at he
  have := (ck_len he.2.2.1).1
  rw [ile_iff, slen_nat]; omega
theorem va_ll (xs : List V) (r : List UInt8) (o : Int) (q : List UInt8) : ieq (llen xs) (llen (vaL xs r o q)) = true := by rw [ieq_iff, llen_nat, llen_nat, va_len]
theorem hAtS_ok (x : V) (o k v : Int) (r q : List UInt8) (h : Bool) (y m ok ow od c b : Int) (t : Int) (hc : band (slK [.str, .int .i64, .int .i64, .int .i64, .int .i64, .int .i64, .int .i64, .int .i64, .int .i64, .int .i64, .str] x) (rsOk (xsOf x)) = true) : Contract jE 4 [x, .agg [.int .i64 o, .int .i64 k, .int .i64 v, .str r, .str q, .bool h, .int .i64 y, .int .i64 m, .int .i64 ok, .int .i64 ow, .int .i64 od, .int .i64 c, .int .i64 b], .int .i64 t] (.tup [.agg [.int .i64 (faO (xsOf x) o k v r q (erP o k v r q h y m ok ow od c b) t), .int .i64 (faS (xsOf x) o k v r q (erP o k v r q h y m ok ow od c b) t), .str (faT (xsOf x) o k v r q (erP o k v r q h y m ok ow od c b) t)], .int .i64 (faE (erP o k v r q h y m ok ow od c b))]) := by
  obtain ⟨h1, h2⟩ := b2 hc
  have key : Contract jE 4 [.sl 41 [.str, .int .i64, .int .i64, .int .i64, .int .i64, .int .i64, .int .i64, .int .i64, .int .i64, .int .i64, .str] none (xsOf x), .agg [.int .i64 o, .int .i64 k, .int .i64 v, .str r, .str q, .bool h, .int .i64 y, .int .i64 m, .int .i64 ok, .int .i64 ow, .int .i64 od, .int .i64 c, .int .i64 b], .int .i64 t] (.tup [.agg [.int .i64 (faO (xsOf x) o k v r q (erP o k v r q h y m ok ow od c b) t), .int .i64 (faS (xsOf x) o k v r q (erP o k v r q h y m ok ow od c b) t), .str (faT (xsOf x) o k v r q (erP o k v r q h y m ok ow od c b) t)], .int .i64 (faE (erP o k v r q h y m ok ow od c b))]) := by
    generalize xsOf x = xs at h2 ⊢
    refine contract_of_body jE_ok foS2_ok 5 4 ?_
    rw [fA_top]
    unfold faO faS faT faE
    cases hp : erP o k v r q h y m ok ow od c b with
    | false =>
      rw [sel_pos (show bnot false = true from rfl)]
      simp only [Bool.false_eq_true, if_false]
    | true =>
      obtain ⟨k1, k2⟩ := er_q o k v r q h y m ok ow od c b hp
      unfold inR at k2
      rw [sel_neg (show bnot true = false from rfl), sel_pos (by rw [h2, k1]; rfl), sel_pos (by rw [h2, k1, k2, va_ll]; rfl)]
      simp only [if_true]
  intro G w vs hG hg hp
  refine key G w vs hG hg ?_
  obtain ⟨u, us, rfl, hx, ht⟩ := PW.cons_inv hp
  exact .cons (rep_slx _ h1 hx) ht
theorem ok_aset {e : V} (h : rOk e = true) (l : List UInt8) : rOk (aset e 0 (.str l)) = true := by
  unfold rOk at h ⊢
  rw [ile_iff] at h ⊢
  have h0 : ∀ v : V, slen (asStr (acell (.agg [v]) 10)) ≤ 900 := fun v => by
    show slen (asStr ([v].getD 10 .any)) ≤ 900
    rw [show ([v] : List V).getD 10 .any = .any from rfl]; decide
  cases e with
  | agg cs =>
    have : acell (aset (.agg cs) 0 (.str l)) 10 = acell (.agg cs) 10 := by
      show (cs.set 0 (.str l)).getD 10 .any = cs.getD 10 .any
      rw [List.getD_eq_getElem?_getD, List.getD_eq_getElem?_getD, List.getElem?_set_ne (by omega)]
    rw [this]; exact h
  | _ => exact h0 _
theorem rs_ot {xs vs : List V} (h : rsOk xs = true) (a0 a1 : Int) (a2 : List UInt8) (hl : xs.length = vs.length) : rsOk (otL xs vs a0 a1 a2) = true := by
  obtain ⟨h1, h2⟩ := rs_all h
  unfold rsOk
  rw [Bool.and_eq_true, List.all_eq_true, ile_iff, llen_nat, ot_len hl]
  refine ⟨fun e he => ?_, by omega⟩
  obtain ⟨i, hi⟩ := List.getElem?_of_mem he
  have hil : i < xs.length := by have := (List.getElem?_eq_some_iff.1 hi).1; rw [ot_len hl] at this; exact this
  rw [ot_get hl a0 a1 a2 i hil] at hi
  obtain rfl := Option.some.inj hi
  have hr : rOk (lget xs i) = true := h1 _ (by
    unfold lget
    rw [List.getD_eq_getElem?_getD, Int.toNat_natCast, List.getElem?_eq_getElem hil]
    exact List.getElem_mem _)
  unfold otE
  cases band (ieq (asInt (acell (lget vs i) 0)) a0) (band (ieq (asInt (acell (lget vs i) 1)) a1) (seq (asStr (acell (lget vs i) 2)) a2)) with
  | true => exact ok_aset hr _
  | false => exact hr
theorem hNtS_ok (e : Nat) (o1 : Option Nat) (xs : List V) (o k v : Int) (r q : List UInt8) (h : Bool) (y m ok ow od c b : Int) (t : Int) (hc : rsOk xs = true) : Contract jE 8 [.sl e [.str, .int .i64, .int .i64, .int .i64, .int .i64, .int .i64, .int .i64, .int .i64, .int .i64, .int .i64, .str] o1 xs, .agg [.int .i64 o, .int .i64 k, .int .i64 v, .str r, .str q, .bool h, .int .i64 y, .int .i64 m, .int .i64 ok, .int .i64 ow, .int .i64 od, .int .i64 c, .int .i64 b], .int .i64 t] (.tup [.int .i64 (fnI xs o k v r q (erP o k v r q h y m ok ow od c b) t), .bool (fnB xs o k v r q (erP o k v r q h y m ok ow od c b) t)]) := by
  refine lift1j (t := 41) (contract_of_body jE_ok foS2_ok 5 4 ?_)
  obtain ⟨_, hn⟩ := rs_all hc
  rw [fN_top]
  unfold fnI fnB
  cases hp : erP o k v r q h y m ok ow od c b with
  | false =>
    rw [sel_pos (show bnot false = true from rfl)]
    simp only [Bool.false_eq_true, false_and, if_false]
  | true =>
    obtain ⟨k1, k2⟩ := er_q o k v r q h y m ok ow od c b hp
    unfold inR at k2
    rw [sel_neg (show bnot true = false from rfl)]
    by_cases kk : k = 2
    · have ho := rs_ot (vs := vaL xs r o q) hc (avO xs (vaL xs r o q) r o k v t) (avS xs (vaL xs r o q) r o k v t) (avT xs (vaL xs r o q) r o q k v t) (by rw [va_len])
      have hl : ile (llen xs) 1000 = true := by rw [ile_iff, llen_nat]; omega
      rw [sel_neg (by rw [ieq_t kk]; rfl), sel_pos (by rw [hc, k1]; rfl), sel_pos (by rw [hc, k1, k2, va_ll]; rfl)]
      simp only [kk, and_self, if_true] at ho ⊢
      unfold otX stR stN
      cases hb : atB xs r o 2 t with
      | false =>
        rw [sel_pos (show bnot false = true from rfl), sel_pos (by rw [hl, va_ll]; rfl), sel_pos ho, sel_pos hc]
        simp only [Bool.false_eq_true, if_false]
      | true =>
        rw [sel_neg (show bnot true = false from rfl), sel_pos (by rw [hl, va_ll]; rfl), sel_pos ho, sel_pos hc]
        simp only [if_true]
    · rw [sel_pos (by rw [ieq_f kk]; rfl)]
      simp only [kk, and_false, if_false]
theorem hS_ok : SOk jE hS := by
  unfold hS
  refine SOk.cons (fun args r h => ?_) (SOk.cons (fun args r h => ?_) (SOk.cons (fun args r h => ?_) (SOk.cons (fun args r h => ?_) (SOk.cons (fun args r h => ?_) (SOk.nil)))))
  · unfold hAtS at h
    split at h
    · simp only [Option.some.injEq, Prod.mk.injEq] at h
      obtain ⟨hc, rfl⟩ := h
      exact hAtS_ok _ _ _ _ _ _ _ _ _ _ _ _ _ _ _ hc
    · cases h
  · unfold hNtS at h
    split at h
    · simp only [Option.some.injEq, Prod.mk.injEq] at h
      obtain ⟨hc, rfl⟩ := h
      exact hNtS_ok _ _ _ _ _ _ _ _ _ _ _ _ _ _ _ _ _ hc
    · cases h
  · unfold hCkS at h
    split at h
    · simp only [Option.some.injEq, Prod.mk.injEq] at h
      obtain ⟨hc, rfl⟩ := h
      exact hCkS_ok _ _ _ hc
    · cases h
  · unfold hLiS at h
    split at h
    · simp only [Option.some.injEq, Prod.mk.injEq] at h
      obtain ⟨hc, rfl⟩ := h
      exact hLiS_ok _ _ _ rfl
    · cases h
  · unfold uErS at h
    split at h
    · simp only [Option.some.injEq, Prod.mk.injEq] at h
      obtain ⟨hc, rfl⟩ := h
      exact uErS_ok _ _ _ _ _ _ _ _ _ _ _ _ _ rfl
    · cases h
end Nt.Ev.YtheojhajckcdlaaGreatDoor.Sf

namespace Nt.Ev.YtheojhajckcdlaaGreatDoor.Sf
set_option maxRecDepth 100000
open Go Go.RowKit Nt Nt.Num Go.Proofs.YtheojhajckcdlaaGreatDoor Nt.Ev.YtheojhajckcdlaaGreatDoor Nt.Civil Nt.Ev.YtheojhajckcdlaaGreatDoor.Rl Nt.Ev.YtheojhajckcdlaaGreatDoor.Oc Nt.Ev.YtheojhajckcdlaaGreatDoor.Un Nt.Ev.YtheojhajckcdlaaGreatDoor.On Nt.Ev.YtheojhajckcdlaaGreatDoor.Cn Nt.Ev.YtheojhajckcdlaaGreatDoor.Fo
variable [MLen]
theorem fk_three {q : List UInt8} (h : fkK q = 3) : q = [37, 122] := by
  unfold fkK at h
  rw [← Fmt.kindP_eq] at h
  unfold Fmt.kindP at h
  by_cases hz : q = [37, 122]
  · exact hz
  · exfalso
    rw [if_neg hz] at h
    (repeat' split at h) <;> simp at h
theorem ab_same {q : List UInt8} (hq : q ≠ [37, 122]) {a b s : Int} (l : List UInt8) (ha : -54000 ≤ a ∧ a ≤ 54000) (hb : -54000 ≤ b ∧ b ≤ 54000) (hs : -10800 ≤ s ∧ s ≤ 10800) : abT q (iadd .i64 a s) s l = abT q (iadd .i64 b s) s l := by
  rw [iadd64 (by omega), iadd64 (by omega)]
  unfold abT abP
  by_cases h1 : ckW q ≠ 0
  · rw [if_pos h1, if_pos h1]
  · rw [if_neg h1, if_neg h1, if_neg (show ¬ (a + s < -359999 ∨ 359999 < a + s) by omega), if_neg (show ¬ (b + s < -359999 ∨ 359999 < b + s) by omega), if_neg (fun h => hq (fk_three h)), if_neg (fun h => hq (fk_three h))]
theorem va_get (xs : List V) (r : List UInt8) (o : Int) (q : List UInt8) (i : Int) (hi : 0 ≤ i ∧ i < (xs.length : Int)) : lget (vaL xs r o q) i = vaE r o q (lget xs i) := by
  obtain ⟨n, rfl⟩ := Int.eq_ofNat_of_zero_le hi.1
  unfold lget vaL
  rw [List.getD_eq_getElem?_getD, List.getD_eq_getElem?_getD, Int.toNat_natCast, List.getElem?_map, List.getElem?_eq_getElem (by omega)]
  rfl
theorem va_pos {r : List UInt8} {o : Int} {q : List UInt8} {e : V} (h : asStr (acell e 0) = r) : vaE r o q e = .agg [.int .i64 (iadd .i64 o (asInt (acell e 9))), .int .i64 (asInt (acell e 9)), .str (abT q (iadd .i64 o (asInt (acell e 9))) (asInt (acell e 9)) (asStr (acell e 10)))] := by
  unfold vaE; rw [sel_pos (by rw [seq_iff]; exact h)]
theorem fi_some {xs : List V} {r : List UInt8} : ∀ (k i j : Nat), fiN xs r k i = some j → i ≤ j ∧ j < i + k ∧ asStr (acell (lget xs j) 0) = r ∧ asInt (acell (lget xs j) 9) = 0
  | 0, i, j, h => by cases h
  | k + 1, i, j, h => by
    unfold fiN at h
    split at h
    · rename_i hc
      obtain rfl := Option.some.inj h
      exact ⟨Nat.le_refl _, by omega, (seq_iff _ _).mp hc.1, hc.2⟩
    · obtain ⟨h1, h2, h3⟩ := fi_some k (i + 1) j h
      exact ⟨by omega, by omega, h3⟩
def Cur (xs : List V) (o k v : Int) (r q : List UInt8) (t : Int) (s : Int) (l : List UInt8) : Prop := (-10800 ≤ s ∧ s ≤ 10800) ∧ avO xs (vaL xs r o q) r o k v t = o + s ∧ avS xs (vaL xs r o q) r o k v t = s ∧ avT xs (vaL xs r o q) r o q k v t = abT q (iadd .i64 o s) s l
theorem cur_same (xs : List V) {o p k v : Int} {r : List UInt8} (q : List UInt8) {t : Int} (hu : NoUtc xs r) (ho : -54000 ≤ o ∧ o ≤ 54000) (hp : -54000 ≤ p ∧ p ≤ 54000) (hv : -10800 ≤ v ∧ v ≤ 10800) (hlen : xs.length ≤ 1000) (ht : -1099511627776 ≤ t ∧ t ≤ 1099511627776) : ∃ s l, Cur xs o k v r q (t - o) s l ∧ Cur xs p k v r q (t - p) s l := by
  by_cases hk : k = 2
  · subst hk
    have hls := last_same hu ho hp hlen ht
    have key : ∀ {x : Int}, -54000 ≤ x ∧ x ≤ 54000 → laB xs r x (t - x) = true → Cur xs x 2 v r q (t - x) (asInt (acell (lget xs (laR xs r x (t - x))) 9)) (asStr (acell (lget xs (laR xs r x (t - x))) 10)) := by
      intro x hx hb
      have hocc := las_occ hb
      obtain ⟨hin, hnm, hru, _⟩ := hocc
      have hs := (ru_ft hru).2.2.2.2.2
      unfold Cur avO avS avT
      simp only [if_true]
      rw [if_pos hb, if_pos hb, if_pos hb, va_get xs r x q _ hin, va_pos hnm]
      refine ⟨hs, ?_, rfl, rfl⟩
      show iadd .i64 x _ = _
      rw [iadd64 (by omega)]
    have key2 : ∀ {x : Int}, -54000 ≤ x ∧ x ≤ 54000 → laB xs r x (t - x) = false → Cur xs x 2 v r q (t - x) 0 (match fiX xs r with | some i => asStr (acell (lget xs i) 10) | none => []) := by
      intro x hx hb
      unfold Cur avO avS avT
      simp only [if_true]
      rw [if_neg (by rw [hb]; simp), if_neg (by rw [hb]; simp), if_neg (by rw [hb]; simp)]
      unfold fi0 fi1 fi2
      cases hf : fiX xs r with
      | none => exact ⟨by omega, by simp, rfl, by simp only; rw [iadd64 (by omega), Int.add_zero]⟩
      | some i =>
        obtain ⟨_, h2, h3, h4⟩ := fi_some _ _ _ hf
        simp only
        rw [va_get xs r x q _ ⟨by omega, by omega⟩, va_pos h3, h4]
        refine ⟨by omega, ?_, rfl, rfl⟩
        show iadd .i64 x 0 = _
        rw [iadd64 (by omega)]
    cases hb : laB xs r o (t - o) with
    | true =>
      have hb' : (lasA xs r o (t - o)).1 = true := hb
      have hb2 : laB xs r p (t - p) = true := by
        show (lasA xs r p (t - p)).1 = true
        rw [← hls.1]; exact hb'
      have e := hls.2 hb'
      have k2 := key hp hb2
      have eR : laR xs r p (t - p) = laR xs r o (t - o) := by unfold laR; rw [e]
      rw [eR] at k2
      exact ⟨_, _, key ho hb, k2⟩
    | false =>
      have hb2 : laB xs r p (t - p) = false := by
        show (lasA xs r p (t - p)).1 = false
        rw [← hls.1]; exact hb
      exact ⟨_, _, key2 ho hb, key2 hp hb2⟩
  · have key : ∀ {x : Int}, -54000 ≤ x ∧ x ≤ 54000 → Cur xs x k v r q (t - x) v [] := by
      intro x hx
      unfold Cur avO avS avT
      rw [if_neg hk, if_neg hk, if_neg hk]
      exact ⟨hv, iadd64 (by omega), rfl, rfl⟩
    exact ⟨v, [], key ho, key hp⟩
def Like (s : List UInt8) (xs ys : List V) : Prop := xs.length = ys.length ∧ ∀ i : Int, 0 ≤ i → i < (xs.length : Int) → seq (asStr (acell (lget xs i) 0)) s = seq (asStr (acell (lget ys i) 0)) s ∧ (seq (asStr (acell (lget xs i) 0)) s = true → lget xs i = lget ys i)
theorem nx_like {xs ys : List V} {s : List UInt8} (h : Like s xs ys) (q x z : Int) : ∀ (k : Nat) (i : Int) (st : Bool × Int × Int × Int), 0 ≤ i → i + k ≤ xs.length → nxL xs s q x z k i st = nxL ys s q x z k i st := by
  intro k
  induction k with
  | zero => intro i st _ _; rfl
  | succ k ih =>
    intro i st h0 h1
    unfold nxL
    simp only
    obtain ⟨e1, e2⟩ := h.2 i h0 (by omega)
    cases hs : seq (asStr (acell (lget xs i) 0)) s with
    | true => rw [← e2 hs, ih _ _ (by omega) (by omega), hs]
    | false =>
      rw [← e1, hs, if_neg (by simp), if_neg (by simp), ih _ _ (by omega) (by omega)]
theorem nxa_like {xs ys : List V} {s : List UInt8} (h : Like s xs ys) (x z : Int) : nxA xs s x z = nxA ys s x z := by
  unfold nxA
  rw [nx_like h (nearI z) x z xs.length 0 _ (by omega) (by omega), h.1]
theorem up_some {P : Int → Bool} : ∀ (r : Nat) (j y : Int), upY P r j = some y → P y = true ∧ j ≤ y ∧ y < j + r
  | 0, j, y, h => by cases h
  | r + 1, j, y, h => by
    cases hj : P j with
    | true =>
      rw [up_t hj] at h
      obtain rfl := Option.some.inj h
      exact ⟨hj, by omega, by omega⟩
    | false =>
      rw [up_f hj] at h
      obtain ⟨h1, h2, h3⟩ := up_some r (j + 1) y h
      exact ⟨h1, by omega, by omega⟩
theorem bW_good {e : V} {i q x z : Int} (h : bW e i q x z = true) : rW e i q x z = i ∧ asInt (acell e 1) ≤ yW e i q x z ∧ yW e i q x z ≤ asInt (acell e 2) ∧ nW e i q x z = nomI (asInt (acell e 3)) (asInt (acell e 4)) (asInt (acell e 5)) (asInt (acell e 6)) (asInt (acell e 7)) (yW e i q x z) := by
  unfold bW at h
  have h' := h
  unfold nvB at h'
  obtain ⟨y, hy⟩ := Option.isSome_iff_exists.1 h'
  have hb := hy
  unfold nvO at hb
  obtain ⟨_, h2, h3⟩ := up_some _ _ _ hb
  have ey : yW e i q x z = y := by unfold yW nvY; rw [hy]; rfl
  refine ⟨?_, ?_, ?_, ?_⟩
  · unfold rW nvR; rw [if_pos h]
  · rw [ey]; split at h2 <;> omega
  · rw [ey]; split at h3 <;> split at h2 <;> omega
  · unfold nW nvN; rw [if_pos h]; rfl
theorem nxl_occ {xs : List V} {s : List UInt8} {q x z : Int} : ∀ (k : Nat) (i : Int) (st : Bool × Int × Int × Int), 0 ≤ i → i + k ≤ xs.length → (st.1 = true → Occ xs s st.2.1 st.2.2.1 st.2.2.2) → (nxL xs s q x z k i st).1 = true → Occ xs s (nxL xs s q x z k i st).2.1 (nxL xs s q x z k i st).2.2.1 (nxL xs s q x z k i st).2.2.2 := by
  intro k
  induction k with
  | zero => intro i st _ _ h hb; exact h hb
  | succ k ih =>
    intro i st h0 h1 h hb
    unfold nxL at hb ⊢
    refine ih (i + 1) _ (by omega) (by omega) ?_ hb
    intro hs
    split at hs
    · rename_i hc
      rw [if_pos hc]
      obtain ⟨c1, c2, c3, _⟩ := hc
      obtain ⟨e1, e2, e3, e4⟩ := bW_good c3
      show Occ xs s (rW (lget xs i) i q x z) (yW (lget xs i) i q x z) (nW (lget xs i) i q x z)
      rw [e1]
      exact ⟨⟨h0, by omega⟩, (seq_iff _ _).mp c1, c2, e2, e3, e4⟩
    · rename_i hc
      rw [if_neg hc]
      exact h hs
theorem next_occ {xs : List V} {s : List UInt8} {x z : Int} (h : nxB xs s x z = true) : Occ xs s (nxR xs s x z) (nxY xs s x z) (nxN xs s x z) := nxl_occ xs.length 0 (false, 0, 0, 0) (by omega) (by omega) (fun h => by cases h) h
theorem nil_name (e : V) : asStr (acell (aset e 0 (.str [])) 0) = [] := by
  cases e with
  | agg cs => cases cs <;> rfl
  | _ => rfl
theorem ot_at (xs : List V) (r : List UInt8) (o : Int) (q : List UInt8) (a0 a1 : Int) (a2 : List UInt8) (i : Int) (hi : 0 ≤ i ∧ i < (xs.length : Int)) : lget (otL xs (vaL xs r o q) a0 a1 a2) i = otE a0 a1 a2 (lget xs i) (vaE r o q (lget xs i)) := by
  rw [← va_get xs r o q i hi]
  obtain ⟨n, rfl⟩ := Int.eq_ofNat_of_zero_le hi.1
  have := ot_get (va_len xs r o q).symm a0 a1 a2 n (by omega)
  show (otL xs (vaL xs r o q) a0 a1 a2).getD ((n : Int)).toNat .any = _
  rw [List.getD_eq_getElem?_getD, Int.toNat_natCast, this]
  rfl
theorem ot_name {a0 a1 : Int} {a2 r : List UInt8} {e u : V} (hr : r ≠ []) (h : asStr (acell (otE a0 a1 a2 e u) 0) = r) : otE a0 a1 a2 e u = e := by
  unfold otE at h ⊢
  cases hc : band (ieq (asInt (acell u 0)) a0) (band (ieq (asInt (acell u 1)) a1) (seq (asStr (acell u 2)) a2)) with
  | true => rw [hc, sel_pos rfl, nil_name] at h; exact absurd h.symm hr
  | false => rfl
theorem ot_off {a0 a1 : Int} {a2 r : List UInt8} {e u : V} (hr : r ≠ []) (h : seq (asStr (acell e 0)) r = false) : seq (asStr (acell (otE a0 a1 a2 e u) 0)) r = false := by
  cases hs : seq (asStr (acell (otE a0 a1 a2 e u) 0)) r with
  | false => rfl
  | true =>
    rw [ot_name hr ((seq_iff _ _).mp hs), h] at hs; cases hs
theorem ot_like (xs : List V) {r q : List UInt8} (hr : r ≠ []) (hq : q ≠ [37, 122]) {a b s : Int} (l : List UInt8) (ha : -54000 ≤ a ∧ a ≤ 54000) (hb : -54000 ≤ b ∧ b ≤ 54000) (hs : -10800 ≤ s ∧ s ≤ 10800) :
    Like r (otL xs (vaL xs r a q) (a + s) s (abT q (iadd .i64 a s) s l)) (otL xs (vaL xs r b q) (b + s) s (abT q (iadd .i64 b s) s l)) := by
  have hla := ot_len (va_len xs r a q).symm (a + s) s (abT q (iadd .i64 a s) s l)
  have hlb := ot_len (va_len xs r b q).symm (b + s) s (abT q (iadd .i64 b s) s l)
  refine ⟨by rw [hla, hlb], fun i h0 h1 => ?_⟩
  rw [hla] at h1
  rw [ot_at xs r a q _ _ _ i ⟨h0, h1⟩, ot_at xs r b q _ _ _ i ⟨h0, h1⟩]
  generalize lget xs i = e
  cases hn : seq (asStr (acell e 0)) r with
  | false =>
    rw [ot_off hr hn, ot_off hr hn]
    exact ⟨rfl, fun h => by cases h⟩
  | true =>
    have hn' := (seq_iff _ _).mp hn
    rw [va_pos hn', va_pos hn']
    have key : otE (a + s) s (abT q (iadd .i64 a s) s l) e (.agg [.int .i64 (iadd .i64 a (asInt (acell e 9))), .int .i64 (asInt (acell e 9)), .str (abT q (iadd .i64 a (asInt (acell e 9))) (asInt (acell e 9)) (asStr (acell e 10)))]) =
        otE (b + s) s (abT q (iadd .i64 b s) s l) e (.agg [.int .i64 (iadd .i64 b (asInt (acell e 9))), .int .i64 (asInt (acell e 9)), .str (abT q (iadd .i64 b (asInt (acell e 9))) (asInt (acell e 9)) (asStr (acell e 10)))]) := by
      show sel (band (ieq (iadd .i64 a (asInt (acell e 9))) (a + s)) (band (ieq (asInt (acell e 9)) s) (seq (abT q (iadd .i64 a (asInt (acell e 9))) (asInt (acell e 9)) (asStr (acell e 10))) (abT q (iadd .i64 a s) s l)))) _ _ = sel (band (ieq (iadd .i64 b (asInt (acell e 9))) (b + s)) (band (ieq (asInt (acell e 9)) s) (seq (abT q (iadd .i64 b (asInt (acell e 9))) (asInt (acell e 9)) (asStr (acell e 10))) (abT q (iadd .i64 b s) s l)))) _ _
      by_cases h9 : asInt (acell e 9) = s
      · rw [h9, ab_same hq (asStr (acell e 10)) ha hb hs, ab_same hq l ha hb hs, iadd64 (by omega), iadd64 (by omega), ieq_t rfl, ieq_t rfl, ieq_t rfl]
      · rw [ieq_f h9]
        have : ∀ x y : Bool, band x (band false y) = false := fun x y => by cases x <;> rfl
        rw [this, this]
    rw [key]
    exact ⟨rfl, fun _ => rfl⟩
theorem like_occ {xs ys : List V} {s : List UInt8} {r y n : Int} (hl : ys.length = xs.length) (h : ∀ i : Int, 0 ≤ i → i < (xs.length : Int) → asStr (acell (lget ys i) 0) = s → lget ys i = lget xs i) (ho : Occ ys s r y n) : Occ xs s r y n := by
  obtain ⟨⟨h1, h2⟩, h3, h4⟩ := ho
  rw [hl] at h2
  have e := h r h1 h2 h3
  rw [e] at h3 h4
  exact ⟨⟨h1, h2⟩, h3, h4⟩
theorem next_same (xs : List V) {o p v : Int} {r q : List UInt8} {t : Int} (hr : r ≠ []) (hq : q ≠ [37, 122]) (hu : NoUtc xs r) (ho : -54000 ≤ o ∧ o ≤ 54000) (hp : -54000 ≤ p ∧ p ≤ 54000) (hv : -10800 ≤ v ∧ v ≤ 10800) (hlen : xs.length ≤ 1000) (ht : -1099511627776 ≤ t ∧ t ≤ 1099511627776) :
    fnB xs o 2 v r q true (t - o) = fnB xs p 2 v r q true (t - p) ∧ (fnB xs o 2 v r q true (t - o) = true → ∃ n, -4000000000000 ≤ n ∧ n ≤ 4000000000000 ∧ fnI xs o 2 v r q true (t - o) = n - o ∧ fnI xs p 2 v r q true (t - p) = n - p) := by
  obtain ⟨s, l, ⟨hs, c1, c2, c3⟩, _, d1, d2, d3⟩ := cur_same xs (k := 2) q hu ho hp hv hlen ht
  have hls := last_same hu ho hp hlen ht
  have hst : stR xs r o 2 (t - o) = stR xs r p 2 (t - p) ∧ stN xs r o 2 (t - o) = stN xs r p 2 (t - p) := by
    unfold stR stN atB atR atN laB laR laN
    simp only [if_true]
    rw [← hls.1]
    cases hb : (lasA xs r o (t - o)).1 with
    | true => rw [hls.2 hb]; exact ⟨rfl, rfl⟩
    | false => exact ⟨rfl, rfl⟩
  have hlike := ot_like xs hr hq l ho hp hs
  have eo : otX xs o 2 v r q (t - o) = otL xs (vaL xs r o q) (o + s) s (abT q (iadd .i64 o s) s l) := by unfold otX; rw [c1, c2, c3]
  have ep : otX xs p 2 v r q (t - p) = otL xs (vaL xs r p q) (p + s) s (abT q (iadd .i64 p s) s l) := by unfold otX; rw [d1, d2, d3]
  have hnx := nxa_like hlike (stR xs r p 2 (t - p)) (stN xs r p 2 (t - p))
  have hB : fnB xs o 2 v r q true (t - o) = nxB (otX xs o 2 v r q (t - o)) r (stR xs r o 2 (t - o)) (stN xs r o 2 (t - o)) := by unfold fnB; rw [if_pos ⟨rfl, rfl⟩]
  have hB2 : fnB xs p 2 v r q true (t - p) = nxB (otX xs p 2 v r q (t - p)) r (stR xs r p 2 (t - p)) (stN xs r p 2 (t - p)) := by unfold fnB; rw [if_pos ⟨rfl, rfl⟩]
  have hI : ∀ x, fnI xs x 2 v r q true (t - x) = ivI (nxB (otX xs x 2 v r q (t - x)) r (stR xs r x 2 (t - x)) (stN xs r x 2 (t - x))) xs r x (nxR (otX xs x 2 v r q (t - x)) r (stR xs r x 2 (t - x)) (stN xs r x 2 (t - x))) (nxY (otX xs x 2 v r q (t - x)) r (stR xs r x 2 (t - x)) (stN xs r x 2 (t - x))) (nxN (otX xs x 2 v r q (t - x)) r (stR xs r x 2 (t - x)) (stN xs r x 2 (t - x))) := fun x => by unfold fnI; rw [if_pos ⟨rfl, rfl⟩]
  have eB : fnB xs o 2 v r q true (t - o) = fnB xs p 2 v r q true (t - p) := by
    rw [hB, hB2, eo, ep, hst.1, hst.2]
    unfold nxB
    rw [hnx]
  refine ⟨eB, fun hb => ?_⟩
  rw [hB] at hb
  have hoc := next_occ hb
  have hocc : Occ xs r (nxR (otX xs o 2 v r q (t - o)) r (stR xs r o 2 (t - o)) (stN xs r o 2 (t - o))) (nxY (otX xs o 2 v r q (t - o)) r (stR xs r o 2 (t - o)) (stN xs r o 2 (t - o))) (nxN (otX xs o 2 v r q (t - o)) r (stR xs r o 2 (t - o)) (stN xs r o 2 (t - o))) := by
    refine like_occ ?_ ?_ hoc
    · rw [eo, ot_len (va_len xs r o q).symm]
    · intro i h0 h1 h2
      rw [eo, ot_at xs r o q _ _ _ i ⟨h0, h1⟩] at h2 ⊢
      exact ot_name hr h2
  have e1 : nxB (otX xs p 2 v r q (t - p)) r (stR xs r p 2 (t - p)) (stN xs r p 2 (t - p)) = nxB (otX xs o 2 v r q (t - o)) r (stR xs r o 2 (t - o)) (stN xs r o 2 (t - o)) := by rw [← hB2, ← hB, eB]
  have e2 : nxR (otX xs p 2 v r q (t - p)) r (stR xs r p 2 (t - p)) (stN xs r p 2 (t - p)) = nxR (otX xs o 2 v r q (t - o)) r (stR xs r o 2 (t - o)) (stN xs r o 2 (t - o)) := by
    rw [eo, ep, hst.1, hst.2]; unfold nxR; rw [hnx]
  have e3 : nxY (otX xs p 2 v r q (t - p)) r (stR xs r p 2 (t - p)) (stN xs r p 2 (t - p)) = nxY (otX xs o 2 v r q (t - o)) r (stR xs r o 2 (t - o)) (stN xs r o 2 (t - o)) := by
    rw [eo, ep, hst.1, hst.2]; unfold nxY; rw [hnx]
  have e4 : nxN (otX xs p 2 v r q (t - p)) r (stR xs r p 2 (t - p)) (stN xs r p 2 (t - p)) = nxN (otX xs o 2 v r q (t - o)) r (stR xs r o 2 (t - o)) (stN xs r o 2 (t - o)) := by
    rw [eo, ep, hst.1, hst.2]; unfold nxN; rw [hnx]
  refine ⟨insO xs r (nxR (otX xs o 2 v r q (t - o)) r (stR xs r o 2 (t - o)) (stN xs r o 2 (t - o))) (nxN (otX xs o 2 v r q (t - o)) r (stR xs r o 2 (t - o)) (stN xs r o 2 (t - o))), ?_, ?_, ?_, ?_⟩
  · have h1 := occ_lim hocc
    have h2 := sv_in xs r (nxR (otX xs o 2 v r q (t - o)) r (stR xs r o 2 (t - o)) (stN xs r o 2 (t - o))) (nxN (otX xs o 2 v r q (t - o)) r (stR xs r o 2 (t - o)) (stN xs r o 2 (t - o)))
    unfold insO
    split <;> omega
  · have h1 := occ_lim hocc
    have h2 := sv_in xs r (nxR (otX xs o 2 v r q (t - o)) r (stR xs r o 2 (t - o)) (stN xs r o 2 (t - o))) (nxN (otX xs o 2 v r q (t - o)) r (stR xs r o 2 (t - o)) (stN xs r o 2 (t - o)))
    unfold insO
    split <;> omega
  · rw [hI, hb, ← ins_off hu hocc]
    unfold ivI itI
    rw [sel_pos rfl, sel_pos (r_in (show -54000 ≤ o ∧ o ≤ 54000 from ho)), sel_pos (occ_is hocc)]
  · rw [hI, e1, e2, e3, e4, hb, ← ins_off hu hocc]
    unfold ivI itI
    rw [sel_pos rfl, sel_pos (r_in (show -54000 ≤ p ∧ p ≤ 54000 from hp)), sel_pos (occ_is hocc)]
end Nt.Ev.YtheojhajckcdlaaGreatDoor.Sf

namespace Nt.Ev.YtheojhajckcdlaaGreatDoor.Sf
set_option maxRecDepth 100000
open Go Go.RowKit Nt Nt.Num Go.Proofs.YtheojhajckcdlaaGreatDoor Nt.Ev.YtheojhajckcdlaaGreatDoor Nt.Civil Nt.Ev.YtheojhajckcdlaaGreatDoor.Rl Nt.Ev.YtheojhajckcdlaaGreatDoor.Oc Nt.Ev.YtheojhajckcdlaaGreatDoor.Un Nt.Ev.YtheojhajckcdlaaGreatDoor.On Nt.Ev.YtheojhajckcdlaaGreatDoor.Cn Nt.Ev.YtheojhajckcdlaaGreatDoor.Fo
variable [MLen]
theorem li_rs {xs : List V} (h : liB xs = true) : rsOk xs = true ∧ xs.length ≤ 12 := by
  unfold liB at h
  rw [Bool.and_eq_true, ile_iff, llen_nat, List.all_eq_true] at h
  refine ⟨?_, by omega⟩
  unfold rsOk
  rw [Bool.and_eq_true, List.all_eq_true, ile_iff, llen_nat]
  refine ⟨fun e he => ?_, by omega⟩
  have := h.2 e he
  unfold liE at this
  rw [Bool.and_eq_true, ile_iff, ile_iff] at this
  unfold rOk
  rw [ile_iff]; omega
theorem name_ne {s : List UInt8} (h : Nm.nmI s = 0) : s ≠ [] := by
  intro e
  subst e
  unfold Nm.nmI at h
  rw [if_neg (by decide), if_neg (fun h => h.2 rfl)] at h
  cases h
theorem er_two {o k v : Int} {r q : List UInt8} {h : Bool} {y m ok ow od c b : Int} (he : erP o k v r q h y m ok ow od c b = true) (hk : k = 2) : r ≠ [] := by
  unfold erP at he
  subst hk
  simp only [Bool.and_eq_true, ile_iff, ieq_iff] at he
  have := he.2.2.2.2
  rw [sel_neg (ieq_f (by omega)), sel_neg (ieq_f (by omega)), sel_pos (ieq_t rfl)] at this
  rw [Bool.and_eq_true, ieq_iff, ieq_iff] at this
  exact name_ne this.2
theorem sh_end (xs : List V) {o p k v : Int} {r q : List UInt8} {h : Bool} {y m ok ow od c b t : Int} (he : erP o k v r q h y m ok ow od c b = true) (hf : erP p k v r q h y m ok ow od c b = true) (hu : NoUtc xs r) (hlen : xs.length ≤ 1000) (ht : -1099511627776 ≤ t ∧ t ≤ 1099511627776) :
    faS xs o k v r q true (isub .i64 t o) = faS xs p k v r q true (isub .i64 t p) ∧ isub .i64 (faO xs o k v r q true (isub .i64 t o)) o = isub .i64 (faO xs p k v r q true (isub .i64 t p)) p ∧
    (q ≠ [37, 122] → faT xs o k v r q true (isub .i64 t o) = faT xs p k v r q true (isub .i64 t p) ∧ fnB xs o k v r q true (isub .i64 t o) = fnB xs p k v r q true (isub .i64 t p) ∧
      (fnB xs o k v r q true (isub .i64 t o) = true → iadd .i64 (fnI xs o k v r q true (isub .i64 t o)) o = iadd .i64 (fnI xs p k v r q true (isub .i64 t p)) p)) := by
  obtain ⟨ho, _, _, hv⟩ := er_en he
  obtain ⟨hp, _, _, _⟩ := er_en hf
  obtain ⟨s, l, ⟨hs, c1, c2, c3⟩, _, d1, d2, d3⟩ := cur_same xs (k := k) q hu ho hp hv hlen ht
  rw [isub64 (show -9223372036854775808 ≤ t - o ∧ t - o ≤ 9223372036854775807 by omega), isub64 (show -9223372036854775808 ≤ t - p ∧ t - p ≤ 9223372036854775807 by omega)]
  refine ⟨?_, ?_, fun hq => ⟨?_, ?_⟩⟩
  · unfold faS; rw [if_pos rfl, if_pos rfl, c2, d2]
  · unfold faO; rw [if_pos rfl, if_pos rfl, c1, d1, isub64 (by omega), isub64 (by omega)]; omega
  · unfold faT; rw [if_pos rfl, if_pos rfl, c3, d3, ab_same hq l ho hp hs]
  · by_cases hk : k = 2
    · have hr := er_two he hk
      subst hk
      obtain ⟨e1, e2⟩ := next_same xs (v := v) hr hq hu ho hp hv hlen ht
      refine ⟨e1, fun hb => ?_⟩
      obtain ⟨n, n1, n2, n3, n4⟩ := e2 hb
      rw [n3, n4, iadd64 (by omega), iadd64 (by omega)]; omega
    · have hn : ∀ x z, fnB xs x k v r q true z = false := fun x z => by unfold fnB; rw [if_neg (fun e => hk e.2)]
      rw [hn, hn]
      exact ⟨rfl, fun h => by cases h⟩
theorem no_utc_mk {xs : List V} {r : List UInt8} (h : ∀ i : Nat, i < xs.length → asStr (acell (lget xs i) 0) = r → asInt (acell (lget xs i) 8) ≠ 2) : NoUtc xs r := by
  intro i h0 h1 h2
  obtain ⟨n, rfl⟩ := Int.eq_ofNat_of_zero_le h0
  exact h n (by omega) h2
theorem sh_loop (F : Nat) (xs : List V) {o p k v : Int} {r q : List UInt8} {h : Bool} {y m ok ow od c b t : Int} (a0 a1 a2 : Int) (x8 : Bool) (g0 g1 : Int) (g2 : List UInt8) (he : erP o k v r q h y m ok ow od c b = true) (hf : erP p k v r q h y m ok ow od c b = true) (hr : rsOk xs = true) (hlen : xs.length ≤ 12) (ht : -1099511627776 ≤ t ∧ t ≤ 1099511627776) : ∀ (n i G : Nat), i + n = xs.length → n < G → (∀ j : Nat, j < i → asStr (acell (lget xs j) 0) = r → asInt (acell (lget xs j) 8) ≠ 2) →
    hT_L0 F [] G xs o k v r q h y m ok ow od c b t p x8 a0 a1 a2 xs (llen xs) i p k v r q h y m ok ow od c b g0 g1 g2 o k v r q h y m ok ow od c b some = some (.bool true) := by
  intro n
  induction n with
  | zero =>
    intro i G h1 h2 h3
    obtain ⟨G, rfl⟩ := Nat.exists_eq_succ_of_ne_zero (show G ≠ 0 by omega)
    have hu : NoUtc xs r := no_utc_mk fun j hj => h3 j (by omega)
    obtain ⟨k1, k2, k3⟩ := sh_end xs he hf hu (by omega) ht
    have kb : band true (rsOk xs) = true := by rw [hr]; rfl
    rw [hT_L0_succ, sel_neg (ilt_f (by rw [llen_nat]; omega)), sel_pos kb, sel_pos kb, sel_pos hr, sel_pos hr]
    rw [he, hf, sel_neg (show bnot (ieq (faE true) 0) = false from rfl), sel_neg (show bnot (ieq (faE true) 0) = false from rfl)]
    rw [k1, sel_neg (by rw [ieq_t rfl]; rfl), k2, sel_neg (by rw [ieq_t rfl]; rfl)]
    cases hq : seq q [37, 122] with
    | true => rw [sel_pos rfl]
    | false =>
      have hq' : q ≠ [37, 122] := fun e => by rw [e] at hq; cases hq
      obtain ⟨e1, e2, e3⟩ := k3 hq'
      rw [sel_neg rfl, e1, sel_pos (by rw [seq_iff]), e2]
      rw [sel_pos (show beq _ _ = true by unfold beq; simp)]
      cases hb : fnB xs p k v r q true (isub .i64 t p) with
      | false => rw [sel_pos (show bnot false = true from rfl)]
      | true =>
        rw [sel_neg (show bnot true = false from rfl), e3 (by rw [e2]; exact hb), ieq_t rfl]
  | succ n ih =>
    intro i G h1 h2 h3
    obtain ⟨G, rfl⟩ := Nat.exists_eq_succ_of_ne_zero (show G ≠ 0 by omega)
    rw [hT_L0_succ, sel_pos (ilt_t (by rw [llen_nat]; omega)), sel_pos (by rw [band_iff, ile_iff, ilt_iff, llen_nat]; omega), iadd64 (by omega)]
    cases hn : seq (asStr (acell (lget xs i) 0)) r with
    | false =>
      rw [sel_neg rfl]
      refine ih (i + 1) G (by omega) (by omega) fun j hj he2 => ?_
      by_cases ej : j = i
      · subst ej; rw [(seq_iff _ _).mpr he2] at hn; cases hn
      · exact h3 j (by omega) he2
    | true =>
      rw [sel_pos rfl]
      cases h8 : ieq (asInt (acell (lget xs i) 8)) 2 with
      | true => rw [sel_pos rfl]
      | false =>
        rw [sel_neg rfl]
        refine ih (i + 1) G (by omega) (by omega) fun j hj he2 => ?_
        by_cases ej : j = i
        · subst ej
          intro e
          rw [ieq_t e] at h8; cases h8
        · exact h3 j (by omega) he2
theorem er_first : erP 3600 0 0 [] [88] false 0 0 0 0 0 0 0 = true := by decide
theorem sh_all (xs : List V) (o k v : Int) (r q : List UInt8) (h : Bool) (y m ok ow od c b : Int) (t p : Int) (hG : ckG xs = true) : Contract jE 3 [.sl 41 [.str, .int .i64, .int .i64, .int .i64, .int .i64, .int .i64, .int .i64, .int .i64, .int .i64, .int .i64, .str] none xs, .agg [.int .i64 o, .int .i64 k, .int .i64 v, .str r, .str q, .bool h, .int .i64 y, .int .i64 m, .int .i64 ok, .int .i64 ow, .int .i64 od, .int .i64 c, .int .i64 b], .int .i64 t, .int .i64 p] (.bool true) := by
  refine contract_of_body jE_ok hS_ok 20 2 ?_
  rw [hT_top]
  have hf0 : faO [] 3600 0 0 [] [88] true 0 = 3600 := by
    unfold faO avO
    rw [if_pos rfl, if_neg (by omega), iadd64 (by omega)]; rfl
  rw [sel_pos (show band true (rsOk []) = true by unfold rsOk; rfl), er_first, hf0, sel_neg (by rw [ieq_t rfl]; rfl), sel_neg (show bnot (ieq (faE true) 0) = false from rfl), sel_pos hG]
  cases hl : liB xs with
  | false => rw [sel_pos (show bnot false = true from rfl)]
  | true =>
    obtain ⟨hr, hlen⟩ := li_rs hl
    rw [sel_neg (show bnot true = false from rfl)]
    cases ilt 100 (slen r) with
    | true => rw [sel_pos rfl]
    | false =>
      rw [sel_neg rfl]
      cases ile 0 (ckA xs) with
      | true => rw [sel_pos rfl]
      | false =>
        rw [sel_neg rfl]
        cases bnot (ieq (ckE xs) 0) with
        | true => rw [sel_pos rfl]
        | false =>
          rw [sel_neg rfl]
          cases he : erP o k v r q h y m ok ow od c b with
          | false => rw [sel_pos (show bnot false = true from rfl)]
          | true =>
            rw [sel_neg (show bnot true = false from rfl)]
            cases hf : erP p k v r q h y m ok ow od c b with
            | false => rw [sel_pos (show bnot false = true from rfl)]
            | true =>
              rw [sel_neg (show bnot true = false from rfl)]
              by_cases t1 : 1099511627776 < t
              · rw [sel_pos (ilt_t t1)]
              · rw [sel_neg (ilt_f (by omega))]
                by_cases t2 : t < -1099511627776
                · rw [sel_pos (ilt_t t2)]
                · rw [sel_neg (ilt_f (by omega))]
                  exact sh_loop 20 xs _ _ _ _ _ _ _ he hf hr hlen ⟨by omega, by omega⟩ xs.length 0 20 (by omega) (by omega) fun j hj => absurd hj (by omega)
theorem rep_len {G : Known} {e : Nat} {sh : List Kd} {o : Option Nat} {xs : List V} {p : Option Addr} {n c : Nat} (h : rep G (.sl e sh o xs) (.slice p n c)) : n = xs.length := by
  unfold rep at h
  obtain ⟨_, _, h, _⟩ := h
  cases h; rfl
theorem ck_of {P : Program} {xs : List V} (h1 : xs.length * 104 ≤ 140737488355328) (h2 : ∀ x ∈ xs, ∃ ys, x = .agg ys ∧ fitsL [.str, .int .i64, .int .i64, .int .i64, .int .i64, .int .i64, .int .i64, .int .i64, .int .i64, .int .i64, .str] ys = true ∧ ∀ y ∈ ys, okC P y) : ckG xs = true := by
  unfold ckG
  rw [Bool.and_eq_true, decide_eq_true_eq, List.all_eq_true]
  refine ⟨h1, fun x hx => ?_⟩
  obtain ⟨ys, rfl, hf, hc⟩ := h2 x hx
  obtain ⟨a, t, rfl, h3, h4⟩ := fitsL_cons hf
  obtain ⟨l, rfl⟩ := fits_str h3
  have := hc _ List.mem_cons_self
  unfold okC at this
  rw [decide_eq_true_eq]
  exact this
end Nt.Ev.YtheojhajckcdlaaGreatDoor.Sf
