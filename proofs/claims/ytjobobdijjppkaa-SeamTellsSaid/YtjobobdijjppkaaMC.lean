/-
  Plain facts on bytes, strings and byte lists, used by all walks of this work. No program in sight. The plain law of num: whole numbers that do not go round. The plain law of numbers' texts: digits, in order. The plain law of numbers that are read. The plain law of numbers there and back: what is written is read, and what is read is written. From the shelf's contracts to the evaluator's: slices of strings that a call makes. From contracts of calls that turn no given block to the evaluator's contracts. Numbers' digits and texts: the program's and the reference's. What a law's row gives the walk, and what the walk gives back: facts that hold of every program. What a law's row gives the walk, with the form's own reach: sizes of what is read.
-/
import Derived.WalkKit
import Derived.WalkSpells
import Derived.WalkLawsBesides
import Derived.Deep.QuietTactic
import Derived.BigQuiet
import Derived.Handy
import Derived.Lib.Hide
import Derived.Lib.Strings
import Derived.Lib.SlTrimSet
import Derived.Test.YtjobobdijjppkaaMBB
import Derived.Lib.SplitLaws
import Derived.Test.YtjobobdijjppkaaProg
import Derived.ProofKit
import Derived.OpenShut
import Derived.ShutString
import Derived.ChangeOld
import Derived.Below
import Derived.SliceStrings
import Derived.LaidMore
import Derived.Stop.Joined
namespace Nt
open Go Go.RowKit
def Strs (w : World) (p : Option Addr) (len : Nat) (ss : List ByteArray) : Prop :=
  ss.length = len ∧ (∀ s ∈ ss, s.size ≤ maxLen) ∧ (0 < len → ∃ b off, p = some ⟨b, off, none⟩ ∧ b < w.heap.size ∧ ∀ i, i < len → w.cell? ⟨b, off + i, none⟩ = some (.string (ss.getD i ByteArray.empty)))
theorem Strs.below {w w' : World} {p : Option Addr} {len : Nat} {ss : List ByteArray} (h : Strs w p len ss) (hb : Below w.heap.size w w') : Strs w' p len ss := by
  obtain ⟨h1, h2, h3⟩ := h
  refine ⟨h1, h2, fun hp => ?_⟩
  obtain ⟨b, off, e, hlt, hc⟩ := h3 hp
  exact ⟨b, off, e, Nat.lt_of_lt_of_le hlt hb.size, fun i hi => (hb.cell (p := ⟨b, off + i, none⟩) hlt).trans (hc i hi)⟩
theorem Strs.mem {w : World} {p : Option Addr} {len : Nat} {ss : List ByteArray} (h : Strs w p len ss) {i : Nat} (hi : i < len) : (ss.getD i ByteArray.empty).size ≤ maxLen := by
  obtain ⟨h1, h2, _⟩ := h
  rw [List.getD_eq_getElem?_getD, List.getElem?_eq_getElem (by omega)]
  exact h2 _ (List.getElem_mem _)
theorem toList_eq (s : ByteArray) : s.toList = s.data.toList := ByteArray.toList_eq s
end Nt

set_option linter.unusedVariables false
namespace Nt.Num
open Go Go.RowKit Nt
def Fits (n : Int) : Prop := -9223372036854775808 ≤ n ∧ n ≤ 9223372036854775807
instance (n : Int) : Decidable (Fits n) := inferInstanceAs (Decidable (_ ∧ _))
def told (n : Int) : Int × Int := if Fits n then (n, 0) else (0, 1)
theorem told_yes {n : Int} (h : Fits n) : told n = (n, 0) := if_pos h
theorem told_no {n : Int} (h : ¬ Fits n) : told n = (0, 1) := if_neg h
theorem wrap_over {n : Int} (h : 9223372036854775807 < n) (h2 : n ≤ 18446744073709551615) : wrap64 n < 0 := by unfold wrap64; omega
theorem wrap_under {n : Int} (h : n < -9223372036854775808) (h2 : -18446744073709551616 ≤ n) : 0 ≤ wrap64 n := by unfold wrap64; omega
end Nt.Num

set_option linter.unusedVariables false
set_option linter.unusedSimpArgs false
namespace Nt.Num
open Go Go.RowKit Nt
def bs (l : List UInt8) : ByteArray := ⟨l.toArray⟩
theorem bs_size (l : List UInt8) : (bs l).size = l.length := by simp [bs, ByteArray.size]
def digit (k : Nat) : UInt8 := UInt8.ofNat (48 + k)
def digsF : Nat → Nat → List UInt8
  | 0, _ => []
  | f + 1, n => if n < 10 then [digit n] else digsF f (n / 10) ++ [digit (n % 10)]
def digs (n : Nat) : List UInt8 := digsF (n + 1) n
def ahead (u k m : Nat) : List UInt8 := if m ≤ k then digs (u / 10 ^ m) else []
end Nt.Num

set_option linter.unusedVariables false
set_option linter.unusedSimpArgs false
namespace Nt.Num
open Go Go.RowKit Nt
def val (d : List UInt8) : Nat := d.foldl (fun n c => 10 * n + (c.toNat - 48)) 0
end Nt.Num

set_option linter.unusedVariables false
set_option linter.unusedSimpArgs false
namespace Nt.Num
open Go Go.RowKit Nt
end Nt.Num

set_option linter.unusedVariables false
set_option linter.unusedSimpArgs false
namespace Nt.Ev
open Go Go.RowKit
class MLen where val : Int
theorem PW_two {G : Known} {a b : V} {vs : List Value} (h : PW (rep G) [a, b] vs) : ∃ x y, vs = [x, y] ∧ rep G a x ∧ rep G b y := by
  obtain ⟨x, t, rfl, h1, h2⟩ := h.cons_inv
  obtain ⟨y, t, rfl, h3, h4⟩ := h2.cons_inv
  exact ⟨x, y, by rw [h4.nil_iff], h1, h3⟩
theorem PW_one {G : Known} {a : V} {vs : List Value} (h : PW (rep G) [a] vs) : ∃ x, vs = [x] ∧ rep G a x := by
  obtain ⟨x, t, rfl, h1, h2⟩ := h.cons_inv
  exact ⟨x, by rw [h2.nil_iff], h1⟩
end Nt.Ev

set_option linter.unusedVariables false
set_option linter.unusedSimpArgs false
namespace Nt.Ev
open Go Go.RowKit Nt
theorem contract_old {E : Env} {f : Nat} {args : List V} {r : V} (h : ∀ (G : Known) (w : World) (vs : List Value), GOk G w → GlobOk E G → PW (rep G) args vs →
    Calls E.P f vs.toArray w fun e w' => ∃ v, e = .returned v ∧ Below w.heap.size w w' ∧ ∀ (G' : Known) (w' : World) (B : Nat → Prop), resrep G' w' B r v) : Contract E f args r := by
  intro G w vs hG hg hp
  refine (h G w vs hG hg hp).mono ?_
  rintro e w' ⟨v, rfl, hb, hr⟩
  refine ⟨v, G, rfl, ⟨hb, fun _ _ => rfl, fun b l hl => ?_⟩, hr _ _ _⟩
  obtain ⟨c, e, fr, hc, ht⟩ := hG b l hl
  exact ⟨c, e, fr, by rw [hb.block b (known_lt hG hl)]; exact hc, ht⟩
def Same (x : V) (v : Value) : Prop := hasL x = false ∧ ∀ (G' : Known) (w' : World) (B : Nat → Prop), sres G' w' B x v
theorem same_int (k : IntKind) (n : Int) : Same (.int k n) (.int k n) := ⟨rfl, fun _ _ _ => by simp only [sres]; unfold rep; rfl⟩
theorem res_tup {xs : List V} {vs : List Value} (h : PW Same xs vs) : ∀ (G' : Known) (w' : World) (B : Nat → Prop), resrep G' w' B (.tup xs) (.tuple vs.toArray) := by
  intro G w B
  refine ⟨vs, rfl, h.mono fun x _ v hx => hx.2 G w B, ?_⟩
  have : xs.countP hasL = 0 := by
    rw [List.countP_eq_zero]
    intro x hx
    obtain ⟨i, hi⟩ := List.getElem?_of_mem hx
    obtain ⟨v, _, hv⟩ := h.get hi
    rw [hv.1]; decide
  omega
theorem res_two {x y : V} {a b : Value} (h : Same x a) (k : Same y b) : ∀ (G' : Known) (w' : World) (B : Nat → Prop), resrep G' w' B (.tup [x, y]) (.tuple #[a, b]) := res_tup (vs := [a, b]) (.cons h (.cons k .nil))
end Nt.Ev

set_option linter.unusedVariables false
set_option linter.unusedSimpArgs false
namespace Go.Proofs.Ytjobobdijjppkaa
open Go Nt Nt.Ev Nt.Num
end Go.Proofs.Ytjobobdijjppkaa

namespace Nt
open Go Go.RowKit Go.ChangeShapes Go.WideShapes Go.ChangeAt
open Go.ChangeMaps (open_string shut_string)
section
variable {H : Type} {enc : TypeId × Value → H} {P : Program}
theorem trodAll_below (hl : laidOutB P = true) {W W' : World} (hb : Below W.heap.size W W') :
    ∀ (ts : List TypeId) (vs : List Value) (ds : List (DataW H)) (ps : List MemPlace), (ts.all fun t => P.readableRec t && decide (t < P.types.size)) = true →
    DataW.TrodAll enc P W 0 (fun _ => true) true ts vs ds ps → DataW.TrodAll enc P W' 0 (fun b => decide (b < W.heap.size)) true ts vs ds ps
  | [], [], [], _, _, h => h
  | [], _ :: _, _, _, _, h => by simp [DataW.TrodAll] at h
  | [], [], _ :: _, _, _, h => by simp [DataW.TrodAll] at h
  | _ :: _, [], _, _, _, h => by simp [DataW.TrodAll] at h
  | _ :: _, _ :: _, [], _, _, h => by simp [DataW.TrodAll] at h
  | t :: ts, v :: vs, d :: ds, ps, hr, h => by
    simp only [List.all_cons, Bool.and_eq_true, decide_eq_true_eq] at hr
    obtain ⟨p, q, hp, hq, e⟩ := h
    refine ⟨p, q, ?_, trodAll_below hl hb ts vs ds q hr.2 hq, e⟩
    have lt : ∀ x ∈ p, x.block < W.heap.size := by obtain ⟨m, hm⟩ := hp; exact DataW.trod_lt m _ _ _ hm
    exact Below.trod hl hr.1.1 hr.1.2 hp hb lt
end
end Nt

set_option linter.unusedVariables false
set_option linter.unusedSimpArgs false
namespace Nt
open Go Go.RowKit Go.ChangeShapes Go.WideShapes Go.ChangeAt
section
variable {H : Type} {enc : TypeId × Value → H} {P : Program}
end
end Nt
