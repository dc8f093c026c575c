/-
  Plain facts on bytes, strings and byte lists, used by all walks of this work. No program in sight. The plain law of num: whole numbers that do not go round. The plain law of numbers' texts: digits, in order. The plain law of numbers that are read. The plain law of numbers there and back: what is written is read, and what is read is written. From the shelf's contracts to the evaluator's: slices of strings that a call makes. From contracts of calls that turn no given block to the evaluator's contracts. Numbers' digits and texts: the program's and the reference's. What a law's row gives the walk, and what the walk gives back: facts that hold of every program. What a law's row gives the walk, with the form's own reach: sizes of what is read. Same: equations of functions, as the evaluator prints them. Whether two rows of strings are the same.
-/
import Derived.WalkKit
import Derived.WalkSpells
import Derived.WalkLawsBesides
import Derived.Deep.QuietTactic
import Derived.BigQuiet
import Derived.Handy
import Derived.Lib.Hide
import Derived.Lib.Strings
import Derived.Lib.SlTrimSet
import Derived.Test.YtochbeiihhbmeaaMBB
import Derived.Lib.SplitLaws
import Derived.Test.YtochbeiihhbmeaaProg
import Derived.ProofKit
import Derived.OpenShut
import Derived.ShutString
import Derived.ChangeOld
import Derived.Below
import Derived.SliceStrings
import Derived.LaidMore
import Derived.Stop.Joined
namespace Nt
open Go Go.RowKit
def Strs (w : World) (p : Option Addr) (len : Nat) (ss : List ByteArray) : Prop :=
  ss.length = len ∧ (∀ s ∈ ss, s.size ≤ maxLen) ∧ (0 < len → ∃ b off, p = some ⟨b, off, none⟩ ∧ b < w.heap.size ∧ ∀ i, i < len → w.cell? ⟨b, off + i, none⟩ = some (.string (ss.getD i ByteArray.empty)))
theorem Strs.below {w w' : World} {p : Option Addr} {len : Nat} {ss : List ByteArray} (h : Strs w p len ss) (hb : Below w.heap.size w w') : Strs w' p len ss := by
  obtain ⟨h1, h2, h3⟩ := h
  refine ⟨h1, h2, fun hp => ?_⟩
  obtain ⟨b, off, e, hlt, hc⟩ := h3 hp
  exact ⟨b, off, e, Nat.lt_of_lt_of_le hlt hb.size, fun i hi => (hb.cell (p := ⟨b, off + i, none⟩) hlt).trans (hc i hi)⟩
theorem Strs.made (w : World) (e : TypeId) (ss : List ByteArray) (n : Nat) (hn : ss.length = n) (hs : ∀ s ∈ ss, s.size ≤ maxLen) :
    Strs (w.alloc (.cells (ss.map Value.string).toArray e)) (some ⟨w.heap.size, 0, none⟩) n ss := by
  refine ⟨hn, hs, fun _ => ⟨w.heap.size, 0, rfl, by simp, fun i hi => ?_⟩⟩
  rw [World.cell?_alloc_at _ _ _ _ rfl]
  simp [List.getD_eq_getElem?_getD, List.getElem?_eq_getElem (show i < ss.length by omega)]
theorem toList_eq (s : ByteArray) : s.toList = s.data.toList := ByteArray.toList_eq s
end Nt

set_option linter.unusedVariables false
namespace Nt.Num
open Go Go.RowKit Nt
def Fits (n : Int) : Prop := -9223372036854775808 ≤ n ∧ n ≤ 9223372036854775807
instance (n : Int) : Decidable (Fits n) := inferInstanceAs (Decidable (_ ∧ _))
end Nt.Num

set_option linter.unusedVariables false
set_option linter.unusedSimpArgs false
namespace Nt.Num
open Go Go.RowKit Nt
def bs (l : List UInt8) : ByteArray := ⟨l.toArray⟩
theorem bs_size (l : List UInt8) : (bs l).size = l.length := by simp [bs, ByteArray.size]
end Nt.Num

set_option linter.unusedVariables false
set_option linter.unusedSimpArgs false
namespace Nt.Num
open Go Go.RowKit Nt
def val (d : List UInt8) : Nat := d.foldl (fun n c => 10 * n + (c.toNat - 48)) 0
end Nt.Num

set_option linter.unusedVariables false
set_option linter.unusedSimpArgs false
namespace Nt.Num
open Go Go.RowKit Nt
end Nt.Num

set_option linter.unusedVariables false
set_option linter.unusedSimpArgs false
namespace Nt.Ev
open Go Go.RowKit
class MLen where val : Int
theorem PW_two {G : Known} {a b : V} {vs : List Value} (h : PW (rep G) [a, b] vs) : ∃ x y, vs = [x, y] ∧ rep G a x ∧ rep G b y := by
  obtain ⟨x, t, rfl, h1, h2⟩ := h.cons_inv
  obtain ⟨y, t, rfl, h3, h4⟩ := h2.cons_inv
  exact ⟨x, y, by rw [h4.nil_iff], h1, h3⟩
theorem PW_one {G : Known} {a : V} {vs : List Value} (h : PW (rep G) [a] vs) : ∃ x, vs = [x] ∧ rep G a x := by
  obtain ⟨x, t, rfl, h1, h2⟩ := h.cons_inv
  exact ⟨x, by rw [h2.nil_iff], h1⟩
end Nt.Ev

set_option linter.unusedVariables false
set_option linter.unusedSimpArgs false
namespace Nt.Ev
open Go Go.RowKit Nt
theorem contract_old {E : Env} {f : Nat} {args : List V} {r : V} (h : ∀ (G : Known) (w : World) (vs : List Value), GOk G w → GlobOk E G → PW (rep G) args vs →
    Calls E.P f vs.toArray w fun e w' => ∃ v, e = .returned v ∧ Below w.heap.size w w' ∧ ∀ (G' : Known) (w' : World) (B : Nat → Prop), resrep G' w' B r v) : Contract E f args r := by
  intro G w vs hG hg hp
  refine (h G w vs hG hg hp).mono ?_
  rintro e w' ⟨v, rfl, hb, hr⟩
  refine ⟨v, G, rfl, ⟨hb, fun _ _ => rfl, fun b l hl => ?_⟩, hr _ _ _⟩
  obtain ⟨c, e, fr, hc, ht⟩ := hG b l hl
  exact ⟨c, e, fr, by rw [hb.block b (known_lt hG hl)]; exact hc, ht⟩
theorem res_int (k : IntKind) (n : Int) : ∀ (G' : Known) (w' : World) (B : Nat → Prop), resrep G' w' B (.int k n) (.int k n) := fun _ _ _ => by simp only [resrep, sres]; unfold rep; rfl
def Same (x : V) (v : Value) : Prop := hasL x = false ∧ ∀ (G' : Known) (w' : World) (B : Nat → Prop), sres G' w' B x v
theorem same_int (k : IntKind) (n : Int) : Same (.int k n) (.int k n) := ⟨rfl, fun _ _ _ => by simp only [sres]; unfold rep; rfl⟩
theorem same_str (l : List UInt8) : Same (.str l) (.string ⟨l.toArray⟩) := ⟨rfl, fun _ _ _ => by simp only [sres]; unfold rep; rfl⟩
theorem res_tup {xs : List V} {vs : List Value} (h : PW Same xs vs) : ∀ (G' : Known) (w' : World) (B : Nat → Prop), resrep G' w' B (.tup xs) (.tuple vs.toArray) := by
  intro G w B
  refine ⟨vs, rfl, h.mono fun x _ v hx => hx.2 G w B, ?_⟩
  have : xs.countP hasL = 0 := by
    rw [List.countP_eq_zero]
    intro x hx
    obtain ⟨i, hi⟩ := List.getElem?_of_mem hx
    obtain ⟨v, _, hv⟩ := h.get hi
    rw [hv.1]; decide
  omega
theorem res_two {x y : V} {a b : Value} (h : Same x a) (k : Same y b) : ∀ (G' : Known) (w' : World) (B : Nat → Prop), resrep G' w' B (.tup [x, y]) (.tuple #[a, b]) := res_tup (vs := [a, b]) (.cons h (.cons k .nil))
end Nt.Ev

set_option linter.unusedVariables false
set_option linter.unusedSimpArgs false
namespace Go.Proofs.Ytochbeiihhbmeaa
open Go Nt Nt.Ev Nt.Num
def nS0 : List (Nat × FSpec) := []
end Go.Proofs.Ytochbeiihhbmeaa

namespace Nt
open Go Go.RowKit Go.ChangeShapes Go.WideShapes Go.ChangeAt
open Go.ChangeMaps (open_string shut_string)
section
variable {H : Type} {enc : TypeId × Value → H} {P : Program}
theorem trodAll_below (hl : laidOutB P = true) {W W' : World} (hb : Below W.heap.size W W') :
    ∀ (ts : List TypeId) (vs : List Value) (ds : List (DataW H)) (ps : List MemPlace), (ts.all fun t => P.readableRec t && decide (t < P.types.size)) = true →
    DataW.TrodAll enc P W 0 (fun _ => true) true ts vs ds ps → DataW.TrodAll enc P W' 0 (fun b => decide (b < W.heap.size)) true ts vs ds ps
  | [], [], [], _, _, h => h
  | [], _ :: _, _, _, _, h => by simp [DataW.TrodAll] at h
  | [], [], _ :: _, _, _, h => by simp [DataW.TrodAll] at h
  | _ :: _, [], _, _, _, h => by simp [DataW.TrodAll] at h
  | _ :: _, _ :: _, [], _, _, h => by simp [DataW.TrodAll] at h
  | t :: ts, v :: vs, d :: ds, ps, hr, h => by
    simp only [List.all_cons, Bool.and_eq_true, decide_eq_true_eq] at hr
    obtain ⟨p, q, hp, hq, e⟩ := h
    refine ⟨p, q, ?_, trodAll_below hl hb ts vs ds q hr.2 hq, e⟩
    have lt : ∀ x ∈ p, x.block < W.heap.size := by obtain ⟨m, hm⟩ := hp; exact DataW.trod_lt m _ _ _ hm
    exact Below.trod hl hr.1.1 hr.1.2 hp hb lt
end
end Nt

set_option linter.unusedVariables false
set_option linter.unusedSimpArgs false
namespace Nt
open Go Go.RowKit Go.ChangeShapes Go.WideShapes Go.ChangeAt
section
variable {H : Type} {enc : TypeId × Value → H} {P : Program}
end
end Nt

set_option linter.unusedVariables false
set_option linter.unusedSimpArgs false
set_option linter.unusedSectionVars false
namespace Nt.Ev.Ytochbeiihhbmeaa
open Go Nt.Num Go.Proofs.Ytochbeiihhbmeaa
noncomputable def oE : Env := ⟨Go.Proofs.Try.prog, fun _ => none⟩
noncomputable def oS : List (Nat × FSpec) := []
noncomputable def vSame_L0 (F : Nat) (ns : List Nat) (n : Nat) (x0 : List V) (x1 : List V) (x4 : Bool) (x12 : Int) (x13 : Int) (K : V → Option V) : Option V :=
 loopAt oE oS F 2 9 [1, 1, 0, 1, 0] ns K n (mkSt 26 [(0, V.sl 9 [(Kd.str)] none x0), (1, V.sl 9 [(Kd.str)] none x1), (4, V.bool x4), (12, V.int .i64 x12), (13, V.int .i64 x13)] [])
set_option maxRecDepth 100000 in
theorem vSame_top (F : Nat) (xs : List V) (ys : List V) (K : V → Option V) :
 evBd oE (evFn oE oS F 2) F 9 [(V.sl 9 [(Kd.str)] none xs), (V.sl 9 [(Kd.str)] none ys)] K =
 sel (bnot (ieq (llen xs) (llen ys)))
 (K (V.bool false))
 (vSame_L0 F [] F xs ys false (llen xs) 0 K) := by kernel_rfl
set_option maxRecDepth 100000 in
theorem vSame_L0_succ (F : Nat) (n : Nat) (x0 : List V) (x1 : List V) (x4 : Bool) (x12 : Int) (x13 : Int) (K : V → Option V) :
 vSame_L0 F [] (n + 1) x0 x1 x4 x12 x13 K =
 sel (ilt x13 x12)
 (sel (band (ile 0 x13) (ilt x13 (llen x0)))
 (sel (band (ile 0 x13) (ilt x13 (llen x1)))
 (sel (bnot (seq (asStr (acell (lget x0 x13) 0)) (asStr (acell (lget x1 x13) 0))))
 (K (V.bool false))
 (vSame_L0 F [] n x0 x1 x4 x12 (iadd .i64 x13 1) K))
 (none))
 (none))
 (K (V.bool true)) := by kernel_rfl
end Nt.Ev.Ytochbeiihhbmeaa

set_option linter.unusedVariables false
set_option linter.unusedSimpArgs false
set_option linter.unusedSectionVars false
namespace Nt.Ev.Ytochbeiihhbmeaa
open Go Go.RowKit Nt Nt.Num Go.Proofs.Ytochbeiihhbmeaa
theorem oE_ok : EOk oE := ⟨by kernel_rfl, by kernel_rfl⟩
theorem oS_ok : SOk oE oS := SOk.nil
def strsOf (xs : List V) : List (List UInt8) := xs.map fun x => asStr (acell x 0)
def sameL (xs ys : List V) : Bool := strsOf xs == strsOf ys
theorem vs_drop (l : List V) (i : Nat) (h : i < l.length) : (strsOf l).drop i = asStr (acell (lget l (i : Int)) 0) :: (strsOf l).drop (i + 1) := by
  have hl : (strsOf l).length = l.length := by unfold strsOf; simp
  rw [List.drop_eq_getElem_cons (by omega)]
  congr 1
  unfold strsOf
  rw [List.getElem_map]
  unfold lget
  rw [Int.toNat_natCast, List.getD_eq_getElem?_getD, List.getElem?_eq_getElem h]; rfl
theorem vs_len (l : List V) : (strsOf l).length = l.length := by unfold strsOf; simp
theorem vs_loop (xs ys : List V) (x4 : Bool) (F : Nat) (hl : xs.length = ys.length) (hm : xs.length ≤ 1000000000) : ∀ (j i n : Nat), i + j = xs.length → j < n → vSame_L0 F [] n xs ys x4 (llen xs) (i : Int) some = some (.bool ((strsOf xs).drop i == (strsOf ys).drop i)) := by
  intro j
  induction j with
  | zero =>
    intro i n hi hn
    obtain ⟨n, rfl⟩ : ∃ m, n = m + 1 := ⟨n - 1, by omega⟩
    rw [vSame_L0_succ, sel_neg (ilt_f (by rw [llen_nat]; omega)), List.drop_of_length_le (by rw [vs_len]; omega), List.drop_of_length_le (by rw [vs_len]; omega)]; rfl
  | succ j ih =>
    intro i n hi hn
    obtain ⟨n, rfl⟩ : ∃ m, n = m + 1 := ⟨n - 1, by omega⟩
    rw [vSame_L0_succ, sel_pos (ilt_t (by rw [llen_nat]; omega)), sel_pos (by rw [band_iff, ile_iff, ilt_iff, llen_nat]; omega), sel_pos (by rw [band_iff, ile_iff, ilt_iff, llen_nat]; omega), iadd64 (by omega)]
    rw [vs_drop xs i (by omega), vs_drop ys i (by omega)]
    have e : ∀ (a b : List UInt8) (l m : List (List UInt8)), (a :: l == b :: m) = (seq a b && (l == m)) := fun a b l m => rfl
    rw [e]
    cases seq (asStr (acell (lget xs (i : Int)) 0)) (asStr (acell (lget ys (i : Int)) 0)) with
    | false => rfl
    | true =>
      rw [sel_neg (show bnot true = false from rfl), show (i : Int) + 1 = ((i + 1 : Nat) : Int) by omega, ih (i + 1) n (by omega) (by omega)]; rfl
theorem vSame_ev (xs ys : List V) (hc : xs.length ≤ 1000000000) : Contract oE 9 [.sl 9 [.str] none xs, .sl 9 [.str] none ys] (.bool (sameL xs ys)) := by
  refine contract_of_body oE_ok oS_ok (xs.length + 1) 2 ?_
  rw [vSame_top]
  unfold sameL
  by_cases h : xs.length = ys.length
  · have e : ieq (llen xs) (llen ys) = true := ieq_t (by rw [llen_nat, llen_nat]; omega)
    rw [e, sel_neg (show bnot true = false from rfl)]
    exact vs_loop xs ys false _ h (by omega) xs.length 0 (xs.length + 1) (by omega) (by omega)
  · have e : ieq (llen xs) (llen ys) = false := ieq_f (by rw [llen_nat, llen_nat]; omega)
    rw [e, sel_pos (show bnot false = true from rfl)]
    have h2 : (strsOf xs == strsOf ys) = false := by
      rw [beq_eq_false_iff_ne]
      intro h3
      have := congrArg List.length h3
      rw [vs_len, vs_len] at this
      exact h this
    rw [h2]
theorem sameL_refl (xs : List V) : sameL xs xs = true := by unfold sameL; rw [beq_self_eq_true]
end Nt.Ev.Ytochbeiihhbmeaa
