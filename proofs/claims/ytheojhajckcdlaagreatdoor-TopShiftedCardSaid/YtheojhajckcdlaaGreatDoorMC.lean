/-
  Plain facts on bytes, strings and byte lists, used by all walks of this work. No program in sight. The plain law of num: whole numbers that do not go round. The plain law of numbers' texts: digits, in order. The plain law of numbers that are read. The plain law of numbers there and back: what is written is read, and what is read is written. The plain law of words: what it means that a word begins with a text, large and small letters alike. The plain law of words, more of it: a longer beginning of the same word means the same. From the shelf's contracts to the evaluator's: slices of strings that a call makes. From contracts of calls that turn no given block to the evaluator's contracts. Numbers' digits and texts: the program's and the reference's. What a law's row gives the walk, and what the walk gives back: facts that hold of every program. What a law's row gives the walk, with the form's own reach: sizes of what is read. Same: equations of functions, as the evaluator prints them. Whether two rows of strings are the same.
-/
import Derived.WalkKit
import Derived.WalkSpells
import Derived.WalkLawsBesides
import Derived.Deep.QuietTactic
import Derived.BigQuiet
import Derived.Handy
import Derived.Lib.Hide
import Derived.Lib.Strings
import Derived.Lib.SlTrimSet
import Derived.Test.YtheojhajckcdlaaGreatDoorMBB
import Derived.Lib.SplitLaws
import Derived.Test.YtheojhajckcdlaaGreatDoorProg
import Derived.ProofKit
import Derived.OpenShut
import Derived.ShutString
import Derived.ChangeOld
import Derived.Below
import Derived.SliceStrings
import Derived.LaidMore
import Derived.Stop.Joined
set_option linter.unusedVariables false
set_option linter.unusedSimpArgs false
set_option linter.unusedSectionVars false
namespace Nt
open Go Go.RowKit
def Strs (w : World) (p : Option Addr) (len : Nat) (ss : List ByteArray) : Prop :=
  ss.length = len ∧ (∀ s ∈ ss, s.size ≤ maxLen) ∧ (0 < len → ∃ b off, p = some ⟨b, off, none⟩ ∧ b < w.heap.size ∧ ∀ i, i < len → w.cell? ⟨b, off + i, none⟩ = some (.string (ss.getD i ByteArray.empty)))
theorem Strs.below {w w' : World} {p : Option Addr} {len : Nat} {ss : List ByteArray} (h : Strs w p len ss) (hb : Below w.heap.size w w') : Strs w' p len ss := by
  obtain ⟨h1, h2, h3⟩ := h
  refine ⟨h1, h2, fun hp => ?_⟩
  obtain ⟨b, off, e, hlt, hc⟩ := h3 hp
  exact ⟨b, off, e, Nat.lt_of_lt_of_le hlt hb.size, fun i hi => (hb.cell (p := ⟨b, off + i, none⟩) hlt).trans (hc i hi)⟩
theorem below_drewN {B : Nat} {a w : World} (h : Below B a w) (n : Nat) : Below B a (w.drewN n) := ⟨h.os, h.tape, h.output, h.size, h.block⟩
theorem Strs.made (w : World) (e : TypeId) (ss : List ByteArray) (n : Nat) (hn : ss.length = n) (hs : ∀ s ∈ ss, s.size ≤ maxLen) :
    Strs (w.alloc (.cells (ss.map Value.string).toArray e)) (some ⟨w.heap.size, 0, none⟩) n ss := by
  refine ⟨hn, hs, fun _ => ⟨w.heap.size, 0, rfl, by simp, fun i hi => ?_⟩⟩
  rw [World.cell?_alloc_at _ _ _ _ rfl]
  simp [List.getD_eq_getElem?_getD, List.getElem?_eq_getElem (show i < ss.length by omega)]
theorem below_drew {B : Nat} {w w' : World} (h : ∃ n, w' = w.drewN n) : Below B w w' := by
  obtain ⟨n, rfl⟩ := h
  exact Nt.below_drewN (Below.refl _ _) n
theorem toList_eq (s : ByteArray) : s.toList = s.data.toList := ByteArray.toList_eq s
end Nt

namespace Nt.Num
open Go Go.RowKit Nt
def Fits (n : Int) : Prop := -9223372036854775808 ≤ n ∧ n ≤ 9223372036854775807
instance (n : Int) : Decidable (Fits n) := inferInstanceAs (Decidable (_ ∧ _))
def divs (a b : Int) : Int × Int × Int :=
  if b = 0 ∨ (a = -9223372036854775808 ∧ b = -1) then (0, 0, 1)
  else if a.tmod b ≠ 0 ∧ ¬ (a.tmod b < 0 ↔ b < 0) then (a.tdiv b - 1, a.tmod b + b, 0) else (a.tdiv b, a.tmod b, 0)
theorem divs_rest (a b : Int) (h0 : b ≠ 0) (hm : ¬ (a = -9223372036854775808 ∧ b = -1)) :
    divs a b = if a.tmod b ≠ 0 ∧ ¬ (a.tmod b < 0 ↔ b < 0) then (a.tdiv b - 1, a.tmod b + b, 0) else (a.tdiv b, a.tmod b, 0) := by
  unfold divs
  rw [if_neg (by rintro (h | h); exact h0 h; exact hm h)]
theorem tmod_lt (a b : Int) (h0 : b ≠ 0) : -(b.natAbs : Int) < a.tmod b ∧ a.tmod b < b.natAbs := by
  have h1 := Int.natAbs_tmod a b
  have h2 : (a.tmod b).natAbs < b.natAbs := by rw [h1]; exact Nat.mod_lt _ (by omega)
  omega
theorem tdiv_abs (a b : Int) : (a.tdiv b).natAbs ≤ a.natAbs := by
  rw [Int.natAbs_tdiv]
  exact Nat.div_le_self _ _
theorem div_bounds (a b : Int) (ha : Fits a) (hb : Fits b) (h0 : b ≠ 0) (hm : ¬ (a = -9223372036854775808 ∧ b = -1)) :
    -9223372036854775808 ≤ a.tdiv b ∧ a.tdiv b ≤ 9223372036854775807 ∧ -9223372036854775807 ≤ a.tmod b ∧ a.tmod b ≤ 9223372036854775807 := by
  obtain ⟨a1, a2⟩ := ha
  obtain ⟨b1, b2⟩ := hb
  have r := tmod_lt a b h0
  have q := tdiv_abs a b
  refine ⟨by omega, ?_, by omega, by omega⟩
  by_cases h1 : a = -9223372036854775808
  · have hb1 : b ≠ -1 := fun h => hm ⟨h1, h⟩
    by_cases hb2 : b = 1
    · subst hb2; rw [Int.tdiv_one]; omega
    · have h2 : (a.tdiv b).natAbs = a.natAbs / b.natAbs := Int.natAbs_tdiv a b
      have h3 : a.natAbs / b.natAbs ≤ a.natAbs / 2 := Nat.div_le_div_left (by omega) (by omega)
      omega
  · omega
theorem xor_neg (r b : Int) (hr : Fits r) (hb : Fits b) : bits .xor .i64 r b < 0 ↔ ¬ (r < 0 ↔ b < 0) := by
  have msb : ∀ x : Int, Fits x → (BitVec.ofInt 64 x).msb = decide (x < 0) := fun x hx => by
    rw [BitVec.msb_eq_toInt, BitVec.toInt_ofInt, Int.bmod_eq_of_le (by unfold Fits at hx; omega) (by unfold Fits at hx; omega)]
  have h1 : ∀ n : Nat, n < 18446744073709551616 → (IntKind.i64.wrap (n : Int) < 0 ↔ 9223372036854775808 ≤ n) := fun n hn => by rw [IntKind.wrap_i64]; omega
  have h2 : (BitVec.ofInt 64 r ^^^ BitVec.ofInt 64 b).msb = (decide (r < 0) ^^ decide (b < 0)) := by rw [BitVec.msb_xor, msb r hr, msb b hb]
  have h3 : bits .xor .i64 r b = IntKind.i64.wrap (((BitVec.ofInt 64 r ^^^ BitVec.ofInt 64 b).toNat : Nat) : Int) := rfl
  have h4 := (BitVec.ofInt 64 r ^^^ BitVec.ofInt 64 b).isLt
  rw [h3, h1 _ h4]
  have h5 := BitVec.msb_eq_decide (BitVec.ofInt 64 r ^^^ BitVec.ofInt 64 b)
  rw [h2] at h5
  have h6 : (9223372036854775808 ≤ (BitVec.ofInt 64 r ^^^ BitVec.ofInt 64 b).toNat) ↔ (decide (r < 0) ^^ decide (b < 0)) = true := by
    rw [h5, decide_eq_true_eq]
  rw [h6]
  by_cases hr0 : r < 0 <;> by_cases hb0 : b < 0 <;> simp [hr0, hb0]
end Nt.Num

namespace Nt.Num
open Go Go.RowKit Nt
def bs (l : List UInt8) : ByteArray := ⟨l.toArray⟩
theorem bs_size (l : List UInt8) : (bs l).size = l.length := by simp [bs, ByteArray.size]
def digit (k : Nat) : UInt8 := UInt8.ofNat (48 + k)
theorem digit_toNat (k : Nat) (h : k < 10) : (digit k).toNat = 48 + k := by
  unfold digit
  rw [UInt8.toNat_ofNat']
  omega
def digsF : Nat → Nat → List UInt8
  | 0, _ => []
  | f + 1, n => if n < 10 then [digit n] else digsF f (n / 10) ++ [digit (n % 10)]
theorem digsF_irrel : ∀ (f g n : Nat), n < f → n < g → digsF f n = digsF g n
  | 0, _, _, h, _ => by omega
  | _, 0, _, _, h => by omega
  | f + 1, g + 1, n, h1, h2 => by
    unfold digsF
    split
    · rfl
    · rw [digsF_irrel f g (n / 10) (by omega) (by omega)]
def digs (n : Nat) : List UInt8 := digsF (n + 1) n
theorem digs_small (n : Nat) (h : n < 10) : digs n = [digit n] := by unfold digs digsF; rw [if_pos h]
theorem digs_step (n : Nat) (h : 10 ≤ n) : digs n = digs (n / 10) ++ [digit (n % 10)] := by
  conv => lhs; unfold digs digsF
  rw [if_neg (by omega), digsF_irrel n (n / 10 + 1) (n / 10) (by omega) (by omega)]
  rfl
theorem digs_len : ∀ (f n : Nat), n < 10 ^ f → 0 < f → (digs n).length ≤ f ∧ 0 < (digs n).length
  | 0, _, _, h => by omega
  | f + 1, n, h, _ => by
    by_cases hn : n < 10
    · rw [digs_small n hn]; simp
    · rw [digs_step n (by omega)]
      have hf : 0 < f := by
        by_cases h0 : f = 0
        · subst h0; omega
        · omega
      have := digs_len f (n / 10) (by rw [Nat.pow_succ] at h; omega) hf
      simp; omega
def text (n : Int) : List UInt8 := (if n < 0 then [45] else []) ++ digs n.natAbs
def ahead (u k m : Nat) : List UInt8 := if m ≤ k then digs (u / 10 ^ m) else []
theorem ahead_step (u k m : Nat) (hk : u / 10 ^ k < 10) (hl : k = 0 ∨ 10 ^ k ≤ u) (hm : m ≤ k) : ahead u k m = ahead u k (m + 1) ++ [digit (u / 10 ^ m % 10)] := by
  unfold ahead
  rw [if_pos hm]
  by_cases h : m = k
  · subst h
    rw [if_neg (by omega), digs_small _ hk, List.nil_append, Nat.mod_eq_of_lt hk]
  · rw [if_pos (by omega)]
    have h1 : 10 ^ (m + 1) ≤ u := by
      rcases hl with hl | hl
      · omega
      · exact Nat.le_trans (Nat.pow_le_pow_right (by decide) (by omega)) hl
    have h2 : 10 ≤ u / 10 ^ m := by
      rw [Nat.le_div_iff_mul_le (Nat.pow_pos (by decide))]
      rw [Nat.pow_succ] at h1; omega
    rw [digs_step _ h2, Nat.div_div_eq_div_mul, Nat.pow_succ]
theorem ahead_all (u k : Nat) : ahead u k 0 = digs u := by unfold ahead; simp
end Nt.Num

namespace Nt.Num
open Go Go.RowKit Nt
def val (d : List UInt8) : Nat := d.foldl (fun n c => 10 * n + (c.toNat - 48)) 0
end Nt.Num

namespace Nt.Num
open Go Go.RowKit Nt
end Nt.Num

namespace Nt.Words
open Go Nt
def low (c : UInt8) : UInt8 := if 65 ≤ c.toNat ∧ c.toNat ≤ 90 then UInt8.ofNat (c.toNat + 32) else c
def alike (x y : UInt8) : Bool := low x == low y
end Nt.Words

namespace Nt.Words
open Go Nt
end Nt.Words

namespace Nt.Ev
open Go Go.RowKit
class MLen where val : Int
theorem PW_two {G : Known} {a b : V} {vs : List Value} (h : PW (rep G) [a, b] vs) : ∃ x y, vs = [x, y] ∧ rep G a x ∧ rep G b y := by
  obtain ⟨x, t, rfl, h1, h2⟩ := h.cons_inv
  obtain ⟨y, t, rfl, h3, h4⟩ := h2.cons_inv
  exact ⟨x, y, by rw [h4.nil_iff], h1, h3⟩
theorem PW_one {G : Known} {a : V} {vs : List Value} (h : PW (rep G) [a] vs) : ∃ x, vs = [x] ∧ rep G a x := by
  obtain ⟨x, t, rfl, h1, h2⟩ := h.cons_inv
  exact ⟨x, by rw [h2.nil_iff], h1⟩
theorem glob_int {E : Env} {G : Known} {w : World} (hG : GOk G w) (hg : GlobOk E G) {n : Nat} {k : IntKind} {m : Int} (h : E.glob n = some (.rptr [.int k] (.int k m) 0)) : w.cell? ⟨n, 0, none⟩ = some (.int k m) := by
  have := (hg n _ h).2
  unfold rep at this
  obtain ⟨b, o, l, e, hb, _, u, hu, hc⟩ := this
  unfold rep at hu
  subst hu
  simp only [Value.pointer.injEq, Option.some.injEq, Addr.mk.injEq, Nat.add_zero, and_true] at e
  obtain ⟨rfl, rfl⟩ := e
  refine known_cell hG hb ?_
  have h1 := congrArg (fun l => l[0]?) hc
  simpa [Value.cells] using h1
end Nt.Ev

namespace Nt.Ev
open Go Go.RowKit Nt
theorem contract_old {E : Env} {f : Nat} {args : List V} {r : V} (h : ∀ (G : Known) (w : World) (vs : List Value), GOk G w → GlobOk E G → PW (rep G) args vs →
    Calls E.P f vs.toArray w fun e w' => ∃ v, e = .returned v ∧ Below w.heap.size w w' ∧ ∀ (G' : Known) (w' : World) (B : Nat → Prop), resrep G' w' B r v) : Contract E f args r := by
  intro G w vs hG hg hp
  refine (h G w vs hG hg hp).mono ?_
  rintro e w' ⟨v, rfl, hb, hr⟩
  refine ⟨v, G, rfl, ⟨hb, fun _ _ => rfl, fun b l hl => ?_⟩, hr _ _ _⟩
  obtain ⟨c, e, fr, hc, ht⟩ := hG b l hl
  exact ⟨c, e, fr, by rw [hb.block b (known_lt hG hl)]; exact hc, ht⟩
theorem res_int (k : IntKind) (n : Int) : ∀ (G' : Known) (w' : World) (B : Nat → Prop), resrep G' w' B (.int k n) (.int k n) := fun _ _ _ => by simp only [resrep, sres]; unfold rep; rfl
theorem res_str (l : List UInt8) : ∀ (G' : Known) (w' : World) (B : Nat → Prop), resrep G' w' B (.str l) (.string ⟨l.toArray⟩) := fun _ _ _ => by simp only [resrep, sres]; unfold rep; rfl
def Same (x : V) (v : Value) : Prop := hasL x = false ∧ ∀ (G' : Known) (w' : World) (B : Nat → Prop), sres G' w' B x v
theorem same_int (k : IntKind) (n : Int) : Same (.int k n) (.int k n) := ⟨rfl, fun _ _ _ => by simp only [sres]; unfold rep; rfl⟩
theorem same_bool (b : Bool) : Same (.bool b) (.bool b) := ⟨rfl, fun _ _ _ => by simp only [sres]; unfold rep; rfl⟩
theorem same_str (l : List UInt8) : Same (.str l) (.string ⟨l.toArray⟩) := ⟨rfl, fun _ _ _ => by simp only [sres]; unfold rep; rfl⟩
theorem res_tup {xs : List V} {vs : List Value} (h : PW Same xs vs) : ∀ (G' : Known) (w' : World) (B : Nat → Prop), resrep G' w' B (.tup xs) (.tuple vs.toArray) := by
  intro G w B
  refine ⟨vs, rfl, h.mono fun x _ v hx => hx.2 G w B, ?_⟩
  have : xs.countP hasL = 0 := by
    rw [List.countP_eq_zero]
    intro x hx
    obtain ⟨i, hi⟩ := List.getElem?_of_mem hx
    obtain ⟨v, _, hv⟩ := h.get hi
    rw [hv.1]; decide
  omega
theorem res_two {x y : V} {a b : Value} (h : Same x a) (k : Same y b) : ∀ (G' : Known) (w' : World) (B : Nat → Prop), resrep G' w' B (.tup [x, y]) (.tuple #[a, b]) := res_tup (vs := [a, b]) (.cons h (.cons k .nil))
theorem res_three {x y z : V} {a b c : Value} (h : Same x a) (k : Same y b) (l : Same z c) : ∀ (G' : Known) (w' : World) (B : Nat → Prop), resrep G' w' B (.tup [x, y, z]) (.tuple #[a, b, c]) := res_tup (vs := [a, b, c]) (.cons h (.cons k (.cons l .nil)))
end Nt.Ev

namespace Go.Proofs.YtheojhajckcdlaaGreatDoor
open Go Nt Nt.Ev Nt.Num
noncomputable def nE : Env := ⟨Tryz.prog, fun _ => none⟩
theorem nE_ok : EOk nE := ⟨by kernel_rfl, by kernel_rfl⟩
def nS0 : List (Nat × FSpec) := []
noncomputable def nText_L0 (F : Nat) (ns : List Nat) (n : Nat) (x0 : Int) (x3 : List V) (x4 : Int) (x5 : Int) (K : V → Option V) : Option V :=
  loopAt nE nS0 F 1 66 [1, 1, 1, 1, 1, 0, 0] ns K n (mkSt 35 [(0, V.int .i64 x0), (2, V.str []), (3, V.sl 5 [(Kd.int .u8)] (some 3) x3), (4, V.int .u64 x4), (5, V.int .u64 x5)] [])
noncomputable def nText_L1 (F : Nat) (ns : List Nat) (n : Nat) (x0 : Int) (x3 : List V) (x4 : Int) (x5 : Int) (K : V → Option V) : Option V :=
  loopAt nE nS0 F 1 66 [1, 1, 1, 1, 1, 1, 0, 0] ns K n (mkSt 35 [(0, V.int .i64 x0), (2, V.str []), (3, V.sl 5 [(Kd.int .u8)] (some 3) x3), (4, V.int .u64 x4), (5, V.int .u64 x5)] [])
set_option maxRecDepth 100000 in
theorem nText_top (F : Nat) (m : Int) (K : V → Option V) :
    evBd nE (evFn nE nS0 F 1) F 66 [(V.int .i64 m)] K =
    sel (ilt m 0)
      (sel (okApp (lrep 0 (V.int .u8 0)) [(V.int .u8 45)])
        (sel (ilt m 0)
          (nText_L0 F [] F m (lcat (lrep 0 (V.int .u8 0)) [(V.int .u8 45)]) (isub .u64 0 (icnv .u64 m)) 1 K)
          (nText_L0 F [] F m (lcat (lrep 0 (V.int .u8 0)) [(V.int .u8 45)]) (icnv .u64 m) 1 K))
        (none))
      (sel (ilt m 0)
        (nText_L0 F [] F m (lrep 0 (V.int .u8 0)) (isub .u64 0 (icnv .u64 m)) 1 K)
        (nText_L0 F [] F m (lrep 0 (V.int .u8 0)) (icnv .u64 m) 1 K)) := by kernel_rfl
set_option maxRecDepth 100000 in
theorem nText_L0_succ (F : Nat) (n : Nat) (x0 : Int) (x3 : List V) (x4 : Int) (x5 : Int) (K : V → Option V) :
    nText_L0 F [] (n + 1) x0 x3 x4 x5 K =
    sel (bnot (ieq x5 0))
      (sel (ile 10 (iquo .u64 x4 x5))
        (nText_L0 F [] n x0 x3 x4 (imul .u64 x5 10) K)
        (nText_L1 F [] F x0 x3 x4 x5 K))
      (none) := by kernel_rfl
set_option maxRecDepth 100000 in
theorem nText_L1_succ (F : Nat) (n : Nat) (x0 : Int) (x3 : List V) (x4 : Int) (x5 : Int) (K : V → Option V) :
    nText_L1 F [] (n + 1) x0 x3 x4 x5 K =
    sel (ilt 0 x5)
      (sel (bnot (ieq x5 0))
        (sel (okApp x3 [(V.int .u8 (icnv .u8 (iadd .u64 48 (irem (iquo .u64 x4 x5) 10))))])
          (nText_L1 F [] n x0 (lcat x3 [(V.int .u8 (icnv .u8 (iadd .u64 48 (irem (iquo .u64 x4 x5) 10))))]) x4 (iquo .u64 x5 10) K)
          (none))
        (none))
      (K (V.str (vbytes x3))) := by kernel_rfl
theorem nText_up (m : Int) (x3 : List V) (F : Nat) (K : V → Option V) (u : Nat) (hu : u ≤ 9223372036854775808) : ∀ (n k : Nat), (k = 0 ∨ 10 ^ k ≤ u) → 20 < n + k →
    ∃ j, (j = 0 ∨ 10 ^ j ≤ u) ∧ u / 10 ^ j < 10 ∧ nText_L0 F [] n m x3 (u : Int) ((10 ^ k : Nat) : Int) K = nText_L1 F [] F m x3 (u : Int) ((10 ^ j : Nat) : Int) K := by
  intro n
  induction n with
  | zero =>
    intro k hk hn
    exfalso
    have h1 : 10 ^ 21 ≤ 10 ^ k := Nat.pow_le_pow_right (by decide) (by omega)
    rcases hk with rfl | hk <;> omega
  | succ n ih =>
    intro k hk hn
    have hp : 0 < 10 ^ k := Nat.pow_pos (by decide)
    have hple : 10 ^ k ≤ 9223372036854775808 := by
      rcases hk with rfl | hk
      · decide
      · omega
    rw [nText_L0_succ]
    simp only [sel_if, bnot_iff, ieq_iff, ile_iff]
    rw [if_pos (by omega)]
    have hq : iquo .u64 (u : Int) ((10 ^ k : Nat) : Int) = ((u / 10 ^ k : Nat) : Int) := by
      rw [iquou64 (by omega) (by omega) (by omega)]; rfl
    rw [hq]
    by_cases h10 : 10 ≤ u / 10 ^ k
    · rw [if_pos (by omega)]
      have h1 : 10 ^ (k + 1) ≤ u := by
        rw [Nat.le_div_iff_mul_le hp] at h10
        rw [Nat.pow_succ]; omega
      have hm : imul .u64 ((10 ^ k : Nat) : Int) 10 = ((10 ^ (k + 1) : Nat) : Int) := by
        rw [imulu64 (by rw [Nat.pow_succ] at h1; omega), Nat.pow_succ]; omega
      rw [hm]
      exact ih (k + 1) (.inr h1) (by omega)
    · rw [if_neg (by omega)]
      exact ⟨k, hk, by omega, rfl⟩
theorem lcat_map (l : List UInt8) (c : UInt8) : lcat (bytesV l) [V.int .u8 (c.toNat : Int)] = bytesV (l ++ [c]) := by unfold lcat bytesV; simp
theorem vbytes_map (l : List UInt8) : vbytes (bytesV l) = l := by
  unfold vbytes bytesV
  rw [List.map_map]
  conv => rhs; rw [← List.map_id l]
  refine List.map_congr_left fun c _ => ?_
  show UInt8.ofNat ((c.toNat : Int)).toNat = c
  simp
theorem nText_down (m : Int) (F : Nat) (K : V → Option V) (u k : Nat) (hu : u ≤ 9223372036854775808) (hk : u / 10 ^ k < 10) (hl : k = 0 ∨ 10 ^ k ≤ u) (pre : List UInt8) (hpre : pre.length ≤ 1) :
    ∀ (j n : Nat), j ≤ k → j + 1 < n → nText_L1 F [] n m (bytesV (pre ++ Num.ahead u k (j + 1))) (u : Int) ((10 ^ j : Nat) : Int) K = K (.str (pre ++ digs u)) := by
  have hk20 : k ≤ 20 := by
    rcases Nat.lt_or_ge 20 k with h | h
    · exfalso
      have h1 : 10 ^ 21 ≤ 10 ^ k := Nat.pow_le_pow_right (by decide) (by omega)
      rcases hl with rfl | hl <;> omega
    · exact h
  have step : ∀ (j n : Nat), j ≤ k → nText_L1 F [] (n + 1) m (bytesV (pre ++ Num.ahead u k (j + 1))) (u : Int) ((10 ^ j : Nat) : Int) K = nText_L1 F [] n m (bytesV (pre ++ Num.ahead u k j)) (u : Int) ((10 ^ j / 10 : Nat) : Int) K := by
    intro j n hj
    have hp : 0 < 10 ^ j := Nat.pow_pos (by decide)
    have hple : 10 ^ j ≤ 9223372036854775808 := by
      rcases hl with rfl | hl
      · obtain rfl : j = 0 := by omega
        decide
      · exact Nat.le_trans (Nat.le_trans (Nat.pow_le_pow_right (by decide) hj) hl) hu
    rw [nText_L1_succ]
    simp only [sel_if, bnot_iff, ieq_iff, ilt_iff, okApp_iff]
    have hlen : (bytesV (pre ++ Num.ahead u k (j + 1))).length ≤ 100 := by
      unfold bytesV
      rw [List.length_map, List.length_append]
      have : (Num.ahead u k (j + 1)).length ≤ 20 := by
        unfold Num.ahead
        split
        · refine (digs_len 20 _ ?_ (by decide)).1
          have := Nat.div_le_self u (10 ^ (j + 1))
          omega
        · simp
      omega
    rw [if_pos (by omega), if_pos (by omega), if_pos (by simp; omega)]
    have hq : iquo .u64 (u : Int) ((10 ^ j : Nat) : Int) = ((u / 10 ^ j : Nat) : Int) := by
      rw [iquou64 (by omega) (by omega) (by omega)]; rfl
    have hr : irem ((u / 10 ^ j : Nat) : Int) 10 = ((u / 10 ^ j % 10 : Nat) : Int) := by rw [irem_pos (Int.natCast_nonneg _)]; rfl
    have hd := digit_toNat (u / 10 ^ j % 10) (Nat.mod_lt _ (by decide))
    have hc : icnv .u8 (iadd .u64 48 ((u / 10 ^ j % 10 : Nat) : Int)) = ((digit (u / 10 ^ j % 10)).toNat : Int) := by
      have hm := Nat.mod_lt (u / 10 ^ j) (show 0 < 10 by decide)
      rw [iaddu64 (by omega), icnvu8 (by omega), hd]; omega
    have hq2 : iquo .u64 ((10 ^ j : Nat) : Int) 10 = ((10 ^ j / 10 : Nat) : Int) := by
      rw [iquou64 (by omega) (by omega) (by omega)]; rfl
    rw [hq, hr, hc, hq2, lcat_map, List.append_assoc, ← ahead_step u k j hk hl hj]
  intro j
  induction j with
  | zero =>
    intro n hj hn
    obtain ⟨n, rfl⟩ : ∃ n', n = n' + 1 := ⟨n - 1, by omega⟩
    rw [step 0 n hj, ahead_all]
    obtain ⟨n, rfl⟩ : ∃ n', n = n' + 1 := ⟨n - 1, by omega⟩
    rw [nText_L1_succ]
    simp only [sel_if, ilt_iff]
    rw [if_neg (by decide), vbytes_map]
  | succ j ih =>
    intro n hj hn
    obtain ⟨n, rfl⟩ : ∃ n', n = n' + 1 := ⟨n - 1, by omega⟩
    have e1 : 10 ^ (j + 1) / 10 = 10 ^ j := by rw [Nat.pow_succ]; omega
    rw [step (j + 1) n hj, e1]
    exact ih n (by omega) (by omega)
theorem nText_ev (m : Int) (h : Fits m) : Contract nE 66 [.int .i64 m] (.str (text m)) := by
  obtain ⟨h1, h2⟩ := h
  refine contract_of_body nE_ok (S := nS0) SOk.nil 30 1 ?_
  rw [nText_top]
  simp only [sel_if, ilt_iff, okApp_iff]
  have both : ∀ (pre : List UInt8) (u : Nat), pre.length ≤ 1 → u ≤ 9223372036854775808 → nText_L0 30 [] 30 m (bytesV pre) (u : Int) 1 some = some (.str (pre ++ digs u)) := by
    intro pre u hp hu
    obtain ⟨j, hj1, hj2, hj⟩ := nText_up m (bytesV pre) 30 some u hu 30 0 (.inl rfl) (by omega)
    have hj20 : j ≤ 20 := by
      rcases Nat.lt_or_ge 20 j with h | h
      · exfalso
        have h1 : 10 ^ 21 ≤ 10 ^ j := Nat.pow_le_pow_right (by decide) (by omega)
        rcases hj1 with rfl | hl <;> omega
      · exact h
    have hd := nText_down m 30 some u j hu hj2 hj1 pre hp j 30 (Nat.le_refl _) (by omega)
    have e1 : Num.ahead u j (j + 1) = [] := by unfold Num.ahead; rw [if_neg (by omega)]
    rw [e1, List.append_nil] at hd
    rw [← hd, ← hj]
    rfl
  have e0 : lrep 0 (V.int .u8 0) = bytesV [] := rfl
  have e45 : lcat (bytesV []) [V.int .u8 45] = bytesV [45] := rfl
  rw [e0, e45]
  unfold text
  by_cases hm : m < 0
  · rw [if_pos hm, if_pos (by decide), if_pos hm, if_pos hm]
    have e1 : isub .u64 0 (icnv .u64 m) = ((m.natAbs : Nat) : Int) := by
      unfold isub icnv
      rw [IntKind.wrap_u64, IntKind.wrap_u64]
      omega
    rw [e1]
    exact both [45] m.natAbs (by simp) (by omega)
  · rw [if_neg hm, if_neg hm, if_neg hm]
    have e1 : icnv .u64 m = ((m.natAbs : Nat) : Int) := by rw [icnvu64 (by omega)]; omega
    rw [e1]
    exact both [] m.natAbs (by simp) (by omega)
end Go.Proofs.YtheojhajckcdlaaGreatDoor

namespace Nt
open Go Go.RowKit Go.ChangeShapes Go.WideShapes Go.ChangeAt
open Go.ChangeMaps (open_string shut_string)
section
variable {H : Type} {enc : TypeId × Value → H} {P : Program}
theorem trodAll_below (hl : laidOutB P = true) {W W' : World} (hb : Below W.heap.size W W') :
    ∀ (ts : List TypeId) (vs : List Value) (ds : List (DataW H)) (ps : List MemPlace), (ts.all fun t => P.readableRec t && decide (t < P.types.size)) = true →
    DataW.TrodAll enc P W 0 (fun _ => true) true ts vs ds ps → DataW.TrodAll enc P W' 0 (fun b => decide (b < W.heap.size)) true ts vs ds ps
  | [], [], [], _, _, h => h
  | [], _ :: _, _, _, _, h => by simp [DataW.TrodAll] at h
  | [], [], _ :: _, _, _, h => by simp [DataW.TrodAll] at h
  | _ :: _, [], _, _, _, h => by simp [DataW.TrodAll] at h
  | _ :: _, _ :: _, [], _, _, h => by simp [DataW.TrodAll] at h
  | t :: ts, v :: vs, d :: ds, ps, hr, h => by
    simp only [List.all_cons, Bool.and_eq_true, decide_eq_true_eq] at hr
    obtain ⟨p, q, hp, hq, e⟩ := h
    refine ⟨p, q, ?_, trodAll_below hl hb ts vs ds q hr.2 hq, e⟩
    have lt : ∀ x ∈ p, x.block < W.heap.size := by obtain ⟨m, hm⟩ := hp; exact DataW.trod_lt m _ _ _ hm
    exact Below.trod hl hr.1.1 hr.1.2 hp hb lt
end
end Nt

namespace Nt
open Go Go.RowKit Go.ChangeShapes Go.WideShapes Go.ChangeAt
section
variable {H : Type} {enc : TypeId × Value → H} {P : Program}
end
end Nt

namespace Nt.Ev.YtheojhajckcdlaaGreatDoor
open Go Nt.Num Go.Proofs.YtheojhajckcdlaaGreatDoor
noncomputable def oE : Env := ⟨Go.Proofs.Tryz.prog, fun _ => none⟩
end Nt.Ev.YtheojhajckcdlaaGreatDoor

namespace Nt.Ev.YtheojhajckcdlaaGreatDoor
open Go Go.RowKit Nt Nt.Num Go.Proofs.YtheojhajckcdlaaGreatDoor
theorem oE_ok : EOk oE := ⟨by kernel_rfl, by kernel_rfl⟩
end Nt.Ev.YtheojhajckcdlaaGreatDoor
