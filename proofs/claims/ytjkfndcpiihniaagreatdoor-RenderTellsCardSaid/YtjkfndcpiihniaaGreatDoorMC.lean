/-
  A namespace. Plain facts on bytes, strings and byte lists, used by all walks of this work. No program in sight. The plain law of num: whole numbers that do not go round. The plain law of numbers' texts: digits, in order. The plain law of numbers that are read. The plain law of numbers there and back: what is written is read, and what is read is written. The plain law of words: what it means that a word begins with a text, large and small letters alike. The plain law of words, more of it: a longer beginning of the same word means the same. From the shelf's contracts to the evaluator's: slices of strings that a call makes. From contracts of calls that turn no given block to the evaluator's contracts. Numbers' digits and texts: the program's and the reference's. What a law's row gives the walk, and what the walk gives back: facts that hold of every program. What a law's row gives the walk, with the form's own reach: sizes of what is read. Same: equations of functions, as the evaluator prints them. Whether two rows of strings are the same. A row is looked through: loops of the laws.
-/
import Derived.Lib.IndexAny
import Derived.Lib.Bytealg
import Derived.WalkKit
import Derived.WalkSpells
import Derived.WalkLawsBesides
import Derived.Deep.QuietTactic
import Derived.BigQuiet
import Derived.Handy
import Derived.Lib.Hide
import Derived.Lib.Strings
import Derived.Lib.SlTrimSet
import Derived.Test.YtjkfndcpiihniaaGreatDoorMBB
import Derived.Lib.SplitLaws
import Derived.Test.YtjkfndcpiihniaaGreatDoorProg
import Derived.ProofKit
import Derived.OpenShut
import Derived.ShutString
import Derived.ChangeOld
import Derived.Below
import Derived.SliceStrings
import Derived.LaidMore
import Derived.Stop.Joined
namespace Go.Proofs.YtjkfndcpiihniaaGreatDoor
theorem here : True := trivial
end Go.Proofs.YtjkfndcpiihniaaGreatDoor

namespace Nt
open Go Go.RowKit
def at_ (s : ByteArray) (i : Nat) : UInt8 := s.data.toList.getD i 0
theorem quiet2_same {P : Program} {f : FuncId} {args : Array Value} {w : World} {k n : Nat} {v : Value}
    (h : Calls P f args (w.drewN (k + n)) fun e w' => e = .returned v ∧ w' = w.drewN (k + n)) : Calls P f args (w.drewN (k + n)) fun e w'' => e = .returned v ∧ ∃ m, w'' = w.drewN (k + m) :=
  h.mono fun _ _ ⟨he, hm⟩ => ⟨he, n, hm⟩
def Strs (w : World) (p : Option Addr) (len : Nat) (ss : List ByteArray) : Prop :=
  ss.length = len ∧ (∀ s ∈ ss, s.size ≤ maxLen) ∧ (0 < len → ∃ b off, p = some ⟨b, off, none⟩ ∧ b < w.heap.size ∧ ∀ i, i < len → w.cell? ⟨b, off + i, none⟩ = some (.string (ss.getD i ByteArray.empty)))
theorem Strs.below {w w' : World} {p : Option Addr} {len : Nat} {ss : List ByteArray} (h : Strs w p len ss) (hb : Below w.heap.size w w') : Strs w' p len ss := by
  obtain ⟨h1, h2, h3⟩ := h
  refine ⟨h1, h2, fun hp => ?_⟩
  obtain ⟨b, off, e, hlt, hc⟩ := h3 hp
  exact ⟨b, off, e, Nat.lt_of_lt_of_le hlt hb.size, fun i hi => (hb.cell (p := ⟨b, off + i, none⟩) hlt).trans (hc i hi)⟩
theorem below_drewN {B : Nat} {a w : World} (h : Below B a w) (n : Nat) : Below B a (w.drewN n) := ⟨h.os, h.tape, h.output, h.size, h.block⟩
theorem below_drew {B : Nat} {w w' : World} (h : ∃ n, w' = w.drewN n) : Below B w w' := by
  obtain ⟨n, rfl⟩ := h
  exact Nt.below_drewN (Below.refl _ _) n
theorem toList_eq (s : ByteArray) : s.toList = s.data.toList := ByteArray.toList_eq s
end Nt

set_option linter.unusedVariables false
namespace Nt.Num
open Go Go.RowKit Nt
def Fits (n : Int) : Prop := -9223372036854775808 ≤ n ∧ n ≤ 9223372036854775807
instance (n : Int) : Decidable (Fits n) := inferInstanceAs (Decidable (_ ∧ _))
def told (n : Int) : Int × Int := if Fits n then (n, 0) else (0, 1)
def divs (a b : Int) : Int × Int × Int :=
  if b = 0 ∨ (a = -9223372036854775808 ∧ b = -1) then (0, 0, 1)
  else if a.tmod b ≠ 0 ∧ ¬ (a.tmod b < 0 ↔ b < 0) then (a.tdiv b - 1, a.tmod b + b, 0) else (a.tdiv b, a.tmod b, 0)
theorem divs_rest (a b : Int) (h0 : b ≠ 0) (hm : ¬ (a = -9223372036854775808 ∧ b = -1)) :
    divs a b = if a.tmod b ≠ 0 ∧ ¬ (a.tmod b < 0 ↔ b < 0) then (a.tdiv b - 1, a.tmod b + b, 0) else (a.tdiv b, a.tmod b, 0) := by
  unfold divs
  rw [if_neg (by rintro (h | h); exact h0 h; exact hm h)]
theorem tmod_lt (a b : Int) (h0 : b ≠ 0) : -(b.natAbs : Int) < a.tmod b ∧ a.tmod b < b.natAbs := by
  have h1 := Int.natAbs_tmod a b
  have h2 : (a.tmod b).natAbs < b.natAbs := by rw [h1]; exact Nat.mod_lt _ (by omega)
  omega
theorem tdiv_abs (a b : Int) : (a.tdiv b).natAbs ≤ a.natAbs := by
  rw [Int.natAbs_tdiv]
  exact Nat.div_le_self _ _
theorem div_bounds (a b : Int) (ha : Fits a) (hb : Fits b) (h0 : b ≠ 0) (hm : ¬ (a = -9223372036854775808 ∧ b = -1)) :
    -9223372036854775808 ≤ a.tdiv b ∧ a.tdiv b ≤ 9223372036854775807 ∧ -9223372036854775807 ≤ a.tmod b ∧ a.tmod b ≤ 9223372036854775807 := by
  obtain ⟨a1, a2⟩ := ha
  obtain ⟨b1, b2⟩ := hb
  have r := tmod_lt a b h0
  have q := tdiv_abs a b
  refine ⟨by omega, ?_, by omega, by omega⟩
  by_cases h1 : a = -9223372036854775808
  · have hb1 : b ≠ -1 := fun h => hm ⟨h1, h⟩
    by_cases hb2 : b = 1
    · subst hb2; rw [Int.tdiv_one]; omega
    · have h2 : (a.tdiv b).natAbs = a.natAbs / b.natAbs := Int.natAbs_tdiv a b
      have h3 : a.natAbs / b.natAbs ≤ a.natAbs / 2 := Nat.div_le_div_left (by omega) (by omega)
      omega
  · omega
theorem xor_neg (r b : Int) (hr : Fits r) (hb : Fits b) : bits .xor .i64 r b < 0 ↔ ¬ (r < 0 ↔ b < 0) := by
  have msb : ∀ x : Int, Fits x → (BitVec.ofInt 64 x).msb = decide (x < 0) := fun x hx => by
    rw [BitVec.msb_eq_toInt, BitVec.toInt_ofInt, Int.bmod_eq_of_le (by unfold Fits at hx; omega) (by unfold Fits at hx; omega)]
  have h1 : ∀ n : Nat, n < 18446744073709551616 → (IntKind.i64.wrap (n : Int) < 0 ↔ 9223372036854775808 ≤ n) := fun n hn => by rw [IntKind.wrap_i64]; omega
  have h2 : (BitVec.ofInt 64 r ^^^ BitVec.ofInt 64 b).msb = (decide (r < 0) ^^ decide (b < 0)) := by rw [BitVec.msb_xor, msb r hr, msb b hb]
  have h3 : bits .xor .i64 r b = IntKind.i64.wrap (((BitVec.ofInt 64 r ^^^ BitVec.ofInt 64 b).toNat : Nat) : Int) := rfl
  have h4 := (BitVec.ofInt 64 r ^^^ BitVec.ofInt 64 b).isLt
  rw [h3, h1 _ h4]
  have h5 := BitVec.msb_eq_decide (BitVec.ofInt 64 r ^^^ BitVec.ofInt 64 b)
  rw [h2] at h5
  have h6 : (9223372036854775808 ≤ (BitVec.ofInt 64 r ^^^ BitVec.ofInt 64 b).toNat) ↔ (decide (r < 0) ^^ decide (b < 0)) = true := by
    rw [h5, decide_eq_true_eq]
  rw [h6]
  by_cases hr0 : r < 0 <;> by_cases hb0 : b < 0 <;> simp [hr0, hb0]
end Nt.Num

set_option linter.unusedSimpArgs false
namespace Nt.Num
open Go Go.RowKit Nt
def bs (l : List UInt8) : ByteArray := ⟨l.toArray⟩
theorem bs_size (l : List UInt8) : (bs l).size = l.length := by simp [bs, ByteArray.size]
def digit (k : Nat) : UInt8 := UInt8.ofNat (48 + k)
theorem digit_toNat (k : Nat) (h : k < 10) : (digit k).toNat = 48 + k := by
  unfold digit
  rw [UInt8.toNat_ofNat']
  omega
def digsF : Nat → Nat → List UInt8
  | 0, _ => []
  | f + 1, n => if n < 10 then [digit n] else digsF f (n / 10) ++ [digit (n % 10)]
theorem digsF_irrel : ∀ (f g n : Nat), n < f → n < g → digsF f n = digsF g n
  | 0, _, _, h, _ => by omega
  | _, 0, _, _, h => by omega
  | f + 1, g + 1, n, h1, h2 => by
    unfold digsF
    split
    · rfl
    · rw [digsF_irrel f g (n / 10) (by omega) (by omega)]
def digs (n : Nat) : List UInt8 := digsF (n + 1) n
theorem digs_small (n : Nat) (h : n < 10) : digs n = [digit n] := by unfold digs digsF; rw [if_pos h]
theorem digs_step (n : Nat) (h : 10 ≤ n) : digs n = digs (n / 10) ++ [digit (n % 10)] := by
  conv => lhs; unfold digs digsF
  rw [if_neg (by omega), digsF_irrel n (n / 10 + 1) (n / 10) (by omega) (by omega)]
  rfl
theorem digs_len : ∀ (f n : Nat), n < 10 ^ f → 0 < f → (digs n).length ≤ f ∧ 0 < (digs n).length
  | 0, _, _, h => by omega
  | f + 1, n, h, _ => by
    by_cases hn : n < 10
    · rw [digs_small n hn]; simp
    · rw [digs_step n (by omega)]
      have hf : 0 < f := by
        by_cases h0 : f = 0
        · subst h0; omega
        · omega
      have := digs_len f (n / 10) (by rw [Nat.pow_succ] at h; omega) hf
      simp; omega
def text (n : Int) : List UInt8 := (if n < 0 then [45] else []) ++ digs n.natAbs
theorem text_len (n : Int) (h : Fits n) : (text n).length ≤ 21 ∧ 0 < (text n).length := by
  have := digs_len 20 n.natAbs (by unfold Fits at h; omega) (by decide)
  unfold text
  split <;> simp <;> omega
def ahead (u k m : Nat) : List UInt8 := if m ≤ k then digs (u / 10 ^ m) else []
theorem ahead_step (u k m : Nat) (hk : u / 10 ^ k < 10) (hl : k = 0 ∨ 10 ^ k ≤ u) (hm : m ≤ k) : ahead u k m = ahead u k (m + 1) ++ [digit (u / 10 ^ m % 10)] := by
  unfold ahead
  rw [if_pos hm]
  by_cases h : m = k
  · subst h
    rw [if_neg (by omega), digs_small _ hk, List.nil_append, Nat.mod_eq_of_lt hk]
  · rw [if_pos (by omega)]
    have h1 : 10 ^ (m + 1) ≤ u := by
      rcases hl with hl | hl
      · omega
      · exact Nat.le_trans (Nat.pow_le_pow_right (by decide) (by omega)) hl
    have h2 : 10 ≤ u / 10 ^ m := by
      rw [Nat.le_div_iff_mul_le (Nat.pow_pos (by decide))]
      rw [Nat.pow_succ] at h1; omega
    rw [digs_step _ h2, Nat.div_div_eq_div_mul, Nat.pow_succ]
theorem ahead_all (u k : Nat) : ahead u k 0 = digs u := by unfold ahead; simp
end Nt.Num

namespace Nt.Num
open Go Go.RowKit Nt
def isDigit (c : UInt8) : Bool := decide (48 ≤ c.toNat) && decide (c.toNat ≤ 57)
def minus (l : List UInt8) : Bool := match l with | c :: _ => c == 45 | [] => false
def bare (l : List UInt8) : List UInt8 := if minus l then l.drop 1 else l
def good (l : List UInt8) : Bool := (bare l).all isDigit && !(bare l).isEmpty && (!((bare l).getD 0 0 == 48) || (decide ((bare l).length = 1) && !minus l))
def val (d : List UInt8) : Nat := d.foldl (fun n c => 10 * n + (c.toNat - 48)) 0
def read (l : List UInt8) : Int × Int := if good l then told (if minus l then -(val (bare l) : Int) else (val (bare l) : Int)) else (0, 2)
theorem val_snoc (d : List UInt8) (c : UInt8) : val (d ++ [c]) = 10 * val d + (c.toNat - 48) := by unfold val; rw [List.foldl_append]; rfl
end Nt.Num

namespace Nt.Num
open Go Go.RowKit Nt
theorem digit_isDigit (k : Nat) (h : k < 10) : isDigit (digit k) = true := by
  unfold isDigit
  rw [digit_toNat k h]
  simp; omega
theorem digs_all : ∀ (f n : Nat), n < f → (digs n).all isDigit = true ∧ digs n ≠ []
  | 0, _, h => by omega
  | f + 1, n, h => by
    by_cases hn : n < 10
    · rw [digs_small n hn]
      exact ⟨by simp [digit_isDigit n hn], by simp⟩
    · rw [digs_step n (by omega), List.all_append]
      have := digs_all f (n / 10) (by omega)
      refine ⟨?_, by simp⟩
      rw [this.1]
      simp [digit_isDigit (n % 10) (Nat.mod_lt _ (by decide))]
theorem val_digs : ∀ (f n : Nat), n < f → val (digs n) = n
  | 0, _, h => by omega
  | f + 1, n, h => by
    by_cases hn : n < 10
    · rw [digs_small n hn]
      show 10 * 0 + ((digit n).toNat - 48) = n
      rw [digit_toNat n hn]; omega
    · rw [digs_step n (by omega), val_snoc, val_digs f (n / 10) (by omega), digit_toNat _ (Nat.mod_lt _ (by decide))]
      omega
theorem read_minus (l : List UInt8) : read (45 :: 45 :: l) = (0, 2) := by
  have eg : good (45 :: 45 :: l) = false := by
    have eb : bare (45 :: 45 :: l) = 45 :: l := rfl
    unfold good
    rw [eb, List.all_cons, show isDigit 45 = false from by decide]
    rfl
  unfold read
  rw [eg]; rfl
end Nt.Num

namespace Nt.Words
open Go Nt
def low (c : UInt8) : UInt8 := if 65 ≤ c.toNat ∧ c.toNat ≤ 90 then UInt8.ofNat (c.toNat + 32) else c
def alike (x y : UInt8) : Bool := low x == low y
def begins (a s : ByteArray) : Bool := decide (s.size ≤ a.size) && decide (∀ i, i < s.size → alike (at_ a i) (at_ s i) = true)
def same (a b : ByteArray) : Bool := decide (a.size = b.size) && begins a b
def wAt (ws : List ByteArray) (i : Nat) : ByteArray := ws.getD i ByteArray.empty
def found (s : ByteArray) (ws : List ByteArray) (k : Nat) : List Nat := (List.range k).filter fun i => begins (wAt ws i) s
def mt (s : ByteArray) (ws : List ByteArray) : Nat × Nat :=
  if s.size = 0 then (0, 3) else
  match (List.range ws.length).find? (fun i => same (wAt ws i) s) with
  | some i => (i, 0)
  | none => match found s ws ws.length with
    | [] => (0, 3)
    | f :: r => if (f :: r).all (fun i => same (wAt ws i) (wAt ws f)) then (f, 0) else (0, 3)
def months : List ByteArray := [⟨#[74, 97, 110, 117, 97, 114, 121]⟩, ⟨#[70, 101, 98, 114, 117, 97, 114, 121]⟩, ⟨#[77, 97, 114, 99, 104]⟩, ⟨#[65, 112, 114, 105, 108]⟩, ⟨#[77, 97, 121]⟩, ⟨#[74, 117, 110, 101]⟩, ⟨#[74, 117, 108, 121]⟩, ⟨#[65, 117, 103, 117, 115, 116]⟩, ⟨#[83, 101, 112, 116, 101, 109, 98, 101, 114]⟩, ⟨#[79, 99, 116, 111, 98, 101, 114]⟩, ⟨#[78, 111, 118, 101, 109, 98, 101, 114]⟩, ⟨#[68, 101, 99, 101, 109, 98, 101, 114]⟩]
def weekdays : List ByteArray := [⟨#[83, 117, 110, 100, 97, 121]⟩, ⟨#[77, 111, 110, 100, 97, 121]⟩, ⟨#[84, 117, 101, 115, 100, 97, 121]⟩, ⟨#[87, 101, 100, 110, 101, 115, 100, 97, 121]⟩, ⟨#[84, 104, 117, 114, 115, 100, 97, 121]⟩, ⟨#[70, 114, 105, 100, 97, 121]⟩, ⟨#[83, 97, 116, 117, 114, 100, 97, 121]⟩]
end Nt.Words

namespace Nt.Words
open Go Nt
end Nt.Words

namespace Nt.Ev
open Go Go.RowKit
class MLen where val : Int
def strsV (L : List (List UInt8)) : List V := L.map V.str
theorem PW_two {G : Known} {a b : V} {vs : List Value} (h : PW (rep G) [a, b] vs) : ∃ x y, vs = [x, y] ∧ rep G a x ∧ rep G b y := by
  obtain ⟨x, t, rfl, h1, h2⟩ := h.cons_inv
  obtain ⟨y, t, rfl, h3, h4⟩ := h2.cons_inv
  exact ⟨x, y, by rw [h4.nil_iff], h1, h3⟩
theorem PW_one {G : Known} {a : V} {vs : List Value} (h : PW (rep G) [a] vs) : ∃ x, vs = [x] ∧ rep G a x := by
  obtain ⟨x, t, rfl, h1, h2⟩ := h.cons_inv
  exact ⟨x, by rw [h2.nil_iff], h1⟩
theorem glob_int {E : Env} {G : Known} {w : World} (hG : GOk G w) (hg : GlobOk E G) {n : Nat} {k : IntKind} {m : Int} (h : E.glob n = some (.rptr [.int k] (.int k m) 0)) : w.cell? ⟨n, 0, none⟩ = some (.int k m) := by
  have := (hg n _ h).2
  unfold rep at this
  obtain ⟨b, o, l, e, hb, _, u, hu, hc⟩ := this
  unfold rep at hu
  subst hu
  simp only [Value.pointer.injEq, Option.some.injEq, Addr.mk.injEq, Nat.add_zero, and_true] at e
  obtain ⟨rfl, rfl⟩ := e
  refine known_cell hG hb ?_
  have h1 := congrArg (fun l => l[0]?) hc
  simpa [Value.cells] using h1
end Nt.Ev

namespace Nt.Ev
open Go Go.RowKit Nt
theorem contract_old {E : Env} {f : Nat} {args : List V} {r : V} (h : ∀ (G : Known) (w : World) (vs : List Value), GOk G w → GlobOk E G → PW (rep G) args vs →
    Calls E.P f vs.toArray w fun e w' => ∃ v, e = .returned v ∧ Below w.heap.size w w' ∧ ∀ (G' : Known) (w' : World) (B : Nat → Prop), resrep G' w' B r v) : Contract E f args r := by
  intro G w vs hG hg hp
  refine (h G w vs hG hg hp).mono ?_
  rintro e w' ⟨v, rfl, hb, hr⟩
  refine ⟨v, G, rfl, ⟨hb, fun _ _ => rfl, fun b l hl => ?_⟩, hr _ _ _⟩
  obtain ⟨c, e, fr, hc, ht⟩ := hG b l hl
  exact ⟨c, e, fr, by rw [hb.block b (known_lt hG hl)]; exact hc, ht⟩
theorem res_int (k : IntKind) (n : Int) : ∀ (G' : Known) (w' : World) (B : Nat → Prop), resrep G' w' B (.int k n) (.int k n) := fun _ _ _ => by simp only [resrep, sres]; unfold rep; rfl
theorem res_str (l : List UInt8) : ∀ (G' : Known) (w' : World) (B : Nat → Prop), resrep G' w' B (.str l) (.string ⟨l.toArray⟩) := fun _ _ _ => by simp only [resrep, sres]; unfold rep; rfl
def Same (x : V) (v : Value) : Prop := hasL x = false ∧ ∀ (G' : Known) (w' : World) (B : Nat → Prop), sres G' w' B x v
theorem same_int (k : IntKind) (n : Int) : Same (.int k n) (.int k n) := ⟨rfl, fun _ _ _ => by simp only [sres]; unfold rep; rfl⟩
theorem same_bool (b : Bool) : Same (.bool b) (.bool b) := ⟨rfl, fun _ _ _ => by simp only [sres]; unfold rep; rfl⟩
theorem same_str (l : List UInt8) : Same (.str l) (.string ⟨l.toArray⟩) := ⟨rfl, fun _ _ _ => by simp only [sres]; unfold rep; rfl⟩
theorem res_tup {xs : List V} {vs : List Value} (h : PW Same xs vs) : ∀ (G' : Known) (w' : World) (B : Nat → Prop), resrep G' w' B (.tup xs) (.tuple vs.toArray) := by
  intro G w B
  refine ⟨vs, rfl, h.mono fun x _ v hx => hx.2 G w B, ?_⟩
  have : xs.countP hasL = 0 := by
    rw [List.countP_eq_zero]
    intro x hx
    obtain ⟨i, hi⟩ := List.getElem?_of_mem hx
    obtain ⟨v, _, hv⟩ := h.get hi
    rw [hv.1]; decide
  omega
theorem res_three {x y z : V} {a b c : Value} (h : Same x a) (k : Same y b) (l : Same z c) : ∀ (G' : Known) (w' : World) (B : Nat → Prop), resrep G' w' B (.tup [x, y, z]) (.tuple #[a, b, c]) := res_tup (vs := [a, b, c]) (.cons h (.cons k (.cons l .nil)))
end Nt.Ev

namespace Go.Proofs.YtjkfndcpiihniaaGreatDoor
open Go Nt Nt.Ev Nt.Num
noncomputable def nE : Env := ⟨Tryz.prog, fun _ => none⟩
theorem nE_ok : EOk nE := ⟨by kernel_rfl, by kernel_rfl⟩
def nS0 : List (Nat × FSpec) := []
def digsI (n : Int) : List UInt8 := digs n.toNat
def digitsR (n : Int) : FSpec := fun a => match a with | [.int .u64 m] => some (band (ile 0 m) (ilt m n), .str (digsI m)) | _ => none
def nSR (n : Int) : List (Nat × FSpec) := [(87, digitsR n)]
set_option maxRecDepth 100000 in
theorem rdigits_top (F : Nat) (nn : Int) (m : Int) (K : V → Option V) :
    evBd nE (evFn nE (nSR nn) F 1) F 87 [(V.int .u64 m)] K =
    sel (ilt m 10)
      (sel (band (band (ile 0 (iadd .u64 m 1)) (ile (iadd .u64 m 1) (slen [48, 49, 50, 51, 52, 53, 54, 55, 56, 57]))) (band (ile 0 m) (ile m (iadd .u64 m 1))))
        (K (V.str (ssub [48, 49, 50, 51, 52, 53, 54, 55, 56, 57] m (iadd .u64 m 1))))
        (none))
      (sel (band (ile 0 (iquo .u64 m 10)) (ilt (iquo .u64 m 10) nn))
        (sel (band (ile 0 (irem m 10)) (ilt (irem m 10) nn))
          (sel (okCat (digsI (iquo .u64 m 10)) (digsI (irem m 10)))
            (K (V.str (scat (digsI (iquo .u64 m 10)) (digsI (irem m 10)))))
            (none))
          (none))
        (none)) := by kernel_rfl
set_option maxRecDepth 100000 in
theorem rText_top (F : Nat) (nn : Int) (m : Int) (K : V → Option V) :
    evBd nE (evFn nE (nSR nn) F 1) F 58 [(V.int .i64 m)] K =
    sel (ilt m 0)
      (sel (band (ile 0 (iadd .u64 (icnv .u64 (isub .i64 0 (iadd .i64 m 1))) 1)) (ilt (iadd .u64 (icnv .u64 (isub .i64 0 (iadd .i64 m 1))) 1) nn))
        (sel (okCat [45] (digsI (iadd .u64 (icnv .u64 (isub .i64 0 (iadd .i64 m 1))) 1)))
          (K (V.str (scat [45] (digsI (iadd .u64 (icnv .u64 (isub .i64 0 (iadd .i64 m 1))) 1)))))
          (none))
        (none))
      (sel (band (ile 0 (icnv .u64 m)) (ilt (icnv .u64 m) nn))
        (K (V.str (digsI (icnv .u64 m))))
        (none)) := by kernel_rfl
noncomputable def nText_L0 (F : Nat) (ns : List Nat) (n : Nat) (x0 : Int) (x3 : List V) (x4 : Int) (x5 : Int) (K : V → Option V) : Option V :=
  loopAt nE nS0 F 1 65 [1, 1, 1, 1, 1, 0, 0] ns K n (mkSt 35 [(0, V.int .i64 x0), (2, V.str []), (3, V.sl 5 [(Kd.int .u8)] (some 3) x3), (4, V.int .u64 x4), (5, V.int .u64 x5)] [])
noncomputable def nText_L1 (F : Nat) (ns : List Nat) (n : Nat) (x0 : Int) (x3 : List V) (x4 : Int) (x5 : Int) (K : V → Option V) : Option V :=
  loopAt nE nS0 F 1 65 [1, 1, 1, 1, 1, 1, 0, 0] ns K n (mkSt 35 [(0, V.int .i64 x0), (2, V.str []), (3, V.sl 5 [(Kd.int .u8)] (some 3) x3), (4, V.int .u64 x4), (5, V.int .u64 x5)] [])
set_option maxRecDepth 100000 in
theorem nText_top (F : Nat) (m : Int) (K : V → Option V) :
    evBd nE (evFn nE nS0 F 1) F 65 [(V.int .i64 m)] K =
    sel (ilt m 0)
      (sel (okApp (lrep 0 (V.int .u8 0)) [(V.int .u8 45)])
        (sel (ilt m 0)
          (nText_L0 F [] F m (lcat (lrep 0 (V.int .u8 0)) [(V.int .u8 45)]) (isub .u64 0 (icnv .u64 m)) 1 K)
          (nText_L0 F [] F m (lcat (lrep 0 (V.int .u8 0)) [(V.int .u8 45)]) (icnv .u64 m) 1 K))
        (none))
      (sel (ilt m 0)
        (nText_L0 F [] F m (lrep 0 (V.int .u8 0)) (isub .u64 0 (icnv .u64 m)) 1 K)
        (nText_L0 F [] F m (lrep 0 (V.int .u8 0)) (icnv .u64 m) 1 K)) := by kernel_rfl
set_option maxRecDepth 100000 in
theorem nText_L0_succ (F : Nat) (n : Nat) (x0 : Int) (x3 : List V) (x4 : Int) (x5 : Int) (K : V → Option V) :
    nText_L0 F [] (n + 1) x0 x3 x4 x5 K =
    sel (bnot (ieq x5 0))
      (sel (ile 10 (iquo .u64 x4 x5))
        (nText_L0 F [] n x0 x3 x4 (imul .u64 x5 10) K)
        (nText_L1 F [] F x0 x3 x4 x5 K))
      (none) := by kernel_rfl
set_option maxRecDepth 100000 in
theorem nText_L1_succ (F : Nat) (n : Nat) (x0 : Int) (x3 : List V) (x4 : Int) (x5 : Int) (K : V → Option V) :
    nText_L1 F [] (n + 1) x0 x3 x4 x5 K =
    sel (ilt 0 x5)
      (sel (bnot (ieq x5 0))
        (sel (okApp x3 [(V.int .u8 (icnv .u8 (iadd .u64 48 (irem (iquo .u64 x4 x5) 10))))])
          (nText_L1 F [] n x0 (lcat x3 [(V.int .u8 (icnv .u8 (iadd .u64 48 (irem (iquo .u64 x4 x5) 10))))]) x4 (iquo .u64 x5 10) K)
          (none))
        (none))
      (K (V.str (vbytes x3))) := by kernel_rfl
theorem rdigits_ev : ∀ (b : Nat) (m : Int), 0 ≤ m → m < b → m ≤ 18446744073709551615 → Contract nE 87 [.int .u64 m] (.str (digsI m)) := by
  intro b
  induction b with
  | zero => intro m h0 h1; omega
  | succ b ih =>
    intro m h0 h1 h2
    have hS : SOk nE (nSR (min b m)) := by
      refine SOk.cons (fun args r h => ?_) SOk.nil
      unfold digitsR at h
      split at h
      · rename_i k
        simp only [Option.some.injEq, Prod.mk.injEq] at h
        obtain ⟨hc, rfl⟩ := h
        rw [band_iff, ile_iff, ilt_iff] at hc
        exact ih k hc.1 (by omega) (by omega)
      · cases h
    refine contract_of_body nE_ok hS 0 1 ?_
    rw [rdigits_top]
    simp only [sel_if, ilt_iff, ile_iff, band_iff, okCat_iff]
    by_cases hm : m < 10
    · rw [if_pos hm, iaddu64 (by omega), if_pos (by have : slen [48, 49, 50, 51, 52, 53, 54, 55, 56, 57] = 10 := rfl; omega)]
      obtain ⟨k, rfl⟩ : ∃ k : Nat, m = k := ⟨m.toNat, by omega⟩
      have hd : digsI (k : Int) = [digit k] := by unfold digsI; rw [Int.toNat_natCast, digs_small k (by omega)]
      rw [hd]
      have : ∀ k : Fin 10, ssub [48, 49, 50, 51, 52, 53, 54, 55, 56, 57] ((k : Nat) : Int) ((k : Nat) + 1 : Int) = [digit k] := by decide
      exact congrArg (fun l => some (V.str l)) (this ⟨k, by omega⟩)
    · have hq : iquo .u64 m 10 = m / 10 := iquou64 h0 (by omega) h2
      have hr : irem m 10 = m % 10 := irem_pos h0
      rw [if_neg hm, hq, hr, if_pos (by omega), if_pos (by omega)]
      have hd : digsI m = digsI (m / 10) ++ digsI (m % 10) := by
        obtain ⟨k, rfl⟩ : ∃ k : Nat, m = k := ⟨m.toNat, by omega⟩
        unfold digsI
        have e1 : ((k : Int) / 10).toNat = k / 10 := by omega
        have e2 : ((k : Int) % 10).toNat = k % 10 := by omega
        rw [e1, e2, Int.toNat_natCast, digs_step k (by omega), digs_small (k % 10) (by omega)]
      have hb1 : (m / 10).toNat < 10 ^ 20 := by omega
      have hb2 : (m % 10).toNat < 10 ^ 20 := by omega
      have hl1 : (digsI (m / 10)).length ≤ 20 := (digs_len 20 _ hb1 (by decide)).1
      have hl2 : (digsI (m % 10)).length ≤ 20 := (digs_len 20 _ hb2 (by decide)).1
      rw [if_pos (by omega), hd]
      rfl
theorem rText_ev (m : Int) (h : Fits m) : Contract nE 58 [.int .i64 m] (.str (text m)) := by
  obtain ⟨h1, h2⟩ := h
  have hS : SOk nE (nSR 18446744073709551616) := by
    refine SOk.cons (fun args r h => ?_) SOk.nil
    unfold digitsR at h
    split at h
    · rename_i k
      simp only [Option.some.injEq, Prod.mk.injEq] at h
      obtain ⟨hc, rfl⟩ := h
      rw [band_iff, ile_iff, ilt_iff] at hc
      exact rdigits_ev (k.toNat + 1) k hc.1 (by omega) (by omega)
    · cases h
  refine contract_of_body nE_ok hS 0 1 ?_
  rw [rText_top]
  simp only [sel_if, ilt_iff, ile_iff, band_iff, okCat_iff]
  by_cases hm : m < 0
  · rw [if_pos hm, iadd64 (by omega), isub64 (by omega), icnvu64 (by omega), iaddu64 (by omega), if_pos (by omega)]
    have e1 : digsI (0 - (m + 1) + 1) = digs m.natAbs := by unfold digsI; congr 1; omega
    have hb : m.natAbs < 10 ^ 20 := by omega
    have hl : (digs m.natAbs).length ≤ 20 := (digs_len 20 _ hb (by decide)).1
    rw [e1, if_pos (by simp; omega)]
    unfold text scat
    rw [if_pos hm]
  · rw [if_neg hm, icnvu64 (by omega), if_pos (by omega)]
    unfold text
    rw [if_neg hm]
    have e1 : digsI m = digs m.natAbs := by unfold digsI; congr 1; omega
    rw [e1]
    rfl
theorem nText_up (m : Int) (x3 : List V) (F : Nat) (K : V → Option V) (u : Nat) (hu : u ≤ 9223372036854775808) : ∀ (n k : Nat), (k = 0 ∨ 10 ^ k ≤ u) → 20 < n + k →
    ∃ j, (j = 0 ∨ 10 ^ j ≤ u) ∧ u / 10 ^ j < 10 ∧ nText_L0 F [] n m x3 (u : Int) ((10 ^ k : Nat) : Int) K = nText_L1 F [] F m x3 (u : Int) ((10 ^ j : Nat) : Int) K := by
  intro n
  induction n with
  | zero =>
    intro k hk hn
    exfalso
    have h1 : 10 ^ 21 ≤ 10 ^ k := Nat.pow_le_pow_right (by decide) (by omega)
    rcases hk with rfl | hk <;> omega
  | succ n ih =>
    intro k hk hn
    have hp : 0 < 10 ^ k := Nat.pow_pos (by decide)
    have hple : 10 ^ k ≤ 9223372036854775808 := by
      rcases hk with rfl | hk
      · decide
      · omega
    rw [nText_L0_succ]
    simp only [sel_if, bnot_iff, ieq_iff, ile_iff]
    rw [if_pos (by omega)]
    have hq : iquo .u64 (u : Int) ((10 ^ k : Nat) : Int) = ((u / 10 ^ k : Nat) : Int) := by
      rw [iquou64 (by omega) (by omega) (by omega)]; rfl
    rw [hq]
    by_cases h10 : 10 ≤ u / 10 ^ k
    · rw [if_pos (by omega)]
      have h1 : 10 ^ (k + 1) ≤ u := by
        rw [Nat.le_div_iff_mul_le hp] at h10
        rw [Nat.pow_succ]; omega
      have hm : imul .u64 ((10 ^ k : Nat) : Int) 10 = ((10 ^ (k + 1) : Nat) : Int) := by
        rw [imulu64 (by rw [Nat.pow_succ] at h1; omega), Nat.pow_succ]; omega
      rw [hm]
      exact ih (k + 1) (.inr h1) (by omega)
    · rw [if_neg (by omega)]
      exact ⟨k, hk, by omega, rfl⟩
theorem lcat_map (l : List UInt8) (c : UInt8) : lcat (bytesV l) [V.int .u8 (c.toNat : Int)] = bytesV (l ++ [c]) := by unfold lcat bytesV; simp
theorem vbytes_map (l : List UInt8) : vbytes (bytesV l) = l := by
  unfold vbytes bytesV
  rw [List.map_map]
  conv => rhs; rw [← List.map_id l]
  refine List.map_congr_left fun c _ => ?_
  show UInt8.ofNat ((c.toNat : Int)).toNat = c
  simp
theorem nText_down (m : Int) (F : Nat) (K : V → Option V) (u k : Nat) (hu : u ≤ 9223372036854775808) (hk : u / 10 ^ k < 10) (hl : k = 0 ∨ 10 ^ k ≤ u) (pre : List UInt8) (hpre : pre.length ≤ 1) :
    ∀ (j n : Nat), j ≤ k → j + 1 < n → nText_L1 F [] n m (bytesV (pre ++ Num.ahead u k (j + 1))) (u : Int) ((10 ^ j : Nat) : Int) K = K (.str (pre ++ digs u)) := by
  have hk20 : k ≤ 20 := by
    rcases Nat.lt_or_ge 20 k with h | h
    · exfalso
      have h1 : 10 ^ 21 ≤ 10 ^ k := Nat.pow_le_pow_right (by decide) (by omega)
      rcases hl with rfl | hl <;> omega
    · exact h
  have step : ∀ (j n : Nat), j ≤ k → nText_L1 F [] (n + 1) m (bytesV (pre ++ Num.ahead u k (j + 1))) (u : Int) ((10 ^ j : Nat) : Int) K = nText_L1 F [] n m (bytesV (pre ++ Num.ahead u k j)) (u : Int) ((10 ^ j / 10 : Nat) : Int) K := by
    intro j n hj
    have hp : 0 < 10 ^ j := Nat.pow_pos (by decide)
    have hple : 10 ^ j ≤ 9223372036854775808 := by
      rcases hl with rfl | hl
      · obtain rfl : j = 0 := by omega
        decide
      · exact Nat.le_trans (Nat.le_trans (Nat.pow_le_pow_right (by decide) hj) hl) hu
    rw [nText_L1_succ]
    simp only [sel_if, bnot_iff, ieq_iff, ilt_iff, okApp_iff]
    have hlen : (bytesV (pre ++ Num.ahead u k (j + 1))).length ≤ 100 := by
      unfold bytesV
      rw [List.length_map, List.length_append]
      have : (Num.ahead u k (j + 1)).length ≤ 20 := by
        unfold Num.ahead
        split
        · refine (digs_len 20 _ ?_ (by decide)).1
          have := Nat.div_le_self u (10 ^ (j + 1))
          omega
        · simp
      omega
    rw [if_pos (by omega), if_pos (by omega), if_pos (by simp; omega)]
    have hq : iquo .u64 (u : Int) ((10 ^ j : Nat) : Int) = ((u / 10 ^ j : Nat) : Int) := by
      rw [iquou64 (by omega) (by omega) (by omega)]; rfl
    have hr : irem ((u / 10 ^ j : Nat) : Int) 10 = ((u / 10 ^ j % 10 : Nat) : Int) := by rw [irem_pos (Int.natCast_nonneg _)]; rfl
    have hd := digit_toNat (u / 10 ^ j % 10) (Nat.mod_lt _ (by decide))
    have hc : icnv .u8 (iadd .u64 48 ((u / 10 ^ j % 10 : Nat) : Int)) = ((digit (u / 10 ^ j % 10)).toNat : Int) := by
      have hm := Nat.mod_lt (u / 10 ^ j) (show 0 < 10 by decide)
      rw [iaddu64 (by omega), icnvu8 (by omega), hd]; omega
    have hq2 : iquo .u64 ((10 ^ j : Nat) : Int) 10 = ((10 ^ j / 10 : Nat) : Int) := by
      rw [iquou64 (by omega) (by omega) (by omega)]; rfl
    rw [hq, hr, hc, hq2, lcat_map, List.append_assoc, ← ahead_step u k j hk hl hj]
  intro j
  induction j with
  | zero =>
    intro n hj hn
    obtain ⟨n, rfl⟩ : ∃ n', n = n' + 1 := ⟨n - 1, by omega⟩
    rw [step 0 n hj, ahead_all]
    obtain ⟨n, rfl⟩ : ∃ n', n = n' + 1 := ⟨n - 1, by omega⟩
    rw [nText_L1_succ]
    simp only [sel_if, ilt_iff]
    rw [if_neg (by decide), vbytes_map]
  | succ j ih =>
    intro n hj hn
    obtain ⟨n, rfl⟩ : ∃ n', n = n' + 1 := ⟨n - 1, by omega⟩
    have e1 : 10 ^ (j + 1) / 10 = 10 ^ j := by rw [Nat.pow_succ]; omega
    rw [step (j + 1) n hj, e1]
    exact ih n (by omega) (by omega)
theorem nText_ev (m : Int) (h : Fits m) : Contract nE 65 [.int .i64 m] (.str (text m)) := by
  obtain ⟨h1, h2⟩ := h
  refine contract_of_body nE_ok (S := nS0) SOk.nil 30 1 ?_
  rw [nText_top]
  simp only [sel_if, ilt_iff, okApp_iff]
  have both : ∀ (pre : List UInt8) (u : Nat), pre.length ≤ 1 → u ≤ 9223372036854775808 → nText_L0 30 [] 30 m (bytesV pre) (u : Int) 1 some = some (.str (pre ++ digs u)) := by
    intro pre u hp hu
    obtain ⟨j, hj1, hj2, hj⟩ := nText_up m (bytesV pre) 30 some u hu 30 0 (.inl rfl) (by omega)
    have hj20 : j ≤ 20 := by
      rcases Nat.lt_or_ge 20 j with h | h
      · exfalso
        have h1 : 10 ^ 21 ≤ 10 ^ j := Nat.pow_le_pow_right (by decide) (by omega)
        rcases hj1 with rfl | hl <;> omega
      · exact h
    have hd := nText_down m 30 some u j hu hj2 hj1 pre hp j 30 (Nat.le_refl _) (by omega)
    have e1 : Num.ahead u j (j + 1) = [] := by unfold Num.ahead; rw [if_neg (by omega)]
    rw [e1, List.append_nil] at hd
    rw [← hd, ← hj]
    rfl
  have e0 : lrep 0 (V.int .u8 0) = bytesV [] := rfl
  have e45 : lcat (bytesV []) [V.int .u8 45] = bytesV [45] := rfl
  rw [e0, e45]
  unfold text
  by_cases hm : m < 0
  · rw [if_pos hm, if_pos (by decide), if_pos hm, if_pos hm]
    have e1 : isub .u64 0 (icnv .u64 m) = ((m.natAbs : Nat) : Int) := by
      unfold isub icnv
      rw [IntKind.wrap_u64, IntKind.wrap_u64]
      omega
    rw [e1]
    exact both [45] m.natAbs (by simp) (by omega)
  · rw [if_neg hm, if_neg hm, if_neg hm]
    have e1 : icnv .u64 m = ((m.natAbs : Nat) : Int) := by rw [icnvu64 (by omega)]; omega
    rw [e1]
    exact both [] m.natAbs (by simp) (by omega)
end Go.Proofs.YtjkfndcpiihniaaGreatDoor

namespace Nt
open Go Go.RowKit Go.ChangeShapes Go.WideShapes Go.ChangeAt
open Go.ChangeMaps (open_string shut_string)
section
variable {H : Type} {enc : TypeId × Value → H} {P : Program}
theorem trodAll_below (hl : laidOutB P = true) {W W' : World} (hb : Below W.heap.size W W') :
    ∀ (ts : List TypeId) (vs : List Value) (ds : List (DataW H)) (ps : List MemPlace), (ts.all fun t => P.readableRec t && decide (t < P.types.size)) = true →
    DataW.TrodAll enc P W 0 (fun _ => true) true ts vs ds ps → DataW.TrodAll enc P W' 0 (fun b => decide (b < W.heap.size)) true ts vs ds ps
  | [], [], [], _, _, h => h
  | [], _ :: _, _, _, _, h => by simp [DataW.TrodAll] at h
  | [], [], _ :: _, _, _, h => by simp [DataW.TrodAll] at h
  | _ :: _, [], _, _, _, h => by simp [DataW.TrodAll] at h
  | _ :: _, _ :: _, [], _, _, h => by simp [DataW.TrodAll] at h
  | t :: ts, v :: vs, d :: ds, ps, hr, h => by
    simp only [List.all_cons, Bool.and_eq_true, decide_eq_true_eq] at hr
    obtain ⟨p, q, hp, hq, e⟩ := h
    refine ⟨p, q, ?_, trodAll_below hl hb ts vs ds q hr.2 hq, e⟩
    have lt : ∀ x ∈ p, x.block < W.heap.size := by obtain ⟨m, hm⟩ := hp; exact DataW.trod_lt m _ _ _ hm
    exact Below.trod hl hr.1.1 hr.1.2 hp hb lt
end
end Nt

namespace Nt
open Go Go.RowKit Go.ChangeShapes Go.WideShapes Go.ChangeAt
section
variable {H : Type} {enc : TypeId × Value → H} {P : Program}
end
end Nt

set_option linter.unusedSectionVars false
namespace Nt.Ev.YtjkfndcpiihniaaGreatDoor
open Go Nt.Num Go.Proofs.YtjkfndcpiihniaaGreatDoor
noncomputable def oE : Env := ⟨Go.Proofs.Tryz.prog, fun _ => none⟩
noncomputable def oS : List (Nat × FSpec) := []
end Nt.Ev.YtjkfndcpiihniaaGreatDoor

namespace Nt.Ev.YtjkfndcpiihniaaGreatDoor
open Go Go.RowKit Nt Nt.Num Go.Proofs.YtjkfndcpiihniaaGreatDoor
theorem oE_ok : EOk oE := ⟨by kernel_rfl, by kernel_rfl⟩
theorem oS_ok : SOk oE oS := SOk.nil
end Nt.Ev.YtjkfndcpiihniaaGreatDoor

namespace Nt.Ev.YtjkfndcpiihniaaGreatDoor
open Go Go.RowKit Nt Nt.Num Go.Proofs.YtjkfndcpiihniaaGreatDoor
theorem sF' {α : Type} (a b : α) : sel false a b = b := rfl
end Nt.Ev.YtjkfndcpiihniaaGreatDoor
