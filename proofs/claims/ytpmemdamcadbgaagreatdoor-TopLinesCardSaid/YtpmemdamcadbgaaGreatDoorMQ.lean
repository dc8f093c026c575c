/-
  A region that draws its order, proved operation by operation: one fact for each operation's value, which the other operations keep; so the proof is as long as the region, whatever the number of its orders. A region that draws its order, in a round of a range over a function. A range over a function whose iterator keeps its state in a cell that it has captured: the law for the loop. Lines of a source: the plain law. The lines of a source, walked: strings.Lines hands its lines to the loop, one by one. Bld: equations of functions, as the evaluator prints them. A strings.Builder's copyCheck and String, as contracts. Lines: equations of functions, as the evaluator prints them. Lines of a source: both sides as contracts.
-/
import Derived.Test.YtpmemdamcadbgaaGreatDoorMC
import Derived.Orders
import Derived.ArgAppend
import Derived.OrdersIn
import Derived.TacticsIn
import Derived.RangeFuncBox
import Derived.RangeFuncFrom
import Derived.Test.YtpmemdamcadbgaaGreatDoorMBB
import Derived.Lib.Strings
import Derived.Lib.Bytealg
import Derived.Test.YtpmemdamcadbgaaGreatDoorMS
import Derived.RangeFuncNested
import Derived.RangeFuncBound
import Derived.RangeFuncCalls
import Derived.RangeFuncLeaves
import Derived.Shelf.Abstract
import Derived.Shelf.RegionOpen
import Derived.WalkKit
import Derived.OwnWalkIn
import Derived.TacticsInMore
import Derived.LoopNIn
import Derived.LoopIn
import Derived.Maps.AppendAt
import Derived.RegionIn
import Derived.IntWalk
import Derived.Test.YtpmemdamcadbgaaGreatDoorMP
import Derived.Laws.RangeAny
set_option linter.unusedVariables false
set_option linter.unusedSimpArgs false
namespace Nt
open Go Go.RowKit
section
variable {P : Program} {ops : Array Oper} {Q : Exit → Act → World → Prop}
def Slot (a : Act) (t : Nat) (v : Value) : Prop := a.tmps[t]? = some v ∧ ∀ h : t < a.tmps.size, a.tmps[t] = v
theorem Slot.mk {a : Act} {t : Nat} {v : Value} (h : a.tmps[t]? = some v) : Slot a t v := ⟨h, fun hl => by rw [Array.getElem?_eq_getElem hl] at h; exact Option.some.inj h⟩
theorem below_alloc (w : World) (o : Obj) : Below w.heap.size w (w.alloc o) := (Below.refl _ _).alloc (Nat.le_refl _) o
end
end Nt

set_option linter.unusedVariables false
set_option linter.unusedSimpArgs false
namespace Nt
open Go Go.RowKit
section
variable {P : Program} {ops : Array Oper} {Q : Exit → Act → World → Prop} {l n : Nat}
end
end Nt

set_option linter.unusedVariables false
namespace Nt
open Go Go.RowKit
variable {F : Fence} {n : Nat} {P : Program}
end Nt

set_option linter.unusedVariables false
set_option linter.unusedSimpArgs false
namespace Nt.Lin
open Go Nt.Ev
end Nt.Lin

set_option linter.unusedVariables false
set_option linter.unusedSimpArgs false
namespace Go.Proofs.YtpmemdamcadbgaaGreatDoor
open Go Go.RowKit Go.Shelf Nt Nt.Lin
attribute [local go_sem] Oper.semAt_some
end Go.Proofs.YtpmemdamcadbgaaGreatDoor

set_option linter.unusedVariables false
set_option linter.unusedSimpArgs false
set_option linter.unusedSectionVars false
namespace Nt.Ev.YtpmemdamcadbgaaGreatDoor
open Go Nt.Num Go.Proofs.YtpmemdamcadbgaaGreatDoor
end Nt.Ev.YtpmemdamcadbgaaGreatDoor

set_option linter.unusedVariables false
set_option linter.unusedSimpArgs false
set_option linter.unusedSectionVars false
namespace Nt.Ev.YtpmemdamcadbgaaGreatDoor
set_option maxRecDepth 100000
open Go Go.RowKit Nt Nt.Num Go.Proofs.YtpmemdamcadbgaaGreatDoor
end Nt.Ev.YtpmemdamcadbgaaGreatDoor

set_option linter.unusedVariables false
set_option linter.unusedSimpArgs false
set_option linter.unusedSectionVars false
namespace Nt.Ev.YtpmemdamcadbgaaGreatDoor
open Go Nt.Num Go.Proofs.YtpmemdamcadbgaaGreatDoor
open Nt.Lin
def oddS (s : List UInt8) : Bool := s.any fun c => bnot (ieq (c.toNat : Int) 9) && (ilt (c.toNat : Int) 32 || ilt 126 (c.toNat : Int))
noncomputable def xCfS : FSpec := fun a => match a with | [.str s, .fn f []] => some (band (f == 27) (ile (slen s) 4000000), .bool (oddS s)) | _ => none
noncomputable def xS0 : List (Nat × FSpec) := (28, xCfS) :: []
def ckP (s : List UInt8) : Int := sel (ilt 511 (slen s)) 9 (sel (oddS s) 7 0)
set_option maxRecDepth 100000 in
theorem xOdd_top (F : Nat) (r : Int) (K : V → Option V) :
 evBd oE (evFn oE oS F 2) F 27 [(V.int .i32 r)] K =
 sel (bnot (ieq r 9))
 (sel (ilt r 32)
 (K (V.bool true))
 (K (V.bool (ilt 126 r))))
 (K (V.bool false)) := by kernel_rfl
set_option maxRecDepth 100000 in
theorem xCheck_top (F : Nat) (s : List UInt8) (K : V → Option V) :
 evBd oE (evFn oE xS0 F 2) F 9 [(V.str s)] K =
 sel (ilt 511 (slen s))
 (K (V.int .i64 9))
 (sel (band true (ile (slen s) 4000000))
 (sel (oddS s)
 (K (V.int .i64 7))
 (K (V.int .i64 0)))
 (none)) := by kernel_rfl
end Nt.Ev.YtpmemdamcadbgaaGreatDoor

set_option linter.unusedVariables false
set_option linter.unusedSimpArgs false
set_option linter.unusedSectionVars false
namespace Nt.Ev.YtpmemdamcadbgaaGreatDoor
open Go Go.RowKit Nt Nt.Num Nt.Lin Go.Proofs.YtpmemdamcadbgaaGreatDoor
def oddR (r : Int) : Bool := sel (bnot (ieq r 9)) (sel (ilt r 32) true (ilt 126 r)) false
theorem xOdd_ev (r : Int) : Contract oE 27 [.int .i32 r] (.bool (oddR r)) := by
  refine contract_of_body oE_ok oS_ok 1 2 ?_
  rw [xOdd_top]
  unfold oddR
  cases bnot (ieq r 9) <;> cases ilt r 32 <;> rfl
theorem idx_odd (s : ByteArray) : ∀ (f pos : Nat), pos ≤ s.size → s.size - pos ≤ f → decide (0 ≤ Go.Lib.idxFuncFrom (fun r => oddR (r : Int)) true s f pos) = (s.data.toList.drop pos).any fun c => oddR (c.toNat : Int)
  | 0, pos, h1, h2 => by
    rw [List.drop_of_length_le (by rw [Array.length_toList]; exact (show s.size ≤ pos by omega))]; rfl
  | f + 1, pos, h1, h2 => by
    unfold Go.Lib.idxFuncFrom
    by_cases hp : pos < s.size
    · rw [if_pos hp]
      have hl : pos < s.data.toList.length := by rw [Array.length_toList]; exact hp
      have hd : s.data.toList.drop pos = s.data.toList[pos] :: s.data.toList.drop (pos + 1) := List.drop_eq_getElem_cons hl
      have hb : s.data.toList[pos] = s[pos]'hp := by simp; rfl
      rw [hd, List.any_cons, hb]
      by_cases h : (s[pos]'hp).toNat < 128
      · rw [decode_ascii s pos hp h]
        cases ho : oddR (((s[pos]'hp).toNat : Nat) : Int) with
        | true => rw [if_pos rfl]; simp
        | false =>
          rw [if_neg (by decide), Bool.false_or]
          exact idx_odd s f (pos + 1) (by omega) (by omega)
      · have hi := (decode_high s pos hp (by omega)).1
        have e1 : ∀ n : Nat, 128 ≤ n → oddR (n : Int) = true := fun n hn => by
          unfold oddR
          rw [ieq_f (by omega), ilt_t (show (126 : Int) < (n : Int) by omega)]
          cases ilt (n : Int) 32 <;> rfl
        rw [if_pos (e1 _ hi), e1 _ (by omega)]; simp
    · rw [if_neg hp, List.drop_of_length_le (by rw [Array.length_toList]; exact (show s.size ≤ pos by omega))]; rfl
theorem odd_any (s : List UInt8) : (s.any fun c => oddR (c.toNat : Int)) = oddS s := by
  unfold oddS
  congr 1
  funext c
  unfold oddR
  cases bnot (ieq (c.toNat : Int) 9) <;> cases ilt (c.toNat : Int) 32 <;> cases ilt 126 (c.toNat : Int) <;> rfl
theorem xCfS_ok (s : List UInt8) (f : Nat) (hc : band (f == 27) (ile (slen s) 4000000) = true) : Contract oE 28 [.str s, .fn f []] (.bool (oddS s)) := by
  obtain ⟨h1, h2⟩ := band_true hc
  obtain rfl : f = 27 := by simpa using h1
  refine contract_old fun G w vs hG hg hp => ?_
  obtain ⟨x, y, rfl, hx, hy⟩ := PW_two hp
  unfold rep at hx hy
  obtain ⟨rfl, _⟩ := hy
  subst hx
  have hp : Go.Proofs.PredGrows Go.Proofs.Tryz.prog 27 #[] (fun r => oddR (r : Int)) w := by
    intro W x _ hb
    refine (xOdd_ev (x : Int) G W [.int .i32 x] ?_ ?_ ?_).mono ?_
    · intro b l hl
      obtain ⟨c, e, fr, hc, ht⟩ := hG b l hl
      exact ⟨c, e, fr, by rw [hb.block b (known_lt hG hl)]; exact hc, ht⟩
    · exact hg
    · exact .cons (by unfold rep; rfl) .nil
    · rintro e w' ⟨v, G', rfl, hN, hr⟩
      simp only [resrep, sres] at hr
      unfold rep at hr
      subst hr
      exact ⟨rfl, hN.1⟩
  refine (Go.Proofs.Tryz.strings_ContainsFunc_grows _ #[] (Go.Proofs.enters_of Go.Proofs.Tryz.func27 (by kernel_rfl) rfl) _ ⟨s.toArray⟩ w hp).mono ?_
  rintro e w' ⟨rfl, hb⟩
  refine ⟨_, rfl, hb, ?_⟩
  have : decide (0 ≤ Go.Lib.idxFunc (fun r => oddR (r : Int)) true ⟨s.toArray⟩) = oddS s := by
    rw [← odd_any]
    have := idx_odd ⟨s.toArray⟩ (⟨s.toArray⟩ : ByteArray).size 0 (Nat.zero_le _) (by omega)
    rw [List.drop_zero] at this
    exact this
  rw [this]
  exact res_bool _
theorem xS0_ok : SOk oE xS0 := by
  unfold xS0
  refine SOk.cons (fun args r h => ?_) (SOk.nil)
  · unfold xCfS at h
    split at h
    · simp only [Option.some.injEq, Prod.mk.injEq] at h
      obtain ⟨hc, rfl⟩ := h
      exact xCfS_ok _ _ hc
    · cases h
theorem xCkS_ok (s : List UInt8) (hc : ile (slen s) 4000000 = true) : Contract oE 9 [.str s] (.int .i64 (ckP s)) := by
  refine contract_of_body oE_ok xS0_ok 1 2 ?_
  rw [xCheck_top, hc]
  unfold ckP
  cases ilt 511 (slen s) <;> cases oddS s <;> rfl
end Nt.Ev.YtpmemdamcadbgaaGreatDoor
