/-
  Clock: equations of functions, as the evaluator prints them. Times of day: what the program's functions and the document's answer.
-/
import Derived.Test.YteccmgkfmeoekaaDoorMF
import Derived.Test.YteccmgkfmeoekaaDoorME
import Derived.Shelf.Strings.SlTrimAscii
set_option linter.unusedVariables false
set_option linter.unusedSimpArgs false
set_option linter.unusedSectionVars false
namespace Nt.Ev.YteccmgkfmeoekaaDoor
open Go Nt.Num Go.Proofs.YteccmgkfmeoekaaDoor
variable [MLen]
def rdI (s : List UInt8) : Int := (Amount.read s).1
def rdWc (s : List UInt8) : Int := (Amount.read s).2
def asciiBc (l : List UInt8) : Bool := l.all fun c => decide (c.toNat < 128)
noncomputable def cReadS : FSpec := fun a => match a with | [.str s] => some (ile (slen s) 1000, .tup [.int .i64 (rdI s), .int .i64 (rdWc s)]) | _ => none
noncomputable def cS : List (Nat × FSpec) := (117, cReadS) :: []
set_option maxRecDepth 100000 in
theorem cRight_top (F : Nat) (n : Int) (b : Int) (K : V → Option V) :
 evBd aE (evFn aE cS F 2) F 57 [(V.agg [(V.int .i64 n), (V.int .i64 b)])] K =
 sel (ieq b 0)
 (sel (ieq b 0)
 (sel (ile 0 n)
 (K (V.bool (ile n 172800)))
 (K (V.bool false)))
 (K (V.bool false)))
 (sel (ieq b 1)
 (sel (ieq b 1)
 (sel (ile 0 n)
 (K (V.bool (ile n 172800)))
 (K (V.bool false)))
 (K (V.bool false)))
 (sel (ieq b 2)
 (sel (ile 0 n)
 (K (V.bool (ile n 172800)))
 (K (V.bool false)))
 (K (V.bool false)))) := by kernel_rfl
end Nt.Ev.YteccmgkfmeoekaaDoor

set_option linter.unusedVariables false
set_option linter.unusedSimpArgs false
set_option linter.unusedSectionVars false
namespace Nt.Ev.YteccmgkfmeoekaaDoor
open Go Nt Nt.Num Go.Proofs.YteccmgkfmeoekaaDoor
variable [MLen]
theorem lenA {s : List UInt8} (h : ile (slen s) 1000 = true) : s.length ≤ 1000 := by rw [ile_iff, slen_nat] at h; omega
theorem cReadS_ok (s : List UInt8) (hc : ile (slen s) 1000 = true) : Contract aE 117 [.str s] (.tup [.int .i64 (rdI s), .int .i64 (rdWc s)]) := aread_ev s (lenA hc)
theorem cS_ok : SOk aE cS := by
  unfold cS
  refine SOk.cons (fun args r h => ?_) (SOk.nil)
  · unfold cReadS at h
    split at h
    · simp only [Option.some.injEq, Prod.mk.injEq] at h
      obtain ⟨hc, rfl⟩ := h
      exact cReadS_ok _ hc
    · cases h
def rightC (n b : Int) : Bool := decide (0 ≤ n ∧ n ≤ 172800 ∧ 0 ≤ b ∧ b ≤ 2)
theorem cRight_ev (n b : Int) : Contract aE 57 [.agg [.int .i64 n, .int .i64 b]] (.bool (rightC n b)) := by
  refine contract_of_body aE_ok cS_ok 5 2 ?_
  rw [cRight_top]
  unfold rightC
  simp only [sel_if, ile_iff, ieq_iff]
  repeat' split
  all_goals first | (rw [decide_eq_false (by omega)]; done) | (congr 2; unfold ile; rw [Bool.eq_iff_iff]; simp; omega)
end Nt.Ev.YteccmgkfmeoekaaDoor
