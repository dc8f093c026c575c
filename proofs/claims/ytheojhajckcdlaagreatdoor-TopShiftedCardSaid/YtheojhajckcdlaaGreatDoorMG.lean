/-
  Year: equations of functions, as the evaluator prints them. Years: what the program's functions and the document's answer.
-/
import Derived.Test.YtheojhajckcdlaaGreatDoorME
import Derived.Test.YtheojhajckcdlaaGreatDoorMC
set_option linter.unusedVariables false
set_option linter.unusedSimpArgs false
set_option linter.unusedSectionVars false
namespace Nt.Ev.YtheojhajckcdlaaGreatDoor
set_option maxRecDepth 100000
open Go Nt.Num Go.Proofs.YtheojhajckcdlaaGreatDoor
noncomputable def yE : Env := ⟨Go.Proofs.Tryz.prog, fun _ => none⟩
noncomputable def nTextS : FSpec := fun a => match a with | [.int .i64 m] => some (band (ile (-9223372036854775808) m) (ile m 9223372036854775807), .str (text m)) | _ => none
noncomputable def idxS : FSpec := fun a => match a with | [.str s, .int .u8 c] => some (true, .int .i64 (idxB s c)) | _ => none
noncomputable def yS : List (Nat × FSpec) := (66, nTextS) :: (28, idxS) :: []
theorem yFromText_top (F : Nat) (n : Int) (K : V → Option V) :
 evBd yE (evFn yE yS F 4) F 41 [(V.int .i64 n)] K =
 sel (ile (-32767) n)
 (sel (bnot (ile n 32767))
 (K (V.tup [(V.str []), (V.int .i64 1)]))
 (sel (ieq n (-32767))
 (K (V.tup [(V.str [109, 105, 110]), (V.int .i64 0)]))
 (sel (band (ile (-9223372036854775808) n) (ile n 9223372036854775807))
 (K (V.tup [(V.str (text n)), (V.int .i64 0)]))
 (none))))
 (K (V.tup [(V.str []), (V.int .i64 1)])) := by kernel_rfl
theorem yToText_top (F : Nat) (m : Int) (n : Int) (K : V → Option V) :
 evBd yE (evFn yE yS F 4) F 40 [(V.int .i64 m), (V.int .i64 n)] K =
 sel (ile (-32767) n)
 (sel (bnot (ile n 32767))
 (K (V.tup [(V.str []), (V.int .i64 1)]))
 (sel (ilt n m)
 (K (V.tup [(V.str []), (V.int .i64 14)]))
 (sel (ieq n m)
 (K (V.tup [(V.str [111, 110, 108, 121]), (V.int .i64 0)]))
 (sel (ieq n 32767)
 (K (V.tup [(V.str [109, 97, 120]), (V.int .i64 0)]))
 (sel (band (ile (-9223372036854775808) n) (ile n 9223372036854775807))
 (K (V.tup [(V.str (text n)), (V.int .i64 0)]))
 (none))))))
 (K (V.tup [(V.str []), (V.int .i64 1)])) := by kernel_rfl
end Nt.Ev.YtheojhajckcdlaaGreatDoor

namespace Nt.Ev.YtheojhajckcdlaaGreatDoor
open Go Nt Nt.Num Go.Proofs.YtheojhajckcdlaaGreatDoor
theorem yE_ok : EOk yE := ⟨by kernel_rfl, by kernel_rfl⟩
theorem toY {f : Nat} {args : List V} {r : V} (h : Contract nE f args r) : Contract yE f args r := Contract.env (E := nE) rfl (fun n v h => by cases h) h
theorem fits_of {m : Int} (h : band (ile (-9223372036854775808) m) (ile m 9223372036854775807) = true) : Fits m := by rw [band_iff, ile_iff, ile_iff] at h; exact h
theorem nTextS_ok (m : Int) (hc : band (ile (-9223372036854775808) m) (ile m 9223372036854775807) = true) : Contract yE 66 [.int .i64 m] (.str (text m)) := toY (nText_ev m (fits_of hc))
theorem idxS_ok (s : List UInt8) (c : Int) (hc : true = true) : Contract yE 28 [.str s, .int .u8 c] (.int .i64 (idxB s c)) := toY (idx_c s c)
theorem yS_ok : SOk yE yS := by
  unfold yS
  refine SOk.cons (fun args r h => ?_) (SOk.cons (fun args r h => ?_) (SOk.nil))
  · unfold nTextS at h
    split at h
    · simp only [Option.some.injEq, Prod.mk.injEq] at h
      obtain ⟨hc, rfl⟩ := h
      exact nTextS_ok _ hc
    · cases h
  · unfold idxS at h
    split at h
    · simp only [Option.some.injEq, Prod.mk.injEq] at h
      obtain ⟨hc, rfl⟩ := h
      exact idxS_ok _ _ rfl
    · cases h
def minT : List UInt8 := [109, 105, 110]
def maxT : List UInt8 := [109, 97, 120]
def onlyT : List UInt8 := [111, 110, 108, 121]
def yFromTextP (n : Int) : List UInt8 × Int := if -32767 ≤ n ∧ n ≤ 32767 then (if n = -32767 then (minT, 0) else (text n, 0)) else ([], 1)
def yToTextP (m n : Int) : List UInt8 × Int := if -32767 ≤ n ∧ n ≤ 32767 then (if n < m then ([], 14) else if n = m then (onlyT, 0) else if n = 32767 then (maxT, 0) else (text n, 0)) else ([], 1)
def resS (p : List UInt8 × Int) : V := .tup [.str p.1, .int .i64 p.2]
theorem yFromText_ev (n : Int) : Contract yE 41 [.int .i64 n] (resS (yFromTextP n)) := by
  refine contract_of_body yE_ok yS_ok 5 4 ?_
  rw [yFromText_top]
  unfold yFromTextP resS minT
  simp only [sel_if, band_iff, bnot_iff, ieq_iff, ile_iff, ilt_iff, if_true, and_self, Bool.false_eq_true, if_false, not_true_eq_false, not_false_eq_true]
  repeat' split
  all_goals first | rfl | (exfalso; omega) | (simp only [Option.some.injEq, V.tup.injEq, List.cons.injEq, V.int.injEq, true_and, and_true]; omega) | (exfalso; simp_all; done) | (simp_all; done)
theorem yToText_ev (m n : Int) : Contract yE 40 [.int .i64 m, .int .i64 n] (resS (yToTextP m n)) := by
  refine contract_of_body yE_ok yS_ok 5 4 ?_
  rw [yToText_top]
  unfold yToTextP resS maxT onlyT
  simp only [sel_if, band_iff, bnot_iff, ieq_iff, ile_iff, ilt_iff, if_true, and_self, Bool.false_eq_true, if_false, not_true_eq_false, not_false_eq_true]
  repeat' split
  all_goals first | rfl | (exfalso; omega) | (simp only [Option.some.injEq, V.tup.injEq, List.cons.injEq, V.int.injEq, true_and, and_true]; omega) | (exfalso; simp_all; done) | (simp_all; done)
end Nt.Ev.YtheojhajckcdlaaGreatDoor
