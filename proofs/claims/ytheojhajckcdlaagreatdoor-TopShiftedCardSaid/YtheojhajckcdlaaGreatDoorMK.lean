/-
  Stamp: equations of functions, as the evaluator prints them. Stamps: Right, Secs, Of, Split, both sides.
-/
import Derived.Test.YtheojhajckcdlaaGreatDoorMI
set_option linter.unusedVariables false
set_option linter.unusedSimpArgs false
set_option linter.unusedSectionVars false
namespace Nt.Ev.YtheojhajckcdlaaGreatDoor
set_option maxRecDepth 100000
open Go Nt.Num Go.Proofs.YtheojhajckcdlaaGreatDoor
open Nt.Civil
def dyI (y m d : Int) : Int := (daysP y m d).1
def dyW (y m d : Int) : Int := (daysP y m d).2
def daY (n : Int) : Int := (dateP n).1
def daM (n : Int) : Int := (dateP n).2.1
def daD (n : Int) : Int := (dateP n).2.2.1
def daW (n : Int) : Int := (dateP n).2.2.2
noncomputable def sdivS : FSpec := fun a => match a with | [.int .i64 a, .int .i64 b] => some (band (band (ile (-9223372036854775808) a) (ile a 9223372036854775807)) (band (ilt 0 b) (ile b 1000000)), .tup [.int .i64 (fq a b), .int .i64 (fr a b), .int .i64 0]) | _ => none
noncomputable def srightS : FSpec := fun a => match a with | [.agg [.int .i64 y, .int .i64 m, .int .i64 d]] => some (true, .bool (validB y m d)) | _ => none
noncomputable def sdaysS : FSpec := fun a => match a with | [.agg [.int .i64 y, .int .i64 m, .int .i64 d]] => some (true, .tup [.int .i64 (dyI y m d), .int .i64 (dyW y m d)]) | _ => none
noncomputable def sdateS : FSpec := fun a => match a with | [.int .i64 n] => some (band (ile (-9223372036854775808) n) (ile n 9223372036854775807), .tup [.agg [.int .i64 (daY n), .int .i64 (daM n), .int .i64 (daD n)], .int .i64 (daW n)]) | _ => none
noncomputable def stS : List (Nat × FSpec) := (92, sdivS) :: (82, srightS) :: (94, sdaysS) :: (77, sdateS) :: []
noncomputable def stS2 : List (Nat × FSpec) := stS
theorem stOf_top (F : Nat) (t : Int) (K : V → Option V) :
 evBd vE (evFn vE stS2 F 3) F 54 [(V.int .i64 t)] K =
 sel (band (band (ile (-9223372036854775808) t) (ile t 9223372036854775807)) (band (ilt 0 86400) (ile 86400 1000000)))
 (sel (band (ile (-9223372036854775808) (fq t 86400)) (ile (fq t 86400) 9223372036854775807))
 (sel (bnot (ieq (daW (fq t 86400)) 0))
 (K (V.tup [(V.agg [(V.int .i64 0), (V.int .i64 0), (V.int .i64 0), (V.int .i64 0), (V.int .i64 0), (V.int .i64 0)]), (V.int .i64 (daW (fq t 86400)))]))
 (K (V.tup [(V.agg [(V.int .i64 (daY (fq t 86400))), (V.int .i64 (daM (fq t 86400))), (V.int .i64 (daD (fq t 86400))), (V.int .i64 (iquo .i64 (fr t 86400) 3600)), (V.int .i64 (iquo .i64 (irem (fr t 86400) 3600) 60)), (V.int .i64 (irem (fr t 86400) 60))]), (V.int .i64 0)])))
 (none))
 (none) := by kernel_rfl
end Nt.Ev.YtheojhajckcdlaaGreatDoor

namespace Nt.Ev.YtheojhajckcdlaaGreatDoor
set_option maxRecDepth 100000
open Go Go.RowKit Nt Nt.Num Nt.Civil Go.Proofs.YtheojhajckcdlaaGreatDoor
theorem sdivS_ok (a b : Int) (hc : band (band (ile (-9223372036854775808) a) (ile a 9223372036854775807)) (band (ilt 0 b) (ile b 1000000)) = true) : Contract vE 92 [.int .i64 a, .int .i64 b] (.tup [.int .i64 (fq a b), .int .i64 (fr a b), .int .i64 0]) := divS_ok a b hc
theorem srightS_ok (y m d : Int) (hc : true = true) : Contract vE 82 [.agg [.int .i64 y, .int .i64 m, .int .i64 d]] (.bool (validB y m d)) := rightS_ok y m d hc
theorem sdaysS_ok (y m d : Int) (hc : true = true) : Contract vE 94 [.agg [.int .i64 y, .int .i64 m, .int .i64 d]] (.tup [.int .i64 (dyI y m d), .int .i64 (dyW y m d)]) := vDays_ev y m d
theorem sdateS_ok (n : Int) (hc : band (ile (-9223372036854775808) n) (ile n 9223372036854775807) = true) : Contract vE 77 [.int .i64 n] (.tup [.agg [.int .i64 (daY n), .int .i64 (daM n), .int .i64 (daD n)], .int .i64 (daW n)]) := vDate_ev n
theorem stS_ok : SOk vE stS := by
  unfold stS
  refine SOk.cons (fun args r h => ?_) (SOk.cons (fun args r h => ?_) (SOk.cons (fun args r h => ?_) (SOk.cons (fun args r h => ?_) (SOk.nil))))
  · unfold sdivS at h
    split at h
    · simp only [Option.some.injEq, Prod.mk.injEq] at h
      obtain ⟨hc, rfl⟩ := h
      exact sdivS_ok _ _ hc
    · cases h
  · unfold srightS at h
    split at h
    · simp only [Option.some.injEq, Prod.mk.injEq] at h
      obtain ⟨hc, rfl⟩ := h
      exact srightS_ok _ _ _ rfl
    · cases h
  · unfold sdaysS at h
    split at h
    · simp only [Option.some.injEq, Prod.mk.injEq] at h
      obtain ⟨hc, rfl⟩ := h
      exact sdaysS_ok _ _ _ rfl
    · cases h
  · unfold sdateS at h
    split at h
    · simp only [Option.some.injEq, Prod.mk.injEq] at h
      obtain ⟨hc, rfl⟩ := h
      exact sdateS_ok _ hc
    · cases h
theorem stS2_ok : SOk vE stS2 := by
  unfold stS2
  refine stS_ok
def ofP (t : Int) : List Int × Int := if inRange (t / 86400) = true then ([dY (t / 86400), dM (t / 86400), dD (t / 86400), t % 86400 / 3600, t % 86400 / 60 % 60, t % 86400 % 60], 0) else ([0, 0, 0, 0, 0, 0], 1)
def resO (p : List Int × Int) : V := .tup [.agg (p.1.map (V.int .i64)), .int .i64 p.2]
theorem da_in {n : Int} (h : inRange n = true) : daY n = dY n ∧ daM n = dM n ∧ daD n = dD n ∧ daW n = 0 := by
  unfold daY daM daD daW dateP; rw [if_pos h]; exact ⟨rfl, rfl, rfl, rfl⟩
theorem da_out {n : Int} (h : ¬ inRange n = true) : daW n = 1 := by
  unfold daW dateP; rw [if_neg h]
theorem stOf_ev (t : Int) (ht : Fits t) : Contract vE 54 [.int .i64 t] (resO (ofP t)) := by
  refine contract_of_body vE_ok stS2_ok 5 3 ?_
  unfold Fits at ht
  have e1 : fq t 86400 = t / 86400 := rfl
  have e2 : fr t 86400 = t % 86400 := rfl
  rw [stOf_top, sel_pos (by simp only [band_iff, ile_iff, ilt_iff]; omega), e1, e2, sel_pos (by simp only [band_iff, ile_iff]; omega)]
  unfold ofP
  by_cases hr : inRange (t / 86400) = true
  · obtain ⟨a1, a2, a3, a4⟩ := da_in hr
    rw [a1, a2, a3, a4, sel_neg (by rfl), if_pos hr]
    have hm : 0 ≤ t % 86400 ∧ t % 86400 < 86400 := by omega
    generalize t % 86400 = r at *
    have hd : r % 3600 / 60 = r / 60 % 60 := by omega
    simp (disch := omega) only [iquo64, irem_pos]
    rw [hd]; rfl
  · rw [da_out hr, sel_pos (by rfl), if_neg hr]; rfl
end Nt.Ev.YtheojhajckcdlaaGreatDoor
