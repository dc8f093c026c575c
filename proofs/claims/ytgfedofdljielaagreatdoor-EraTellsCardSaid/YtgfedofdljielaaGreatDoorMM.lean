/-
  Months: equations of functions, as the evaluator prints them. Words: months, for the evaluator, both sides. Rule: equations of functions, as the evaluator prints them. Rules: what the program's functions and the document's answer. Rules: what is read, and what may be. Rules: there and back, in plain terms. RuleLaw: equations of functions, as the evaluator prints them. Rules: the two statements.
-/
import Derived.Test.YtgfedofdljielaaGreatDoorML
import Derived.Test.YtgfedofdljielaaGreatDoorMG
import Derived.Test.YtgfedofdljielaaGreatDoorMH
import Derived.Test.YtgfedofdljielaaGreatDoorMJ
import Derived.Test.YtgfedofdljielaaGreatDoorMI
import Derived.Test.YtgfedofdljielaaGreatDoorMF
set_option linter.unusedVariables false
set_option linter.unusedSimpArgs false
set_option linter.unusedSectionVars false
namespace Nt.Ev.YtgfedofdljielaaGreatDoor
open Go Nt.Num Go.Proofs.YtgfedofdljielaaGreatDoor
noncomputable def monthsV : V := .rptr [.str, .str, .str, .str, .str, .str, .str, .str, .str, .str, .str, .str] (.agg [.str [74, 97, 110, 117, 97, 114, 121], .str [70, 101, 98, 114, 117, 97, 114, 121], .str [77, 97, 114, 99, 104], .str [65, 112, 114, 105, 108], .str [77, 97, 121], .str [74, 117, 110, 101], .str [74, 117, 108, 121], .str [65, 117, 103, 117, 115, 116], .str [83, 101, 112, 116, 101, 109, 98, 101, 114], .str [79, 99, 116, 111, 98, 101, 114], .str [78, 111, 118, 101, 109, 98, 101, 114], .str [68, 101, 99, 101, 109, 98, 101, 114]]) 0
noncomputable def mE : Env := ⟨Go.Proofs.Tryz.prog, fun g => bif g == 1 then some monthsV else none⟩
noncomputable def mMatchS : FSpec := fun a => match a with | [.str s, .sl e [.str] o ws] => some (band (ile (slen s) 1000) (wsOk ws), .tup [.int .i64 (mtI s ws), .int .i64 (mtW s ws)]) | _ => none
noncomputable def mS : List (Nat × FSpec) := (117, mMatchS) :: (83, mMatchS) :: []
set_option maxRecDepth 100000 in
theorem mMonth_top (F : Nat) (s : List UInt8) (K : V → Option V) :
 evBd mE (evFn mE mS F 2) F 72 [(V.str s)] K =
 sel (band (ile (slen s) 1000) (wsOk [(V.str [74, 97, 110, 117, 97, 114, 121]), (V.str [70, 101, 98, 114, 117, 97, 114, 121]), (V.str [77, 97, 114, 99, 104]), (V.str [65, 112, 114, 105, 108]), (V.str [77, 97, 121]), (V.str [74, 117, 110, 101]), (V.str [74, 117, 108, 121]), (V.str [65, 117, 103, 117, 115, 116]), (V.str [83, 101, 112, 116, 101, 109, 98, 101, 114]), (V.str [79, 99, 116, 111, 98, 101, 114]), (V.str [78, 111, 118, 101, 109, 98, 101, 114]), (V.str [68, 101, 99, 101, 109, 98, 101, 114])]))
 (sel (bnot (ieq (mtW s [(V.str [74, 97, 110, 117, 97, 114, 121]), (V.str [70, 101, 98, 114, 117, 97, 114, 121]), (V.str [77, 97, 114, 99, 104]), (V.str [65, 112, 114, 105, 108]), (V.str [77, 97, 121]), (V.str [74, 117, 110, 101]), (V.str [74, 117, 108, 121]), (V.str [65, 117, 103, 117, 115, 116]), (V.str [83, 101, 112, 116, 101, 109, 98, 101, 114]), (V.str [79, 99, 116, 111, 98, 101, 114]), (V.str [78, 111, 118, 101, 109, 98, 101, 114]), (V.str [68, 101, 99, 101, 109, 98, 101, 114])]) 0))
 (K (V.tup [(V.int .i64 0), (V.int .i64 (mtW s [(V.str [74, 97, 110, 117, 97, 114, 121]), (V.str [70, 101, 98, 114, 117, 97, 114, 121]), (V.str [77, 97, 114, 99, 104]), (V.str [65, 112, 114, 105, 108]), (V.str [77, 97, 121]), (V.str [74, 117, 110, 101]), (V.str [74, 117, 108, 121]), (V.str [65, 117, 103, 117, 115, 116]), (V.str [83, 101, 112, 116, 101, 109, 98, 101, 114]), (V.str [79, 99, 116, 111, 98, 101, 114]), (V.str [78, 111, 118, 101, 109, 98, 101, 114]), (V.str [68, 101, 99, 101, 109, 98, 101, 114])]))]))
 (K (V.tup [(V.int .i64 (iadd .i64 (mtI s [(V.str [74, 97, 110, 117, 97, 114, 121]), (V.str [70, 101, 98, 114, 117, 97, 114, 121]), (V.str [77, 97, 114, 99, 104]), (V.str [65, 112, 114, 105, 108]), (V.str [77, 97, 121]), (V.str [74, 117, 110, 101]), (V.str [74, 117, 108, 121]), (V.str [65, 117, 103, 117, 115, 116]), (V.str [83, 101, 112, 116, 101, 109, 98, 101, 114]), (V.str [79, 99, 116, 111, 98, 101, 114]), (V.str [78, 111, 118, 101, 109, 98, 101, 114]), (V.str [68, 101, 99, 101, 109, 98, 101, 114])]) 1)), (V.int .i64 0)])))
 (none) := by kernel_rfl
set_option maxRecDepth 100000 in
theorem rMonth_top (F : Nat) (s : List UInt8) (K : V → Option V) :
 evBd mE (evFn mE mS F 2) F 29 [(V.str s)] K =
 sel (band (ile (slen s) 1000) (wsOk [(V.str [74, 97, 110, 117, 97, 114, 121]), (V.str [70, 101, 98, 114, 117, 97, 114, 121]), (V.str [77, 97, 114, 99, 104]), (V.str [65, 112, 114, 105, 108]), (V.str [77, 97, 121]), (V.str [74, 117, 110, 101]), (V.str [74, 117, 108, 121]), (V.str [65, 117, 103, 117, 115, 116]), (V.str [83, 101, 112, 116, 101, 109, 98, 101, 114]), (V.str [79, 99, 116, 111, 98, 101, 114]), (V.str [78, 111, 118, 101, 109, 98, 101, 114]), (V.str [68, 101, 99, 101, 109, 98, 101, 114])]))
 (sel (bnot (ieq (mtW s [(V.str [74, 97, 110, 117, 97, 114, 121]), (V.str [70, 101, 98, 114, 117, 97, 114, 121]), (V.str [77, 97, 114, 99, 104]), (V.str [65, 112, 114, 105, 108]), (V.str [77, 97, 121]), (V.str [74, 117, 110, 101]), (V.str [74, 117, 108, 121]), (V.str [65, 117, 103, 117, 115, 116]), (V.str [83, 101, 112, 116, 101, 109, 98, 101, 114]), (V.str [79, 99, 116, 111, 98, 101, 114]), (V.str [78, 111, 118, 101, 109, 98, 101, 114]), (V.str [68, 101, 99, 101, 109, 98, 101, 114])]) 0))
 (K (V.tup [(V.int .i64 0), (V.int .i64 (mtW s [(V.str [74, 97, 110, 117, 97, 114, 121]), (V.str [70, 101, 98, 114, 117, 97, 114, 121]), (V.str [77, 97, 114, 99, 104]), (V.str [65, 112, 114, 105, 108]), (V.str [77, 97, 121]), (V.str [74, 117, 110, 101]), (V.str [74, 117, 108, 121]), (V.str [65, 117, 103, 117, 115, 116]), (V.str [83, 101, 112, 116, 101, 109, 98, 101, 114]), (V.str [79, 99, 116, 111, 98, 101, 114]), (V.str [78, 111, 118, 101, 109, 98, 101, 114]), (V.str [68, 101, 99, 101, 109, 98, 101, 114])]))]))
 (K (V.tup [(V.int .i64 (iadd .i64 (mtI s [(V.str [74, 97, 110, 117, 97, 114, 121]), (V.str [70, 101, 98, 114, 117, 97, 114, 121]), (V.str [77, 97, 114, 99, 104]), (V.str [65, 112, 114, 105, 108]), (V.str [77, 97, 121]), (V.str [74, 117, 110, 101]), (V.str [74, 117, 108, 121]), (V.str [65, 117, 103, 117, 115, 116]), (V.str [83, 101, 112, 116, 101, 109, 98, 101, 114]), (V.str [79, 99, 116, 111, 98, 101, 114]), (V.str [78, 111, 118, 101, 109, 98, 101, 114]), (V.str [68, 101, 99, 101, 109, 98, 101, 114])]) 1)), (V.int .i64 0)])))
 (none) := by kernel_rfl
set_option maxRecDepth 100000 in
theorem mMText_top (F : Nat) (n : Int) (K : V → Option V) :
 evBd mE (evFn mE mS F 2) F 40 [(V.int .i64 n)] K =
 sel (ilt n 1)
 (K (V.str []))
 (sel (ilt (isub .i64 n 1) 0)
 (K (V.str []))
 (sel (ile (llen [(V.str [74, 97, 110, 117, 97, 114, 121]), (V.str [70, 101, 98, 114, 117, 97, 114, 121]), (V.str [77, 97, 114, 99, 104]), (V.str [65, 112, 114, 105, 108]), (V.str [77, 97, 121]), (V.str [74, 117, 110, 101]), (V.str [74, 117, 108, 121]), (V.str [65, 117, 103, 117, 115, 116]), (V.str [83, 101, 112, 116, 101, 109, 98, 101, 114]), (V.str [79, 99, 116, 111, 98, 101, 114]), (V.str [78, 111, 118, 101, 109, 98, 101, 114]), (V.str [68, 101, 99, 101, 109, 98, 101, 114])]) (isub .i64 n 1))
 (K (V.str []))
 (sel (band (ile 0 (isub .i64 n 1)) (ilt (isub .i64 n 1) (llen [(V.str [74, 97, 110, 117, 97, 114, 121]), (V.str [70, 101, 98, 114, 117, 97, 114, 121]), (V.str [77, 97, 114, 99, 104]), (V.str [65, 112, 114, 105, 108]), (V.str [77, 97, 121]), (V.str [74, 117, 110, 101]), (V.str [74, 117, 108, 121]), (V.str [65, 117, 103, 117, 115, 116]), (V.str [83, 101, 112, 116, 101, 109, 98, 101, 114]), (V.str [79, 99, 116, 111, 98, 101, 114]), (V.str [78, 111, 118, 101, 109, 98, 101, 114]), (V.str [68, 101, 99, 101, 109, 98, 101, 114])])))
 (sel (band (ile 0 3) (ile 3 (slen (asStr (acell (lget [(V.str [74, 97, 110, 117, 97, 114, 121]), (V.str [70, 101, 98, 114, 117, 97, 114, 121]), (V.str [77, 97, 114, 99, 104]), (V.str [65, 112, 114, 105, 108]), (V.str [77, 97, 121]), (V.str [74, 117, 110, 101]), (V.str [74, 117, 108, 121]), (V.str [65, 117, 103, 117, 115, 116]), (V.str [83, 101, 112, 116, 101, 109, 98, 101, 114]), (V.str [79, 99, 116, 111, 98, 101, 114]), (V.str [78, 111, 118, 101, 109, 98, 101, 114]), (V.str [68, 101, 99, 101, 109, 98, 101, 114])] (isub .i64 n 1)) 0)))))
 (K (V.str (ssub (asStr (acell (lget [(V.str [74, 97, 110, 117, 97, 114, 121]), (V.str [70, 101, 98, 114, 117, 97, 114, 121]), (V.str [77, 97, 114, 99, 104]), (V.str [65, 112, 114, 105, 108]), (V.str [77, 97, 121]), (V.str [74, 117, 110, 101]), (V.str [74, 117, 108, 121]), (V.str [65, 117, 103, 117, 115, 116]), (V.str [83, 101, 112, 116, 101, 109, 98, 101, 114]), (V.str [79, 99, 116, 111, 98, 101, 114]), (V.str [78, 111, 118, 101, 109, 98, 101, 114]), (V.str [68, 101, 99, 101, 109, 98, 101, 114])] (isub .i64 n 1)) 0)) 0 3)))
 (none))
 (none)))) := by kernel_rfl
set_option maxRecDepth 100000 in
theorem rMText_top (F : Nat) (n : Int) (K : V → Option V) :
 evBd mE (evFn mE mS F 2) F 47 [(V.int .i64 n)] K =
 sel (ilt n 1)
 (K (V.str []))
 (sel (ilt 12 n)
 (K (V.str []))
 (sel (band (ile 0 (isub .i64 n 1)) (ilt (isub .i64 n 1) (llen [(V.str [74, 97, 110, 117, 97, 114, 121]), (V.str [70, 101, 98, 114, 117, 97, 114, 121]), (V.str [77, 97, 114, 99, 104]), (V.str [65, 112, 114, 105, 108]), (V.str [77, 97, 121]), (V.str [74, 117, 110, 101]), (V.str [74, 117, 108, 121]), (V.str [65, 117, 103, 117, 115, 116]), (V.str [83, 101, 112, 116, 101, 109, 98, 101, 114]), (V.str [79, 99, 116, 111, 98, 101, 114]), (V.str [78, 111, 118, 101, 109, 98, 101, 114]), (V.str [68, 101, 99, 101, 109, 98, 101, 114])])))
 (sel (band (ile 0 3) (ile 3 (slen (asStr (acell (lget [(V.str [74, 97, 110, 117, 97, 114, 121]), (V.str [70, 101, 98, 114, 117, 97, 114, 121]), (V.str [77, 97, 114, 99, 104]), (V.str [65, 112, 114, 105, 108]), (V.str [77, 97, 121]), (V.str [74, 117, 110, 101]), (V.str [74, 117, 108, 121]), (V.str [65, 117, 103, 117, 115, 116]), (V.str [83, 101, 112, 116, 101, 109, 98, 101, 114]), (V.str [79, 99, 116, 111, 98, 101, 114]), (V.str [78, 111, 118, 101, 109, 98, 101, 114]), (V.str [68, 101, 99, 101, 109, 98, 101, 114])] (isub .i64 n 1)) 0)))))
 (K (V.str (ssub (asStr (acell (lget [(V.str [74, 97, 110, 117, 97, 114, 121]), (V.str [70, 101, 98, 114, 117, 97, 114, 121]), (V.str [77, 97, 114, 99, 104]), (V.str [65, 112, 114, 105, 108]), (V.str [77, 97, 121]), (V.str [74, 117, 110, 101]), (V.str [74, 117, 108, 121]), (V.str [65, 117, 103, 117, 115, 116]), (V.str [83, 101, 112, 116, 101, 109, 98, 101, 114]), (V.str [79, 99, 116, 111, 98, 101, 114]), (V.str [78, 111, 118, 101, 109, 98, 101, 114]), (V.str [68, 101, 99, 101, 109, 98, 101, 114])] (isub .i64 n 1)) 0)) 0 3)))
 (none))
 (none))) := by kernel_rfl
end Nt.Ev.YtgfedofdljielaaGreatDoor

set_option linter.unusedVariables false
set_option linter.unusedSimpArgs false
namespace Nt.Ev.YtgfedofdljielaaGreatDoor
open Go Go.RowKit Nt Nt.Num Go.Proofs.YtgfedofdljielaaGreatDoor
theorem mE_ok : EOk mE := ⟨by kernel_rfl, by kernel_rfl⟩
theorem toM {f : Nat} {args : List V} {r : V} (h : Contract nE f args r) : Contract mE f args r := Contract.env (E := nE) rfl (fun n v h => by cases h) h
theorem mMatchS_ok (s : List UInt8) (e : Nat) (o : Option Nat) (ws : List V) (hc : band (ile (slen s) 1000) (wsOk ws) = true) : Contract mE 117 [.str s, .sl e [.str] o ws] (.tup [.int .i64 (mtI s ws), .int .i64 (mtW s ws)]) := by
  obtain ⟨h1, h2⟩ := band_true hc
  exact toM (wMatch_c s e o ws (len_w h1) h2)
theorem mMatchS_ok_noontideref15_Match (s : List UInt8) (e : Nat) (o : Option Nat) (ws : List V) (hc : band (ile (slen s) 1000) (wsOk ws) = true) : Contract mE 83 [.str s, .sl e [.str] o ws] (.tup [.int .i64 (mtI s ws), .int .i64 (mtW s ws)]) := by
  obtain ⟨h1, h2⟩ := band_true hc
  exact toM (rMatch_c s e o ws (len_w h1) h2)
theorem mS_ok : SOk mE mS := by
  unfold mS
  refine SOk.cons (fun args r h => ?_) (SOk.cons (fun args r h => ?_) (SOk.nil))
  · unfold mMatchS at h
    split at h
    · simp only [Option.some.injEq, Prod.mk.injEq] at h
      obtain ⟨hc, rfl⟩ := h
      exact mMatchS_ok _ _ _ _ hc
    · cases h
  · unfold mMatchS at h
    split at h
    · simp only [Option.some.injEq, Prod.mk.injEq] at h
      obtain ⟨hc, rfl⟩ := h
      exact mMatchS_ok_noontideref15_Match _ _ _ _ hc
    · cases h
def moV : List V := [.str [74, 97, 110, 117, 97, 114, 121], .str [70, 101, 98, 114, 117, 97, 114, 121], .str [77, 97, 114, 99, 104], .str [65, 112, 114, 105, 108], .str [77, 97, 121], .str [74, 117, 110, 101], .str [74, 117, 108, 121], .str [65, 117, 103, 117, 115, 116], .str [83, 101, 112, 116, 101, 109, 98, 101, 114], .str [79, 99, 116, 111, 98, 101, 114], .str [78, 111, 118, 101, 109, 98, 101, 114], .str [68, 101, 99, 101, 109, 98, 101, 114]]
def moI (s : List UInt8) : Int := if mtW s moV = 0 then mtI s moV + 1 else 0
def moW (s : List UInt8) : Int := mtW s moV
theorem moV_ok : wsOk moV = true := by decide
theorem mt_small (s : List UInt8) (ws : List V) (h : ws.length ≤ 1000) (h0 : mtW s ws = 0) : 0 ≤ mtI s ws ∧ mtI s ws < ws.length := by
  unfold mtW at h0
  have := mt_lt ⟨s.toArray⟩ (wsB ws) (by omega)
  unfold mtI
  rw [show (wsB ws).length = ws.length from List.length_map ..] at this
  omega
theorem mMonth_ev (s : List UInt8) (hs : s.length ≤ 1000) : Contract mE 72 [.str s] (.tup [.int .i64 (moI s), .int .i64 (moW s)]) := by
  refine contract_of_body mE_ok mS_ok 5 2 ?_
  have hc : band (ile (slen s) 1000) (wsOk moV) = true := by rw [band_iff]; exact ⟨ile_t (by rw [slen_nat]; omega), moV_ok⟩
  rw [mMonth_top]
  refine (sel_pos hc).trans ?_
  unfold moI moW
  by_cases h : mtW s moV = 0
  · have := mt_small s moV (by decide) h
    have e : (moV.length : Int) = 12 := rfl
    refine (sel_neg (show bnot (ieq (mtW s moV) 0) = false by rw [ieq_t h]; rfl)).trans ?_
    rw [if_pos h]
    show some (V.tup [V.int .i64 (iadd .i64 (mtI s moV) 1), V.int .i64 _]) = _
    rw [iadd64 (by omega)]
    first | rfl | (rw [h]; rfl) | (rw [h])
  · refine (sel_pos (show bnot (ieq (mtW s moV) 0) = true by rw [ieq_f h]; rfl)).trans ?_
    rw [if_neg h]; rfl
theorem rMonth_ev (s : List UInt8) (hs : s.length ≤ 1000) : Contract mE 29 [.str s] (.tup [.int .i64 (moI s), .int .i64 (moW s)]) := by
  refine contract_of_body mE_ok mS_ok 5 2 ?_
  have hc : band (ile (slen s) 1000) (wsOk moV) = true := by rw [band_iff]; exact ⟨ile_t (by rw [slen_nat]; omega), moV_ok⟩
  rw [rMonth_top]
  refine (sel_pos hc).trans ?_
  unfold moI moW
  by_cases h : mtW s moV = 0
  · have := mt_small s moV (by decide) h
    have e : (moV.length : Int) = 12 := rfl
    refine (sel_neg (show bnot (ieq (mtW s moV) 0) = false by rw [ieq_t h]; rfl)).trans ?_
    rw [if_pos h]
    show some (V.tup [V.int .i64 (iadd .i64 (mtI s moV) 1), V.int .i64 _]) = _
    rw [iadd64 (by omega)]
    first | rfl | (rw [h]; rfl) | (rw [h])
  · refine (sel_pos (show bnot (ieq (mtW s moV) 0) = true by rw [ieq_f h]; rfl)).trans ?_
    rw [if_neg h]; rfl
def moT (n : Int) : List UInt8 := if 1 ≤ n ∧ n ≤ 12 then (asStr (moV.getD (n - 1).toNat .any)).take 3 else []
theorem mMText_ev (n : Int) (hn : Fits n) : Contract mE 40 [.int .i64 n] (.str (moT n)) := by
  refine contract_of_body mE_ok mS_ok 5 2 ?_
  rw [mMText_top]
  by_cases h : 1 ≤ n ∧ n ≤ 12
  · obtain rfl | rfl | rfl | rfl | rfl | rfl | rfl | rfl | rfl | rfl | rfl | rfl : n = 1 ∨ n = 2 ∨ n = 3 ∨ n = 4 ∨ n = 5 ∨ n = 6 ∨ n = 7 ∨ n = 8 ∨ n = 9 ∨ n = 10 ∨ n = 11 ∨ n = 12 := by omega
    all_goals rfl
  · have e : moT n = [] := by unfold moT; rw [if_neg h]
    rw [e]
    by_cases h1 : n < 1
    · rw [sel_pos (ilt_t h1)]
    · unfold Fits at hn
      have e1 : isub .i64 n 1 = n - 1 := isub64 (by omega)
      rw [sel_neg (ilt_f (by omega)), e1, sel_neg (ilt_f (by omega)), sel_pos (ile_t (by rw [llen_nat]; show (12 : Int) ≤ n - 1; omega))]
theorem rMText_ev (n : Int) (hn : Fits n) : Contract mE 47 [.int .i64 n] (.str (moT n)) := by
  refine contract_of_body mE_ok mS_ok 5 2 ?_
  rw [rMText_top]
  by_cases h : 1 ≤ n ∧ n ≤ 12
  · obtain rfl | rfl | rfl | rfl | rfl | rfl | rfl | rfl | rfl | rfl | rfl | rfl : n = 1 ∨ n = 2 ∨ n = 3 ∨ n = 4 ∨ n = 5 ∨ n = 6 ∨ n = 7 ∨ n = 8 ∨ n = 9 ∨ n = 10 ∨ n = 11 ∨ n = 12 := by omega
    all_goals rfl
  · have e : moT n = [] := by unfold moT; rw [if_neg h]
    rw [e]
    by_cases h1 : n < 1
    · rw [sel_pos (ilt_t h1)]
    · rw [sel_neg (ilt_f (by omega)), sel_pos (ilt_t (by omega))]
end Nt.Ev.YtgfedofdljielaaGreatDoor

set_option linter.unusedVariables false
set_option linter.unusedSimpArgs false
set_option linter.unusedSectionVars false
namespace Nt.Ev.YtgfedofdljielaaGreatDoor
open Go Nt.Num Go.Proofs.YtgfedofdljielaaGreatDoor
variable [MLen]
open Nt.Civil
noncomputable def zE : Env := ⟨Go.Proofs.Tryz.prog, fun g => bif g == 3 then some weekdaysV else bif g == 1 then some monthsV else bif g == 2 then some partsV else bif g == 4 then some (.rptr [.int .i64] (.int .i64 MLen.val) 0) else none⟩
noncomputable def zByteS : FSpec := fun a => match a with | [.str s, .int .u8 c] => some (true, .int .i64 (idxB s c)) | _ => none
noncomputable def zLenS : FSpec := fun a => match a with | [.int .i64 y, .int .i64 m] => some (band (ile (-9223372036854775808) y) (ile y 9223372036854775807), .int .i64 (lenI y m)) | _ => none
noncomputable def zOnS : FSpec := fun a => match a with | [.agg [.int .i64 k, .int .i64 w, .int .i64 d]] => some (true, .bool (onB k w d)) | _ => none
noncomputable def zS0 : List (Nat × FSpec) := (53, zByteS) :: (97, zLenS) :: (98, zLenS) :: (88, zOnS) :: (93, zOnS) :: []
def fstC (c : UInt8) : Bool := (decide (65 ≤ c.toNat) && decide (c.toNat ≤ 90)) || (decide (97 ≤ c.toNat) && decide (c.toNat ≤ 122)) || c == 95
def othC (c : UInt8) : Bool := (decide (48 ≤ c.toNat) && decide (c.toNat ≤ 57)) || c == 45 || c == 43 || c == 47 || c == 46
def nmC (k : Nat) (c : UInt8) : Bool := fstC c || (decide (0 < k) && othC c)
def nmF : Nat → List UInt8 → Bool | _, [] => true | k, c :: t => nmC k c && nmF (k + 1) t
def nmI (s : List UInt8) : Int := if 64 < s.length then 9 else if nmF 0 s = true ∧ s ≠ [] then 0 else 10
def ftB (k w d m : Int) : Bool := onB k w d && decide (1 ≤ m ∧ m ≤ 12 ∧ d ≤ lenI 1 m)
def yfI (s : List UInt8) : Int := (yFromP s).1
def yfE (s : List UInt8) : Int := (yFromP s).2
def ytI (s : List UInt8) (n : Int) : Int := (yToP s n).1
def ytE (s : List UInt8) (n : Int) : Int := (yToP s n).2
def ckA (s : List UInt8) : Int := (readC s).1
def ckB (s : List UInt8) : Int := (readC s).2.1
def ckE (s : List UInt8) : Int := (readC s).2.2
def tcT (n b : Int) : List UInt8 := (textC n b).1
def tcW (n b : Int) : Int := (textC n b).2
def amI (s : List UInt8) : Int := (Amount.read s).1
def amW (s : List UInt8) : Int := (Amount.read s).2
def amT (n : Int) : List UInt8 := (Amount.text n).1
def amE (n : Int) : Int := (Amount.text n).2
def fxT (n : Int) : List UInt8 := (yFromTextP n).1
def fxW (n : Int) : Int := (yFromTextP n).2
def txTy (m n : Int) : List UInt8 := (yToTextP m n).1
def txWy (m n : Int) : Int := (yToTextP m n).2
noncomputable def zNameS : FSpec := fun a => match a with | [.str s] => some (ile (slen s) 1000, .int .i64 (nmI s)) | _ => none
noncomputable def zFitsS : FSpec := fun a => match a with | [.agg [.int .i64 k, .int .i64 w, .int .i64 d], .int .i64 m] => some (true, .bool (ftB k w d m)) | _ => none
noncomputable def zFromS : FSpec := fun a => match a with | [.str s] => some (ile (slen s) 900, .tup [.int .i64 (yfI s), .int .i64 (yfE s)]) | _ => none
noncomputable def zToS : FSpec := fun a => match a with | [.str s, .int .i64 n] => some (ile (slen s) 900, .tup [.int .i64 (ytI s n), .int .i64 (ytE s n)]) | _ => none
noncomputable def zMonS : FSpec := fun a => match a with | [.str s] => some (ile (slen s) 900, .tup [.int .i64 (moI s), .int .i64 (moW s)]) | _ => none
noncomputable def zDayS : FSpec := fun a => match a with | [.str s] => some (ile (slen s) 900, .tup [.agg [.int .i64 (dsK s), .int .i64 (dsWk s), .int .i64 (dsD s)], .int .i64 (dsE s)]) | _ => none
noncomputable def zClkS : FSpec := fun a => match a with | [.str s] => some (ile (slen s) 900, .tup [.agg [.int .i64 (ckA s), .int .i64 (ckB s)], .int .i64 (ckE s)]) | _ => none
noncomputable def zAmtS : FSpec := fun a => match a with | [.str s] => some (ile (slen s) 900, .tup [.int .i64 (amI s), .int .i64 (amW s)]) | _ => none
noncomputable def zLetS : FSpec := fun a => match a with | [.str s] => some (ile (slen s) 900, .tup [.str (leT s), .int .i64 (leW s)]) | _ => none
noncomputable def zFxS : FSpec := fun a => match a with | [.int .i64 n] => some (true, .tup [.str (fxT n), .int .i64 (fxW n)]) | _ => none
noncomputable def zTxS : FSpec := fun a => match a with | [.int .i64 m, .int .i64 n] => some (true, .tup [.str (txTy m n), .int .i64 (txWy m n)]) | _ => none
noncomputable def zDtS : FSpec := fun a => match a with | [.agg [.int .i64 k, .int .i64 w, .int .i64 d]] => some (true, .tup [.str (dsTx k w d), .int .i64 (dsTe k w d)]) | _ => none
noncomputable def zCtS : FSpec := fun a => match a with | [.agg [.int .i64 n, .int .i64 b]] => some (true, .tup [.str (tcT n b), .int .i64 (tcW n b)]) | _ => none
noncomputable def zCrS : FSpec := fun a => match a with | [.agg [.int .i64 n, .int .i64 b]] => some (true, .bool (rightC n b)) | _ => none
noncomputable def zAtS : FSpec := fun a => match a with | [.int .i64 n] => some (band (ile (-9223372036854775808) n) (ile n 9223372036854775807), .tup [.str (amT n), .int .i64 (amE n)]) | _ => none
noncomputable def zLtS : FSpec := fun a => match a with | [.str s] => some (ile (slen s) 900, .tup [.str (ltT s), .int .i64 (ltW s)]) | _ => none
noncomputable def zMtS : FSpec := fun a => match a with | [.int .i64 n] => some (band (ile (-9223372036854775808) n) (ile n 9223372036854775807), .str (moT n)) | _ => none
noncomputable def zS : List (Nat × FSpec) := (15, zNameS) :: (16, zNameS) :: (48, zFitsS) :: (51, zFitsS) :: (70, zFromS) :: (27, zFromS) :: (71, zToS) :: (28, zToS) :: (72, zMonS) :: (29, zMonS) :: (74, zDayS) :: (85, zDayS) :: (76, zClkS) :: (31, zClkS) :: (78, zAmtS) :: (57, zAmtS) :: (79, zLetS) :: (33, zLetS) :: (34, zFxS) :: (41, zFxS) :: (35, zTxS) :: (42, zTxS) :: (36, zDtS) :: (43, zDtS) :: (37, zCtS) :: (44, zCtS) :: (49, zCrS) :: (52, zCrS) :: (38, zAtS) :: (45, zAtS) :: (39, zLtS) :: (46, zLtS) :: (40, zMtS) :: (47, zMtS) :: zS0
def odP (s : List UInt8) (m : Int) : Int × Int × Int × Int := if dsE s = 0 then (if ftB (dsK s) (dsWk s) (dsD s) m = true then (dsK s, dsWk s, dsD s, 0) else (0, 0, 0, 1)) else (dsK s, dsWk s, dsD s, dsE s)
def odK (s : List UInt8) (m : Int) : Int := (odP s m).1
def odW (s : List UInt8) (m : Int) : Int := (odP s m).2.1
def odD (s : List UInt8) (m : Int) : Int := (odP s m).2.2.1
def odE (s : List UInt8) (m : Int) : Int := (odP s m).2.2.2
def svP (s : List UInt8) : Int × Int := if amW s = 0 then (if amI s < -10800 ∨ 10800 < amI s then (0, 1) else (amI s, 0)) else (amI s, amW s)
def svI (s : List UInt8) : Int := (svP s).1
def svW (s : List UInt8) : Int := (svP s).2
noncomputable def zOdS : FSpec := fun a => match a with | [.str s, .int .i64 m] => some (ile (slen s) 900, .tup [.agg [.int .i64 (odK s m), .int .i64 (odW s m), .int .i64 (odD s m)], .int .i64 (odE s m)]) | _ => none
noncomputable def zSvS : FSpec := fun a => match a with | [.str s] => some (ile (slen s) 900, .tup [.int .i64 (svI s), .int .i64 (svW s)]) | _ => none
noncomputable def zS1 : List (Nat × FSpec) := (30, zOdS) :: (32, zSvS) :: zS
def yrB (f t : Int) : Bool := ile (-32767) f && (ile f t && ile t 32767)
def ruR (n : List UInt8) (f t m k w d c b v : Int) (l : List UInt8) : Bool := ieq (nmI n) 0 && (yrB f t && (ftB k w d m && (rightC c b && ((ile (-10800) v && ile v 10800) && ieq (ltW l) 0))))
noncomputable def zRightS : FSpec := fun a => match a with | [.agg [.str n, .int .i64 f, .int .i64 t, .int .i64 m, .int .i64 k, .int .i64 w, .int .i64 d, .int .i64 c, .int .i64 b, .int .i64 v, .str l]] => some (band (ile (slen n) 900) (ile (slen l) 900), .bool (ruR n f t m k w d c b v l)) | _ => none
noncomputable def zS2 : List (Nat × FSpec) := (13, zRightS) :: (14, zRightS) :: zS1
noncomputable def zName_L0 (F : Nat) (ns : List Nat) (n : Nat) (x0 : List UInt8) (x2 : Int) (x9 : List V) (x10 : Int) (x11 : Int) (K : V → Option V) : Option V :=
 loopAt zE zS0 F 2 15 [1, 1, 0, 1, 0] ns K n (mkSt 48 [(0, V.str x0), (2, V.int .i64 x2), (9, V.sl 5 [(Kd.int .u8)] none x9), (10, V.int .i64 x10), (11, V.int .i64 x11)] [])
set_option maxRecDepth 100000 in
theorem zName_top (F : Nat) (s : List UInt8) (K : V → Option V) :
 evBd zE (evFn zE zS0 F 2) F 15 [(V.str s)] K =
 sel (ilt 64 (slen s))
 (K (V.int .i64 9))
 (sel (okStr s)
 (zName_L0 F [] F s 0 (bytesV s) (llen (bytesV s)) 0 K)
 (none)) := by kernel_rfl
set_option maxRecDepth 100000 in
theorem zName_L0_succ (F : Nat) (n : Nat) (x0 : List UInt8) (x2 : Int) (x9 : List V) (x10 : Int) (x11 : Int) (K : V → Option V) :
 zName_L0 F [] (n + 1) x0 x2 x9 x10 x11 K =
 sel (ilt x11 x10)
 (sel (band (ile 0 x11) (ilt x11 (llen x9)))
 (sel (ile 97 (ibits .or .u8 (asInt (acell (lget x9 x11) 0)) 32))
 (sel (ile (ibits .or .u8 (asInt (acell (lget x9 x11) 0)) 32) 122)
 (zName_L0 F [] n x0 x2 x9 x10 (iadd .i64 x11 1) K)
 (sel (ieq (asInt (acell (lget x9 x11) 0)) 95)
 (zName_L0 F [] n x0 x2 x9 x10 (iadd .i64 x11 1) K)
 (sel (ilt 0 x11)
 (sel (ile 48 (asInt (acell (lget x9 x11) 0)))
 (sel (ile (asInt (acell (lget x9 x11) 0)) 57)
 (zName_L0 F [] n x0 x2 x9 x10 (iadd .i64 x11 1) K)
 (sel (ile 0 (idxB [45, 43, 47, 46] (asInt (acell (lget x9 x11) 0))))
 (zName_L0 F [] n x0 x2 x9 x10 (iadd .i64 x11 1) K)
 (K (V.int .i64 10))))
 (sel (ile 0 (idxB [45, 43, 47, 46] (asInt (acell (lget x9 x11) 0))))
 (zName_L0 F [] n x0 x2 x9 x10 (iadd .i64 x11 1) K)
 (K (V.int .i64 10))))
 (K (V.int .i64 10)))))
 (sel (ieq (asInt (acell (lget x9 x11) 0)) 95)
 (zName_L0 F [] n x0 x2 x9 x10 (iadd .i64 x11 1) K)
 (sel (ilt 0 x11)
 (sel (ile 48 (asInt (acell (lget x9 x11) 0)))
 (sel (ile (asInt (acell (lget x9 x11) 0)) 57)
 (zName_L0 F [] n x0 x2 x9 x10 (iadd .i64 x11 1) K)
 (sel (ile 0 (idxB [45, 43, 47, 46] (asInt (acell (lget x9 x11) 0))))
 (zName_L0 F [] n x0 x2 x9 x10 (iadd .i64 x11 1) K)
 (K (V.int .i64 10))))
 (sel (ile 0 (idxB [45, 43, 47, 46] (asInt (acell (lget x9 x11) 0))))
 (zName_L0 F [] n x0 x2 x9 x10 (iadd .i64 x11 1) K)
 (K (V.int .i64 10))))
 (K (V.int .i64 10)))))
 (none))
 (sel (seq x0 [])
 (K (V.int .i64 10))
 (K (V.int .i64 0))) := by kernel_rfl
noncomputable def rName21_L0 (F : Nat) (ns : List Nat) (n : Nat) (x0 : List UInt8) (x2 : Int) (x3 : Int) (K : V → Option V) : Option V :=
 loopAt zE zS0 F 2 16 [1, 1, 0, 1, 0] ns K n (mkSt 71 [(0, V.str x0), (2, V.int .i64 x2), (3, V.int .i64 x3)] [])
set_option maxRecDepth 100000 in
theorem rName21_top (F : Nat) (s : List UInt8) (K : V → Option V) :
 evBd zE (evFn zE zS0 F 2) F 16 [(V.str s)] K =
 sel (ilt 64 (slen s))
 (K (V.int .i64 9))
 (rName21_L0 F [] F s 0 0 K) := by kernel_rfl
set_option maxRecDepth 100000 in
theorem rName21_L0_succ (F : Nat) (n : Nat) (x0 : List UInt8) (x2 : Int) (x3 : Int) (K : V → Option V) :
 rName21_L0 F [] (n + 1) x0 x2 x3 K =
 sel (ilt x3 (slen x0))
 (sel (band (ile 0 x3) (ilt x3 (slen x0)))
 (sel (ile 65 (sat x0 x3))
 (sel (ile (sat x0 x3) 90)
 (sel (ile 48 (sat x0 x3))
 (sel (ile (sat x0 x3) 57)
 (rName21_L0 F [] n x0 x2 (iadd .i64 x3 1) K)
 (sel (ieq (sat x0 x3) 45)
 (rName21_L0 F [] n x0 x2 (iadd .i64 x3 1) K)
 (sel (ieq (sat x0 x3) 43)
 (rName21_L0 F [] n x0 x2 (iadd .i64 x3 1) K)
 (sel (ieq (sat x0 x3) 47)
 (rName21_L0 F [] n x0 x2 (iadd .i64 x3 1) K)
 (rName21_L0 F [] n x0 x2 (iadd .i64 x3 1) K)))))
 (sel (ieq (sat x0 x3) 45)
 (rName21_L0 F [] n x0 x2 (iadd .i64 x3 1) K)
 (sel (ieq (sat x0 x3) 43)
 (rName21_L0 F [] n x0 x2 (iadd .i64 x3 1) K)
 (sel (ieq (sat x0 x3) 47)
 (rName21_L0 F [] n x0 x2 (iadd .i64 x3 1) K)
 (rName21_L0 F [] n x0 x2 (iadd .i64 x3 1) K)))))
 (sel (ile 97 (sat x0 x3))
 (sel (ile (sat x0 x3) 122)
 (sel (ile 48 (sat x0 x3))
 (sel (ile (sat x0 x3) 57)
 (rName21_L0 F [] n x0 x2 (iadd .i64 x3 1) K)
 (sel (ieq (sat x0 x3) 45)
 (rName21_L0 F [] n x0 x2 (iadd .i64 x3 1) K)
 (sel (ieq (sat x0 x3) 43)
 (rName21_L0 F [] n x0 x2 (iadd .i64 x3 1) K)
 (sel (ieq (sat x0 x3) 47)
 (rName21_L0 F [] n x0 x2 (iadd .i64 x3 1) K)
 (rName21_L0 F [] n x0 x2 (iadd .i64 x3 1) K)))))
 (sel (ieq (sat x0 x3) 45)
 (rName21_L0 F [] n x0 x2 (iadd .i64 x3 1) K)
 (sel (ieq (sat x0 x3) 43)
 (rName21_L0 F [] n x0 x2 (iadd .i64 x3 1) K)
 (sel (ieq (sat x0 x3) 47)
 (rName21_L0 F [] n x0 x2 (iadd .i64 x3 1) K)
 (rName21_L0 F [] n x0 x2 (iadd .i64 x3 1) K)))))
 (sel (ile 48 (sat x0 x3))
 (sel (ile (sat x0 x3) 57)
 (sel (bnot (ieq (sat x0 x3) 95))
 (sel (ieq x3 0)
 (K (V.int .i64 10))
 (rName21_L0 F [] n x0 x2 (iadd .i64 x3 1) K))
 (rName21_L0 F [] n x0 x2 (iadd .i64 x3 1) K))
 (sel (ieq (sat x0 x3) 45)
 (sel (bnot (ieq (sat x0 x3) 95))
 (sel (ieq x3 0)
 (K (V.int .i64 10))
 (rName21_L0 F [] n x0 x2 (iadd .i64 x3 1) K))
 (rName21_L0 F [] n x0 x2 (iadd .i64 x3 1) K))
 (sel (ieq (sat x0 x3) 43)
 (sel (bnot (ieq (sat x0 x3) 95))
 (sel (ieq x3 0)
 (K (V.int .i64 10))
 (rName21_L0 F [] n x0 x2 (iadd .i64 x3 1) K))
 (rName21_L0 F [] n x0 x2 (iadd .i64 x3 1) K))
 (sel (ieq (sat x0 x3) 47)
 (sel (bnot (ieq (sat x0 x3) 95))
 (sel (ieq x3 0)
 (K (V.int .i64 10))
 (rName21_L0 F [] n x0 x2 (iadd .i64 x3 1) K))
 (rName21_L0 F [] n x0 x2 (iadd .i64 x3 1) K))
 (sel (bnot (ieq (sat x0 x3) 95))
 (sel (ieq x3 0)
 (K (V.int .i64 10))
 (sel (bnot (ieq (sat x0 x3) 46))
 (K (V.int .i64 10))
 (rName21_L0 F [] n x0 x2 (iadd .i64 x3 1) K)))
 (rName21_L0 F [] n x0 x2 (iadd .i64 x3 1) K))))))
 (sel (ieq (sat x0 x3) 45)
 (sel (bnot (ieq (sat x0 x3) 95))
 (sel (ieq x3 0)
 (K (V.int .i64 10))
 (rName21_L0 F [] n x0 x2 (iadd .i64 x3 1) K))
 (rName21_L0 F [] n x0 x2 (iadd .i64 x3 1) K))
 (sel (ieq (sat x0 x3) 43)
 (sel (bnot (ieq (sat x0 x3) 95))
 (sel (ieq x3 0)
 (K (V.int .i64 10))
 (rName21_L0 F [] n x0 x2 (iadd .i64 x3 1) K))
 (rName21_L0 F [] n x0 x2 (iadd .i64 x3 1) K))
 (sel (ieq (sat x0 x3) 47)
 (sel (bnot (ieq (sat x0 x3) 95))
 (sel (ieq x3 0)
 (K (V.int .i64 10))
 (rName21_L0 F [] n x0 x2 (iadd .i64 x3 1) K))
 (rName21_L0 F [] n x0 x2 (iadd .i64 x3 1) K))
 (sel (bnot (ieq (sat x0 x3) 95))
 (sel (ieq x3 0)
 (K (V.int .i64 10))
 (sel (bnot (ieq (sat x0 x3) 46))
 (K (V.int .i64 10))
 (rName21_L0 F [] n x0 x2 (iadd .i64 x3 1) K)))
 (rName21_L0 F [] n x0 x2 (iadd .i64 x3 1) K)))))))
 (sel (ile 48 (sat x0 x3))
 (sel (ile (sat x0 x3) 57)
 (sel (bnot (ieq (sat x0 x3) 95))
 (sel (ieq x3 0)
 (K (V.int .i64 10))
 (rName21_L0 F [] n x0 x2 (iadd .i64 x3 1) K))
 (rName21_L0 F [] n x0 x2 (iadd .i64 x3 1) K))
 (sel (ieq (sat x0 x3) 45)
 (sel (bnot (ieq (sat x0 x3) 95))
 (sel (ieq x3 0)
 (K (V.int .i64 10))
 (rName21_L0 F [] n x0 x2 (iadd .i64 x3 1) K))
 (rName21_L0 F [] n x0 x2 (iadd .i64 x3 1) K))
 (sel (ieq (sat x0 x3) 43)
 (sel (bnot (ieq (sat x0 x3) 95))
 (sel (ieq x3 0)
 (K (V.int .i64 10))
 (rName21_L0 F [] n x0 x2 (iadd .i64 x3 1) K))
 (rName21_L0 F [] n x0 x2 (iadd .i64 x3 1) K))
 (sel (ieq (sat x0 x3) 47)
 (sel (bnot (ieq (sat x0 x3) 95))
 (sel (ieq x3 0)
 (K (V.int .i64 10))
 (rName21_L0 F [] n x0 x2 (iadd .i64 x3 1) K))
 (rName21_L0 F [] n x0 x2 (iadd .i64 x3 1) K))
 (sel (bnot (ieq (sat x0 x3) 95))
 (sel (ieq x3 0)
 (K (V.int .i64 10))
 (sel (bnot (ieq (sat x0 x3) 46))
 (K (V.int .i64 10))
 (rName21_L0 F [] n x0 x2 (iadd .i64 x3 1) K)))
 (rName21_L0 F [] n x0 x2 (iadd .i64 x3 1) K))))))
 (sel (ieq (sat x0 x3) 45)
 (sel (bnot (ieq (sat x0 x3) 95))
 (sel (ieq x3 0)
 (K (V.int .i64 10))
 (rName21_L0 F [] n x0 x2 (iadd .i64 x3 1) K))
 (rName21_L0 F [] n x0 x2 (iadd .i64 x3 1) K))
 (sel (ieq (sat x0 x3) 43)
 (sel (bnot (ieq (sat x0 x3) 95))
 (sel (ieq x3 0)
 (K (V.int .i64 10))
 (rName21_L0 F [] n x0 x2 (iadd .i64 x3 1) K))
 (rName21_L0 F [] n x0 x2 (iadd .i64 x3 1) K))
 (sel (ieq (sat x0 x3) 47)
 (sel (bnot (ieq (sat x0 x3) 95))
 (sel (ieq x3 0)
 (K (V.int .i64 10))
 (rName21_L0 F [] n x0 x2 (iadd .i64 x3 1) K))
 (rName21_L0 F [] n x0 x2 (iadd .i64 x3 1) K))
 (sel (bnot (ieq (sat x0 x3) 95))
 (sel (ieq x3 0)
 (K (V.int .i64 10))
 (sel (bnot (ieq (sat x0 x3) 46))
 (K (V.int .i64 10))
 (rName21_L0 F [] n x0 x2 (iadd .i64 x3 1) K)))
 (rName21_L0 F [] n x0 x2 (iadd .i64 x3 1) K))))))))
 (sel (ile 97 (sat x0 x3))
 (sel (ile (sat x0 x3) 122)
 (sel (ile 48 (sat x0 x3))
 (sel (ile (sat x0 x3) 57)
 (rName21_L0 F [] n x0 x2 (iadd .i64 x3 1) K)
 (sel (ieq (sat x0 x3) 45)
 (rName21_L0 F [] n x0 x2 (iadd .i64 x3 1) K)
 (sel (ieq (sat x0 x3) 43)
 (rName21_L0 F [] n x0 x2 (iadd .i64 x3 1) K)
 (sel (ieq (sat x0 x3) 47)
 (rName21_L0 F [] n x0 x2 (iadd .i64 x3 1) K)
 (rName21_L0 F [] n x0 x2 (iadd .i64 x3 1) K)))))
 (sel (ieq (sat x0 x3) 45)
 (rName21_L0 F [] n x0 x2 (iadd .i64 x3 1) K)
 (sel (ieq (sat x0 x3) 43)
 (rName21_L0 F [] n x0 x2 (iadd .i64 x3 1) K)
 (sel (ieq (sat x0 x3) 47)
 (rName21_L0 F [] n x0 x2 (iadd .i64 x3 1) K)
 (rName21_L0 F [] n x0 x2 (iadd .i64 x3 1) K)))))
 (sel (ile 48 (sat x0 x3))
 (sel (ile (sat x0 x3) 57)
 (sel (bnot (ieq (sat x0 x3) 95))
 (sel (ieq x3 0)
 (K (V.int .i64 10))
 (rName21_L0 F [] n x0 x2 (iadd .i64 x3 1) K))
 (rName21_L0 F [] n x0 x2 (iadd .i64 x3 1) K))
 (sel (ieq (sat x0 x3) 45)
 (sel (bnot (ieq (sat x0 x3) 95))
 (sel (ieq x3 0)
 (K (V.int .i64 10))
 (rName21_L0 F [] n x0 x2 (iadd .i64 x3 1) K))
 (rName21_L0 F [] n x0 x2 (iadd .i64 x3 1) K))
 (sel (ieq (sat x0 x3) 43)
 (sel (bnot (ieq (sat x0 x3) 95))
 (sel (ieq x3 0)
 (K (V.int .i64 10))
 (rName21_L0 F [] n x0 x2 (iadd .i64 x3 1) K))
 (rName21_L0 F [] n x0 x2 (iadd .i64 x3 1) K))
 (sel (ieq (sat x0 x3) 47)
 (sel (bnot (ieq (sat x0 x3) 95))
 (sel (ieq x3 0)
 (K (V.int .i64 10))
 (rName21_L0 F [] n x0 x2 (iadd .i64 x3 1) K))
 (rName21_L0 F [] n x0 x2 (iadd .i64 x3 1) K))
 (sel (bnot (ieq (sat x0 x3) 95))
 (sel (ieq x3 0)
 (K (V.int .i64 10))
 (sel (bnot (ieq (sat x0 x3) 46))
 (K (V.int .i64 10))
 (rName21_L0 F [] n x0 x2 (iadd .i64 x3 1) K)))
 (rName21_L0 F [] n x0 x2 (iadd .i64 x3 1) K))))))
 (sel (ieq (sat x0 x3) 45)
 (sel (bnot (ieq (sat x0 x3) 95))
 (sel (ieq x3 0)
 (K (V.int .i64 10))
 (rName21_L0 F [] n x0 x2 (iadd .i64 x3 1) K))
 (rName21_L0 F [] n x0 x2 (iadd .i64 x3 1) K))
 (sel (ieq (sat x0 x3) 43)
 (sel (bnot (ieq (sat x0 x3) 95))
 (sel (ieq x3 0)
 (K (V.int .i64 10))
 (rName21_L0 F [] n x0 x2 (iadd .i64 x3 1) K))
 (rName21_L0 F [] n x0 x2 (iadd .i64 x3 1) K))
 (sel (ieq (sat x0 x3) 47)
 (sel (bnot (ieq (sat x0 x3) 95))
 (sel (ieq x3 0)
 (K (V.int .i64 10))
 (rName21_L0 F [] n x0 x2 (iadd .i64 x3 1) K))
 (rName21_L0 F [] n x0 x2 (iadd .i64 x3 1) K))
 (sel (bnot (ieq (sat x0 x3) 95))
 (sel (ieq x3 0)
 (K (V.int .i64 10))
 (sel (bnot (ieq (sat x0 x3) 46))
 (K (V.int .i64 10))
 (rName21_L0 F [] n x0 x2 (iadd .i64 x3 1) K)))
 (rName21_L0 F [] n x0 x2 (iadd .i64 x3 1) K)))))))
 (sel (ile 48 (sat x0 x3))
 (sel (ile (sat x0 x3) 57)
 (sel (bnot (ieq (sat x0 x3) 95))
 (sel (ieq x3 0)
 (K (V.int .i64 10))
 (rName21_L0 F [] n x0 x2 (iadd .i64 x3 1) K))
 (rName21_L0 F [] n x0 x2 (iadd .i64 x3 1) K))
 (sel (ieq (sat x0 x3) 45)
 (sel (bnot (ieq (sat x0 x3) 95))
 (sel (ieq x3 0)
 (K (V.int .i64 10))
 (rName21_L0 F [] n x0 x2 (iadd .i64 x3 1) K))
 (rName21_L0 F [] n x0 x2 (iadd .i64 x3 1) K))
 (sel (ieq (sat x0 x3) 43)
 (sel (bnot (ieq (sat x0 x3) 95))
 (sel (ieq x3 0)
 (K (V.int .i64 10))
 (rName21_L0 F [] n x0 x2 (iadd .i64 x3 1) K))
 (rName21_L0 F [] n x0 x2 (iadd .i64 x3 1) K))
 (sel (ieq (sat x0 x3) 47)
 (sel (bnot (ieq (sat x0 x3) 95))
 (sel (ieq x3 0)
 (K (V.int .i64 10))
 (rName21_L0 F [] n x0 x2 (iadd .i64 x3 1) K))
 (rName21_L0 F [] n x0 x2 (iadd .i64 x3 1) K))
 (sel (bnot (ieq (sat x0 x3) 95))
 (sel (ieq x3 0)
 (K (V.int .i64 10))
 (sel (bnot (ieq (sat x0 x3) 46))
 (K (V.int .i64 10))
 (rName21_L0 F [] n x0 x2 (iadd .i64 x3 1) K)))
 (rName21_L0 F [] n x0 x2 (iadd .i64 x3 1) K))))))
 (sel (ieq (sat x0 x3) 45)
 (sel (bnot (ieq (sat x0 x3) 95))
 (sel (ieq x3 0)
 (K (V.int .i64 10))
 (rName21_L0 F [] n x0 x2 (iadd .i64 x3 1) K))
 (rName21_L0 F [] n x0 x2 (iadd .i64 x3 1) K))
 (sel (ieq (sat x0 x3) 43)
 (sel (bnot (ieq (sat x0 x3) 95))
 (sel (ieq x3 0)
 (K (V.int .i64 10))
 (rName21_L0 F [] n x0 x2 (iadd .i64 x3 1) K))
 (rName21_L0 F [] n x0 x2 (iadd .i64 x3 1) K))
 (sel (ieq (sat x0 x3) 47)
 (sel (bnot (ieq (sat x0 x3) 95))
 (sel (ieq x3 0)
 (K (V.int .i64 10))
 (rName21_L0 F [] n x0 x2 (iadd .i64 x3 1) K))
 (rName21_L0 F [] n x0 x2 (iadd .i64 x3 1) K))
 (sel (bnot (ieq (sat x0 x3) 95))
 (sel (ieq x3 0)
 (K (V.int .i64 10))
 (sel (bnot (ieq (sat x0 x3) 46))
 (K (V.int .i64 10))
 (rName21_L0 F [] n x0 x2 (iadd .i64 x3 1) K)))
 (rName21_L0 F [] n x0 x2 (iadd .i64 x3 1) K))))))))
 (none))
 (sel (seq x0 [])
 (K (V.int .i64 10))
 (K (V.int .i64 0))) := by kernel_rfl
set_option maxRecDepth 100000 in
theorem zFits_top (F : Nat) (k : Int) (w : Int) (d : Int) (m : Int) (K : V → Option V) :
 evBd zE (evFn zE zS0 F 3) F 48 [(V.agg [(V.int .i64 k), (V.int .i64 w), (V.int .i64 d)]), (V.int .i64 m)] K =
 sel (onB k w d)
 (sel (ile 1 m)
 (sel (ile m 12)
 (K (V.bool (ile d (lenI 1 m))))
 (K (V.bool false)))
 (K (V.bool false)))
 (K (V.bool false)) := by kernel_rfl
set_option maxRecDepth 100000 in
theorem rFits5_top (F : Nat) (k : Int) (w : Int) (d : Int) (m : Int) (K : V → Option V) :
 evBd zE (evFn zE zS0 F 3) F 51 [(V.agg [(V.int .i64 k), (V.int .i64 w), (V.int .i64 d)]), (V.int .i64 m)] K =
 sel (onB k w d)
 (sel (ile 1 m)
 (sel (ile m 12)
 (K (V.bool (ile d (lenI 2001 m))))
 (K (V.bool false)))
 (K (V.bool false)))
 (K (V.bool false)) := by kernel_rfl
set_option maxRecDepth 100000 in
theorem rDay21_top (F : Nat) (s : List UInt8) (m : Int) (K : V → Option V) :
 evBd zE (evFn zE zS F 2) F 30 [(V.str s), (V.int .i64 m)] K =
 sel (ile (slen s) 900)
 (sel (ieq (dsE s) 0)
 (sel (bnot (ftB (dsK s) (dsWk s) (dsD s) m))
 (K (V.tup [(V.agg [(V.int .i64 0), (V.int .i64 0), (V.int .i64 0)]), (V.int .i64 1)]))
 (K (V.tup [(V.agg [(V.int .i64 (dsK s)), (V.int .i64 (dsWk s)), (V.int .i64 (dsD s))]), (V.int .i64 (dsE s))])))
 (K (V.tup [(V.agg [(V.int .i64 (dsK s)), (V.int .i64 (dsWk s)), (V.int .i64 (dsD s))]), (V.int .i64 (dsE s))])))
 (none) := by kernel_rfl
set_option maxRecDepth 100000 in
theorem rSave21_top (F : Nat) (s : List UInt8) (K : V → Option V) :
 evBd zE (evFn zE zS F 2) F 32 [(V.str s)] K =
 sel (ile (slen s) 900)
 (sel (ieq (amW s) 0)
 (sel (ilt (amI s) (-10800))
 (K (V.tup [(V.int .i64 0), (V.int .i64 1)]))
 (sel (ilt 10800 (amI s))
 (K (V.tup [(V.int .i64 0), (V.int .i64 1)]))
 (K (V.tup [(V.int .i64 (amI s)), (V.int .i64 (amW s))]))))
 (K (V.tup [(V.int .i64 (amI s)), (V.int .i64 (amW s))])))
 (none) := by kernel_rfl
set_option maxRecDepth 100000 in
theorem zRight_top (F : Nat) (n : List UInt8) (f : Int) (t : Int) (m : Int) (k : Int) (w : Int) (d : Int) (c : Int) (b : Int) (v : Int) (l : List UInt8) (K : V → Option V) :
 evBd zE (evFn zE zS F 3) F 13 [(V.agg [(V.str n), (V.int .i64 f), (V.int .i64 t), (V.int .i64 m), (V.int .i64 k), (V.int .i64 w), (V.int .i64 d), (V.int .i64 c), (V.int .i64 b), (V.int .i64 v), (V.str l)])] K =
 sel (ile (slen l) 900)
 (sel (ieq (txWy f t) 0)
 (sel (ieq (fxW f) 0)
 (sel (ieq (ltW l) 0)
 (sel (ile (slen n) 1000)
 (sel (ieq (nmI n) 0)
 (sel (ftB k w d m)
 (sel (rightC c b)
 (sel (ile (-10800) v)
 (K (V.bool (ile v 10800)))
 (K (V.bool false)))
 (K (V.bool false)))
 (K (V.bool false)))
 (K (V.bool false)))
 (none))
 (K (V.bool false)))
 (K (V.bool false)))
 (K (V.bool false)))
 (none) := by kernel_rfl
set_option maxRecDepth 100000 in
theorem rRight21_top (F : Nat) (n : List UInt8) (f : Int) (t : Int) (m : Int) (k : Int) (w : Int) (d : Int) (c : Int) (b : Int) (v : Int) (l : List UInt8) (K : V → Option V) :
 evBd zE (evFn zE zS F 3) F 14 [(V.agg [(V.str n), (V.int .i64 f), (V.int .i64 t), (V.int .i64 m), (V.int .i64 k), (V.int .i64 w), (V.int .i64 d), (V.int .i64 c), (V.int .i64 b), (V.int .i64 v), (V.str l)])] K =
 sel (ile (slen l) 900)
 (sel (ile (slen n) 1000)
 (sel (ieq (nmI n) 0)
 (sel (ile (-32767) f)
 (sel (ile f t)
 (sel (ile t 32767)
 (sel (ftB k w d m)
 (sel (rightC c b)
 (sel (ile (-10800) v)
 (sel (ile v 10800)
 (K (V.bool (ieq (ltW l) 0)))
 (K (V.bool false)))
 (K (V.bool false)))
 (K (V.bool false)))
 (K (V.bool false)))
 (K (V.bool false)))
 (K (V.bool false)))
 (K (V.bool false)))
 (K (V.bool false)))
 (none))
 (none) := by kernel_rfl
noncomputable def rSame13_L0 (F : Nat) (ns : List Nat) (n : Nat) (x0 : List V) (x1 : List V) (x4 : Bool) (x12 : Int) (x13 : Int) (K : V → Option V) : Option V :=
 loopAt zE zS2 F 2 12 [1, 1, 0, 1, 0] ns K n (mkSt 26 [(0, V.sl 9 [(Kd.str)] none x0), (1, V.sl 9 [(Kd.str)] none x1), (4, V.bool x4), (12, V.int .i64 x12), (13, V.int .i64 x13)] [])
set_option maxRecDepth 100000 in
theorem rSame13_top (F : Nat) (xs : List V) (ys : List V) (K : V → Option V) :
 evBd zE (evFn zE zS2 F 2) F 12 [(V.sl 9 [(Kd.str)] none xs), (V.sl 9 [(Kd.str)] none ys)] K =
 sel (bnot (ieq (llen xs) (llen ys)))
 (K (V.bool false))
 (rSame13_L0 F [] F xs ys false (llen xs) 0 K) := by kernel_rfl
set_option maxRecDepth 100000 in
theorem rSame13_L0_succ (F : Nat) (n : Nat) (x0 : List V) (x1 : List V) (x4 : Bool) (x12 : Int) (x13 : Int) (K : V → Option V) :
 rSame13_L0 F [] (n + 1) x0 x1 x4 x12 x13 K =
 sel (ilt x13 x12)
 (sel (band (ile 0 x13) (ilt x13 (llen x0)))
 (sel (band (ile 0 x13) (ilt x13 (llen x1)))
 (sel (bnot (seq (asStr (acell (lget x0 x13) 0)) (asStr (acell (lget x1 x13) 0))))
 (K (V.bool false))
 (rSame13_L0 F [] n x0 x1 x4 x12 (iadd .i64 x13 1) K))
 (none))
 (none))
 (K (V.bool true)) := by kernel_rfl
end Nt.Ev.YtgfedofdljielaaGreatDoor

set_option linter.unusedVariables false
set_option linter.unusedSimpArgs false
namespace Nt.Ev.YtgfedofdljielaaGreatDoor
open Go Go.RowKit Nt Nt.Num Nt.Civil Go.Proofs.YtgfedofdljielaaGreatDoor
variable [MLen]
theorem zE_ok : EOk zE := ⟨by kernel_rfl, by kernel_rfl⟩
theorem toZ {f : Nat} {args : List V} {r : V} (h : Contract nE f args r) : Contract zE f args r := Contract.env (E := nE) rfl (fun n v h => by cases h) h
theorem toZy {f : Nat} {args : List V} {r : V} (h : Contract yE f args r) : Contract zE f args r := Contract.env (E := yE) rfl (fun n v h => by cases h) h
theorem toZv {f : Nat} {args : List V} {r : V} (h : Contract vE f args r) : Contract zE f args r := Contract.env (E := vE) rfl (fun n v h => by cases h) h
theorem toZw {f : Nat} {args : List V} {r : V} (h : Contract wE f args r) : Contract zE f args r := Contract.env (E := wE) rfl (fun n v h => by
  unfold wE at h
  simp only at h
  cases e : n == 3 with
  | true => obtain rfl : n = 3 := by simpa using e
            exact h
  | false => rw [e] at h; cases h) h
theorem toZm {f : Nat} {args : List V} {r : V} (h : Contract mE f args r) : Contract zE f args r := Contract.env (E := mE) rfl (fun n v h => by
  unfold mE at h
  simp only at h
  cases e : n == 1 with
  | true => obtain rfl : n = 1 := by simpa using e
            exact h
  | false => rw [e] at h; cases h) h
theorem toZf {f : Nat} {args : List V} {r : V} (h : Contract fE f args r) : Contract zE f args r := Contract.env (E := fE) rfl (fun n v h => by
  unfold fE at h
  simp only at h
  cases e : n == 4 with
  | true => obtain rfl : n = 4 := by simpa using e
            exact h
  | false => rw [e] at h; cases h) h
theorem toZa {f : Nat} {args : List V} {r : V} (h : Contract aE f args r) : Contract zE f args r := Contract.env (E := aE) rfl (fun n v h => by
  unfold aE at h
  simp only at h
  cases e : n == 2 with
  | true => obtain rfl : n = 2 := by simpa using e
            exact h
  | false =>
    rw [e] at h
    simp only [cond_false] at h
    cases e : n == 4 with
    | true => obtain rfl : n = 4 := by simpa using e
              exact h
    | false => rw [e] at h; cases h) h
theorem len_z {s : List UInt8} (h : ile (slen s) 1000 = true) : s.length ≤ 1000 := by rw [ile_iff, slen_nat] at h; omega
theorem len_z9 {s : List UInt8} (h : ile (slen s) 900 = true) : s.length ≤ 900 := by rw [ile_iff, slen_nat] at h; omega
theorem fits_z {m : Int} (h : band (ile (-9223372036854775808) m) (ile m 9223372036854775807) = true) : Fits m := by rw [band_iff, ile_iff, ile_iff] at h; exact h
theorem zByteS_ok (s : List UInt8) (c : Int) (hc : true = true) : Contract zE 53 [.str s, .int .u8 c] (.int .i64 (idxB s c)) := toZ (idx_c s c)
theorem zLenS_ok (y m : Int) (hc : band (ile (-9223372036854775808) y) (ile y 9223372036854775807) = true) : Contract zE 97 [.int .i64 y, .int .i64 m] (.int .i64 (lenI y m)) := toZv (vLen_ev y m (fits_z hc))
theorem zLenS_ok_noontideref03_Len (y m : Int) (hc : band (ile (-9223372036854775808) y) (ile y 9223372036854775807) = true) : Contract zE 98 [.int .i64 y, .int .i64 m] (.int .i64 (lenI y m)) := toZv (rLen_ev y m (fits_z hc))
theorem zOnS_ok (k w d : Int) (hc : true = true) : Contract zE 88 [.agg [.int .i64 k, .int .i64 w, .int .i64 d]] (.bool (onB k w d)) := toZw (dRight_ev k w d)
theorem zOnS_ok_noontideref05_Right (k w d : Int) (hc : true = true) : Contract zE 93 [.agg [.int .i64 k, .int .i64 w, .int .i64 d]] (.bool (onB k w d)) := toZw (rRight5_ev k w d)
theorem zS0_ok : SOk zE zS0 := by
  unfold zS0
  refine SOk.cons (fun args r h => ?_) (SOk.cons (fun args r h => ?_) (SOk.cons (fun args r h => ?_) (SOk.cons (fun args r h => ?_) (SOk.cons (fun args r h => ?_) (SOk.nil)))))
  · unfold zByteS at h
    split at h
    · simp only [Option.some.injEq, Prod.mk.injEq] at h
      obtain ⟨hc, rfl⟩ := h
      exact zByteS_ok _ _ rfl
    · cases h
  · unfold zLenS at h
    split at h
    · simp only [Option.some.injEq, Prod.mk.injEq] at h
      obtain ⟨hc, rfl⟩ := h
      exact zLenS_ok _ _ hc
    · cases h
  · unfold zLenS at h
    split at h
    · simp only [Option.some.injEq, Prod.mk.injEq] at h
      obtain ⟨hc, rfl⟩ := h
      exact zLenS_ok_noontideref03_Len _ _ hc
    · cases h
  · unfold zOnS at h
    split at h
    · simp only [Option.some.injEq, Prod.mk.injEq] at h
      obtain ⟨hc, rfl⟩ := h
      exact zOnS_ok _ _ _ rfl
    · cases h
  · unfold zOnS at h
    split at h
    · simp only [Option.some.injEq, Prod.mk.injEq] at h
      obtain ⟨hc, rfl⟩ := h
      exact zOnS_ok_noontideref05_Right _ _ _ rfl
    · cases h
theorem ibits_letter (c : UInt8) : (ile 97 (ibits .or .u8 ((c.toNat : Nat) : Int) 32) && ile (ibits .or .u8 ((c.toNat : Nat) : Int) 32) 122) = ((decide (65 ≤ c.toNat) && decide (c.toNat ≤ 90)) || (decide (97 ≤ c.toNat) && decide (c.toNat ≤ 122))) := by
  have h : ∀ n : Fin 256, (ile 97 (ibits .or .u8 ((n.val : Nat) : Int) 32) && ile (ibits .or .u8 ((n.val : Nat) : Int) 32) 122) = ((decide (65 ≤ n.val) && decide (n.val ≤ 90)) || (decide (97 ≤ n.val) && decide (n.val ≤ 122))) := by decide +kernel
  exact h ⟨c.toNat, c.toNat_lt⟩
theorem idx_oth (c : UInt8) : ile 0 (idxB [45, 43, 47, 46] ((c.toNat : Nat) : Int)) = (c == 45 || c == 43 || c == 47 || c == 46) := by
  have h : ∀ n : Fin 256, ile 0 (idxB [45, 43, 47, 46] ((n.val : Nat) : Int)) = (UInt8.ofNat n == 45 || UInt8.ofNat n == 43 || UInt8.ofNat n == 47 || UInt8.ofNat n == 46) := by decide +kernel
  have := h ⟨c.toNat, c.toNat_lt⟩
  simpa using this
theorem u8_ieq (c d : UInt8) : ieq ((c.toNat : Nat) : Int) ((d.toNat : Nat) : Int) = (c == d) := by
  rw [Bool.eq_iff_iff, ieq_iff, beq_iff_eq, ← UInt8.toNat_inj]; omega
theorem u8_ile (c : UInt8) (a : Nat) : ile (a : Int) ((c.toNat : Nat) : Int) = decide (a ≤ c.toNat) := by
  rw [Bool.eq_iff_iff, ile_iff, decide_eq_true_eq]; omega
theorem u8_ile' (c : UInt8) (a : Nat) : ile ((c.toNat : Nat) : Int) (a : Int) = decide (c.toNat ≤ a) := by
  rw [Bool.eq_iff_iff, ile_iff, decide_eq_true_eq]; omega
theorem zName_step (s : List UInt8) (x2 : Int) (F n k : Nat) (hk : k < s.length) (hs : s.length ≤ 64) : zName_L0 F [] (n + 1) s x2 (bytesV s) (llen (bytesV s)) (k : Int) some =
    if nmC k (s[k]) = true then zName_L0 F [] n s x2 (bytesV s) (llen (bytesV s)) ((k + 1 : Nat) : Int) some else some (.int .i64 10) := by
  have hl : (bytesV s).length = s.length := by unfold bytesV; rw [List.length_map]
  have e : asInt (acell (lget (bytesV s) (k : Int)) 0) = ((s[k].toNat : Nat) : Int) := by
    rw [lget_nat]
    unfold bytesV
    rw [List.getD_eq_getElem?_getD, List.getElem?_map, List.getElem?_eq_getElem hk]
    rfl
  have e95 : ieq ((s[k].toNat : Nat) : Int) 95 = (s[k] == 95) := u8_ieq s[k] 95
  have e48 : ile 48 ((s[k].toNat : Nat) : Int) = decide (48 ≤ s[k].toNat) := u8_ile s[k] 48
  have e57 : ile ((s[k].toNat : Nat) : Int) 57 = decide (s[k].toNat ≤ 57) := u8_ile' s[k] 57
  have e0 : ilt 0 (k : Int) = decide (0 < k) := by rw [Bool.eq_iff_iff, ilt_iff, decide_eq_true_eq]; omega
  have hL := ibits_letter s[k]
  rw [zName_L0_succ, sel_pos (ilt_t (by rw [llen_nat, hl]; omega)), sel_pos (by rw [band_iff, ile_iff, ilt_iff, llen_nat, hl]; omega), e, e95, e48, e57, e0, idx_oth, iadd64 (by omega), show (k : Int) + 1 = ((k + 1 : Nat) : Int) by omega]
  unfold nmC fstC othC
  rw [← hL]
  generalize zName_L0 F [] n s x2 (bytesV s) (llen (bytesV s)) ((k + 1 : Nat) : Int) some = N
  generalize ile 97 (ibits .or .u8 ((s[k].toNat : Nat) : Int) 32) = b1
  generalize ile (ibits .or .u8 ((s[k].toNat : Nat) : Int) 32) 122 = b2
  generalize (s[k] == 95) = b3
  generalize decide (0 < k) = b4
  generalize decide (48 ≤ s[k].toNat) = b5
  generalize decide (s[k].toNat ≤ 57) = b6
  generalize (s[k] == 45) = b7
  generalize (s[k] == 43) = b8
  generalize (s[k] == 47) = b9
  generalize (s[k] == 46) = b10
  cases b1 <;> cases b2 <;> cases b3 <;> cases b4 <;> cases b5 <;> cases b6 <;> cases b7 <;> cases b8 <;> cases b9 <;> cases b10 <;> rfl
theorem zName_loop (s : List UInt8) (x2 : Int) (F : Nat) (hs : s.length ≤ 64) : ∀ (n k : Nat), k ≤ s.length → s.length - k < n →
    zName_L0 F [] n s x2 (bytesV s) (llen (bytesV s)) (k : Int) some = some (.int .i64 (if nmF k (s.drop k) = true then (if s = [] then 10 else 0) else 10)) := by
  intro n
  induction n with
  | zero => intro k _ h; omega
  | succ n ih =>
    intro k hk hn
    by_cases h : k < s.length
    · rw [zName_step s x2 F n k h hs, List.drop_eq_getElem_cons h]
      show _ = some (V.int .i64 (if (nmC k s[k] && nmF (k + 1) (s.drop (k + 1))) = true then _ else _))
      cases hc : nmC k s[k] with
      | true => rw [if_pos rfl, ih (k + 1) (by omega) (by omega), Bool.true_and]
      | false => rw [if_neg (by decide), Bool.false_and, if_neg (by decide)]
    · have hl : (bytesV s).length = s.length := by unfold bytesV; rw [List.length_map]
      rw [zName_L0_succ, sel_neg (ilt_f (by rw [llen_nat, hl]; omega)), List.drop_of_length_le (by omega), if_pos (show nmF k [] = true from rfl), sel_if]
      by_cases h0 : s = []
      · rw [if_pos (by rw [seq_iff]; exact h0), if_pos h0]
      · rw [if_neg (by rw [seq_iff]; exact h0), if_neg h0]
theorem nm_fin (s : List UInt8) : (if nmF 0 s = true then (if s = [] then (10 : Int) else 0) else 10) = if nmF 0 s = true ∧ s ≠ [] then 0 else 10 := by
  by_cases h : nmF 0 s = true
  · rw [if_pos h]
    by_cases h0 : s = []
    · rw [if_pos h0, if_neg (fun e => e.2 h0)]
    · rw [if_neg h0, if_pos ⟨h, h0⟩]
  · rw [if_neg h, if_neg (fun e => h e.1)]
theorem zName_ev (s : List UInt8) (hs : s.length ≤ 1000) : Contract zE 15 [.str s] (.int .i64 (nmI s)) := by
  refine contract_of_body zE_ok zS0_ok 100 2 ?_
  rw [zName_top]
  unfold nmI
  by_cases h : 64 < s.length
  · rw [sel_pos (ilt_t (by rw [slen_nat]; omega)), if_pos h]
  · rw [sel_neg (ilt_f (by rw [slen_nat]; omega)), if_neg h, sel_pos (by rw [okStr_iff]; omega)]
    have := zName_loop s 0 100 (by omega) 100 0 (by omega) (by omega)
    rw [List.drop_zero, nm_fin] at this
    exact this
theorem sel_fun (f : Bool → Option V) (c a b : Bool) : sel c (f a) (f b) = f (sel c a b) := by cases c <;> rfl
theorem rName_step (s : List UInt8) (x2 : Int) (F n k : Nat) (hk : k < s.length) (hs : s.length ≤ 64) : rName21_L0 F [] (n + 1) s x2 (k : Int) some =
    if nmC k (s[k]) = true then rName21_L0 F [] n s x2 ((k + 1 : Nat) : Int) some else some (.int .i64 10) := by
  have e : sat s (k : Int) = ((s[k].toNat : Nat) : Int) := by
    rw [sat_nat, List.getD_eq_getElem?_getD, List.getElem?_eq_getElem hk]; rfl
  have hb : band (ile 0 (k : Int)) (ilt (k : Int) (slen s)) = true := by rw [band_iff, ile_iff, ilt_iff, slen_nat]; omega
  have hz : ieq (k : Int) 0 = !decide (0 < k) := by
    rw [Bool.eq_iff_iff, ieq_iff, Bool.not_eq_true', decide_eq_false_iff_not]; omega
  rw [rName21_L0_succ, sel_pos (ilt_t (by rw [slen_nat]; omega)), sel_pos hb, e, iadd64 (by omega), show (k : Int) + 1 = ((k + 1 : Nat) : Int) by omega, hz]
  unfold nmC
  generalize rName21_L0 F [] n s x2 ((k + 1 : Nat) : Int) some = N
  generalize some (V.int .i64 10) = X
  obtain ⟨f, h1, h2⟩ : ∃ f : Bool → Option V, f true = N ∧ f false = X := ⟨fun b => sel b N X, rfl, rfl⟩
  subst h1; subst h2
  have hr : ∀ b : Bool, (if b = true then f true else f false) = f b := fun b => by cases b <;> rfl
  rw [hr]
  simp only [sel_fun f]
  congr 1
  generalize decide (0 < k) = z
  generalize s[k] = c
  clear hz e hb hr
  obtain ⟨⟨m⟩⟩ := c
  revert m z
  decide +kernel
theorem rName_loop (s : List UInt8) (x2 : Int) (F : Nat) (hs : s.length ≤ 64) : ∀ (n k : Nat), k ≤ s.length → s.length - k < n →
    rName21_L0 F [] n s x2 (k : Int) some = some (.int .i64 (if nmF k (s.drop k) = true then (if s = [] then 10 else 0) else 10)) := by
  intro n
  induction n with
  | zero => intro k _ h; omega
  | succ n ih =>
    intro k hk hn
    by_cases h : k < s.length
    · rw [rName_step s x2 F n k h hs, List.drop_eq_getElem_cons h]
      show _ = some (V.int .i64 (if (nmC k s[k] && nmF (k + 1) (s.drop (k + 1))) = true then _ else _))
      cases hc : nmC k s[k] with
      | true => rw [if_pos rfl, ih (k + 1) (by omega) (by omega), Bool.true_and]
      | false => rw [if_neg (by decide), Bool.false_and, if_neg (by decide)]
    · rw [rName21_L0_succ, sel_neg (ilt_f (by rw [slen_nat]; omega)), List.drop_of_length_le (by omega), if_pos (show nmF k [] = true from rfl), sel_if]
      by_cases h0 : s = []
      · rw [if_pos (by rw [seq_iff]; exact h0), if_pos h0]
      · rw [if_neg (by rw [seq_iff]; exact h0), if_neg h0]
theorem rName_ev (s : List UInt8) (hs : s.length ≤ 1000) : Contract zE 16 [.str s] (.int .i64 (nmI s)) := by
  refine contract_of_body zE_ok zS0_ok 100 2 ?_
  rw [rName21_top]
  unfold nmI
  by_cases h : 64 < s.length
  · rw [sel_pos (ilt_t (by rw [slen_nat]; omega)), if_pos h]
  · rw [sel_neg (ilt_f (by rw [slen_nat]; omega)), if_neg h]
    have := rName_loop s 0 100 (by omega) 100 0 (by omega) (by omega)
    rw [List.drop_zero, nm_fin] at this
    exact this
theorem zNameS_ok (s : List UInt8) (hc : ile (slen s) 1000 = true) : Contract zE 15 [.str s] (.int .i64 (nmI s)) := zName_ev s (len_z hc)
theorem zNameS_ok_noontideref21_Name (s : List UInt8) (hc : ile (slen s) 1000 = true) : Contract zE 16 [.str s] (.int .i64 (nmI s)) := rName_ev s (len_z hc)
theorem ft_tree (k w d m y : Int) (hy : leapB y = false) : sel (onB k w d) (sel (ile 1 m) (sel (ile m 12) (some (V.bool (ile d (lenI y m)))) (some (V.bool false))) (some (V.bool false))) (some (V.bool false)) = some (.bool (ftB k w d m)) := by
  have e : lenI y m = lenI 1 m := by unfold lenI; rw [hy]; rfl
  rw [e]
  unfold ftB
  have e2 : decide (1 ≤ m ∧ m ≤ 12 ∧ d ≤ lenI 1 m) = (ile 1 m && (ile m 12 && ile d (lenI 1 m))) := by
    rw [Bool.eq_iff_iff, Bool.and_eq_true, Bool.and_eq_true, ile_iff, ile_iff, ile_iff, decide_eq_true_eq]
  rw [e2]
  generalize ile d (lenI 1 m) = x
  cases onB k w d <;> cases ile 1 m <;> cases ile m 12 <;> rfl
theorem zFitsS_ok (k w d m : Int) (hc : true = true) : Contract zE 48 [.agg [.int .i64 k, .int .i64 w, .int .i64 d], .int .i64 m] (.bool (ftB k w d m)) := by
  refine contract_of_body zE_ok zS0_ok 5 3 ?_
  rw [zFits_top]
  exact ft_tree k w d m 1 (by decide)
theorem zFitsS_ok_noontideref05_Fits (k w d m : Int) (hc : true = true) : Contract zE 51 [.agg [.int .i64 k, .int .i64 w, .int .i64 d], .int .i64 m] (.bool (ftB k w d m)) := by
  refine contract_of_body zE_ok zS0_ok 5 3 ?_
  rw [rFits5_top]
  exact ft_tree k w d m 2001 (by decide)
theorem zFromS_ok (s : List UInt8) (hc : ile (slen s) 900 = true) : Contract zE 70 [.str s] (.tup [.int .i64 (yfI s), .int .i64 (yfE s)]) := toZy (yFrom_ev s (by have := len_z9 hc; omega))
theorem zFromS_ok_noontideref17_From (s : List UInt8) (hc : ile (slen s) 900 = true) : Contract zE 27 [.str s] (.tup [.int .i64 (yfI s), .int .i64 (yfE s)]) := toZy (rFrom_ev s (by have := len_z9 hc; omega))
theorem zToS_ok (s : List UInt8) (n : Int) (hc : ile (slen s) 900 = true) : Contract zE 71 [.str s, .int .i64 n] (.tup [.int .i64 (ytI s n), .int .i64 (ytE s n)]) := toZy (yTo_ev s n (by have := len_z9 hc; omega))
theorem zToS_ok_noontideref17_To (s : List UInt8) (n : Int) (hc : ile (slen s) 900 = true) : Contract zE 28 [.str s, .int .i64 n] (.tup [.int .i64 (ytI s n), .int .i64 (ytE s n)]) := toZy (rTo_ev s n (by have := len_z9 hc; omega))
theorem zMonS_ok (s : List UInt8) (hc : ile (slen s) 900 = true) : Contract zE 72 [.str s] (.tup [.int .i64 (moI s), .int .i64 (moW s)]) := toZm (mMonth_ev s (by have := len_z9 hc; omega))
theorem zMonS_ok_noontideref15_Month (s : List UInt8) (hc : ile (slen s) 900 = true) : Contract zE 29 [.str s] (.tup [.int .i64 (moI s), .int .i64 (moW s)]) := toZm (rMonth_ev s (by have := len_z9 hc; omega))
theorem zDayS_ok (s : List UInt8) (hc : ile (slen s) 900 = true) : Contract zE 74 [.str s] (.tup [.agg [.int .i64 (dsK s), .int .i64 (dsWk s), .int .i64 (dsD s)], .int .i64 (dsE s)]) := toZw (dRead_ev s (len_z9 hc))
theorem zDayS_ok_noontideref18_Read (s : List UInt8) (hc : ile (slen s) 900 = true) : Contract zE 85 [.str s] (.tup [.agg [.int .i64 (dsK s), .int .i64 (dsWk s), .int .i64 (dsD s)], .int .i64 (dsE s)]) := toZw (rRead18_ev s (len_z9 hc))
theorem zClkS_ok (s : List UInt8) (hc : ile (slen s) 900 = true) : Contract zE 76 [.str s] (.tup [.agg [.int .i64 (ckA s), .int .i64 (ckB s)], .int .i64 (ckE s)]) := toZa (cRead_ev s (by have := len_z9 hc; omega))
theorem zClkS_ok_noontideref19_Read (s : List UInt8) (hc : ile (slen s) 900 = true) : Contract zE 31 [.str s] (.tup [.agg [.int .i64 (ckA s), .int .i64 (ckB s)], .int .i64 (ckE s)]) := toZa (rRead19_ev s (by have := len_z9 hc; omega))
theorem zAmtS_ok (s : List UInt8) (hc : ile (slen s) 900 = true) : Contract zE 78 [.str s] (.tup [.int .i64 (amI s), .int .i64 (amW s)]) := toZa (aread_ev s (by have := len_z9 hc; omega))
theorem zAmtS_ok_noontideref16_Read (s : List UInt8) (hc : ile (slen s) 900 = true) : Contract zE 57 [.str s] (.tup [.int .i64 (amI s), .int .i64 (amW s)]) := toZa (rread_ev s (by have := len_z9 hc; omega))
theorem zLetS_ok (s : List UInt8) (hc : ile (slen s) 900 = true) : Contract zE 79 [.str s] (.tup [.str (leT s), .int .i64 (leW s)]) := toZf (letterS_ok s (ile_t (by have := len_z9 hc; rw [slen_nat]; omega)))
theorem zLetS_ok_noontideref20_Letter (s : List UInt8) (hc : ile (slen s) 900 = true) : Contract zE 33 [.str s] (.tup [.str (leT s), .int .i64 (leW s)]) := toZf (letterS_ok_noontideref20_Letter s (ile_t (by have := len_z9 hc; rw [slen_nat]; omega)))
theorem zFxS_ok (n : Int) (hc : true = true) : Contract zE 34 [.int .i64 n] (.tup [.str (fxT n), .int .i64 (fxW n)]) := toZy (yFromText_ev n)
theorem zFxS_ok_noontideref17_FromText (n : Int) (hc : true = true) : Contract zE 41 [.int .i64 n] (.tup [.str (fxT n), .int .i64 (fxW n)]) := toZy (rFromText_ev n)
theorem zTxS_ok (m n : Int) (hc : true = true) : Contract zE 35 [.int .i64 m, .int .i64 n] (.tup [.str (txTy m n), .int .i64 (txWy m n)]) := toZy (yToText_ev m n)
theorem zTxS_ok_noontideref17_ToText (m n : Int) (hc : true = true) : Contract zE 42 [.int .i64 m, .int .i64 n] (.tup [.str (txTy m n), .int .i64 (txWy m n)]) := toZy (rToText_ev m n)
theorem zDtS_ok (k w d : Int) (hc : true = true) : Contract zE 36 [.agg [.int .i64 k, .int .i64 w, .int .i64 d]] (.tup [.str (dsTx k w d), .int .i64 (dsTe k w d)]) := toZw (dText_ev k w d)
theorem zDtS_ok_noontideref18_Text (k w d : Int) (hc : true = true) : Contract zE 43 [.agg [.int .i64 k, .int .i64 w, .int .i64 d]] (.tup [.str (dsTx k w d), .int .i64 (dsTe k w d)]) := toZw (rText18_ev k w d)
theorem zCtS_ok (n b : Int) (hc : true = true) : Contract zE 37 [.agg [.int .i64 n, .int .i64 b]] (.tup [.str (tcT n b), .int .i64 (tcW n b)]) := toZa (cText19_ev n b)
theorem zCtS_ok_noontideref19_Text (n b : Int) (hc : true = true) : Contract zE 44 [.agg [.int .i64 n, .int .i64 b]] (.tup [.str (tcT n b), .int .i64 (tcW n b)]) := toZa (rText19_ev n b)
theorem zCrS_ok (n b : Int) (hc : true = true) : Contract zE 49 [.agg [.int .i64 n, .int .i64 b]] (.bool (rightC n b)) := toZa (cRight_ev n b)
theorem zCrS_ok_noontideref19_Right (n b : Int) (hc : true = true) : Contract zE 52 [.agg [.int .i64 n, .int .i64 b]] (.bool (rightC n b)) := toZa (rRight19_ev n b)
theorem zAtS_ok (n : Int) (hc : band (ile (-9223372036854775808) n) (ile n 9223372036854775807) = true) : Contract zE 38 [.int .i64 n] (.tup [.str (amT n), .int .i64 (amE n)]) := toZa (atext_ev n (fits_z hc).1 (fits_z hc).2)
theorem zAtS_ok_noontideref16_Text (n : Int) (hc : band (ile (-9223372036854775808) n) (ile n 9223372036854775807) = true) : Contract zE 45 [.int .i64 n] (.tup [.str (amT n), .int .i64 (amE n)]) := toZa (rtext_ev n (fits_z hc).1 (fits_z hc).2)
theorem zLtS_ok (s : List UInt8) (hc : ile (slen s) 900 = true) : Contract zE 39 [.str s] (.tup [.str (ltT s), .int .i64 (ltW s)]) := toZf (fLText_ev s (by have := len_z9 hc; omega))
theorem zLtS_ok_noontideref20_LetterText (s : List UInt8) (hc : ile (slen s) 900 = true) : Contract zE 46 [.str s] (.tup [.str (ltT s), .int .i64 (ltW s)]) := toZf (rLText_ev s (by have := len_z9 hc; omega))
theorem zMtS_ok (n : Int) (hc : band (ile (-9223372036854775808) n) (ile n 9223372036854775807) = true) : Contract zE 40 [.int .i64 n] (.str (moT n)) := toZm (mMText_ev n (fits_z hc))
theorem zMtS_ok_noontideref15_MonthText (n : Int) (hc : band (ile (-9223372036854775808) n) (ile n 9223372036854775807) = true) : Contract zE 47 [.int .i64 n] (.str (moT n)) := toZm (rMText_ev n (fits_z hc))
theorem zS_ok : SOk zE zS := by
  unfold zS
  refine SOk.cons (fun args r h => ?_) (SOk.cons (fun args r h => ?_) (SOk.cons (fun args r h => ?_) (SOk.cons (fun args r h => ?_) (SOk.cons (fun args r h => ?_) (SOk.cons (fun args r h => ?_) (SOk.cons (fun args r h => ?_) (SOk.cons (fun args r h => ?_) (SOk.cons (fun args r h => ?_) (SOk.cons (fun args r h => ?_) (SOk.cons (fun args r h => ?_) (SOk.cons (fun args r h => ?_) (SOk.cons (fun args r h => ?_) (SOk.cons (fun args r h => ?_) (SOk.cons (fun args r h => ?_) (SOk.cons (fun args r h => ?_) (SOk.cons (fun args r h => ?_) (SOk.cons (fun args r h => ?_) (SOk.cons (fun args r h => ?_) (SOk.cons (fun args r h => ?_) (SOk.cons (fun args r h => ?_) (SOk.cons (fun args r h => ?_) (SOk.cons (fun args r h => ?_) (SOk.cons (fun args r h => ?_) (SOk.cons (fun args r h => ?_) (SOk.cons (fun args r h => ?_) (SOk.cons (fun args r h => ?_) (SOk.cons (fun args r h => ?_) (SOk.cons (fun args r h => ?_) (SOk.cons (fun args r h => ?_) (SOk.cons (fun args r h => ?_) (SOk.cons (fun args r h => ?_) (SOk.cons (fun args r h => ?_) (SOk.cons (fun args r h => ?_) (zS0_ok))))))))))))))))))))))))))))))))))
  · unfold zNameS at h
    split at h
    · simp only [Option.some.injEq, Prod.mk.injEq] at h
      obtain ⟨hc, rfl⟩ := h
      exact zNameS_ok _ hc
    · cases h
  · unfold zNameS at h
    split at h
    · simp only [Option.some.injEq, Prod.mk.injEq] at h
      obtain ⟨hc, rfl⟩ := h
      exact zNameS_ok_noontideref21_Name _ hc
    · cases h
  · unfold zFitsS at h
    split at h
    · simp only [Option.some.injEq, Prod.mk.injEq] at h
      obtain ⟨hc, rfl⟩ := h
      exact zFitsS_ok _ _ _ _ rfl
    · cases h
  · unfold zFitsS at h
    split at h
    · simp only [Option.some.injEq, Prod.mk.injEq] at h
      obtain ⟨hc, rfl⟩ := h
      exact zFitsS_ok_noontideref05_Fits _ _ _ _ rfl
    · cases h
  · unfold zFromS at h
    split at h
    · simp only [Option.some.injEq, Prod.mk.injEq] at h
      obtain ⟨hc, rfl⟩ := h
      exact zFromS_ok _ hc
    · cases h
  · unfold zFromS at h
    split at h
    · simp only [Option.some.injEq, Prod.mk.injEq] at h
      obtain ⟨hc, rfl⟩ := h
      exact zFromS_ok_noontideref17_From _ hc
    · cases h
  · unfold zToS at h
    split at h
    · simp only [Option.some.injEq, Prod.mk.injEq] at h
      obtain ⟨hc, rfl⟩ := h
      exact zToS_ok _ _ hc
    · cases h
  · unfold zToS at h
    split at h
    · simp only [Option.some.injEq, Prod.mk.injEq] at h
      obtain ⟨hc, rfl⟩ := h
      exact zToS_ok_noontideref17_To _ _ hc
    · cases h
  · unfold zMonS at h
    split at h
    · simp only [Option.some.injEq, Prod.mk.injEq] at h
      obtain ⟨hc, rfl⟩ := h
      exact zMonS_ok _ hc
    · cases h
  · unfold zMonS at h
    split at h
    · simp only [Option.some.injEq, Prod.mk.injEq] at h
      obtain ⟨hc, rfl⟩ := h
      exact zMonS_ok_noontideref15_Month _ hc
    · cases h
  · unfold zDayS at h
    split at h
    · simp only [Option.some.injEq, Prod.mk.injEq] at h
      obtain ⟨hc, rfl⟩ := h
      exact zDayS_ok _ hc
    · cases h
  · unfold zDayS at h
    split at h
    · simp only [Option.some.injEq, Prod.mk.injEq] at h
      obtain ⟨hc, rfl⟩ := h
      exact zDayS_ok_noontideref18_Read _ hc
    · cases h
  · unfold zClkS at h
    split at h
    · simp only [Option.some.injEq, Prod.mk.injEq] at h
      obtain ⟨hc, rfl⟩ := h
      exact zClkS_ok _ hc
    · cases h
  · unfold zClkS at h
    split at h
    · simp only [Option.some.injEq, Prod.mk.injEq] at h
      obtain ⟨hc, rfl⟩ := h
      exact zClkS_ok_noontideref19_Read _ hc
    · cases h
  · unfold zAmtS at h
    split at h
    · simp only [Option.some.injEq, Prod.mk.injEq] at h
      obtain ⟨hc, rfl⟩ := h
      exact zAmtS_ok _ hc
    · cases h
  · unfold zAmtS at h
    split at h
    · simp only [Option.some.injEq, Prod.mk.injEq] at h
      obtain ⟨hc, rfl⟩ := h
      exact zAmtS_ok_noontideref16_Read _ hc
    · cases h
  · unfold zLetS at h
    split at h
    · simp only [Option.some.injEq, Prod.mk.injEq] at h
      obtain ⟨hc, rfl⟩ := h
      exact zLetS_ok _ hc
    · cases h
  · unfold zLetS at h
    split at h
    · simp only [Option.some.injEq, Prod.mk.injEq] at h
      obtain ⟨hc, rfl⟩ := h
      exact zLetS_ok_noontideref20_Letter _ hc
    · cases h
  · unfold zFxS at h
    split at h
    · simp only [Option.some.injEq, Prod.mk.injEq] at h
      obtain ⟨hc, rfl⟩ := h
      exact zFxS_ok _ rfl
    · cases h
  · unfold zFxS at h
    split at h
    · simp only [Option.some.injEq, Prod.mk.injEq] at h
      obtain ⟨hc, rfl⟩ := h
      exact zFxS_ok_noontideref17_FromText _ rfl
    · cases h
  · unfold zTxS at h
    split at h
    · simp only [Option.some.injEq, Prod.mk.injEq] at h
      obtain ⟨hc, rfl⟩ := h
      exact zTxS_ok _ _ rfl
    · cases h
  · unfold zTxS at h
    split at h
    · simp only [Option.some.injEq, Prod.mk.injEq] at h
      obtain ⟨hc, rfl⟩ := h
      exact zTxS_ok_noontideref17_ToText _ _ rfl
    · cases h
  · unfold zDtS at h
    split at h
    · simp only [Option.some.injEq, Prod.mk.injEq] at h
      obtain ⟨hc, rfl⟩ := h
      exact zDtS_ok _ _ _ rfl
    · cases h
  · unfold zDtS at h
    split at h
    · simp only [Option.some.injEq, Prod.mk.injEq] at h
      obtain ⟨hc, rfl⟩ := h
      exact zDtS_ok_noontideref18_Text _ _ _ rfl
    · cases h
  · unfold zCtS at h
    split at h
    · simp only [Option.some.injEq, Prod.mk.injEq] at h
      obtain ⟨hc, rfl⟩ := h
      exact zCtS_ok _ _ rfl
    · cases h
  · unfold zCtS at h
    split at h
    · simp only [Option.some.injEq, Prod.mk.injEq] at h
      obtain ⟨hc, rfl⟩ := h
      exact zCtS_ok_noontideref19_Text _ _ rfl
    · cases h
  · unfold zCrS at h
    split at h
    · simp only [Option.some.injEq, Prod.mk.injEq] at h
      obtain ⟨hc, rfl⟩ := h
      exact zCrS_ok _ _ rfl
    · cases h
  · unfold zCrS at h
    split at h
    · simp only [Option.some.injEq, Prod.mk.injEq] at h
      obtain ⟨hc, rfl⟩ := h
      exact zCrS_ok_noontideref19_Right _ _ rfl
    · cases h
  · unfold zAtS at h
    split at h
    · simp only [Option.some.injEq, Prod.mk.injEq] at h
      obtain ⟨hc, rfl⟩ := h
      exact zAtS_ok _ hc
    · cases h
  · unfold zAtS at h
    split at h
    · simp only [Option.some.injEq, Prod.mk.injEq] at h
      obtain ⟨hc, rfl⟩ := h
      exact zAtS_ok_noontideref16_Text _ hc
    · cases h
  · unfold zLtS at h
    split at h
    · simp only [Option.some.injEq, Prod.mk.injEq] at h
      obtain ⟨hc, rfl⟩ := h
      exact zLtS_ok _ hc
    · cases h
  · unfold zLtS at h
    split at h
    · simp only [Option.some.injEq, Prod.mk.injEq] at h
      obtain ⟨hc, rfl⟩ := h
      exact zLtS_ok_noontideref20_LetterText _ hc
    · cases h
  · unfold zMtS at h
    split at h
    · simp only [Option.some.injEq, Prod.mk.injEq] at h
      obtain ⟨hc, rfl⟩ := h
      exact zMtS_ok _ hc
    · cases h
  · unfold zMtS at h
    split at h
    · simp only [Option.some.injEq, Prod.mk.injEq] at h
      obtain ⟨hc, rfl⟩ := h
      exact zMtS_ok_noontideref15_MonthText _ hc
    · cases h
theorem zOdS_ok (s : List UInt8) (m : Int) (hc : ile (slen s) 900 = true) : Contract zE 30 [.str s, .int .i64 m] (.tup [.agg [.int .i64 (odK s m), .int .i64 (odW s m), .int .i64 (odD s m)], .int .i64 (odE s m)]) := by
  refine contract_of_body zE_ok zS_ok 5 2 ?_
  rw [rDay21_top, sel_pos hc]
  unfold odK odW odD odE odP
  by_cases h : dsE s = 0
  · rw [sel_pos (ieq_t h), if_pos h]
    cases ftB (dsK s) (dsWk s) (dsD s) m with
    | true => rw [h]; rfl
    | false => rfl
  · rw [sel_neg (ieq_f h), if_neg h]
theorem zSvS_ok (s : List UInt8) (hc : ile (slen s) 900 = true) : Contract zE 32 [.str s] (.tup [.int .i64 (svI s), .int .i64 (svW s)]) := by
  refine contract_of_body zE_ok zS_ok 5 2 ?_
  rw [rSave21_top, sel_pos hc]
  unfold svI svW svP
  by_cases h : amW s = 0
  · rw [sel_pos (ieq_t h), if_pos h]
    by_cases h1 : amI s < -10800
    · rw [sel_pos (ilt_t h1), if_pos (show amI s < -10800 ∨ 10800 < amI s from .inl h1)]
    · rw [sel_neg (ilt_f (by omega))]
      by_cases h2 : 10800 < amI s
      · rw [sel_pos (ilt_t h2), if_pos (show amI s < -10800 ∨ 10800 < amI s from .inr h2)]
      · rw [sel_neg (ilt_f (by omega)), if_neg (show ¬ (amI s < -10800 ∨ 10800 < amI s) by omega), h]
  · rw [sel_neg (ieq_f h), if_neg h]
theorem zS1_ok : SOk zE zS1 := by
  unfold zS1
  refine SOk.cons (fun args r h => ?_) (SOk.cons (fun args r h => ?_) (zS_ok))
  · unfold zOdS at h
    split at h
    · simp only [Option.some.injEq, Prod.mk.injEq] at h
      obtain ⟨hc, rfl⟩ := h
      exact zOdS_ok _ _ hc
    · cases h
  · unfold zSvS at h
    split at h
    · simp only [Option.some.injEq, Prod.mk.injEq] at h
      obtain ⟨hc, rfl⟩ := h
      exact zSvS_ok _ hc
    · cases h
end Nt.Ev.YtgfedofdljielaaGreatDoor

set_option linter.unusedVariables false
set_option linter.unusedSimpArgs false
set_option linter.unusedSectionVars false
namespace Nt.Ev.YtgfedofdljielaaGreatDoor
open Go Go.RowKit Nt Nt.Num Nt.Civil Go.Proofs.YtgfedofdljielaaGreatDoor
variable [MLen]
def rg (xs : List V) (i : Int) : List UInt8 := asStr (acell (lget xs i) 0)
def sV (v : V) : Bool := match v with | .str s => ile (slen s) 900 | _ => false
def allS (xs : List V) : Bool := xs.all sV
theorem allS_strs : ∀ (xs : List V), allS xs = true → ∃ l : List (List UInt8), xs = l.map V.str ∧ ∀ a ∈ l, ile (slen a) 900 = true
  | [], _ => ⟨[], rfl, fun a h => by cases h⟩
  | v :: xs, h => by
    unfold allS at h
    rw [List.all_cons, Bool.and_eq_true] at h
    obtain ⟨l, e, hl⟩ := allS_strs xs h.2
    cases v with
    | str s => exact ⟨s :: l, by rw [e]; rfl, fun a ha => by
        rw [List.mem_cons] at ha
        rcases ha with rfl | ha
        · exact h.1
        · exact hl a ha⟩
    | _ => exact absurd (show false = true from h.1) (by decide)
theorem sT {α : Type} (x y : α) : sel true x y = x := rfl
theorem sF {α : Type} (x y : α) : sel false x y = y := rfl
theorem ile_10 {s : List UInt8} (h : ile (slen s) 900 = true) : ile (slen s) 1000 = true := by rw [ile_iff] at *; omega
theorem od_sel (s : List UInt8) (m : Int) : odE s m = sel (ieq (dsE s) 0) (sel (ftB (dsK s) (dsWk s) (dsD s) m) 0 1) (dsE s) := by
  unfold odE odP
  rw [sel_if, sel_if]
  by_cases h : dsE s = 0
  · rw [if_pos h, if_pos (ieq_t h)]
    by_cases h2 : ftB (dsK s) (dsWk s) (dsD s) m = true
    · rw [if_pos h2, if_pos h2]
    · rw [if_neg h2, if_neg h2]
  · rw [if_neg h, if_neg (by rw [ieq_iff]; exact h)]
theorem sv_sel (s : List UInt8) : svW s = sel (ieq (amW s) 0) (sel (ile (-10800) (amI s)) (sel (ile (amI s) 10800) 0 1) 1) (amW s) := by
  unfold svW svP
  simp only [sel_if, ieq_iff, ile_iff]
  by_cases h : amW s = 0
  · rw [if_pos h, if_pos h]
    by_cases h1 : -10800 ≤ amI s
    · rw [if_pos h1]
      by_cases h2 : amI s ≤ 10800
      · rw [if_pos h2, if_neg (by omega)]
      · rw [if_neg h2, if_pos (by omega)]
    · rw [if_neg h1, if_pos (by omega)]
  · rw [if_neg h, if_neg h]
theorem yr_eq (f t : Int) : (ieq (txWy f t) 0 && ieq (fxW f) 0) = yrB f t := by
  rw [Bool.eq_iff_iff, Bool.and_eq_true, ieq_iff, ieq_iff]
  unfold yrB
  rw [Bool.and_eq_true, Bool.and_eq_true, ile_iff, ile_iff, ile_iff]
  unfold txWy fxW yToTextP yFromTextP
  constructor
  · rintro ⟨h1, h2⟩
    by_cases a : -32767 ≤ f ∧ f ≤ 32767
    · by_cases b : -32767 ≤ t ∧ t ≤ 32767
      · rw [if_pos b] at h1
        by_cases c : t < f
        · rw [if_pos c] at h1; cases h1
        · omega
      · rw [if_neg b] at h1; cases h1
    · rw [if_neg a] at h2; cases h2
  · rintro ⟨h1, h2, h3⟩
    rw [if_pos (show -32767 ≤ t ∧ t ≤ 32767 by omega), if_pos (show -32767 ≤ f ∧ f ≤ 32767 by omega), if_neg (show ¬ t < f by omega)]
    constructor
    · (repeat' split) <;> rfl
    · (repeat' split) <;> rfl
theorem zRightS_ok (n : List UInt8) (f t m k w d c b v : Int) (l : List UInt8) (hc : band (ile (slen n) 900) (ile (slen l) 900) = true) : Contract zE 13 [.agg [.str n, .int .i64 f, .int .i64 t, .int .i64 m, .int .i64 k, .int .i64 w, .int .i64 d, .int .i64 c, .int .i64 b, .int .i64 v, .str l]] (.bool (ruR n f t m k w d c b v l)) := by
  rw [band_iff] at hc
  refine contract_of_body zE_ok zS_ok 5 3 ?_
  rw [zRight_top, sel_pos hc.2, ile_10 hc.1]
  unfold ruR
  rw [← yr_eq]
  cases ieq (txWy f t) 0 <;> cases ieq (fxW f) 0 <;> cases ieq (ltW l) 0 <;> cases ieq (nmI n) 0 <;> cases ftB k w d m <;> cases rightC c b <;> cases ile (-10800) v <;> cases ile v 10800 <;> rfl
theorem zRightS_ok_noontideref21_Right (n : List UInt8) (f t m k w d c b v : Int) (l : List UInt8) (hc : band (ile (slen n) 900) (ile (slen l) 900) = true) : Contract zE 14 [.agg [.str n, .int .i64 f, .int .i64 t, .int .i64 m, .int .i64 k, .int .i64 w, .int .i64 d, .int .i64 c, .int .i64 b, .int .i64 v, .str l]] (.bool (ruR n f t m k w d c b v l)) := by
  rw [band_iff] at hc
  refine contract_of_body zE_ok zS_ok 5 3 ?_
  rw [rRight21_top, sel_pos hc.2, ile_10 hc.1]
  unfold ruR yrB
  cases ieq (nmI n) 0 <;> cases ile (-32767) f <;> cases ile f t <;> cases ile t 32767 <;> cases ftB k w d m <;> cases rightC c b <;> cases ile (-10800) v <;> cases ile v 10800 <;> rfl
theorem zS2_ok : SOk zE zS2 := by
  unfold zS2
  refine SOk.cons (fun args r h => ?_) (SOk.cons (fun args r h => ?_) (zS1_ok))
  · unfold zRightS at h
    split at h
    · simp only [Option.some.injEq, Prod.mk.injEq] at h
      obtain ⟨hc, rfl⟩ := h
      exact zRightS_ok _ _ _ _ _ _ _ _ _ _ _ hc
    · cases h
  · unfold zRightS at h
    split at h
    · simp only [Option.some.injEq, Prod.mk.injEq] at h
      obtain ⟨hc, rfl⟩ := h
      exact zRightS_ok_noontideref21_Right _ _ _ _ _ _ _ _ _ _ _ hc
    · cases h
end Nt.Ev.YtgfedofdljielaaGreatDoor

set_option linter.unusedVariables false
set_option linter.unusedSimpArgs false
set_option linter.unusedSectionVars false
namespace Nt.Ev.YtgfedofdljielaaGreatDoor
open Go Go.RowKit Nt Nt.Num Nt.Civil Go.Proofs.YtgfedofdljielaaGreatDoor
variable [MLen]
theorem mo_back (m : Int) (h1 : 1 ≤ m) (h2 : m ≤ 12) : moI (moT m) = m ∧ moW (moT m) = 0 ∧ (moT m).length ≤ 10 := by
  obtain rfl | rfl | rfl | rfl | rfl | rfl | rfl | rfl | rfl | rfl | rfl | rfl : m = 1 ∨ m = 2 ∨ m = 3 ∨ m = 4 ∨ m = 5 ∨ m = 6 ∨ m = 7 ∨ m = 8 ∨ m = 9 ∨ m = 10 ∨ m = 11 ∨ m = 12 := by omega
  all_goals decide +kernel
theorem cls_rng (x : Int) : 0 ≤ clsI x ∧ clsI x ≤ 3 := by
  unfold clsI
  (repeat' split) <;> decide
theorem bsB_rng (s : List UInt8) : 0 ≤ bsB s ∧ bsB s ≤ 2 := by
  unfold bsB bsP
  split
  · show (0 : Int) ≤ 0 ∧ (0 : Int) ≤ 2
    decide
  · rename_i c _
    have := cls_rng (c.toNat : Int)
    split
    · show (0 : Int) ≤ 0 ∧ (0 : Int) ≤ 2
      decide
    · show 0 ≤ clsI _ ∧ clsI _ ≤ 2
      omega
theorem ck_right (s : List UInt8) (h : ckE s = 0) : rightC (ckA s) (ckB s) = true := by
  have hb := bsB_rng s
  unfold ckE readC at h
  unfold ckA ckB readC rightC
  by_cases h1 : rdWc (bsT s) = 0
  · rw [if_pos h1] at h ⊢
    by_cases h2 : 0 ≤ rdI (bsT s) ∧ rdI (bsT s) ≤ 172800
    · rw [if_pos h2] at h ⊢
      exact decide_eq_true ⟨h2.1, h2.2, hb.1, hb.2⟩
    · rw [if_neg h2] at h; cases h
  · rw [if_neg h1] at h; exact absurd h h1
theorem ck_back (n b : Int) (hr : rightC n b = true) : ckA (tcT n b) = n ∧ ckB (tcT n b) = b ∧ ckE (tcT n b) = 0 ∧ (tcT n b).length ≤ 20 := by
  have hr' := hr
  unfold rightC at hr'
  have hr' := of_decide_eq_true hr'
  obtain ⟨l, c, h1, h2, h3, h4⟩ := week_text n (by omega) (by omega)
  have hn : 0 ≤ n ∧ n ≤ 172800 := by omega
  have hlen := (tx_week n hn).2
  have hcl : clsI (c.toNat : Int) = 3 := by unfold clsI; rw [if_neg (by omega), if_neg (by omega), if_neg (by omega)]
  have e2 : tcT n b = (Amount.text n).1 ++ letC b := by unfold tcT textC; rw [if_pos hr]; rfl
  have hl : (Amount.text n).1.length ≤ 10 := hlen
  rw [e2]
  generalize (Amount.text n).1 = t at *
  have rd : ∀ (x : UInt8) (q : Int), clsI (x.toNat : Int) = q → q ≠ 3 → ckA (t ++ [x]) = n ∧ ckB (t ++ [x]) = q ∧ ckE (t ++ [x]) = 0 ∧ (t ++ [x]).length ≤ 20 := fun x q hx hq => by
    have := readC_last t x n q hx hq h4 hn
    unfold ckA ckB ckE
    rw [this]; exact ⟨rfl, rfl, rfl, by simp; omega⟩
  have hb : b = 0 ∨ b = 1 ∨ b = 2 := by omega
  rcases hb with rfl | rfl | rfl
  · have e3 : t ++ letC 0 = t := by unfold letC; simp
    have e4 : readC t = (n, 0, 0) := by rw [h1]; exact readC_none l c n hcl (by rw [← h1]; exact h4) hn
    rw [e3]
    unfold ckA ckB ckE
    rw [e4]; exact ⟨rfl, rfl, rfl, by omega⟩
  · exact rd 115 1 rfl (by decide)
  · exact rd 117 2 rfl (by decide)
theorem am_neg (k : Nat) (h : k ≤ 604799) : Amount.read ([45] ++ posL k) = (-(k : Int), 0) := by
  rw [read_minus (posL_ne k h), posL_eq, told_pos _ k h (hour_ok k h).1 (hour_ok k h).2]
  rfl
theorem am_back (v : Int) (h1 : -604799 ≤ v) (h2 : v ≤ 604799) : amI (amT v) = v ∧ amW (amT v) = 0 ∧ (amT v).length ≤ 40 := by
  unfold amI amW amT
  by_cases h0 : v = 0
  · subst h0; decide
  · by_cases hp : 0 < v
    · obtain ⟨k, rfl⟩ : ∃ k : Nat, v = (k : Int) := ⟨v.toNat, by omega⟩
      have e := posL_len k (by omega)
      rw [amt_pos k (by omega) (by omega), read_pos k (by omega)]
      exact ⟨rfl, rfl, by show (posL k).length ≤ 40; omega⟩
    · obtain ⟨k, rfl⟩ : ∃ k : Nat, v = -(k : Int) := ⟨v.natAbs, by omega⟩
      have e := posL_len k (by omega)
      rw [amt_neg k (by omega) (by omega), am_neg k (by omega)]
      exact ⟨rfl, rfl, by show ([45] ++ posL k).length ≤ 40; simp; omega⟩
theorem nm_len (n : List UInt8) (h : nmI n = 0) : n.length ≤ 64 := by
  unfold nmI at h
  by_cases h1 : 64 < n.length
  · rw [if_pos h1] at h; cases h
  · omega
theorem sV_len {s : List UInt8} (h : s.length ≤ 900) : sV (.str s) = true := ile_t (by rw [slen_nat]; omega)
end Nt.Ev.YtgfedofdljielaaGreatDoor

set_option linter.unusedVariables false
set_option linter.unusedSimpArgs false
set_option linter.unusedSectionVars false
namespace Nt.Ev.YtgfedofdljielaaGreatDoor
open Go Nt.Num Go.Proofs.YtgfedofdljielaaGreatDoor
variable [MLen]
open Nt.Civil
def smN (xs ys : List V) : Nat → Nat → Bool | 0, _ => true | n + 1, i => seq (asStr (acell (lget xs i) 0)) (asStr (acell (lget ys i) 0)) && smN xs ys n (i + 1)
def smL (xs ys : List V) : Bool := ieq (llen xs) (llen ys) && smN xs ys xs.length 0
noncomputable def zSmS : FSpec := fun a => match a with | [.sl 9 [.str] none xs, .sl 9 [.str] none ys] => some (ile (llen xs) 100, .bool (smL xs ys)) | _ => none
end Nt.Ev.YtgfedofdljielaaGreatDoor

set_option linter.unusedVariables false
set_option linter.unusedSimpArgs false
set_option linter.unusedSectionVars false
namespace Nt.Ev.YtgfedofdljielaaGreatDoor
open Go Go.RowKit Nt Nt.Num Nt.Civil Go.Proofs.YtgfedofdljielaaGreatDoor
variable [MLen]
theorem sm_loop (xs ys : List V) (x4 : Bool) (F : Nat) (hl : xs.length = ys.length) (hm : xs.length ≤ 1000) : ∀ (j i n : Nat), i + j = xs.length → j < n → rSame13_L0 F [] n xs ys x4 (llen xs) (i : Int) some = some (.bool (smN xs ys j i)) := by
  intro j
  induction j with
  | zero =>
    intro i n hi hn
    obtain ⟨n, rfl⟩ : ∃ m, n = m + 1 := ⟨n - 1, by omega⟩
    rw [rSame13_L0_succ, sel_neg (ilt_f (by rw [llen_nat]; omega))]; rfl
  | succ j ih =>
    intro i n hi hn
    obtain ⟨n, rfl⟩ : ∃ m, n = m + 1 := ⟨n - 1, by omega⟩
    rw [rSame13_L0_succ, sel_pos (ilt_t (by rw [llen_nat]; omega)), sel_pos (by rw [band_iff, ile_iff, ilt_iff, llen_nat]; omega), sel_pos (by rw [band_iff, ile_iff, ilt_iff, llen_nat]; omega), iadd64 (by omega)]
    show _ = some (V.bool (seq (asStr (acell (lget xs (i : Int)) 0)) (asStr (acell (lget ys (i : Int)) 0)) && smN xs ys j (i + 1)))
    cases seq (asStr (acell (lget xs (i : Int)) 0)) (asStr (acell (lget ys (i : Int)) 0)) with
    | false => rfl
    | true =>
      rw [sel_neg (show bnot true = false from rfl), show (i : Int) + 1 = ((i + 1 : Nat) : Int) by omega, ih (i + 1) n (by omega) (by omega)]; rfl
theorem zSmS_ok (xs ys : List V) (hc : ile (llen xs) 100 = true) : Contract zE 12 [.sl 9 [.str] none xs, .sl 9 [.str] none ys] (.bool (smL xs ys)) := by
  rw [ile_iff, llen_nat] at hc
  refine contract_of_body zE_ok zS2_ok 200 2 ?_
  rw [rSame13_top]
  unfold smL
  by_cases h : xs.length = ys.length
  · have e : ieq (llen xs) (llen ys) = true := ieq_t (by rw [llen_nat, llen_nat]; omega)
    rw [e, sel_neg (show bnot true = false from rfl)]
    exact sm_loop xs ys false 200 h (by omega) xs.length 0 200 (by omega) (by omega)
  · have e : ieq (llen xs) (llen ys) = false := ieq_f (by rw [llen_nat, llen_nat]; omega)
    rw [e, sel_pos (show bnot false = true from rfl)]; rfl
theorem smN_refl (xs : List V) : ∀ n i, smN xs xs n i = true
  | 0, _ => rfl
  | n + 1, i => by
    show (seq (asStr (acell (lget xs i) 0)) (asStr (acell (lget xs i) 0)) && smN xs xs n (i + 1)) = true
    rw [smN_refl xs n (i + 1), show ∀ s : List UInt8, seq s s = true from fun s => by rw [seq_iff]]; rfl
theorem smL_refl (xs : List V) : smL xs xs = true := by
  unfold smL
  rw [smN_refl, ieq_t rfl]; rfl
theorem scan_pass (L : Nat → Int → Option V) (p : Int → Bool) (T : Option V) (len : Nat) (hs : ∀ (n i : Nat), i < len → L (n + 1) (i : Int) = sel (p (i : Int)) T (L n ((i + 1 : Nat) : Int))) (hp : ∀ i : Nat, i < len → p (i : Int) = false) :
    ∀ (j i n : Nat), i + j = len → L (n + j) (i : Int) = L n (len : Int)
  | 0, i, n, h => by rw [show i = len by omega]; rfl
  | j + 1, i, n, h => by
    rw [show n + (j + 1) = (n + j) + 1 by omega, hs _ _ (by omega), hp i (by omega)]
    exact scan_pass L p T len hs hp j (i + 1) n (by omega)
theorem scan_hit (L : Nat → Int → Option V) (p : Int → Bool) (T : Option V) (len : Nat) (hs : ∀ (n i : Nat), i < len → L (n + 1) (i : Int) = sel (p (i : Int)) T (L n ((i + 1 : Nat) : Int))) :
    ∀ (j i n : Nat), i + j = len → (∃ k, i ≤ k ∧ k < len ∧ p (k : Int) = true) → L (n + j) (i : Int) = T
  | 0, i, n, h, ⟨k, h1, h2, _⟩ => by omega
  | j + 1, i, n, h, ⟨k, h1, h2, h3⟩ => by
    rw [show n + (j + 1) = (n + j) + 1 by omega, hs _ _ (by omega)]
    cases hp : p (i : Int) with
    | true => rfl
    | false =>
      refine scan_hit L p T len hs j (i + 1) n (by omega) ⟨k, ?_, h2, h3⟩
      rcases Nat.lt_or_ge i k with h4 | h4
      · exact h4
      · have : k = i := by omega
        subst this; rw [hp] at h3; cases h3
theorem short_all (xs : List V) (hx : ∀ x ∈ xs, ∃ l, x = V.str l) (hp : ∀ i : Nat, i < xs.length → ilt 300 (slen (asStr (acell (lget xs (i : Int)) 0))) = false) : allS xs = true := by
  unfold allS
  rw [List.all_eq_true]
  intro x hxm
  obtain ⟨l, rfl⟩ := hx x hxm
  obtain ⟨i, hi, he⟩ := List.getElem_of_mem hxm
  have := hp i hi
  rw [lget_nat, List.getD_eq_getElem?_getD, List.getElem?_eq_getElem hi, he] at this
  have h2 : ilt 300 (slen l) = false := this
  have h3 : ¬ (300 < slen l) := fun h => by rw [ilt_t h] at h2; cases h2
  exact ile_t (by omega)
theorem iR (a : Int) : ieq a a = true := ieq_t rfl
theorem sR (a : List UInt8) : seq a a = true := by rw [seq_iff]
theorem bR (a : Bool) : beq a a = true := by rw [beq_iff]
theorem bT (a : Bool) : band true a = a := rfl
end Nt.Ev.YtgfedofdljielaaGreatDoor
