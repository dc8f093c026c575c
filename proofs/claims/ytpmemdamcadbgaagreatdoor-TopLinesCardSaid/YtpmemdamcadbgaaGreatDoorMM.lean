/-
  Months: equations of functions, as the evaluator prints them. Words: months, for the evaluator, both sides. Rule: equations of functions, as the evaluator prints them. Rules: what the program's functions and the document's answer. Rules: what is read, and what may be. Rules: there and back, in plain terms. RuleLaw: equations of functions, as the evaluator prints them. Rules: the two statements.
-/
import Derived.Test.YtpmemdamcadbgaaGreatDoorML
import Derived.Test.YtpmemdamcadbgaaGreatDoorMG
import Derived.Test.YtpmemdamcadbgaaGreatDoorMH
import Derived.Test.YtpmemdamcadbgaaGreatDoorMJ
import Derived.Test.YtpmemdamcadbgaaGreatDoorMI
import Derived.Test.YtpmemdamcadbgaaGreatDoorMF
set_option linter.unusedVariables false
set_option linter.unusedSimpArgs false
set_option linter.unusedSectionVars false
namespace Nt.Ev.YtpmemdamcadbgaaGreatDoor
open Go Nt.Num Go.Proofs.YtpmemdamcadbgaaGreatDoor
noncomputable def monthsV : V := .rptr [.str, .str, .str, .str, .str, .str, .str, .str, .str, .str, .str, .str] (.agg [.str [74, 97, 110, 117, 97, 114, 121], .str [70, 101, 98, 114, 117, 97, 114, 121], .str [77, 97, 114, 99, 104], .str [65, 112, 114, 105, 108], .str [77, 97, 121], .str [74, 117, 110, 101], .str [74, 117, 108, 121], .str [65, 117, 103, 117, 115, 116], .str [83, 101, 112, 116, 101, 109, 98, 101, 114], .str [79, 99, 116, 111, 98, 101, 114], .str [78, 111, 118, 101, 109, 98, 101, 114], .str [68, 101, 99, 101, 109, 98, 101, 114]]) 0
noncomputable def mE : Env := ⟨Go.Proofs.Tryz.prog, fun g => bif g == 1 then some monthsV else none⟩
noncomputable def mMatchS : FSpec := fun a => match a with | [.str s, .sl e [.str] o ws] => some (band (ile (slen s) 1000) (wsOk ws), .tup [.int .i64 (mtI s ws), .int .i64 (mtW s ws)]) | _ => none
noncomputable def mS : List (Nat × FSpec) := (88, mMatchS) :: []
set_option maxRecDepth 100000 in
theorem mMonth_top (F : Nat) (s : List UInt8) (K : V → Option V) :
 evBd mE (evFn mE mS F 2) F 56 [(V.str s)] K =
 sel (band (ile (slen s) 1000) (wsOk [(V.str [74, 97, 110, 117, 97, 114, 121]), (V.str [70, 101, 98, 114, 117, 97, 114, 121]), (V.str [77, 97, 114, 99, 104]), (V.str [65, 112, 114, 105, 108]), (V.str [77, 97, 121]), (V.str [74, 117, 110, 101]), (V.str [74, 117, 108, 121]), (V.str [65, 117, 103, 117, 115, 116]), (V.str [83, 101, 112, 116, 101, 109, 98, 101, 114]), (V.str [79, 99, 116, 111, 98, 101, 114]), (V.str [78, 111, 118, 101, 109, 98, 101, 114]), (V.str [68, 101, 99, 101, 109, 98, 101, 114])]))
 (sel (bnot (ieq (mtW s [(V.str [74, 97, 110, 117, 97, 114, 121]), (V.str [70, 101, 98, 114, 117, 97, 114, 121]), (V.str [77, 97, 114, 99, 104]), (V.str [65, 112, 114, 105, 108]), (V.str [77, 97, 121]), (V.str [74, 117, 110, 101]), (V.str [74, 117, 108, 121]), (V.str [65, 117, 103, 117, 115, 116]), (V.str [83, 101, 112, 116, 101, 109, 98, 101, 114]), (V.str [79, 99, 116, 111, 98, 101, 114]), (V.str [78, 111, 118, 101, 109, 98, 101, 114]), (V.str [68, 101, 99, 101, 109, 98, 101, 114])]) 0))
 (K (V.tup [(V.int .i64 0), (V.int .i64 (mtW s [(V.str [74, 97, 110, 117, 97, 114, 121]), (V.str [70, 101, 98, 114, 117, 97, 114, 121]), (V.str [77, 97, 114, 99, 104]), (V.str [65, 112, 114, 105, 108]), (V.str [77, 97, 121]), (V.str [74, 117, 110, 101]), (V.str [74, 117, 108, 121]), (V.str [65, 117, 103, 117, 115, 116]), (V.str [83, 101, 112, 116, 101, 109, 98, 101, 114]), (V.str [79, 99, 116, 111, 98, 101, 114]), (V.str [78, 111, 118, 101, 109, 98, 101, 114]), (V.str [68, 101, 99, 101, 109, 98, 101, 114])]))]))
 (K (V.tup [(V.int .i64 (iadd .i64 (mtI s [(V.str [74, 97, 110, 117, 97, 114, 121]), (V.str [70, 101, 98, 114, 117, 97, 114, 121]), (V.str [77, 97, 114, 99, 104]), (V.str [65, 112, 114, 105, 108]), (V.str [77, 97, 121]), (V.str [74, 117, 110, 101]), (V.str [74, 117, 108, 121]), (V.str [65, 117, 103, 117, 115, 116]), (V.str [83, 101, 112, 116, 101, 109, 98, 101, 114]), (V.str [79, 99, 116, 111, 98, 101, 114]), (V.str [78, 111, 118, 101, 109, 98, 101, 114]), (V.str [68, 101, 99, 101, 109, 98, 101, 114])]) 1)), (V.int .i64 0)])))
 (none) := by kernel_rfl
set_option maxRecDepth 100000 in
theorem mMText_top (F : Nat) (n : Int) (K : V → Option V) :
 evBd mE (evFn mE mS F 2) F 20 [(V.int .i64 n)] K =
 sel (ilt n 1)
 (K (V.str []))
 (sel (ilt (isub .i64 n 1) 0)
 (K (V.str []))
 (sel (ile (llen [(V.str [74, 97, 110, 117, 97, 114, 121]), (V.str [70, 101, 98, 114, 117, 97, 114, 121]), (V.str [77, 97, 114, 99, 104]), (V.str [65, 112, 114, 105, 108]), (V.str [77, 97, 121]), (V.str [74, 117, 110, 101]), (V.str [74, 117, 108, 121]), (V.str [65, 117, 103, 117, 115, 116]), (V.str [83, 101, 112, 116, 101, 109, 98, 101, 114]), (V.str [79, 99, 116, 111, 98, 101, 114]), (V.str [78, 111, 118, 101, 109, 98, 101, 114]), (V.str [68, 101, 99, 101, 109, 98, 101, 114])]) (isub .i64 n 1))
 (K (V.str []))
 (sel (band (ile 0 (isub .i64 n 1)) (ilt (isub .i64 n 1) (llen [(V.str [74, 97, 110, 117, 97, 114, 121]), (V.str [70, 101, 98, 114, 117, 97, 114, 121]), (V.str [77, 97, 114, 99, 104]), (V.str [65, 112, 114, 105, 108]), (V.str [77, 97, 121]), (V.str [74, 117, 110, 101]), (V.str [74, 117, 108, 121]), (V.str [65, 117, 103, 117, 115, 116]), (V.str [83, 101, 112, 116, 101, 109, 98, 101, 114]), (V.str [79, 99, 116, 111, 98, 101, 114]), (V.str [78, 111, 118, 101, 109, 98, 101, 114]), (V.str [68, 101, 99, 101, 109, 98, 101, 114])])))
 (sel (band (ile 0 3) (ile 3 (slen (asStr (acell (lget [(V.str [74, 97, 110, 117, 97, 114, 121]), (V.str [70, 101, 98, 114, 117, 97, 114, 121]), (V.str [77, 97, 114, 99, 104]), (V.str [65, 112, 114, 105, 108]), (V.str [77, 97, 121]), (V.str [74, 117, 110, 101]), (V.str [74, 117, 108, 121]), (V.str [65, 117, 103, 117, 115, 116]), (V.str [83, 101, 112, 116, 101, 109, 98, 101, 114]), (V.str [79, 99, 116, 111, 98, 101, 114]), (V.str [78, 111, 118, 101, 109, 98, 101, 114]), (V.str [68, 101, 99, 101, 109, 98, 101, 114])] (isub .i64 n 1)) 0)))))
 (K (V.str (ssub (asStr (acell (lget [(V.str [74, 97, 110, 117, 97, 114, 121]), (V.str [70, 101, 98, 114, 117, 97, 114, 121]), (V.str [77, 97, 114, 99, 104]), (V.str [65, 112, 114, 105, 108]), (V.str [77, 97, 121]), (V.str [74, 117, 110, 101]), (V.str [74, 117, 108, 121]), (V.str [65, 117, 103, 117, 115, 116]), (V.str [83, 101, 112, 116, 101, 109, 98, 101, 114]), (V.str [79, 99, 116, 111, 98, 101, 114]), (V.str [78, 111, 118, 101, 109, 98, 101, 114]), (V.str [68, 101, 99, 101, 109, 98, 101, 114])] (isub .i64 n 1)) 0)) 0 3)))
 (none))
 (none)))) := by kernel_rfl
end Nt.Ev.YtpmemdamcadbgaaGreatDoor

set_option linter.unusedVariables false
set_option linter.unusedSimpArgs false
namespace Nt.Ev.YtpmemdamcadbgaaGreatDoor
open Go Go.RowKit Nt Nt.Num Go.Proofs.YtpmemdamcadbgaaGreatDoor
theorem mE_ok : EOk mE := ⟨by kernel_rfl, by kernel_rfl⟩
theorem toM {f : Nat} {args : List V} {r : V} (h : Contract nE f args r) : Contract mE f args r := Contract.env (E := nE) rfl (fun n v h => by cases h) h
theorem mMatchS_ok (s : List UInt8) (e : Nat) (o : Option Nat) (ws : List V) (hc : band (ile (slen s) 1000) (wsOk ws) = true) : Contract mE 88 [.str s, .sl e [.str] o ws] (.tup [.int .i64 (mtI s ws), .int .i64 (mtW s ws)]) := by
  obtain ⟨h1, h2⟩ := band_true hc
  exact toM (wMatch_c s e o ws (len_w h1) h2)
theorem mS_ok : SOk mE mS := by
  unfold mS
  refine SOk.cons (fun args r h => ?_) (SOk.nil)
  · unfold mMatchS at h
    split at h
    · simp only [Option.some.injEq, Prod.mk.injEq] at h
      obtain ⟨hc, rfl⟩ := h
      exact mMatchS_ok _ _ _ _ hc
    · cases h
def moV : List V := [.str [74, 97, 110, 117, 97, 114, 121], .str [70, 101, 98, 114, 117, 97, 114, 121], .str [77, 97, 114, 99, 104], .str [65, 112, 114, 105, 108], .str [77, 97, 121], .str [74, 117, 110, 101], .str [74, 117, 108, 121], .str [65, 117, 103, 117, 115, 116], .str [83, 101, 112, 116, 101, 109, 98, 101, 114], .str [79, 99, 116, 111, 98, 101, 114], .str [78, 111, 118, 101, 109, 98, 101, 114], .str [68, 101, 99, 101, 109, 98, 101, 114]]
def moI (s : List UInt8) : Int := if mtW s moV = 0 then mtI s moV + 1 else 0
def moW (s : List UInt8) : Int := mtW s moV
theorem moV_ok : wsOk moV = true := by decide
theorem mt_small (s : List UInt8) (ws : List V) (h : ws.length ≤ 1000) (h0 : mtW s ws = 0) : 0 ≤ mtI s ws ∧ mtI s ws < ws.length := by
  unfold mtW at h0
  have := mt_lt ⟨s.toArray⟩ (wsB ws) (by omega)
  unfold mtI
  rw [show (wsB ws).length = ws.length from List.length_map ..] at this
  omega
theorem mMonth_ev (s : List UInt8) (hs : s.length ≤ 1000) : Contract mE 56 [.str s] (.tup [.int .i64 (moI s), .int .i64 (moW s)]) := by
  refine contract_of_body mE_ok mS_ok 5 2 ?_
  have hc : band (ile (slen s) 1000) (wsOk moV) = true := by rw [band_iff]; exact ⟨ile_t (by rw [slen_nat]; omega), moV_ok⟩
  rw [mMonth_top]
  refine (sel_pos hc).trans ?_
  unfold moI moW
  by_cases h : mtW s moV = 0
  · have := mt_small s moV (by decide) h
    have e : (moV.length : Int) = 12 := rfl
    refine (sel_neg (show bnot (ieq (mtW s moV) 0) = false by rw [ieq_t h]; rfl)).trans ?_
    rw [if_pos h]
    show some (V.tup [V.int .i64 (iadd .i64 (mtI s moV) 1), V.int .i64 _]) = _
    rw [iadd64 (by omega)]
    first | rfl | (rw [h]; rfl) | (rw [h])
  · refine (sel_pos (show bnot (ieq (mtW s moV) 0) = true by rw [ieq_f h]; rfl)).trans ?_
    rw [if_neg h]; rfl
def moT (n : Int) : List UInt8 := if 1 ≤ n ∧ n ≤ 12 then (asStr (moV.getD (n - 1).toNat .any)).take 3 else []
theorem mMText_ev (n : Int) (hn : Fits n) : Contract mE 20 [.int .i64 n] (.str (moT n)) := by
  refine contract_of_body mE_ok mS_ok 5 2 ?_
  rw [mMText_top]
  by_cases h : 1 ≤ n ∧ n ≤ 12
  · obtain rfl | rfl | rfl | rfl | rfl | rfl | rfl | rfl | rfl | rfl | rfl | rfl : n = 1 ∨ n = 2 ∨ n = 3 ∨ n = 4 ∨ n = 5 ∨ n = 6 ∨ n = 7 ∨ n = 8 ∨ n = 9 ∨ n = 10 ∨ n = 11 ∨ n = 12 := by omega
    all_goals rfl
  · have e : moT n = [] := by unfold moT; rw [if_neg h]
    rw [e]
    by_cases h1 : n < 1
    · rw [sel_pos (ilt_t h1)]
    · unfold Fits at hn
      have e1 : isub .i64 n 1 = n - 1 := isub64 (by omega)
      rw [sel_neg (ilt_f (by omega)), e1, sel_neg (ilt_f (by omega)), sel_pos (ile_t (by rw [llen_nat]; show (12 : Int) ≤ n - 1; omega))]
end Nt.Ev.YtpmemdamcadbgaaGreatDoor

set_option linter.unusedVariables false
set_option linter.unusedSimpArgs false
set_option linter.unusedSectionVars false
namespace Nt.Ev.YtpmemdamcadbgaaGreatDoor
open Go Nt.Num Go.Proofs.YtpmemdamcadbgaaGreatDoor
variable [MLen]
open Nt.Civil
noncomputable def zE : Env := ⟨Go.Proofs.Tryz.prog, fun g => bif g == 2 then some weekdaysV else bif g == 1 then some monthsV else bif g == 3 then some partsV else bif g == 4 then some (.rptr [.int .i64] (.int .i64 MLen.val) 0) else none⟩
noncomputable def zByteS : FSpec := fun a => match a with | [.str s, .int .u8 c] => some (true, .int .i64 (idxB s c)) | _ => none
noncomputable def zLenS : FSpec := fun a => match a with | [.int .i64 y, .int .i64 m] => some (band (ile (-9223372036854775808) y) (ile y 9223372036854775807), .int .i64 (lenI y m)) | _ => none
noncomputable def zOnS : FSpec := fun a => match a with | [.agg [.int .i64 k, .int .i64 w, .int .i64 d]] => some (true, .bool (onB k w d)) | _ => none
noncomputable def zS0 : List (Nat × FSpec) := (12, zByteS) :: (75, zLenS) :: (38, zOnS) :: []
def fstC (c : UInt8) : Bool := (decide (65 ≤ c.toNat) && decide (c.toNat ≤ 90)) || (decide (97 ≤ c.toNat) && decide (c.toNat ≤ 122)) || c == 95
def othC (c : UInt8) : Bool := (decide (48 ≤ c.toNat) && decide (c.toNat ≤ 57)) || c == 45 || c == 43 || c == 47 || c == 46
def nmC (k : Nat) (c : UInt8) : Bool := fstC c || (decide (0 < k) && othC c)
def nmF : Nat → List UInt8 → Bool | _, [] => true | k, c :: t => nmC k c && nmF (k + 1) t
def nmI (s : List UInt8) : Int := if 64 < s.length then 9 else if nmF 0 s = true ∧ s ≠ [] then 0 else 10
def ftB (k w d m : Int) : Bool := onB k w d && decide (1 ≤ m ∧ m ≤ 12 ∧ d ≤ lenI 1 m)
def yfI (s : List UInt8) : Int := (yFromP s).1
def yfE (s : List UInt8) : Int := (yFromP s).2
def ytI (s : List UInt8) (n : Int) : Int := (yToP s n).1
def ytE (s : List UInt8) (n : Int) : Int := (yToP s n).2
def ckA (s : List UInt8) : Int := (readC s).1
def ckB (s : List UInt8) : Int := (readC s).2.1
def ckE (s : List UInt8) : Int := (readC s).2.2
def tcT (n b : Int) : List UInt8 := (textC n b).1
def tcW (n b : Int) : Int := (textC n b).2
def amI (s : List UInt8) : Int := (Amount.read s).1
def amW (s : List UInt8) : Int := (Amount.read s).2
def amT (n : Int) : List UInt8 := (Amount.text n).1
def amE (n : Int) : Int := (Amount.text n).2
def fxT (n : Int) : List UInt8 := (yFromTextP n).1
def fxW (n : Int) : Int := (yFromTextP n).2
def txTy (m n : Int) : List UInt8 := (yToTextP m n).1
def txWy (m n : Int) : Int := (yToTextP m n).2
noncomputable def zNameS : FSpec := fun a => match a with | [.str s] => some (ile (slen s) 1000, .int .i64 (nmI s)) | _ => none
noncomputable def zFitsS : FSpec := fun a => match a with | [.agg [.int .i64 k, .int .i64 w, .int .i64 d], .int .i64 m] => some (true, .bool (ftB k w d m)) | _ => none
noncomputable def zFromS : FSpec := fun a => match a with | [.str s] => some (ile (slen s) 900, .tup [.int .i64 (yfI s), .int .i64 (yfE s)]) | _ => none
noncomputable def zToS : FSpec := fun a => match a with | [.str s, .int .i64 n] => some (ile (slen s) 900, .tup [.int .i64 (ytI s n), .int .i64 (ytE s n)]) | _ => none
noncomputable def zMonS : FSpec := fun a => match a with | [.str s] => some (ile (slen s) 900, .tup [.int .i64 (moI s), .int .i64 (moW s)]) | _ => none
noncomputable def zDayS : FSpec := fun a => match a with | [.str s] => some (ile (slen s) 900, .tup [.agg [.int .i64 (dsK s), .int .i64 (dsWk s), .int .i64 (dsD s)], .int .i64 (dsE s)]) | _ => none
noncomputable def zClkS : FSpec := fun a => match a with | [.str s] => some (ile (slen s) 900, .tup [.agg [.int .i64 (ckA s), .int .i64 (ckB s)], .int .i64 (ckE s)]) | _ => none
noncomputable def zAmtS : FSpec := fun a => match a with | [.str s] => some (ile (slen s) 900, .tup [.int .i64 (amI s), .int .i64 (amW s)]) | _ => none
noncomputable def zLetS : FSpec := fun a => match a with | [.str s] => some (ile (slen s) 900, .tup [.str (leT s), .int .i64 (leW s)]) | _ => none
noncomputable def zFxS : FSpec := fun a => match a with | [.int .i64 n] => some (true, .tup [.str (fxT n), .int .i64 (fxW n)]) | _ => none
noncomputable def zTxS : FSpec := fun a => match a with | [.int .i64 m, .int .i64 n] => some (true, .tup [.str (txTy m n), .int .i64 (txWy m n)]) | _ => none
noncomputable def zDtS : FSpec := fun a => match a with | [.agg [.int .i64 k, .int .i64 w, .int .i64 d]] => some (true, .tup [.str (dsTx k w d), .int .i64 (dsTe k w d)]) | _ => none
noncomputable def zCtS : FSpec := fun a => match a with | [.agg [.int .i64 n, .int .i64 b]] => some (true, .tup [.str (tcT n b), .int .i64 (tcW n b)]) | _ => none
noncomputable def zCrS : FSpec := fun a => match a with | [.agg [.int .i64 n, .int .i64 b]] => some (true, .bool (rightC n b)) | _ => none
noncomputable def zAtS : FSpec := fun a => match a with | [.int .i64 n] => some (band (ile (-9223372036854775808) n) (ile n 9223372036854775807), .tup [.str (amT n), .int .i64 (amE n)]) | _ => none
noncomputable def zLtS : FSpec := fun a => match a with | [.str s] => some (ile (slen s) 900, .tup [.str (ltT s), .int .i64 (ltW s)]) | _ => none
noncomputable def zMtS : FSpec := fun a => match a with | [.int .i64 n] => some (band (ile (-9223372036854775808) n) (ile n 9223372036854775807), .str (moT n)) | _ => none
noncomputable def zS : List (Nat × FSpec) := (4, zNameS) :: (34, zFitsS) :: (54, zFromS) :: (55, zToS) :: (56, zMonS) :: (58, zDayS) :: (60, zClkS) :: (62, zAmtS) :: (41, zLetS) :: (14, zFxS) :: (15, zTxS) :: (16, zDtS) :: (17, zCtS) :: (35, zCrS) :: (18, zAtS) :: (19, zLtS) :: (20, zMtS) :: zS0
def odP (s : List UInt8) (m : Int) : Int × Int × Int × Int := if dsE s = 0 then (if ftB (dsK s) (dsWk s) (dsD s) m = true then (dsK s, dsWk s, dsD s, 0) else (0, 0, 0, 1)) else (dsK s, dsWk s, dsD s, dsE s)
def odK (s : List UInt8) (m : Int) : Int := (odP s m).1
def odW (s : List UInt8) (m : Int) : Int := (odP s m).2.1
def odD (s : List UInt8) (m : Int) : Int := (odP s m).2.2.1
def odE (s : List UInt8) (m : Int) : Int := (odP s m).2.2.2
def svP (s : List UInt8) : Int × Int := if amW s = 0 then (if amI s < -10800 ∨ 10800 < amI s then (0, 1) else (amI s, 0)) else (amI s, amW s)
def svI (s : List UInt8) : Int := (svP s).1
def svW (s : List UInt8) : Int := (svP s).2
def yrB (f t : Int) : Bool := ile (-32767) f && (ile f t && ile t 32767)
def ruR (n : List UInt8) (f t m k w d c b v : Int) (l : List UInt8) : Bool := ieq (nmI n) 0 && (yrB f t && (ftB k w d m && (rightC c b && ((ile (-10800) v && ile v 10800) && ieq (ltW l) 0))))
noncomputable def zName_L0 (F : Nat) (ns : List Nat) (n : Nat) (x0 : List UInt8) (x2 : Int) (x9 : List V) (x10 : Int) (x11 : Int) (K : V → Option V) : Option V :=
 loopAt zE zS0 F 2 4 [1, 1, 0, 1, 0] ns K n (mkSt 48 [(0, V.str x0), (2, V.int .i64 x2), (9, V.sl 5 [(Kd.int .u8)] none x9), (10, V.int .i64 x10), (11, V.int .i64 x11)] [])
set_option maxRecDepth 100000 in
theorem zName_top (F : Nat) (s : List UInt8) (K : V → Option V) :
 evBd zE (evFn zE zS0 F 2) F 4 [(V.str s)] K =
 sel (ilt 64 (slen s))
 (K (V.int .i64 9))
 (sel (okStr s)
 (zName_L0 F [] F s 0 (bytesV s) (llen (bytesV s)) 0 K)
 (none)) := by kernel_rfl
set_option maxRecDepth 100000 in
theorem zName_L0_succ (F : Nat) (n : Nat) (x0 : List UInt8) (x2 : Int) (x9 : List V) (x10 : Int) (x11 : Int) (K : V → Option V) :
 zName_L0 F [] (n + 1) x0 x2 x9 x10 x11 K =
 sel (ilt x11 x10)
 (sel (band (ile 0 x11) (ilt x11 (llen x9)))
 (sel (ile 97 (ibits .or .u8 (asInt (acell (lget x9 x11) 0)) 32))
 (sel (ile (ibits .or .u8 (asInt (acell (lget x9 x11) 0)) 32) 122)
 (zName_L0 F [] n x0 x2 x9 x10 (iadd .i64 x11 1) K)
 (sel (ieq (asInt (acell (lget x9 x11) 0)) 95)
 (zName_L0 F [] n x0 x2 x9 x10 (iadd .i64 x11 1) K)
 (sel (ilt 0 x11)
 (sel (ile 48 (asInt (acell (lget x9 x11) 0)))
 (sel (ile (asInt (acell (lget x9 x11) 0)) 57)
 (zName_L0 F [] n x0 x2 x9 x10 (iadd .i64 x11 1) K)
 (sel (ile 0 (idxB [45, 43, 47, 46] (asInt (acell (lget x9 x11) 0))))
 (zName_L0 F [] n x0 x2 x9 x10 (iadd .i64 x11 1) K)
 (K (V.int .i64 10))))
 (sel (ile 0 (idxB [45, 43, 47, 46] (asInt (acell (lget x9 x11) 0))))
 (zName_L0 F [] n x0 x2 x9 x10 (iadd .i64 x11 1) K)
 (K (V.int .i64 10))))
 (K (V.int .i64 10)))))
 (sel (ieq (asInt (acell (lget x9 x11) 0)) 95)
 (zName_L0 F [] n x0 x2 x9 x10 (iadd .i64 x11 1) K)
 (sel (ilt 0 x11)
 (sel (ile 48 (asInt (acell (lget x9 x11) 0)))
 (sel (ile (asInt (acell (lget x9 x11) 0)) 57)
 (zName_L0 F [] n x0 x2 x9 x10 (iadd .i64 x11 1) K)
 (sel (ile 0 (idxB [45, 43, 47, 46] (asInt (acell (lget x9 x11) 0))))
 (zName_L0 F [] n x0 x2 x9 x10 (iadd .i64 x11 1) K)
 (K (V.int .i64 10))))
 (sel (ile 0 (idxB [45, 43, 47, 46] (asInt (acell (lget x9 x11) 0))))
 (zName_L0 F [] n x0 x2 x9 x10 (iadd .i64 x11 1) K)
 (K (V.int .i64 10))))
 (K (V.int .i64 10)))))
 (none))
 (sel (seq x0 [])
 (K (V.int .i64 10))
 (K (V.int .i64 0))) := by kernel_rfl
set_option maxRecDepth 100000 in
theorem zFits_top (F : Nat) (k : Int) (w : Int) (d : Int) (m : Int) (K : V → Option V) :
 evBd zE (evFn zE zS0 F 3) F 34 [(V.agg [(V.int .i64 k), (V.int .i64 w), (V.int .i64 d)]), (V.int .i64 m)] K =
 sel (onB k w d)
 (sel (ile 1 m)
 (sel (ile m 12)
 (K (V.bool (ile d (lenI 1 m))))
 (K (V.bool false)))
 (K (V.bool false)))
 (K (V.bool false)) := by kernel_rfl
set_option maxRecDepth 100000 in
theorem zRead_top (F : Nat) (xs : List V) (K : V → Option V) :
 evBd zE (evFn zE zS F 10) F 8 [(V.sl 9 [(Kd.str)] none xs)] K =
 sel (bnot (ile 9 (llen xs)))
 (K (V.tup [(V.agg [(V.str []), (V.int .i64 0), (V.int .i64 0), (V.int .i64 0), (V.int .i64 0), (V.int .i64 0), (V.int .i64 0), (V.int .i64 0), (V.int .i64 0), (V.int .i64 0), (V.str [])]), (V.int .i64 5)]))
 (sel (bnot (ile (llen xs) 9))
 (K (V.tup [(V.agg [(V.str []), (V.int .i64 0), (V.int .i64 0), (V.int .i64 0), (V.int .i64 0), (V.int .i64 0), (V.int .i64 0), (V.int .i64 0), (V.int .i64 0), (V.int .i64 0), (V.str [])]), (V.int .i64 6)]))
 (sel (band (ile 0 0) (ilt 0 (llen xs)))
 (sel (band (ile 0 0) (ilt 0 (llen xs)))
 (sel (ile (slen (asStr (acell (lget xs 0) 0))) 1000)
 (sel (bnot (ieq (nmI (asStr (acell (lget xs 0) 0))) 0))
 (K (V.tup [(V.agg [(V.str []), (V.int .i64 0), (V.int .i64 0), (V.int .i64 0), (V.int .i64 0), (V.int .i64 0), (V.int .i64 0), (V.int .i64 0), (V.int .i64 0), (V.int .i64 0), (V.str [])]), (V.int .i64 (nmI (asStr (acell (lget xs 0) 0))))]))
 (sel (band (ile 0 1) (ilt 1 (llen xs)))
 (sel (ile (slen (asStr (acell (lget xs 1) 0))) 900)
 (sel (bnot (ieq (yfE (asStr (acell (lget xs 1) 0))) 0))
 (K (V.tup [(V.agg [(V.str []), (V.int .i64 0), (V.int .i64 0), (V.int .i64 0), (V.int .i64 0), (V.int .i64 0), (V.int .i64 0), (V.int .i64 0), (V.int .i64 0), (V.int .i64 0), (V.str [])]), (V.int .i64 (yfE (asStr (acell (lget xs 1) 0))))]))
 (sel (band (ile 0 2) (ilt 2 (llen xs)))
 (sel (ile (slen (asStr (acell (lget xs 2) 0))) 900)
 (sel (bnot (ieq (ytE (asStr (acell (lget xs 2) 0)) (yfI (asStr (acell (lget xs 1) 0)))) 0))
 (K (V.tup [(V.agg [(V.str []), (V.int .i64 0), (V.int .i64 0), (V.int .i64 0), (V.int .i64 0), (V.int .i64 0), (V.int .i64 0), (V.int .i64 0), (V.int .i64 0), (V.int .i64 0), (V.str [])]), (V.int .i64 (ytE (asStr (acell (lget xs 2) 0)) (yfI (asStr (acell (lget xs 1) 0)))))]))
 (sel (band (ile 0 3) (ilt 3 (llen xs)))
 (sel (bnot (seq (asStr (acell (lget xs 3) 0)) [45]))
 (K (V.tup [(V.agg [(V.str []), (V.int .i64 0), (V.int .i64 0), (V.int .i64 0), (V.int .i64 0), (V.int .i64 0), (V.int .i64 0), (V.int .i64 0), (V.int .i64 0), (V.int .i64 0), (V.str [])]), (V.int .i64 3)]))
 (sel (band (ile 0 4) (ilt 4 (llen xs)))
 (sel (ile (slen (asStr (acell (lget xs 4) 0))) 900)
 (sel (bnot (ieq (moW (asStr (acell (lget xs 4) 0))) 0))
 (K (V.tup [(V.agg [(V.str []), (V.int .i64 0), (V.int .i64 0), (V.int .i64 0), (V.int .i64 0), (V.int .i64 0), (V.int .i64 0), (V.int .i64 0), (V.int .i64 0), (V.int .i64 0), (V.str [])]), (V.int .i64 (moW (asStr (acell (lget xs 4) 0))))]))
 (sel (band (ile 0 5) (ilt 5 (llen xs)))
 (sel (ile (slen (asStr (acell (lget xs 5) 0))) 900)
 (sel (bnot (ieq (dsE (asStr (acell (lget xs 5) 0))) 0))
 (K (V.tup [(V.agg [(V.str []), (V.int .i64 0), (V.int .i64 0), (V.int .i64 0), (V.int .i64 0), (V.int .i64 0), (V.int .i64 0), (V.int .i64 0), (V.int .i64 0), (V.int .i64 0), (V.str [])]), (V.int .i64 (dsE (asStr (acell (lget xs 5) 0))))]))
 (sel (bnot (ftB (dsK (asStr (acell (lget xs 5) 0))) (dsWk (asStr (acell (lget xs 5) 0))) (dsD (asStr (acell (lget xs 5) 0))) (moI (asStr (acell (lget xs 4) 0)))))
 (K (V.tup [(V.agg [(V.str []), (V.int .i64 0), (V.int .i64 0), (V.int .i64 0), (V.int .i64 0), (V.int .i64 0), (V.int .i64 0), (V.int .i64 0), (V.int .i64 0), (V.int .i64 0), (V.str [])]), (V.int .i64 1)]))
 (sel (band (ile 0 6) (ilt 6 (llen xs)))
 (sel (ile (slen (asStr (acell (lget xs 6) 0))) 900)
 (sel (bnot (ieq (ckE (asStr (acell (lget xs 6) 0))) 0))
 (K (V.tup [(V.agg [(V.str []), (V.int .i64 0), (V.int .i64 0), (V.int .i64 0), (V.int .i64 0), (V.int .i64 0), (V.int .i64 0), (V.int .i64 0), (V.int .i64 0), (V.int .i64 0), (V.str [])]), (V.int .i64 (ckE (asStr (acell (lget xs 6) 0))))]))
 (sel (band (ile 0 7) (ilt 7 (llen xs)))
 (sel (ile (slen (asStr (acell (lget xs 7) 0))) 900)
 (sel (bnot (ieq (amW (asStr (acell (lget xs 7) 0))) 0))
 (K (V.tup [(V.agg [(V.str []), (V.int .i64 0), (V.int .i64 0), (V.int .i64 0), (V.int .i64 0), (V.int .i64 0), (V.int .i64 0), (V.int .i64 0), (V.int .i64 0), (V.int .i64 0), (V.str [])]), (V.int .i64 (amW (asStr (acell (lget xs 7) 0))))]))
 (sel (ile (-10800) (amI (asStr (acell (lget xs 7) 0))))
 (sel (bnot (ile (amI (asStr (acell (lget xs 7) 0))) 10800))
 (K (V.tup [(V.agg [(V.str []), (V.int .i64 0), (V.int .i64 0), (V.int .i64 0), (V.int .i64 0), (V.int .i64 0), (V.int .i64 0), (V.int .i64 0), (V.int .i64 0), (V.int .i64 0), (V.str [])]), (V.int .i64 1)]))
 (sel (band (ile 0 8) (ilt 8 (llen xs)))
 (sel (ile (slen (asStr (acell (lget xs 8) 0))) 900)
 (sel (bnot (ieq (leW (asStr (acell (lget xs 8) 0))) 0))
 (K (V.tup [(V.agg [(V.str []), (V.int .i64 0), (V.int .i64 0), (V.int .i64 0), (V.int .i64 0), (V.int .i64 0), (V.int .i64 0), (V.int .i64 0), (V.int .i64 0), (V.int .i64 0), (V.str [])]), (V.int .i64 (leW (asStr (acell (lget xs 8) 0))))]))
 (K (V.tup [(V.agg [(V.str (asStr (acell (lget xs 0) 0))), (V.int .i64 (yfI (asStr (acell (lget xs 1) 0)))), (V.int .i64 (ytI (asStr (acell (lget xs 2) 0)) (yfI (asStr (acell (lget xs 1) 0))))), (V.int .i64 (moI (asStr (acell (lget xs 4) 0)))), (V.int .i64 (dsK (asStr (acell (lget xs 5) 0)))), (V.int .i64 (dsWk (asStr (acell (lget xs 5) 0)))), (V.int .i64 (dsD (asStr (acell (lget xs 5) 0)))), (V.int .i64 (ckA (asStr (acell (lget xs 6) 0)))), (V.int .i64 (ckB (asStr (acell (lget xs 6) 0)))), (V.int .i64 (amI (asStr (acell (lget xs 7) 0)))), (V.str (leT (asStr (acell (lget xs 8) 0))))]), (V.int .i64 0)])))
 (none))
 (none)))
 (K (V.tup [(V.agg [(V.str []), (V.int .i64 0), (V.int .i64 0), (V.int .i64 0), (V.int .i64 0), (V.int .i64 0), (V.int .i64 0), (V.int .i64 0), (V.int .i64 0), (V.int .i64 0), (V.str [])]), (V.int .i64 1)]))))
 (none))
 (none)))
 (none))
 (none))))
 (none))
 (none)))
 (none))
 (none)))
 (none)))
 (none))
 (none)))
 (none))
 (none)))
 (none))
 (none))
 (none))) := by kernel_rfl
set_option maxRecDepth 100000 in
theorem zRead9_top (F : Nat) (a0 : List UInt8) (a1 : List UInt8) (a2 : List UInt8) (a3 : List UInt8) (a4 : List UInt8) (a5 : List UInt8) (a6 : List UInt8) (a7 : List UInt8) (a8 : List UInt8) (K : V → Option V) :
 evBd zE (evFn zE zS F 10) F 8 [(V.sl 9 [(Kd.str)] none [(V.str a0), (V.str a1), (V.str a2), (V.str a3), (V.str a4), (V.str a5), (V.str a6), (V.str a7), (V.str a8)])] K =
 sel (bnot (ile 9 (llen [(V.str a0), (V.str a1), (V.str a2), (V.str a3), (V.str a4), (V.str a5), (V.str a6), (V.str a7), (V.str a8)])))
 (K (V.tup [(V.agg [(V.str []), (V.int .i64 0), (V.int .i64 0), (V.int .i64 0), (V.int .i64 0), (V.int .i64 0), (V.int .i64 0), (V.int .i64 0), (V.int .i64 0), (V.int .i64 0), (V.str [])]), (V.int .i64 5)]))
 (sel (bnot (ile (llen [(V.str a0), (V.str a1), (V.str a2), (V.str a3), (V.str a4), (V.str a5), (V.str a6), (V.str a7), (V.str a8)]) 9))
 (K (V.tup [(V.agg [(V.str []), (V.int .i64 0), (V.int .i64 0), (V.int .i64 0), (V.int .i64 0), (V.int .i64 0), (V.int .i64 0), (V.int .i64 0), (V.int .i64 0), (V.int .i64 0), (V.str [])]), (V.int .i64 6)]))
 (sel (band (ile 0 0) (ilt 0 (llen [(V.str a0), (V.str a1), (V.str a2), (V.str a3), (V.str a4), (V.str a5), (V.str a6), (V.str a7), (V.str a8)])))
 (sel (band (ile 0 0) (ilt 0 (llen [(V.str a0), (V.str a1), (V.str a2), (V.str a3), (V.str a4), (V.str a5), (V.str a6), (V.str a7), (V.str a8)])))
 (sel (ile (slen a0) 1000)
 (sel (bnot (ieq (nmI a0) 0))
 (K (V.tup [(V.agg [(V.str []), (V.int .i64 0), (V.int .i64 0), (V.int .i64 0), (V.int .i64 0), (V.int .i64 0), (V.int .i64 0), (V.int .i64 0), (V.int .i64 0), (V.int .i64 0), (V.str [])]), (V.int .i64 (nmI a0))]))
 (sel (band (ile 0 1) (ilt 1 (llen [(V.str a0), (V.str a1), (V.str a2), (V.str a3), (V.str a4), (V.str a5), (V.str a6), (V.str a7), (V.str a8)])))
 (sel (ile (slen a1) 900)
 (sel (bnot (ieq (yfE a1) 0))
 (K (V.tup [(V.agg [(V.str []), (V.int .i64 0), (V.int .i64 0), (V.int .i64 0), (V.int .i64 0), (V.int .i64 0), (V.int .i64 0), (V.int .i64 0), (V.int .i64 0), (V.int .i64 0), (V.str [])]), (V.int .i64 (yfE a1))]))
 (sel (band (ile 0 2) (ilt 2 (llen [(V.str a0), (V.str a1), (V.str a2), (V.str a3), (V.str a4), (V.str a5), (V.str a6), (V.str a7), (V.str a8)])))
 (sel (ile (slen a2) 900)
 (sel (bnot (ieq (ytE a2 (yfI a1)) 0))
 (K (V.tup [(V.agg [(V.str []), (V.int .i64 0), (V.int .i64 0), (V.int .i64 0), (V.int .i64 0), (V.int .i64 0), (V.int .i64 0), (V.int .i64 0), (V.int .i64 0), (V.int .i64 0), (V.str [])]), (V.int .i64 (ytE a2 (yfI a1)))]))
 (sel (band (ile 0 3) (ilt 3 (llen [(V.str a0), (V.str a1), (V.str a2), (V.str a3), (V.str a4), (V.str a5), (V.str a6), (V.str a7), (V.str a8)])))
 (sel (bnot (seq a3 [45]))
 (K (V.tup [(V.agg [(V.str []), (V.int .i64 0), (V.int .i64 0), (V.int .i64 0), (V.int .i64 0), (V.int .i64 0), (V.int .i64 0), (V.int .i64 0), (V.int .i64 0), (V.int .i64 0), (V.str [])]), (V.int .i64 3)]))
 (sel (band (ile 0 4) (ilt 4 (llen [(V.str a0), (V.str a1), (V.str a2), (V.str a3), (V.str a4), (V.str a5), (V.str a6), (V.str a7), (V.str a8)])))
 (sel (ile (slen a4) 900)
 (sel (bnot (ieq (moW a4) 0))
 (K (V.tup [(V.agg [(V.str []), (V.int .i64 0), (V.int .i64 0), (V.int .i64 0), (V.int .i64 0), (V.int .i64 0), (V.int .i64 0), (V.int .i64 0), (V.int .i64 0), (V.int .i64 0), (V.str [])]), (V.int .i64 (moW a4))]))
 (sel (band (ile 0 5) (ilt 5 (llen [(V.str a0), (V.str a1), (V.str a2), (V.str a3), (V.str a4), (V.str a5), (V.str a6), (V.str a7), (V.str a8)])))
 (sel (ile (slen a5) 900)
 (sel (bnot (ieq (dsE a5) 0))
 (K (V.tup [(V.agg [(V.str []), (V.int .i64 0), (V.int .i64 0), (V.int .i64 0), (V.int .i64 0), (V.int .i64 0), (V.int .i64 0), (V.int .i64 0), (V.int .i64 0), (V.int .i64 0), (V.str [])]), (V.int .i64 (dsE a5))]))
 (sel (bnot (ftB (dsK a5) (dsWk a5) (dsD a5) (moI a4)))
 (K (V.tup [(V.agg [(V.str []), (V.int .i64 0), (V.int .i64 0), (V.int .i64 0), (V.int .i64 0), (V.int .i64 0), (V.int .i64 0), (V.int .i64 0), (V.int .i64 0), (V.int .i64 0), (V.str [])]), (V.int .i64 1)]))
 (sel (band (ile 0 6) (ilt 6 (llen [(V.str a0), (V.str a1), (V.str a2), (V.str a3), (V.str a4), (V.str a5), (V.str a6), (V.str a7), (V.str a8)])))
 (sel (ile (slen a6) 900)
 (sel (bnot (ieq (ckE a6) 0))
 (K (V.tup [(V.agg [(V.str []), (V.int .i64 0), (V.int .i64 0), (V.int .i64 0), (V.int .i64 0), (V.int .i64 0), (V.int .i64 0), (V.int .i64 0), (V.int .i64 0), (V.int .i64 0), (V.str [])]), (V.int .i64 (ckE a6))]))
 (sel (band (ile 0 7) (ilt 7 (llen [(V.str a0), (V.str a1), (V.str a2), (V.str a3), (V.str a4), (V.str a5), (V.str a6), (V.str a7), (V.str a8)])))
 (sel (ile (slen a7) 900)
 (sel (bnot (ieq (amW a7) 0))
 (K (V.tup [(V.agg [(V.str []), (V.int .i64 0), (V.int .i64 0), (V.int .i64 0), (V.int .i64 0), (V.int .i64 0), (V.int .i64 0), (V.int .i64 0), (V.int .i64 0), (V.int .i64 0), (V.str [])]), (V.int .i64 (amW a7))]))
 (sel (ile (-10800) (amI a7))
 (sel (bnot (ile (amI a7) 10800))
 (K (V.tup [(V.agg [(V.str []), (V.int .i64 0), (V.int .i64 0), (V.int .i64 0), (V.int .i64 0), (V.int .i64 0), (V.int .i64 0), (V.int .i64 0), (V.int .i64 0), (V.int .i64 0), (V.str [])]), (V.int .i64 1)]))
 (sel (band (ile 0 8) (ilt 8 (llen [(V.str a0), (V.str a1), (V.str a2), (V.str a3), (V.str a4), (V.str a5), (V.str a6), (V.str a7), (V.str a8)])))
 (sel (ile (slen a8) 900)
 (sel (bnot (ieq (leW a8) 0))
 (K (V.tup [(V.agg [(V.str []), (V.int .i64 0), (V.int .i64 0), (V.int .i64 0), (V.int .i64 0), (V.int .i64 0), (V.int .i64 0), (V.int .i64 0), (V.int .i64 0), (V.int .i64 0), (V.str [])]), (V.int .i64 (leW a8))]))
 (K (V.tup [(V.agg [(V.str a0), (V.int .i64 (yfI a1)), (V.int .i64 (ytI a2 (yfI a1))), (V.int .i64 (moI a4)), (V.int .i64 (dsK a5)), (V.int .i64 (dsWk a5)), (V.int .i64 (dsD a5)), (V.int .i64 (ckA a6)), (V.int .i64 (ckB a6)), (V.int .i64 (amI a7)), (V.str (leT a8))]), (V.int .i64 0)])))
 (none))
 (none)))
 (K (V.tup [(V.agg [(V.str []), (V.int .i64 0), (V.int .i64 0), (V.int .i64 0), (V.int .i64 0), (V.int .i64 0), (V.int .i64 0), (V.int .i64 0), (V.int .i64 0), (V.int .i64 0), (V.str [])]), (V.int .i64 1)]))))
 (none))
 (none)))
 (none))
 (none))))
 (none))
 (none)))
 (none))
 (none)))
 (none)))
 (none))
 (none)))
 (none))
 (none)))
 (none))
 (none))
 (none))) := by kernel_rfl
end Nt.Ev.YtpmemdamcadbgaaGreatDoor

set_option linter.unusedVariables false
set_option linter.unusedSimpArgs false
namespace Nt.Ev.YtpmemdamcadbgaaGreatDoor
open Go Go.RowKit Nt Nt.Num Nt.Civil Go.Proofs.YtpmemdamcadbgaaGreatDoor
variable [MLen]
theorem zE_ok : EOk zE := ⟨by kernel_rfl, by kernel_rfl⟩
theorem toZ {f : Nat} {args : List V} {r : V} (h : Contract nE f args r) : Contract zE f args r := Contract.env (E := nE) rfl (fun n v h => by cases h) h
theorem toZy {f : Nat} {args : List V} {r : V} (h : Contract yE f args r) : Contract zE f args r := Contract.env (E := yE) rfl (fun n v h => by cases h) h
theorem toZv {f : Nat} {args : List V} {r : V} (h : Contract vE f args r) : Contract zE f args r := Contract.env (E := vE) rfl (fun n v h => by cases h) h
theorem toZw {f : Nat} {args : List V} {r : V} (h : Contract wE f args r) : Contract zE f args r := Contract.env (E := wE) rfl (fun n v h => by
  unfold wE at h
  simp only at h
  cases e : n == 2 with
  | true => obtain rfl : n = 2 := by simpa using e
            exact h
  | false => rw [e] at h; cases h) h
theorem toZm {f : Nat} {args : List V} {r : V} (h : Contract mE f args r) : Contract zE f args r := Contract.env (E := mE) rfl (fun n v h => by
  unfold mE at h
  simp only at h
  cases e : n == 1 with
  | true => obtain rfl : n = 1 := by simpa using e
            exact h
  | false => rw [e] at h; cases h) h
theorem toZf {f : Nat} {args : List V} {r : V} (h : Contract fE f args r) : Contract zE f args r := Contract.env (E := fE) rfl (fun n v h => by
  unfold fE at h
  simp only at h
  cases e : n == 4 with
  | true => obtain rfl : n = 4 := by simpa using e
            exact h
  | false => rw [e] at h; cases h) h
theorem toZa {f : Nat} {args : List V} {r : V} (h : Contract aE f args r) : Contract zE f args r := Contract.env (E := aE) rfl (fun n v h => by
  unfold aE at h
  simp only at h
  cases e : n == 3 with
  | true => obtain rfl : n = 3 := by simpa using e
            exact h
  | false =>
    rw [e] at h
    simp only [cond_false] at h
    cases e : n == 4 with
    | true => obtain rfl : n = 4 := by simpa using e
              exact h
    | false => rw [e] at h; cases h) h
theorem len_z {s : List UInt8} (h : ile (slen s) 1000 = true) : s.length ≤ 1000 := by rw [ile_iff, slen_nat] at h; omega
theorem len_z9 {s : List UInt8} (h : ile (slen s) 900 = true) : s.length ≤ 900 := by rw [ile_iff, slen_nat] at h; omega
theorem fits_z {m : Int} (h : band (ile (-9223372036854775808) m) (ile m 9223372036854775807) = true) : Fits m := by rw [band_iff, ile_iff, ile_iff] at h; exact h
theorem zByteS_ok (s : List UInt8) (c : Int) (hc : true = true) : Contract zE 12 [.str s, .int .u8 c] (.int .i64 (idxB s c)) := toZ (idx_c s c)
theorem zLenS_ok (y m : Int) (hc : band (ile (-9223372036854775808) y) (ile y 9223372036854775807) = true) : Contract zE 75 [.int .i64 y, .int .i64 m] (.int .i64 (lenI y m)) := toZv (vLen_ev y m (fits_z hc))
theorem zOnS_ok (k w d : Int) (hc : true = true) : Contract zE 38 [.agg [.int .i64 k, .int .i64 w, .int .i64 d]] (.bool (onB k w d)) := toZw (dRight_ev k w d)
theorem zS0_ok : SOk zE zS0 := by
  unfold zS0
  refine SOk.cons (fun args r h => ?_) (SOk.cons (fun args r h => ?_) (SOk.cons (fun args r h => ?_) (SOk.nil)))
  · unfold zByteS at h
    split at h
    · simp only [Option.some.injEq, Prod.mk.injEq] at h
      obtain ⟨hc, rfl⟩ := h
      exact zByteS_ok _ _ rfl
    · cases h
  · unfold zLenS at h
    split at h
    · simp only [Option.some.injEq, Prod.mk.injEq] at h
      obtain ⟨hc, rfl⟩ := h
      exact zLenS_ok _ _ hc
    · cases h
  · unfold zOnS at h
    split at h
    · simp only [Option.some.injEq, Prod.mk.injEq] at h
      obtain ⟨hc, rfl⟩ := h
      exact zOnS_ok _ _ _ rfl
    · cases h
theorem ibits_letter (c : UInt8) : (ile 97 (ibits .or .u8 ((c.toNat : Nat) : Int) 32) && ile (ibits .or .u8 ((c.toNat : Nat) : Int) 32) 122) = ((decide (65 ≤ c.toNat) && decide (c.toNat ≤ 90)) || (decide (97 ≤ c.toNat) && decide (c.toNat ≤ 122))) := by
  have h : ∀ n : Fin 256, (ile 97 (ibits .or .u8 ((n.val : Nat) : Int) 32) && ile (ibits .or .u8 ((n.val : Nat) : Int) 32) 122) = ((decide (65 ≤ n.val) && decide (n.val ≤ 90)) || (decide (97 ≤ n.val) && decide (n.val ≤ 122))) := by decide +kernel
  exact h ⟨c.toNat, c.toNat_lt⟩
theorem idx_oth (c : UInt8) : ile 0 (idxB [45, 43, 47, 46] ((c.toNat : Nat) : Int)) = (c == 45 || c == 43 || c == 47 || c == 46) := by
  have h : ∀ n : Fin 256, ile 0 (idxB [45, 43, 47, 46] ((n.val : Nat) : Int)) = (UInt8.ofNat n == 45 || UInt8.ofNat n == 43 || UInt8.ofNat n == 47 || UInt8.ofNat n == 46) := by decide +kernel
  have := h ⟨c.toNat, c.toNat_lt⟩
  simpa using this
theorem u8_ieq (c d : UInt8) : ieq ((c.toNat : Nat) : Int) ((d.toNat : Nat) : Int) = (c == d) := by
  rw [Bool.eq_iff_iff, ieq_iff, beq_iff_eq, ← UInt8.toNat_inj]; omega
theorem u8_ile (c : UInt8) (a : Nat) : ile (a : Int) ((c.toNat : Nat) : Int) = decide (a ≤ c.toNat) := by
  rw [Bool.eq_iff_iff, ile_iff, decide_eq_true_eq]; omega
theorem u8_ile' (c : UInt8) (a : Nat) : ile ((c.toNat : Nat) : Int) (a : Int) = decide (c.toNat ≤ a) := by
  rw [Bool.eq_iff_iff, ile_iff, decide_eq_true_eq]; omega
theorem zName_step (s : List UInt8) (x2 : Int) (F n k : Nat) (hk : k < s.length) (hs : s.length ≤ 64) : zName_L0 F [] (n + 1) s x2 (bytesV s) (llen (bytesV s)) (k : Int) some =
    if nmC k (s[k]) = true then zName_L0 F [] n s x2 (bytesV s) (llen (bytesV s)) ((k + 1 : Nat) : Int) some else some (.int .i64 10) := by
  have hl : (bytesV s).length = s.length := by unfold bytesV; rw [List.length_map]
  have e : asInt (acell (lget (bytesV s) (k : Int)) 0) = ((s[k].toNat : Nat) : Int) := by
    rw [lget_nat]
    unfold bytesV
    rw [List.getD_eq_getElem?_getD, List.getElem?_map, List.getElem?_eq_getElem hk]
    rfl
  have e95 : ieq ((s[k].toNat : Nat) : Int) 95 = (s[k] == 95) := u8_ieq s[k] 95
  have e48 : ile 48 ((s[k].toNat : Nat) : Int) = decide (48 ≤ s[k].toNat) := u8_ile s[k] 48
  have e57 : ile ((s[k].toNat : Nat) : Int) 57 = decide (s[k].toNat ≤ 57) := u8_ile' s[k] 57
  have e0 : ilt 0 (k : Int) = decide (0 < k) := by rw [Bool.eq_iff_iff, ilt_iff, decide_eq_true_eq]; omega
  have hL := ibits_letter s[k]
  rw [zName_L0_succ, sel_pos (ilt_t (by rw [llen_nat, hl]; omega)), sel_pos (by rw [band_iff, ile_iff, ilt_iff, llen_nat, hl]; omega), e, e95, e48, e57, e0, idx_oth, iadd64 (by omega), show (k : Int) + 1 = ((k + 1 : Nat) : Int) by omega]
  unfold nmC fstC othC
  rw [← hL]
  generalize zName_L0 F [] n s x2 (bytesV s) (llen (bytesV s)) ((k + 1 : Nat) : Int) some = N
  generalize ile 97 (ibits .or .u8 ((s[k].toNat : Nat) : Int) 32) = b1
  generalize ile (ibits .or .u8 ((s[k].toNat : Nat) : Int) 32) 122 = b2
  generalize (s[k] == 95) = b3
  generalize decide (0 < k) = b4
  generalize decide (48 ≤ s[k].toNat) = b5
  generalize decide (s[k].toNat ≤ 57) = b6
  generalize (s[k] == 45) = b7
  generalize (s[k] == 43) = b8
  generalize (s[k] == 47) = b9
  generalize (s[k] == 46) = b10
  cases b1 <;> cases b2 <;> cases b3 <;> cases b4 <;> cases b5 <;> cases b6 <;> cases b7 <;> cases b8 <;> cases b9 <;> cases b10 <;> rfl
theorem zName_loop (s : List UInt8) (x2 : Int) (F : Nat) (hs : s.length ≤ 64) : ∀ (n k : Nat), k ≤ s.length → s.length - k < n →
    zName_L0 F [] n s x2 (bytesV s) (llen (bytesV s)) (k : Int) some = some (.int .i64 (if nmF k (s.drop k) = true then (if s = [] then 10 else 0) else 10)) := by
  intro n
  induction n with
  | zero => intro k _ h; omega
  | succ n ih =>
    intro k hk hn
    by_cases h : k < s.length
    · rw [zName_step s x2 F n k h hs, List.drop_eq_getElem_cons h]
      show _ = some (V.int .i64 (if (nmC k s[k] && nmF (k + 1) (s.drop (k + 1))) = true then _ else _))
      cases hc : nmC k s[k] with
      | true => rw [if_pos rfl, ih (k + 1) (by omega) (by omega), Bool.true_and]
      | false => rw [if_neg (by decide), Bool.false_and, if_neg (by decide)]
    · have hl : (bytesV s).length = s.length := by unfold bytesV; rw [List.length_map]
      rw [zName_L0_succ, sel_neg (ilt_f (by rw [llen_nat, hl]; omega)), List.drop_of_length_le (by omega), if_pos (show nmF k [] = true from rfl), sel_if]
      by_cases h0 : s = []
      · rw [if_pos (by rw [seq_iff]; exact h0), if_pos h0]
      · rw [if_neg (by rw [seq_iff]; exact h0), if_neg h0]
theorem nm_fin (s : List UInt8) : (if nmF 0 s = true then (if s = [] then (10 : Int) else 0) else 10) = if nmF 0 s = true ∧ s ≠ [] then 0 else 10 := by
  by_cases h : nmF 0 s = true
  · rw [if_pos h]
    by_cases h0 : s = []
    · rw [if_pos h0, if_neg (fun e => e.2 h0)]
    · rw [if_neg h0, if_pos ⟨h, h0⟩]
  · rw [if_neg h, if_neg (fun e => h e.1)]
theorem zName_ev (s : List UInt8) (hs : s.length ≤ 1000) : Contract zE 4 [.str s] (.int .i64 (nmI s)) := by
  refine contract_of_body zE_ok zS0_ok 100 2 ?_
  rw [zName_top]
  unfold nmI
  by_cases h : 64 < s.length
  · rw [sel_pos (ilt_t (by rw [slen_nat]; omega)), if_pos h]
  · rw [sel_neg (ilt_f (by rw [slen_nat]; omega)), if_neg h, sel_pos (by rw [okStr_iff]; omega)]
    have := zName_loop s 0 100 (by omega) 100 0 (by omega) (by omega)
    rw [List.drop_zero, nm_fin] at this
    exact this
theorem zNameS_ok (s : List UInt8) (hc : ile (slen s) 1000 = true) : Contract zE 4 [.str s] (.int .i64 (nmI s)) := zName_ev s (len_z hc)
theorem ft_tree (k w d m y : Int) (hy : leapB y = false) : sel (onB k w d) (sel (ile 1 m) (sel (ile m 12) (some (V.bool (ile d (lenI y m)))) (some (V.bool false))) (some (V.bool false))) (some (V.bool false)) = some (.bool (ftB k w d m)) := by
  have e : lenI y m = lenI 1 m := by unfold lenI; rw [hy]; rfl
  rw [e]
  unfold ftB
  have e2 : decide (1 ≤ m ∧ m ≤ 12 ∧ d ≤ lenI 1 m) = (ile 1 m && (ile m 12 && ile d (lenI 1 m))) := by
    rw [Bool.eq_iff_iff, Bool.and_eq_true, Bool.and_eq_true, ile_iff, ile_iff, ile_iff, decide_eq_true_eq]
  rw [e2]
  generalize ile d (lenI 1 m) = x
  cases onB k w d <;> cases ile 1 m <;> cases ile m 12 <;> rfl
theorem zFitsS_ok (k w d m : Int) (hc : true = true) : Contract zE 34 [.agg [.int .i64 k, .int .i64 w, .int .i64 d], .int .i64 m] (.bool (ftB k w d m)) := by
  refine contract_of_body zE_ok zS0_ok 5 3 ?_
  rw [zFits_top]
  exact ft_tree k w d m 1 (by decide)
theorem zFromS_ok (s : List UInt8) (hc : ile (slen s) 900 = true) : Contract zE 54 [.str s] (.tup [.int .i64 (yfI s), .int .i64 (yfE s)]) := toZy (yFrom_ev s (by have := len_z9 hc; omega))
theorem zToS_ok (s : List UInt8) (n : Int) (hc : ile (slen s) 900 = true) : Contract zE 55 [.str s, .int .i64 n] (.tup [.int .i64 (ytI s n), .int .i64 (ytE s n)]) := toZy (yTo_ev s n (by have := len_z9 hc; omega))
theorem zMonS_ok (s : List UInt8) (hc : ile (slen s) 900 = true) : Contract zE 56 [.str s] (.tup [.int .i64 (moI s), .int .i64 (moW s)]) := toZm (mMonth_ev s (by have := len_z9 hc; omega))
theorem zDayS_ok (s : List UInt8) (hc : ile (slen s) 900 = true) : Contract zE 58 [.str s] (.tup [.agg [.int .i64 (dsK s), .int .i64 (dsWk s), .int .i64 (dsD s)], .int .i64 (dsE s)]) := toZw (dRead_ev s (len_z9 hc))
theorem zClkS_ok (s : List UInt8) (hc : ile (slen s) 900 = true) : Contract zE 60 [.str s] (.tup [.agg [.int .i64 (ckA s), .int .i64 (ckB s)], .int .i64 (ckE s)]) := toZa (cRead_ev s (by have := len_z9 hc; omega))
theorem zAmtS_ok (s : List UInt8) (hc : ile (slen s) 900 = true) : Contract zE 62 [.str s] (.tup [.int .i64 (amI s), .int .i64 (amW s)]) := toZa (aread_ev s (by have := len_z9 hc; omega))
theorem zLetS_ok (s : List UInt8) (hc : ile (slen s) 900 = true) : Contract zE 41 [.str s] (.tup [.str (leT s), .int .i64 (leW s)]) := toZf (letterS_ok s (ile_t (by have := len_z9 hc; rw [slen_nat]; omega)))
theorem zFxS_ok (n : Int) (hc : true = true) : Contract zE 14 [.int .i64 n] (.tup [.str (fxT n), .int .i64 (fxW n)]) := toZy (yFromText_ev n)
theorem zTxS_ok (m n : Int) (hc : true = true) : Contract zE 15 [.int .i64 m, .int .i64 n] (.tup [.str (txTy m n), .int .i64 (txWy m n)]) := toZy (yToText_ev m n)
theorem zDtS_ok (k w d : Int) (hc : true = true) : Contract zE 16 [.agg [.int .i64 k, .int .i64 w, .int .i64 d]] (.tup [.str (dsTx k w d), .int .i64 (dsTe k w d)]) := toZw (dText_ev k w d)
theorem zCtS_ok (n b : Int) (hc : true = true) : Contract zE 17 [.agg [.int .i64 n, .int .i64 b]] (.tup [.str (tcT n b), .int .i64 (tcW n b)]) := toZa (cText19_ev n b)
theorem zCrS_ok (n b : Int) (hc : true = true) : Contract zE 35 [.agg [.int .i64 n, .int .i64 b]] (.bool (rightC n b)) := toZa (cRight_ev n b)
theorem zAtS_ok (n : Int) (hc : band (ile (-9223372036854775808) n) (ile n 9223372036854775807) = true) : Contract zE 18 [.int .i64 n] (.tup [.str (amT n), .int .i64 (amE n)]) := toZa (atext_ev n (fits_z hc).1 (fits_z hc).2)
theorem zLtS_ok (s : List UInt8) (hc : ile (slen s) 900 = true) : Contract zE 19 [.str s] (.tup [.str (ltT s), .int .i64 (ltW s)]) := toZf (fLText_ev s (by have := len_z9 hc; omega))
theorem zMtS_ok (n : Int) (hc : band (ile (-9223372036854775808) n) (ile n 9223372036854775807) = true) : Contract zE 20 [.int .i64 n] (.str (moT n)) := toZm (mMText_ev n (fits_z hc))
theorem zS_ok : SOk zE zS := by
  unfold zS
  refine SOk.cons (fun args r h => ?_) (SOk.cons (fun args r h => ?_) (SOk.cons (fun args r h => ?_) (SOk.cons (fun args r h => ?_) (SOk.cons (fun args r h => ?_) (SOk.cons (fun args r h => ?_) (SOk.cons (fun args r h => ?_) (SOk.cons (fun args r h => ?_) (SOk.cons (fun args r h => ?_) (SOk.cons (fun args r h => ?_) (SOk.cons (fun args r h => ?_) (SOk.cons (fun args r h => ?_) (SOk.cons (fun args r h => ?_) (SOk.cons (fun args r h => ?_) (SOk.cons (fun args r h => ?_) (SOk.cons (fun args r h => ?_) (SOk.cons (fun args r h => ?_) (zS0_ok)))))))))))))))))
  · unfold zNameS at h
    split at h
    · simp only [Option.some.injEq, Prod.mk.injEq] at h
      obtain ⟨hc, rfl⟩ := h
      exact zNameS_ok _ hc
    · cases h
  · unfold zFitsS at h
    split at h
    · simp only [Option.some.injEq, Prod.mk.injEq] at h
      obtain ⟨hc, rfl⟩ := h
      exact zFitsS_ok _ _ _ _ rfl
    · cases h
  · unfold zFromS at h
    split at h
    · simp only [Option.some.injEq, Prod.mk.injEq] at h
      obtain ⟨hc, rfl⟩ := h
      exact zFromS_ok _ hc
    · cases h
  · unfold zToS at h
    split at h
    · simp only [Option.some.injEq, Prod.mk.injEq] at h
      obtain ⟨hc, rfl⟩ := h
      exact zToS_ok _ _ hc
    · cases h
  · unfold zMonS at h
    split at h
    · simp only [Option.some.injEq, Prod.mk.injEq] at h
      obtain ⟨hc, rfl⟩ := h
      exact zMonS_ok _ hc
    · cases h
  · unfold zDayS at h
    split at h
    · simp only [Option.some.injEq, Prod.mk.injEq] at h
      obtain ⟨hc, rfl⟩ := h
      exact zDayS_ok _ hc
    · cases h
  · unfold zClkS at h
    split at h
    · simp only [Option.some.injEq, Prod.mk.injEq] at h
      obtain ⟨hc, rfl⟩ := h
      exact zClkS_ok _ hc
    · cases h
  · unfold zAmtS at h
    split at h
    · simp only [Option.some.injEq, Prod.mk.injEq] at h
      obtain ⟨hc, rfl⟩ := h
      exact zAmtS_ok _ hc
    · cases h
  · unfold zLetS at h
    split at h
    · simp only [Option.some.injEq, Prod.mk.injEq] at h
      obtain ⟨hc, rfl⟩ := h
      exact zLetS_ok _ hc
    · cases h
  · unfold zFxS at h
    split at h
    · simp only [Option.some.injEq, Prod.mk.injEq] at h
      obtain ⟨hc, rfl⟩ := h
      exact zFxS_ok _ rfl
    · cases h
  · unfold zTxS at h
    split at h
    · simp only [Option.some.injEq, Prod.mk.injEq] at h
      obtain ⟨hc, rfl⟩ := h
      exact zTxS_ok _ _ rfl
    · cases h
  · unfold zDtS at h
    split at h
    · simp only [Option.some.injEq, Prod.mk.injEq] at h
      obtain ⟨hc, rfl⟩ := h
      exact zDtS_ok _ _ _ rfl
    · cases h
  · unfold zCtS at h
    split at h
    · simp only [Option.some.injEq, Prod.mk.injEq] at h
      obtain ⟨hc, rfl⟩ := h
      exact zCtS_ok _ _ rfl
    · cases h
  · unfold zCrS at h
    split at h
    · simp only [Option.some.injEq, Prod.mk.injEq] at h
      obtain ⟨hc, rfl⟩ := h
      exact zCrS_ok _ _ rfl
    · cases h
  · unfold zAtS at h
    split at h
    · simp only [Option.some.injEq, Prod.mk.injEq] at h
      obtain ⟨hc, rfl⟩ := h
      exact zAtS_ok _ hc
    · cases h
  · unfold zLtS at h
    split at h
    · simp only [Option.some.injEq, Prod.mk.injEq] at h
      obtain ⟨hc, rfl⟩ := h
      exact zLtS_ok _ hc
    · cases h
  · unfold zMtS at h
    split at h
    · simp only [Option.some.injEq, Prod.mk.injEq] at h
      obtain ⟨hc, rfl⟩ := h
      exact zMtS_ok _ hc
    · cases h
end Nt.Ev.YtpmemdamcadbgaaGreatDoor

set_option linter.unusedVariables false
set_option linter.unusedSimpArgs false
set_option linter.unusedSectionVars false
namespace Nt.Ev.YtpmemdamcadbgaaGreatDoor
open Go Go.RowKit Nt Nt.Num Nt.Civil Go.Proofs.YtpmemdamcadbgaaGreatDoor
variable [MLen]
def rg (xs : List V) (i : Int) : List UInt8 := asStr (acell (lget xs i) 0)
def sV (v : V) : Bool := match v with | .str s => ile (slen s) 900 | _ => false
def allS (xs : List V) : Bool := xs.all sV
def rdB (xs : List V) : Bool :=
  ieq (llen xs) 9 && (ieq (nmI (rg xs 0)) 0 && (ieq (yfE (rg xs 1)) 0 && (ieq (ytE (rg xs 2) (yfI (rg xs 1))) 0 && (seq (rg xs 3) [45] && (ieq (moW (rg xs 4)) 0 && (ieq (dsE (rg xs 5)) 0 && (ftB (dsK (rg xs 5)) (dsWk (rg xs 5)) (dsD (rg xs 5)) (moI (rg xs 4)) && (ieq (ckE (rg xs 6)) 0 && (ieq (amW (rg xs 7)) 0 && (ile (-10800) (amI (rg xs 7)) && (ile (amI (rg xs 7)) 10800 && ieq (leW (rg xs 8)) 0)))))))))))
def rdE (xs : List V) : Int :=
  sel (ilt (llen xs) 9) 5 (sel (ilt 9 (llen xs)) 6 (sel (ieq (nmI (rg xs 0)) 0) (sel (ieq (yfE (rg xs 1)) 0) (sel (ieq (ytE (rg xs 2) (yfI (rg xs 1))) 0) (sel (seq (rg xs 3) [45]) (sel (ieq (moW (rg xs 4)) 0) (sel (ieq (dsE (rg xs 5)) 0) (sel (ftB (dsK (rg xs 5)) (dsWk (rg xs 5)) (dsD (rg xs 5)) (moI (rg xs 4))) (sel (ieq (ckE (rg xs 6)) 0) (sel (ieq (amW (rg xs 7)) 0) (sel (ile (-10800) (amI (rg xs 7))) (sel (ile (amI (rg xs 7)) 10800) (leW (rg xs 8)) 1) 1) (amW (rg xs 7))) (ckE (rg xs 6))) 1) (dsE (rg xs 5))) (moW (rg xs 4))) 3) (ytE (rg xs 2) (yfI (rg xs 1)))) (yfE (rg xs 1))) (nmI (rg xs 0))))
def ru0 (xs : List V) : List UInt8 := sel (rdB xs) (rg xs 0) []
def ru1 (xs : List V) : Int := sel (rdB xs) (yfI (rg xs 1)) 0
def ru2 (xs : List V) : Int := sel (rdB xs) (ytI (rg xs 2) (yfI (rg xs 1))) 0
def ru3 (xs : List V) : Int := sel (rdB xs) (moI (rg xs 4)) 0
def ru4 (xs : List V) : Int := sel (rdB xs) (dsK (rg xs 5)) 0
def ru5 (xs : List V) : Int := sel (rdB xs) (dsWk (rg xs 5)) 0
def ru6 (xs : List V) : Int := sel (rdB xs) (dsD (rg xs 5)) 0
def ru7 (xs : List V) : Int := sel (rdB xs) (ckA (rg xs 6)) 0
def ru8 (xs : List V) : Int := sel (rdB xs) (ckB (rg xs 6)) 0
def ru9 (xs : List V) : Int := sel (rdB xs) (amI (rg xs 7)) 0
def ru10 (xs : List V) : List UInt8 := sel (rdB xs) (leT (rg xs 8)) []
def ruE (xs : List V) : Int := sel (rdB xs) 0 (rdE xs)
def rdV (xs : List V) : V := .tup [.agg [.str (ru0 xs), .int .i64 (ru1 xs), .int .i64 (ru2 xs), .int .i64 (ru3 xs), .int .i64 (ru4 xs), .int .i64 (ru5 xs), .int .i64 (ru6 xs), .int .i64 (ru7 xs), .int .i64 (ru8 xs), .int .i64 (ru9 xs), .str (ru10 xs)], .int .i64 (ruE xs)]
theorem rd_no (xs : List V) (h : rdB xs = false) : rdV xs = .tup [.agg [.str [], .int .i64 0, .int .i64 0, .int .i64 0, .int .i64 0, .int .i64 0, .int .i64 0, .int .i64 0, .int .i64 0, .int .i64 0, .str []], .int .i64 (rdE xs)] := by
  unfold rdV ru0 ru1 ru2 ru3 ru4 ru5 ru6 ru7 ru8 ru9 ru10 ruE
  rw [h]; rfl
theorem rd_yes (xs : List V) (h : rdB xs = true) : rdV xs = .tup [.agg [.str (rg xs 0), .int .i64 (yfI (rg xs 1)), .int .i64 (ytI (rg xs 2) (yfI (rg xs 1))), .int .i64 (moI (rg xs 4)), .int .i64 (dsK (rg xs 5)), .int .i64 (dsWk (rg xs 5)), .int .i64 (dsD (rg xs 5)), .int .i64 (ckA (rg xs 6)), .int .i64 (ckB (rg xs 6)), .int .i64 (amI (rg xs 7)), .str (leT (rg xs 8))], .int .i64 0] := by
  unfold rdV ru0 ru1 ru2 ru3 ru4 ru5 ru6 ru7 ru8 ru9 ru10 ruE
  rw [h]; rfl
theorem allS_strs : ∀ (xs : List V), allS xs = true → ∃ l : List (List UInt8), xs = l.map V.str ∧ ∀ a ∈ l, ile (slen a) 900 = true
  | [], _ => ⟨[], rfl, fun a h => by cases h⟩
  | v :: xs, h => by
    unfold allS at h
    rw [List.all_cons, Bool.and_eq_true] at h
    obtain ⟨l, e, hl⟩ := allS_strs xs h.2
    cases v with
    | str s => exact ⟨s :: l, by rw [e]; rfl, fun a ha => by
        rw [List.mem_cons] at ha
        rcases ha with rfl | ha
        · exact h.1
        · exact hl a ha⟩
    | _ => exact absurd (show false = true from h.1) (by decide)
theorem nine (xs : List V) (h : allS xs = true) (hl : xs.length = 9) : ∃ a0 a1 a2 a3 a4 a5 a6 a7 a8 : List UInt8, xs = [.str a0, .str a1, .str a2, .str a3, .str a4, .str a5, .str a6, .str a7, .str a8] ∧ ile (slen a0) 900 = true ∧ ile (slen a1) 900 = true ∧ ile (slen a2) 900 = true ∧ ile (slen a4) 900 = true ∧ ile (slen a5) 900 = true ∧ ile (slen a6) 900 = true ∧ ile (slen a7) 900 = true ∧ ile (slen a8) 900 = true := by
  obtain ⟨l, rfl, ha⟩ := allS_strs xs h
  rw [List.length_map] at hl
  match l, hl, ha with
  | [a0, a1, a2, a3, a4, a5, a6, a7, a8], _, ha =>
    exact ⟨a0, a1, a2, a3, a4, a5, a6, a7, a8, rfl, ha _ (by simp), ha _ (by simp), ha _ (by simp), ha _ (by simp), ha _ (by simp), ha _ (by simp), ha _ (by simp), ha _ (by simp)⟩
theorem llen_9 (v0 v1 v2 v3 v4 v5 v6 v7 v8 : V) : llen [v0, v1, v2, v3, v4, v5, v6, v7, v8] = 9 := rfl
theorem sT {α : Type} (x y : α) : sel true x y = x := rfl
theorem sF {α : Type} (x y : α) : sel false x y = y := rfl
theorem ile_10 {s : List UInt8} (h : ile (slen s) 900 = true) : ile (slen s) 1000 = true := by rw [ile_iff] at *; omega
theorem rd_len (xs : List V) (h : llen xs ≠ 9) : rdB xs = false := by
  unfold rdB
  rw [ieq_f h]; rfl
theorem zRead_ev (xs : List V) (h : allS xs = true) : Contract zE 8 [.sl 9 [.str] none xs] (rdV xs) := by
  refine contract_of_body zE_ok zS_ok 5 10 ?_
  by_cases h1 : llen xs < 9
  · rw [zRead_top, sel_pos (by rw [bnot_iff, ile_iff]; omega), rd_no xs (rd_len xs (by omega))]
    unfold rdE
    rw [ilt_t h1]; rfl
  · by_cases h2 : 9 < llen xs
    · rw [zRead_top, sel_neg (by rw [ile_t (by omega)]; rfl), sel_pos (by rw [bnot_iff, ile_iff]; omega), rd_no xs (rd_len xs (by omega))]
      unfold rdE
      rw [ilt_f (by omega), ilt_t h2]; rfl
    · obtain ⟨a0, a1, a2, a3, a4, a5, a6, a7, a8, rfl, c0, c1, c2, c4, c5, c6, c7, c8⟩ := nine xs h (by unfold llen at h1 h2; omega)
      rw [zRead9_top]
      have g0 : rdB [.str a0, .str a1, .str a2, .str a3, .str a4, .str a5, .str a6, .str a7, .str a8] = (ieq (nmI a0) 0 && (ieq (yfE a1) 0 && (ieq (ytE a2 (yfI a1)) 0 && (seq a3 [45] && (ieq (moW a4) 0 && (ieq (dsE a5) 0 && (ftB (dsK a5) (dsWk a5) (dsD a5) (moI a4) && (ieq (ckE a6) 0 && (ieq (amW a7) 0 && (ile (-10800) (amI a7) && (ile (amI a7) 10800 && ieq (leW a8) 0))))))))))) := rfl
      have g1 : rdE [.str a0, .str a1, .str a2, .str a3, .str a4, .str a5, .str a6, .str a7, .str a8] = sel (ieq (nmI a0) 0) (sel (ieq (yfE a1) 0) (sel (ieq (ytE a2 (yfI a1)) 0) (sel (seq a3 [45]) (sel (ieq (moW a4) 0) (sel (ieq (dsE a5) 0) (sel (ftB (dsK a5) (dsWk a5) (dsD a5) (moI a4)) (sel (ieq (ckE a6) 0) (sel (ieq (amW a7) 0) (sel (ile (-10800) (amI a7)) (sel (ile (amI a7) 10800) (leW a8) 1) 1) (amW a7)) (ckE a6)) 1) (dsE a5)) (moW a4)) 3) (ytE a2 (yfI a1))) (yfE a1)) (nmI a0) := rfl
      have k0 : rg [.str a0, .str a1, .str a2, .str a3, .str a4, .str a5, .str a6, .str a7, .str a8] 0 = a0 := rfl
      have k1 : rg [.str a0, .str a1, .str a2, .str a3, .str a4, .str a5, .str a6, .str a7, .str a8] 1 = a1 := rfl
      have k2 : rg [.str a0, .str a1, .str a2, .str a3, .str a4, .str a5, .str a6, .str a7, .str a8] 2 = a2 := rfl
      have k4 : rg [.str a0, .str a1, .str a2, .str a3, .str a4, .str a5, .str a6, .str a7, .str a8] 4 = a4 := rfl
      have k5 : rg [.str a0, .str a1, .str a2, .str a3, .str a4, .str a5, .str a6, .str a7, .str a8] 5 = a5 := rfl
      have k6 : rg [.str a0, .str a1, .str a2, .str a3, .str a4, .str a5, .str a6, .str a7, .str a8] 6 = a6 := rfl
      have k7 : rg [.str a0, .str a1, .str a2, .str a3, .str a4, .str a5, .str a6, .str a7, .str a8] 7 = a7 := rfl
      have k8 : rg [.str a0, .str a1, .str a2, .str a3, .str a4, .str a5, .str a6, .str a7, .str a8] 8 = a8 := rfl
      unfold rdV ru0 ru1 ru2 ru3 ru4 ru5 ru6 ru7 ru8 ru9 ru10 ruE
      rw [g0, g1, k0, k1, k2, k4, k5, k6, k7, k8]
      simp only [llen_9, ile_10 c0, c1, c2, c4, c5, c6, c7, c8, sT]
      show sel (bnot (ieq (nmI a0) 0)) _ (sel (bnot (ieq (yfE a1) 0)) _ _) = _
      cases ieq (nmI a0) 0 with
      | false => rfl
      | true =>
      cases ieq (yfE a1) 0 with
      | false => rfl
      | true =>
      cases ieq (ytE a2 (yfI a1)) 0 with
      | false => rfl
      | true =>
      cases seq a3 [45] with
      | false => rfl
      | true =>
      cases ieq (moW a4) 0 with
      | false => rfl
      | true =>
      cases ieq (dsE a5) 0 with
      | false => rfl
      | true =>
      cases ftB (dsK a5) (dsWk a5) (dsD a5) (moI a4) with
      | false => rfl
      | true =>
      cases ieq (ckE a6) 0 with
      | false => rfl
      | true =>
      cases ieq (amW a7) 0 with
      | false => rfl
      | true =>
      cases ile (-10800) (amI a7) with
      | false => rfl
      | true =>
      cases ile (amI a7) 10800 with
      | false => rfl
      | true =>
      cases ieq (leW a8) 0 with
      | false => rfl
      | true => rfl
theorem od_sel (s : List UInt8) (m : Int) : odE s m = sel (ieq (dsE s) 0) (sel (ftB (dsK s) (dsWk s) (dsD s) m) 0 1) (dsE s) := by
  unfold odE odP
  rw [sel_if, sel_if]
  by_cases h : dsE s = 0
  · rw [if_pos h, if_pos (ieq_t h)]
    by_cases h2 : ftB (dsK s) (dsWk s) (dsD s) m = true
    · rw [if_pos h2, if_pos h2]
    · rw [if_neg h2, if_neg h2]
  · rw [if_neg h, if_neg (by rw [ieq_iff]; exact h)]
theorem sv_sel (s : List UInt8) : svW s = sel (ieq (amW s) 0) (sel (ile (-10800) (amI s)) (sel (ile (amI s) 10800) 0 1) 1) (amW s) := by
  unfold svW svP
  simp only [sel_if, ieq_iff, ile_iff]
  by_cases h : amW s = 0
  · rw [if_pos h, if_pos h]
    by_cases h1 : -10800 ≤ amI s
    · rw [if_pos h1]
      by_cases h2 : amI s ≤ 10800
      · rw [if_pos h2, if_neg (by omega)]
      · rw [if_neg h2, if_pos (by omega)]
    · rw [if_neg h1, if_pos (by omega)]
  · rw [if_neg h, if_neg h]
theorem yr_eq (f t : Int) : (ieq (txWy f t) 0 && ieq (fxW f) 0) = yrB f t := by
  rw [Bool.eq_iff_iff, Bool.and_eq_true, ieq_iff, ieq_iff]
  unfold yrB
  rw [Bool.and_eq_true, Bool.and_eq_true, ile_iff, ile_iff, ile_iff]
  unfold txWy fxW yToTextP yFromTextP
  constructor
  · rintro ⟨h1, h2⟩
    by_cases a : -32767 ≤ f ∧ f ≤ 32767
    · by_cases b : -32767 ≤ t ∧ t ≤ 32767
      · rw [if_pos b] at h1
        by_cases c : t < f
        · rw [if_pos c] at h1; cases h1
        · omega
      · rw [if_neg b] at h1; cases h1
    · rw [if_neg a] at h2; cases h2
  · rintro ⟨h1, h2, h3⟩
    rw [if_pos (show -32767 ≤ t ∧ t ≤ 32767 by omega), if_pos (show -32767 ≤ f ∧ f ≤ 32767 by omega), if_neg (show ¬ t < f by omega)]
    constructor
    · (repeat' split) <;> rfl
    · (repeat' split) <;> rfl
end Nt.Ev.YtpmemdamcadbgaaGreatDoor

set_option linter.unusedVariables false
set_option linter.unusedSimpArgs false
set_option linter.unusedSectionVars false
namespace Nt.Ev.YtpmemdamcadbgaaGreatDoor
open Go Go.RowKit Nt Nt.Num Nt.Civil Go.Proofs.YtpmemdamcadbgaaGreatDoor
variable [MLen]
theorem mo_back (m : Int) (h1 : 1 ≤ m) (h2 : m ≤ 12) : moI (moT m) = m ∧ moW (moT m) = 0 ∧ (moT m).length ≤ 10 := by
  obtain rfl | rfl | rfl | rfl | rfl | rfl | rfl | rfl | rfl | rfl | rfl | rfl : m = 1 ∨ m = 2 ∨ m = 3 ∨ m = 4 ∨ m = 5 ∨ m = 6 ∨ m = 7 ∨ m = 8 ∨ m = 9 ∨ m = 10 ∨ m = 11 ∨ m = 12 := by omega
  all_goals decide +kernel
theorem ck_back (n b : Int) (hr : rightC n b = true) : ckA (tcT n b) = n ∧ ckB (tcT n b) = b ∧ ckE (tcT n b) = 0 ∧ (tcT n b).length ≤ 20 := by
  have hr' := hr
  unfold rightC at hr'
  have hr' := of_decide_eq_true hr'
  obtain ⟨l, c, h1, h2, h3, h4⟩ := week_text n (by omega) (by omega)
  have hn : 0 ≤ n ∧ n ≤ 172800 := by omega
  have hlen := (tx_week n hn).2
  have hcl : clsI (c.toNat : Int) = 3 := by unfold clsI; rw [if_neg (by omega), if_neg (by omega), if_neg (by omega)]
  have e2 : tcT n b = (Amount.text n).1 ++ letC b := by unfold tcT textC; rw [if_pos hr]; rfl
  have hl : (Amount.text n).1.length ≤ 10 := hlen
  rw [e2]
  generalize (Amount.text n).1 = t at *
  have rd : ∀ (x : UInt8) (q : Int), clsI (x.toNat : Int) = q → q ≠ 3 → ckA (t ++ [x]) = n ∧ ckB (t ++ [x]) = q ∧ ckE (t ++ [x]) = 0 ∧ (t ++ [x]).length ≤ 20 := fun x q hx hq => by
    have := readC_last t x n q hx hq h4 hn
    unfold ckA ckB ckE
    rw [this]; exact ⟨rfl, rfl, rfl, by simp; omega⟩
  have hb : b = 0 ∨ b = 1 ∨ b = 2 := by omega
  rcases hb with rfl | rfl | rfl
  · have e3 : t ++ letC 0 = t := by unfold letC; simp
    have e4 : readC t = (n, 0, 0) := by rw [h1]; exact readC_none l c n hcl (by rw [← h1]; exact h4) hn
    rw [e3]
    unfold ckA ckB ckE
    rw [e4]; exact ⟨rfl, rfl, rfl, by omega⟩
  · exact rd 115 1 rfl (by decide)
  · exact rd 117 2 rfl (by decide)
theorem am_neg (k : Nat) (h : k ≤ 604799) : Amount.read ([45] ++ posL k) = (-(k : Int), 0) := by
  rw [read_minus (posL_ne k h), posL_eq, told_pos _ k h (hour_ok k h).1 (hour_ok k h).2]
  rfl
theorem am_back (v : Int) (h1 : -604799 ≤ v) (h2 : v ≤ 604799) : amI (amT v) = v ∧ amW (amT v) = 0 ∧ (amT v).length ≤ 40 := by
  unfold amI amW amT
  by_cases h0 : v = 0
  · subst h0; decide
  · by_cases hp : 0 < v
    · obtain ⟨k, rfl⟩ : ∃ k : Nat, v = (k : Int) := ⟨v.toNat, by omega⟩
      have e := posL_len k (by omega)
      rw [amt_pos k (by omega) (by omega), read_pos k (by omega)]
      exact ⟨rfl, rfl, by show (posL k).length ≤ 40; omega⟩
    · obtain ⟨k, rfl⟩ : ∃ k : Nat, v = -(k : Int) := ⟨v.natAbs, by omega⟩
      have e := posL_len k (by omega)
      rw [amt_neg k (by omega) (by omega), am_neg k (by omega)]
      exact ⟨rfl, rfl, by show ([45] ++ posL k).length ≤ 40; simp; omega⟩
theorem le_back (s : List UInt8) (h : leW s = 0) : ltW (leT s) = 0 ∧ (leT s).length ≤ 6 := by
  have h' := h
  unfold leW leP at h
  by_cases h1 : s = [45]
  · subst h1; decide
  · rw [if_neg h1] at h
    by_cases h2 : 6 < s.length
    · rw [if_pos h2] at h; cases h
    · rw [if_neg h2] at h
      by_cases h3 : s = [] ∨ Fmt.wordB s = false
      · rw [if_pos h3] at h; cases h
      · have e : leT s = s := by unfold leT leP; rw [if_neg h1, if_neg h2, if_neg h3]
        have hs : ¬ s = [] := fun e => h3 (.inl e)
        rw [e]
        refine ⟨?_, by omega⟩
        unfold ltW ltP
        rw [if_neg hs, if_neg (by rw [e, h']; simp)]
theorem lt_len6 (t : List UInt8) (h : ltW t = 0) : (ltT t).length ≤ 6 ∧ t.length ≤ 6 := by
  obtain ⟨h1, h2⟩ := lt_back t h
  have h3 := le_back _ h1
  rw [h2] at h3
  refine ⟨?_, h3.2⟩
  unfold ltT ltP
  (repeat' split)
  · decide
  · decide
  · exact h3.2
theorem nm_len (n : List UInt8) (h : nmI n = 0) : n.length ≤ 64 := by
  unfold nmI at h
  by_cases h1 : 64 < n.length
  · rw [if_pos h1] at h; cases h
  · omega
def rfL (n : List UInt8) (f t m k w d c b v : Int) (l : List UInt8) : List V := [.str n, .str (fxT f), .str (txTy f t), .str [45], .str (moT m), .str (dsTx k w d), .str (tcT c b), .str (amT v), .str (ltT l)]
theorem ruR_iff (n : List UInt8) (f t m k w d c b v : Int) (l : List UInt8) : (ruR n f t m k w d c b v l = true) = (nmI n = 0 ∧ (yrB f t = true ∧ (ftB k w d m = true ∧ (rightC c b = true ∧ ((-10800 ≤ v ∧ v ≤ 10800) ∧ ltW l = 0))))) := by
  unfold ruR
  rw [Bool.and_eq_true, Bool.and_eq_true, Bool.and_eq_true, Bool.and_eq_true, Bool.and_eq_true, Bool.and_eq_true, ieq_iff, ile_iff, ile_iff, ieq_iff]
theorem sV_len {s : List UInt8} (h : s.length ≤ 900) : sV (.str s) = true := ile_t (by rw [slen_nat]; omega)
theorem ru_back (n : List UInt8) (f t m k w d c b v : Int) (l : List UInt8) (h : ruR n f t m k w d c b v l = true) :
    allS (rfL n f t m k w d c b v l) = true ∧ rdV (rfL n f t m k w d c b v l) = .tup [.agg [.str n, .int .i64 f, .int .i64 t, .int .i64 m, .int .i64 k, .int .i64 w, .int .i64 d, .int .i64 c, .int .i64 b, .int .i64 v, .str l], .int .i64 0] := by
  rw [ruR_iff] at h
  obtain ⟨h1, h2, h3, h4, h5, h6⟩ := h
  have h2' := h2
  rw [← yr_eq, Bool.and_eq_true, ieq_iff, ieq_iff] at h2
  obtain ⟨x1, x2⟩ := yf_back f h2.2
  obtain ⟨y1, y2⟩ := yt_back f t h2.1
  have h3' := h3
  unfold ftB at h3
  rw [Bool.and_eq_true, decide_eq_true_eq] at h3
  obtain ⟨m1, m2, m3⟩ := mo_back m h3.2.1 h3.2.2.1
  have d1 := ds_text k w d h3.1
  obtain ⟨c1, c2, c3, c4⟩ := ck_back c b h4
  obtain ⟨a1, a2, a3⟩ := am_back v (by omega) (by omega)
  obtain ⟨l1, l2⟩ := lt_back l h6
  have l3 := (lt_len6 l h6).1
  have e1 : yfI (fxT f) = f := x1
  have e2 : yfE (fxT f) = 0 := x2
  have e3 : ytI (txTy f t) f = t := y1
  have e4 : ytE (txTy f t) f = 0 := y2
  have d2 : dsK (dsTx k w d) = k := by unfold dsK; rw [d1]
  have d3 : dsWk (dsTx k w d) = w := by unfold dsWk; rw [d1]
  have d4 : dsD (dsTx k w d) = d := by unfold dsD; rw [d1]
  have d5 : dsE (dsTx k w d) = 0 := by unfold dsE; rw [d1]
  have i0 : ieq 0 0 = true := rfl
  constructor
  · have n1 := nm_len n h1
    have n2 : (fxT f).length ≤ 25 := yfT_len f
    have n3 : (txTy f t).length ≤ 25 := ytT_len f t
    have n4 := dsTx_len k w d
    unfold allS rfL
    simp only [List.all_cons, List.all_nil, sV_len (show n.length ≤ 900 by omega), sV_len (show (fxT f).length ≤ 900 by omega), sV_len (show (txTy f t).length ≤ 900 by omega), sV_len (show (moT m).length ≤ 900 by omega), sV_len (show (dsTx k w d).length ≤ 900 by omega), sV_len (show (tcT c b).length ≤ 900 by omega), sV_len (show (amT v).length ≤ 900 by omega), sV_len (show (ltT l).length ≤ 900 by omega), sV_len (show ([45] : List UInt8).length ≤ 900 by decide)]
    rfl
  · have hB : rdB (rfL n f t m k w d c b v l) = true := by
      show (ieq 9 9 && (ieq (nmI n) 0 && (ieq (yfE (fxT f)) 0 && (ieq (ytE (txTy f t) (yfI (fxT f))) 0 && (seq [45] [45] && (ieq (moW (moT m)) 0 && (ieq (dsE (dsTx k w d)) 0 && (ftB (dsK (dsTx k w d)) (dsWk (dsTx k w d)) (dsD (dsTx k w d)) (moI (moT m)) && (ieq (ckE (tcT c b)) 0 && (ieq (amW (amT v)) 0 && (ile (-10800) (amI (amT v)) && (ile (amI (amT v)) 10800 && ieq (leW (ltT l)) 0)))))))))))) = true
      rw [e1, e2, e4, m1, m2, d2, d3, d4, d5, c3, a1, a2, l1, h1, h3', i0, ile_t h5.1, ile_t h5.2]
      rfl
    rw [rd_yes _ hB]
    show V.tup [.agg [.str n, .int .i64 (yfI (fxT f)), .int .i64 (ytI (txTy f t) (yfI (fxT f))), .int .i64 (moI (moT m)), .int .i64 (dsK (dsTx k w d)), .int .i64 (dsWk (dsTx k w d)), .int .i64 (dsD (dsTx k w d)), .int .i64 (ckA (tcT c b)), .int .i64 (ckB (tcT c b)), .int .i64 (amI (amT v)), .str (leT (ltT l))], .int .i64 0] = _
    rw [e1, e3, m1, d2, d3, d4, c1, c2, a1, l2]
end Nt.Ev.YtpmemdamcadbgaaGreatDoor

set_option linter.unusedVariables false
set_option linter.unusedSimpArgs false
set_option linter.unusedSectionVars false
namespace Nt.Ev.YtpmemdamcadbgaaGreatDoor
open Go Nt.Num Go.Proofs.YtpmemdamcadbgaaGreatDoor
variable [MLen]
open Nt.Civil
def rfV (n : List UInt8) (f t m k w d c b v : Int) (l : List UInt8) : List V := sel (ruR n f t m k w d c b v l) (rfL n f t m k w d c b v l) []
def rfE (n : List UInt8) (f t m k w d c b v : Int) (l : List UInt8) : Int := sel (ruR n f t m k w d c b v l) 0 4
end Nt.Ev.YtpmemdamcadbgaaGreatDoor

set_option linter.unusedVariables false
set_option linter.unusedSimpArgs false
set_option linter.unusedSectionVars false
namespace Nt.Ev.YtpmemdamcadbgaaGreatDoor
open Go Go.RowKit Nt Nt.Num Nt.Civil Go.Proofs.YtpmemdamcadbgaaGreatDoor
variable [MLen]
theorem zRdS_ok (xs : List V) (hc : allS xs = true) : Contract zE 8 [.sl 9 [.str] none xs] (.tup [.agg [.str (ru0 xs), .int .i64 (ru1 xs), .int .i64 (ru2 xs), .int .i64 (ru3 xs), .int .i64 (ru4 xs), .int .i64 (ru5 xs), .int .i64 (ru6 xs), .int .i64 (ru7 xs), .int .i64 (ru8 xs), .int .i64 (ru9 xs), .str (ru10 xs)], .int .i64 (ruE xs)]) := zRead_ev xs hc
theorem rd_inj (xs : List V) {a0 a10 : List UInt8} {a1 a2 a3 a4 a5 a6 a7 a8 a9 e : Int} (h : rdV xs = .tup [.agg [.str a0, .int .i64 a1, .int .i64 a2, .int .i64 a3, .int .i64 a4, .int .i64 a5, .int .i64 a6, .int .i64 a7, .int .i64 a8, .int .i64 a9, .str a10], .int .i64 e]) :
    ru0 xs = a0 ∧ ru1 xs = a1 ∧ ru2 xs = a2 ∧ ru3 xs = a3 ∧ ru4 xs = a4 ∧ ru5 xs = a5 ∧ ru6 xs = a6 ∧ ru7 xs = a7 ∧ ru8 xs = a8 ∧ ru9 xs = a9 ∧ ru10 xs = a10 ∧ ruE xs = e := by
  unfold rdV at h
  simp only [V.tup.injEq, List.cons.injEq, V.agg.injEq, V.str.injEq, V.int.injEq, true_and, and_true] at h
  obtain ⟨⟨h0, h1, h2, h3, h4, h5, h6, h7, h8, h9, h10⟩, he⟩ := h
  exact ⟨h0, h1, h2, h3, h4, h5, h6, h7, h8, h9, h10, he⟩
end Nt.Ev.YtpmemdamcadbgaaGreatDoor
