/-
  Era: equations of functions, as the evaluator prints them. Eras: what the program's functions and the document's answer. Era2: equations of functions, as the evaluator prints them. Eras: how they are written. Eras: there and back, in plain terms. EraLaw: equations of functions, as the evaluator prints them. Eras: the two statements.
-/
import Derived.Test.YtpmemdamcadbgaaGreatDoorMM
set_option linter.unusedVariables false
set_option linter.unusedSimpArgs false
set_option linter.unusedSectionVars false
namespace Nt.Ev.YtpmemdamcadbgaaGreatDoor
open Go Nt.Num Go.Proofs.YtpmemdamcadbgaaGreatDoor
variable [MLen]
open Nt.Civil
abbrev eZ : V := (V.agg [(V.int .i64 0), (V.int .i64 0), (V.int .i64 0), (V.str []), (V.str []), (V.bool false), (V.int .i64 0), (V.int .i64 0), (V.int .i64 0), (V.int .i64 0), (V.int .i64 0), (V.int .i64 0), (V.int .i64 0)])
noncomputable def firstV : V := .rptr [.int .i64, .int .i64, .int .i64] (.agg [.int .i64 0, .int .i64 0, .int .i64 1]) 0
noncomputable def eE : Env := ⟨Go.Proofs.Tryz.prog, fun g => bif g == 0 then some firstV else bif g == 2 then some weekdaysV else bif g == 1 then some monthsV else bif g == 3 then some partsV else bif g == 4 then some (.rptr [.int .i64] (.int .i64 MLen.val) 0) else none⟩
noncomputable def eNrS : FSpec := fun a => match a with | [.str s] => some (ile (slen s) 900, .tup [.int .i64 (nrI s), .int .i64 (nrW s)]) | _ => none
noncomputable def eNtS : FSpec := fun a => match a with | [.int .i64 n] => some (band (ile (-9223372036854775808) n) (ile n 9223372036854775807), .str (text n)) | _ => none
noncomputable def eChS : FSpec := fun a => match a with | [.str s] => some (ile (slen s) 900, .int .i64 (ckW s)) | _ => none
noncomputable def eS0 : List (Nat × FSpec) := (99, eNrS) :: (30, eNtS) :: (65, eChS) :: (4, zNameS) :: (34, zFitsS) :: (56, zMonS) :: (58, zDayS) :: (60, zClkS) :: (62, zAmtS) :: (16, zDtS) :: (17, zCtS) :: (35, zCrS) :: (18, zAtS) :: (20, zMtS) :: []
def erN : List UInt8 → Bool | [] => false | [c] => decide (48 ≤ c.toNat) && decide (c.toNat ≤ 57) | c :: d :: _ => (decide (48 ≤ c.toNat) && decide (c.toNat ≤ 57)) || (c == 45 && (decide (48 ≤ d.toNat) && decide (d.toNat ≤ 57)))
def rlP (s : List UInt8) : Int × Int × List UInt8 × Int := if s = [45] then (0, 0, [], 0) else if erN s = true then (1, svI s, [], svW s) else (2, 0, s, nmI s)
def rlK (s : List UInt8) : Int := (rlP s).1
def rlS (s : List UInt8) : Int := (rlP s).2.1
def rlN (s : List UInt8) : List UInt8 := (rlP s).2.2.1
def rlW (s : List UInt8) : Int := (rlP s).2.2.2
noncomputable def eNumS : FSpec := fun a => match a with | [.str s] => some (ile (slen s) 900, .bool (erN s)) | _ => none
noncomputable def eS1 : List (Nat × FSpec) := (98, eNumS) :: eS0
def en0 (ys : List V) : Int := sel (ieq (nrW (rg ys 0)) 0) (sel (ile (nrI (rg ys 0)) (-32767)) 1 (sel (ile 32767 (nrI (rg ys 0))) 1 0)) (nrW (rg ys 0))
def en1 (ys : List V) : Int := sel (ieq (en0 ys) 0) (sel (ilt 1 (llen ys)) (moW (rg ys 1)) 0) (en0 ys)
def enMo (ys : List V) : Int := sel (ieq (en0 ys) 0) (sel (ilt 1 (llen ys)) (moI (rg ys 1)) 1) 1
def en2 (ys : List V) : Int := sel (ieq (en1 ys) 0) (sel (ilt 2 (llen ys)) (odE (rg ys 2) (enMo ys)) 0) (en1 ys)
def enOn (ys : List V) (f : List UInt8 → Int → Int) (z : Int) : Int := sel (ieq (en1 ys) 0) (sel (ilt 2 (llen ys)) (f (rg ys 2) (enMo ys)) z) z
def en3 (ys : List V) : Int := sel (ieq (en2 ys) 0) (sel (ilt 3 (llen ys)) (ckE (rg ys 3)) 0) (en2 ys)
def enAt (ys : List V) (f : List UInt8 → Int) : Int := sel (ieq (en2 ys) 0) (sel (ilt 3 (llen ys)) (f (rg ys 3)) 0) 0
def enH (ys : List V) : Bool := bnot (ieq (llen ys) 0)
def enY (ys : List V) : Int := sel (enH ys) (nrI (rg ys 0)) 0
def enM (ys : List V) : Int := sel (enH ys) (enMo ys) 0
def enK (ys : List V) : Int := sel (enH ys) (enOn ys odK 0) 0
def enW (ys : List V) : Int := sel (enH ys) (enOn ys odW 0) 0
def enD (ys : List V) : Int := sel (enH ys) (enOn ys odD 1) 0
def enA (ys : List V) : Int := sel (enH ys) (enAt ys ckA) 0
def enB (ys : List V) : Int := sel (enH ys) (enAt ys ckB) 0
def enE (ys : List V) : Int := sel (enH ys) (en3 ys) 0
noncomputable def eNoS : FSpec := fun a => match a with | [.str s] => some (false, .int .i64 0) | _ => none
noncomputable def eSn : List (Nat × FSpec) := (62, eNoS) :: []
set_option maxRecDepth 100000 in
theorem eNum_top (F : Nat) (s : List UInt8) (K : V → Option V) :
 evBd eE (evFn eE eS0 F 4) F 98 [(V.str s)] K =
 sel (ile (slen [45]) (slen s))
 (sel (band (ile 0 (slen [45])) (ile (slen [45]) (slen s)))
 (sel (seq (ssub s 0 (slen [45])) [45])
 (sel (band (ile 0 (slen [45])) (ile (slen [45]) (slen s)))
 (sel (bnot (seq (ssub s (slen [45]) (slen s)) []))
 (sel (band (ile 0 0) (ilt 0 (slen (ssub s (slen [45]) (slen s)))))
 (sel (ile 48 (sat (ssub s (slen [45]) (slen s)) 0))
 (sel (band (ile 0 0) (ilt 0 (slen (ssub s (slen [45]) (slen s)))))
 (K (V.bool (ile (sat (ssub s (slen [45]) (slen s)) 0) 57)))
 (none))
 (K (V.bool false)))
 (none))
 (K (V.bool false)))
 (none))
 (sel (bnot (seq s []))
 (sel (band (ile 0 0) (ilt 0 (slen s)))
 (sel (ile 48 (sat s 0))
 (sel (band (ile 0 0) (ilt 0 (slen s)))
 (K (V.bool (ile (sat s 0) 57)))
 (none))
 (K (V.bool false)))
 (none))
 (K (V.bool false))))
 (none))
 (sel (bnot (seq s []))
 (sel (band (ile 0 0) (ilt 0 (slen s)))
 (sel (ile 48 (sat s 0))
 (sel (band (ile 0 0) (ilt 0 (slen s)))
 (K (V.bool (ile (sat s 0) 57)))
 (none))
 (K (V.bool false)))
 (none))
 (K (V.bool false))) := by kernel_rfl
set_option maxRecDepth 100000 in
theorem eRead_top (F : Nat) (xs : List V) (K : V → Option V) :
 evBd eE (evFn eE eSn F 10) F 11 [(V.sl 9 [(Kd.str)] none xs)] K =
 sel (bnot (ile 3 (llen xs)))
 (K (V.tup [eZ, (V.int .i64 5)]))
 (sel (bnot (ile (llen xs) 7))
 (K (V.tup [eZ, (V.int .i64 6)]))
 (sel (band (ile 0 0) (ilt 0 (llen xs)))
 (none)
 (none))) := by kernel_rfl
set_option maxRecDepth 100000 in
theorem eRead3_u9_top (a0 : List UInt8) (a1 : List UInt8) (a2 : List UInt8) (K : V → Option V) :
 evBd eE (evFn eE eS1 9 10) 9 11 [(V.sl 9 [(Kd.str)] none [(V.str a0), (V.str a1), (V.str a2)])] K =
 sel (ile (slen a0) 900)
 (sel (bnot (ieq (amW a0) 0))
 (K (V.tup [eZ, (V.int .i64 (amW a0))]))
 (sel (ile (-54000) (amI a0))
 (sel (bnot (ile (amI a0) 54000))
 (K (V.tup [eZ, (V.int .i64 1)]))
 (sel (seq a1 [45])
 (sel (ile (slen a2) 900)
 (sel (bnot (ieq (ckW a2) 0))
 (K (V.tup [eZ, (V.int .i64 (ckW a2))]))
 (K (V.tup [(V.agg [(V.int .i64 (amI a0)), (V.int .i64 0), (V.int .i64 0), (V.str []), (V.str a2), (V.bool false), (V.int .i64 0), (V.int .i64 0), (V.int .i64 0), (V.int .i64 0), (V.int .i64 0), (V.int .i64 0), (V.int .i64 0)]), (V.int .i64 0)])))
 (none))
 (sel (ile (slen a1) 900)
 (sel (erN a1)
 (sel (ile (slen a1) 900)
 (sel (bnot (ieq (amW a1) 0))
 (K (V.tup [eZ, (V.int .i64 (amW a1))]))
 (sel (ile (-10800) (amI a1))
 (sel (bnot (ile (amI a1) 10800))
 (K (V.tup [eZ, (V.int .i64 1)]))
 (sel (ile (slen a2) 900)
 (sel (bnot (ieq (ckW a2) 0))
 (K (V.tup [eZ, (V.int .i64 (ckW a2))]))
 (K (V.tup [(V.agg [(V.int .i64 (amI a0)), (V.int .i64 1), (V.int .i64 (amI a1)), (V.str []), (V.str a2), (V.bool false), (V.int .i64 0), (V.int .i64 0), (V.int .i64 0), (V.int .i64 0), (V.int .i64 0), (V.int .i64 0), (V.int .i64 0)]), (V.int .i64 0)])))
 (none)))
 (K (V.tup [eZ, (V.int .i64 1)]))))
 (none))
 (sel (ile (slen a1) 1000)
 (sel (bnot (ieq (nmI a1) 0))
 (K (V.tup [eZ, (V.int .i64 (nmI a1))]))
 (sel (ile (slen a2) 900)
 (sel (bnot (ieq (ckW a2) 0))
 (K (V.tup [eZ, (V.int .i64 (ckW a2))]))
 (K (V.tup [(V.agg [(V.int .i64 (amI a0)), (V.int .i64 2), (V.int .i64 0), (V.str a1), (V.str a2), (V.bool false), (V.int .i64 0), (V.int .i64 0), (V.int .i64 0), (V.int .i64 0), (V.int .i64 0), (V.int .i64 0), (V.int .i64 0)]), (V.int .i64 0)])))
 (none)))
 (none)))
 (none))))
 (K (V.tup [eZ, (V.int .i64 1)]))))
 (none) := by kernel_rfl
set_option maxRecDepth 100000 in
theorem eRead4_u9_top (a0 : List UInt8) (a1 : List UInt8) (a2 : List UInt8) (a3 : List UInt8) (K : V → Option V) :
 evBd eE (evFn eE eS1 9 10) 9 11 [(V.sl 9 [(Kd.str)] none [(V.str a0), (V.str a1), (V.str a2), (V.str a3)])] K =
 sel (ile (slen a0) 900)
 (sel (bnot (ieq (amW a0) 0))
 (K (V.tup [eZ, (V.int .i64 (amW a0))]))
 (sel (ile (-54000) (amI a0))
 (sel (bnot (ile (amI a0) 54000))
 (K (V.tup [eZ, (V.int .i64 1)]))
 (sel (seq a1 [45])
 (sel (ile (slen a2) 900)
 (sel (bnot (ieq (ckW a2) 0))
 (K (V.tup [eZ, (V.int .i64 (ckW a2))]))
 (sel (ile (slen a3) 900)
 (sel (bnot (ieq (nrW a3) 0))
 (K (V.tup [eZ, (V.int .i64 (nrW a3))]))
 (sel (ilt (-32767) (nrI a3))
 (sel (bnot (ilt (nrI a3) 32767))
 (K (V.tup [eZ, (V.int .i64 1)]))
 (K (V.tup [(V.agg [(V.int .i64 (amI a0)), (V.int .i64 0), (V.int .i64 0), (V.str []), (V.str a2), (V.bool true), (V.int .i64 (nrI a3)), (V.int .i64 1), (V.int .i64 0), (V.int .i64 0), (V.int .i64 1), (V.int .i64 0), (V.int .i64 0)]), (V.int .i64 0)])))
 (K (V.tup [eZ, (V.int .i64 1)]))))
 (none)))
 (none))
 (sel (ile (slen a1) 900)
 (sel (erN a1)
 (sel (ile (slen a1) 900)
 (sel (bnot (ieq (amW a1) 0))
 (K (V.tup [eZ, (V.int .i64 (amW a1))]))
 (sel (ile (-10800) (amI a1))
 (sel (bnot (ile (amI a1) 10800))
 (K (V.tup [eZ, (V.int .i64 1)]))
 (sel (ile (slen a2) 900)
 (sel (bnot (ieq (ckW a2) 0))
 (K (V.tup [eZ, (V.int .i64 (ckW a2))]))
 (sel (ile (slen a3) 900)
 (sel (bnot (ieq (nrW a3) 0))
 (K (V.tup [eZ, (V.int .i64 (nrW a3))]))
 (sel (ilt (-32767) (nrI a3))
 (sel (bnot (ilt (nrI a3) 32767))
 (K (V.tup [eZ, (V.int .i64 1)]))
 (K (V.tup [(V.agg [(V.int .i64 (amI a0)), (V.int .i64 1), (V.int .i64 (amI a1)), (V.str []), (V.str a2), (V.bool true), (V.int .i64 (nrI a3)), (V.int .i64 1), (V.int .i64 0), (V.int .i64 0), (V.int .i64 1), (V.int .i64 0), (V.int .i64 0)]), (V.int .i64 0)])))
 (K (V.tup [eZ, (V.int .i64 1)]))))
 (none)))
 (none)))
 (K (V.tup [eZ, (V.int .i64 1)]))))
 (none))
 (sel (ile (slen a1) 1000)
 (sel (bnot (ieq (nmI a1) 0))
 (K (V.tup [eZ, (V.int .i64 (nmI a1))]))
 (sel (ile (slen a2) 900)
 (sel (bnot (ieq (ckW a2) 0))
 (K (V.tup [eZ, (V.int .i64 (ckW a2))]))
 (sel (ile (slen a3) 900)
 (sel (bnot (ieq (nrW a3) 0))
 (K (V.tup [eZ, (V.int .i64 (nrW a3))]))
 (sel (ilt (-32767) (nrI a3))
 (sel (bnot (ilt (nrI a3) 32767))
 (K (V.tup [eZ, (V.int .i64 1)]))
 (K (V.tup [(V.agg [(V.int .i64 (amI a0)), (V.int .i64 2), (V.int .i64 0), (V.str a1), (V.str a2), (V.bool true), (V.int .i64 (nrI a3)), (V.int .i64 1), (V.int .i64 0), (V.int .i64 0), (V.int .i64 1), (V.int .i64 0), (V.int .i64 0)]), (V.int .i64 0)])))
 (K (V.tup [eZ, (V.int .i64 1)]))))
 (none)))
 (none)))
 (none)))
 (none))))
 (K (V.tup [eZ, (V.int .i64 1)]))))
 (none) := by kernel_rfl
set_option maxRecDepth 100000 in
theorem eRead5_u9_top (a0 : List UInt8) (a1 : List UInt8) (a2 : List UInt8) (a3 : List UInt8) (a4 : List UInt8) (K : V → Option V) :
 evBd eE (evFn eE eS1 9 10) 9 11 [(V.sl 9 [(Kd.str)] none [(V.str a0), (V.str a1), (V.str a2), (V.str a3), (V.str a4)])] K =
 sel (ile (slen a0) 900)
 (sel (bnot (ieq (amW a0) 0))
 (K (V.tup [eZ, (V.int .i64 (amW a0))]))
 (sel (ile (-54000) (amI a0))
 (sel (bnot (ile (amI a0) 54000))
 (K (V.tup [eZ, (V.int .i64 1)]))
 (sel (seq a1 [45])
 (sel (ile (slen a2) 900)
 (sel (bnot (ieq (ckW a2) 0))
 (K (V.tup [eZ, (V.int .i64 (ckW a2))]))
 (sel (ile (slen a3) 900)
 (sel (bnot (ieq (nrW a3) 0))
 (K (V.tup [eZ, (V.int .i64 (nrW a3))]))
 (sel (ilt (-32767) (nrI a3))
 (sel (bnot (ilt (nrI a3) 32767))
 (K (V.tup [eZ, (V.int .i64 1)]))
 (sel (ile (slen a4) 900)
 (sel (bnot (ieq (moW a4) 0))
 (K (V.tup [eZ, (V.int .i64 (moW a4))]))
 (K (V.tup [(V.agg [(V.int .i64 (amI a0)), (V.int .i64 0), (V.int .i64 0), (V.str []), (V.str a2), (V.bool true), (V.int .i64 (nrI a3)), (V.int .i64 (moI a4)), (V.int .i64 0), (V.int .i64 0), (V.int .i64 1), (V.int .i64 0), (V.int .i64 0)]), (V.int .i64 0)])))
 (none)))
 (K (V.tup [eZ, (V.int .i64 1)]))))
 (none)))
 (none))
 (sel (ile (slen a1) 900)
 (sel (erN a1)
 (sel (ile (slen a1) 900)
 (sel (bnot (ieq (amW a1) 0))
 (K (V.tup [eZ, (V.int .i64 (amW a1))]))
 (sel (ile (-10800) (amI a1))
 (sel (bnot (ile (amI a1) 10800))
 (K (V.tup [eZ, (V.int .i64 1)]))
 (sel (ile (slen a2) 900)
 (sel (bnot (ieq (ckW a2) 0))
 (K (V.tup [eZ, (V.int .i64 (ckW a2))]))
 (sel (ile (slen a3) 900)
 (sel (bnot (ieq (nrW a3) 0))
 (K (V.tup [eZ, (V.int .i64 (nrW a3))]))
 (sel (ilt (-32767) (nrI a3))
 (sel (bnot (ilt (nrI a3) 32767))
 (K (V.tup [eZ, (V.int .i64 1)]))
 (sel (ile (slen a4) 900)
 (sel (bnot (ieq (moW a4) 0))
 (K (V.tup [eZ, (V.int .i64 (moW a4))]))
 (K (V.tup [(V.agg [(V.int .i64 (amI a0)), (V.int .i64 1), (V.int .i64 (amI a1)), (V.str []), (V.str a2), (V.bool true), (V.int .i64 (nrI a3)), (V.int .i64 (moI a4)), (V.int .i64 0), (V.int .i64 0), (V.int .i64 1), (V.int .i64 0), (V.int .i64 0)]), (V.int .i64 0)])))
 (none)))
 (K (V.tup [eZ, (V.int .i64 1)]))))
 (none)))
 (none)))
 (K (V.tup [eZ, (V.int .i64 1)]))))
 (none))
 (sel (ile (slen a1) 1000)
 (sel (bnot (ieq (nmI a1) 0))
 (K (V.tup [eZ, (V.int .i64 (nmI a1))]))
 (sel (ile (slen a2) 900)
 (sel (bnot (ieq (ckW a2) 0))
 (K (V.tup [eZ, (V.int .i64 (ckW a2))]))
 (sel (ile (slen a3) 900)
 (sel (bnot (ieq (nrW a3) 0))
 (K (V.tup [eZ, (V.int .i64 (nrW a3))]))
 (sel (ilt (-32767) (nrI a3))
 (sel (bnot (ilt (nrI a3) 32767))
 (K (V.tup [eZ, (V.int .i64 1)]))
 (sel (ile (slen a4) 900)
 (sel (bnot (ieq (moW a4) 0))
 (K (V.tup [eZ, (V.int .i64 (moW a4))]))
 (K (V.tup [(V.agg [(V.int .i64 (amI a0)), (V.int .i64 2), (V.int .i64 0), (V.str a1), (V.str a2), (V.bool true), (V.int .i64 (nrI a3)), (V.int .i64 (moI a4)), (V.int .i64 0), (V.int .i64 0), (V.int .i64 1), (V.int .i64 0), (V.int .i64 0)]), (V.int .i64 0)])))
 (none)))
 (K (V.tup [eZ, (V.int .i64 1)]))))
 (none)))
 (none)))
 (none)))
 (none))))
 (K (V.tup [eZ, (V.int .i64 1)]))))
 (none) := by kernel_rfl
set_option maxRecDepth 100000 in
theorem eRead6_u9_top (a0 : List UInt8) (a1 : List UInt8) (a2 : List UInt8) (a3 : List UInt8) (a4 : List UInt8) (a5 : List UInt8) (K : V → Option V) :
 evBd eE (evFn eE eS1 9 10) 9 11 [(V.sl 9 [(Kd.str)] none [(V.str a0), (V.str a1), (V.str a2), (V.str a3), (V.str a4), (V.str a5)])] K =
 sel (ile (slen a0) 900)
 (sel (bnot (ieq (amW a0) 0))
 (K (V.tup [eZ, (V.int .i64 (amW a0))]))
 (sel (ile (-54000) (amI a0))
 (sel (bnot (ile (amI a0) 54000))
 (K (V.tup [eZ, (V.int .i64 1)]))
 (sel (seq a1 [45])
 (sel (ile (slen a2) 900)
 (sel (bnot (ieq (ckW a2) 0))
 (K (V.tup [eZ, (V.int .i64 (ckW a2))]))
 (sel (ile (slen a3) 900)
 (sel (bnot (ieq (nrW a3) 0))
 (K (V.tup [eZ, (V.int .i64 (nrW a3))]))
 (sel (ilt (-32767) (nrI a3))
 (sel (bnot (ilt (nrI a3) 32767))
 (K (V.tup [eZ, (V.int .i64 1)]))
 (sel (ile (slen a4) 900)
 (sel (bnot (ieq (moW a4) 0))
 (K (V.tup [eZ, (V.int .i64 (moW a4))]))
 (sel (ile (slen a5) 900)
 (sel (bnot (ieq (dsE a5) 0))
 (K (V.tup [eZ, (V.int .i64 (dsE a5))]))
 (sel (bnot (ftB (dsK a5) (dsWk a5) (dsD a5) (moI a4)))
 (K (V.tup [eZ, (V.int .i64 1)]))
 (K (V.tup [(V.agg [(V.int .i64 (amI a0)), (V.int .i64 0), (V.int .i64 0), (V.str []), (V.str a2), (V.bool true), (V.int .i64 (nrI a3)), (V.int .i64 (moI a4)), (V.int .i64 (dsK a5)), (V.int .i64 (dsWk a5)), (V.int .i64 (dsD a5)), (V.int .i64 0), (V.int .i64 0)]), (V.int .i64 0)]))))
 (none)))
 (none)))
 (K (V.tup [eZ, (V.int .i64 1)]))))
 (none)))
 (none))
 (sel (ile (slen a1) 900)
 (sel (erN a1)
 (sel (ile (slen a1) 900)
 (sel (bnot (ieq (amW a1) 0))
 (K (V.tup [eZ, (V.int .i64 (amW a1))]))
 (sel (ile (-10800) (amI a1))
 (sel (bnot (ile (amI a1) 10800))
 (K (V.tup [eZ, (V.int .i64 1)]))
 (sel (ile (slen a2) 900)
 (sel (bnot (ieq (ckW a2) 0))
 (K (V.tup [eZ, (V.int .i64 (ckW a2))]))
 (sel (ile (slen a3) 900)
 (sel (bnot (ieq (nrW a3) 0))
 (K (V.tup [eZ, (V.int .i64 (nrW a3))]))
 (sel (ilt (-32767) (nrI a3))
 (sel (bnot (ilt (nrI a3) 32767))
 (K (V.tup [eZ, (V.int .i64 1)]))
 (sel (ile (slen a4) 900)
 (sel (bnot (ieq (moW a4) 0))
 (K (V.tup [eZ, (V.int .i64 (moW a4))]))
 (sel (ile (slen a5) 900)
 (sel (bnot (ieq (dsE a5) 0))
 (K (V.tup [eZ, (V.int .i64 (dsE a5))]))
 (sel (bnot (ftB (dsK a5) (dsWk a5) (dsD a5) (moI a4)))
 (K (V.tup [eZ, (V.int .i64 1)]))
 (K (V.tup [(V.agg [(V.int .i64 (amI a0)), (V.int .i64 1), (V.int .i64 (amI a1)), (V.str []), (V.str a2), (V.bool true), (V.int .i64 (nrI a3)), (V.int .i64 (moI a4)), (V.int .i64 (dsK a5)), (V.int .i64 (dsWk a5)), (V.int .i64 (dsD a5)), (V.int .i64 0), (V.int .i64 0)]), (V.int .i64 0)]))))
 (none)))
 (none)))
 (K (V.tup [eZ, (V.int .i64 1)]))))
 (none)))
 (none)))
 (K (V.tup [eZ, (V.int .i64 1)]))))
 (none))
 (sel (ile (slen a1) 1000)
 (sel (bnot (ieq (nmI a1) 0))
 (K (V.tup [eZ, (V.int .i64 (nmI a1))]))
 (sel (ile (slen a2) 900)
 (sel (bnot (ieq (ckW a2) 0))
 (K (V.tup [eZ, (V.int .i64 (ckW a2))]))
 (sel (ile (slen a3) 900)
 (sel (bnot (ieq (nrW a3) 0))
 (K (V.tup [eZ, (V.int .i64 (nrW a3))]))
 (sel (ilt (-32767) (nrI a3))
 (sel (bnot (ilt (nrI a3) 32767))
 (K (V.tup [eZ, (V.int .i64 1)]))
 (sel (ile (slen a4) 900)
 (sel (bnot (ieq (moW a4) 0))
 (K (V.tup [eZ, (V.int .i64 (moW a4))]))
 (sel (ile (slen a5) 900)
 (sel (bnot (ieq (dsE a5) 0))
 (K (V.tup [eZ, (V.int .i64 (dsE a5))]))
 (sel (bnot (ftB (dsK a5) (dsWk a5) (dsD a5) (moI a4)))
 (K (V.tup [eZ, (V.int .i64 1)]))
 (K (V.tup [(V.agg [(V.int .i64 (amI a0)), (V.int .i64 2), (V.int .i64 0), (V.str a1), (V.str a2), (V.bool true), (V.int .i64 (nrI a3)), (V.int .i64 (moI a4)), (V.int .i64 (dsK a5)), (V.int .i64 (dsWk a5)), (V.int .i64 (dsD a5)), (V.int .i64 0), (V.int .i64 0)]), (V.int .i64 0)]))))
 (none)))
 (none)))
 (K (V.tup [eZ, (V.int .i64 1)]))))
 (none)))
 (none)))
 (none)))
 (none))))
 (K (V.tup [eZ, (V.int .i64 1)]))))
 (none) := by kernel_rfl
set_option maxRecDepth 100000 in
theorem eRead7_u9_top (a0 : List UInt8) (a1 : List UInt8) (a2 : List UInt8) (a3 : List UInt8) (a4 : List UInt8) (a5 : List UInt8) (a6 : List UInt8) (K : V → Option V) :
 evBd eE (evFn eE eS1 9 10) 9 11 [(V.sl 9 [(Kd.str)] none [(V.str a0), (V.str a1), (V.str a2), (V.str a3), (V.str a4), (V.str a5), (V.str a6)])] K =
 sel (ile (slen a0) 900)
 (sel (bnot (ieq (amW a0) 0))
 (K (V.tup [eZ, (V.int .i64 (amW a0))]))
 (sel (ile (-54000) (amI a0))
 (sel (bnot (ile (amI a0) 54000))
 (K (V.tup [eZ, (V.int .i64 1)]))
 (sel (seq a1 [45])
 (sel (ile (slen a2) 900)
 (sel (bnot (ieq (ckW a2) 0))
 (K (V.tup [eZ, (V.int .i64 (ckW a2))]))
 (sel (ile (slen a3) 900)
 (sel (bnot (ieq (nrW a3) 0))
 (K (V.tup [eZ, (V.int .i64 (nrW a3))]))
 (sel (ilt (-32767) (nrI a3))
 (sel (bnot (ilt (nrI a3) 32767))
 (K (V.tup [eZ, (V.int .i64 1)]))
 (sel (ile (slen a4) 900)
 (sel (bnot (ieq (moW a4) 0))
 (K (V.tup [eZ, (V.int .i64 (moW a4))]))
 (sel (ile (slen a5) 900)
 (sel (bnot (ieq (dsE a5) 0))
 (K (V.tup [eZ, (V.int .i64 (dsE a5))]))
 (sel (bnot (ftB (dsK a5) (dsWk a5) (dsD a5) (moI a4)))
 (K (V.tup [eZ, (V.int .i64 1)]))
 (sel (ile (slen a6) 900)
 (sel (bnot (ieq (ckE a6) 0))
 (K (V.tup [eZ, (V.int .i64 (ckE a6))]))
 (K (V.tup [(V.agg [(V.int .i64 (amI a0)), (V.int .i64 0), (V.int .i64 0), (V.str []), (V.str a2), (V.bool true), (V.int .i64 (nrI a3)), (V.int .i64 (moI a4)), (V.int .i64 (dsK a5)), (V.int .i64 (dsWk a5)), (V.int .i64 (dsD a5)), (V.int .i64 (ckA a6)), (V.int .i64 (ckB a6))]), (V.int .i64 0)])))
 (none))))
 (none)))
 (none)))
 (K (V.tup [eZ, (V.int .i64 1)]))))
 (none)))
 (none))
 (sel (ile (slen a1) 900)
 (sel (erN a1)
 (sel (ile (slen a1) 900)
 (sel (bnot (ieq (amW a1) 0))
 (K (V.tup [eZ, (V.int .i64 (amW a1))]))
 (sel (ile (-10800) (amI a1))
 (sel (bnot (ile (amI a1) 10800))
 (K (V.tup [eZ, (V.int .i64 1)]))
 (sel (ile (slen a2) 900)
 (sel (bnot (ieq (ckW a2) 0))
 (K (V.tup [eZ, (V.int .i64 (ckW a2))]))
 (sel (ile (slen a3) 900)
 (sel (bnot (ieq (nrW a3) 0))
 (K (V.tup [eZ, (V.int .i64 (nrW a3))]))
 (sel (ilt (-32767) (nrI a3))
 (sel (bnot (ilt (nrI a3) 32767))
 (K (V.tup [eZ, (V.int .i64 1)]))
 (sel (ile (slen a4) 900)
 (sel (bnot (ieq (moW a4) 0))
 (K (V.tup [eZ, (V.int .i64 (moW a4))]))
 (sel (ile (slen a5) 900)
 (sel (bnot (ieq (dsE a5) 0))
 (K (V.tup [eZ, (V.int .i64 (dsE a5))]))
 (sel (bnot (ftB (dsK a5) (dsWk a5) (dsD a5) (moI a4)))
 (K (V.tup [eZ, (V.int .i64 1)]))
 (sel (ile (slen a6) 900)
 (sel (bnot (ieq (ckE a6) 0))
 (K (V.tup [eZ, (V.int .i64 (ckE a6))]))
 (K (V.tup [(V.agg [(V.int .i64 (amI a0)), (V.int .i64 1), (V.int .i64 (amI a1)), (V.str []), (V.str a2), (V.bool true), (V.int .i64 (nrI a3)), (V.int .i64 (moI a4)), (V.int .i64 (dsK a5)), (V.int .i64 (dsWk a5)), (V.int .i64 (dsD a5)), (V.int .i64 (ckA a6)), (V.int .i64 (ckB a6))]), (V.int .i64 0)])))
 (none))))
 (none)))
 (none)))
 (K (V.tup [eZ, (V.int .i64 1)]))))
 (none)))
 (none)))
 (K (V.tup [eZ, (V.int .i64 1)]))))
 (none))
 (sel (ile (slen a1) 1000)
 (sel (bnot (ieq (nmI a1) 0))
 (K (V.tup [eZ, (V.int .i64 (nmI a1))]))
 (sel (ile (slen a2) 900)
 (sel (bnot (ieq (ckW a2) 0))
 (K (V.tup [eZ, (V.int .i64 (ckW a2))]))
 (sel (ile (slen a3) 900)
 (sel (bnot (ieq (nrW a3) 0))
 (K (V.tup [eZ, (V.int .i64 (nrW a3))]))
 (sel (ilt (-32767) (nrI a3))
 (sel (bnot (ilt (nrI a3) 32767))
 (K (V.tup [eZ, (V.int .i64 1)]))
 (sel (ile (slen a4) 900)
 (sel (bnot (ieq (moW a4) 0))
 (K (V.tup [eZ, (V.int .i64 (moW a4))]))
 (sel (ile (slen a5) 900)
 (sel (bnot (ieq (dsE a5) 0))
 (K (V.tup [eZ, (V.int .i64 (dsE a5))]))
 (sel (bnot (ftB (dsK a5) (dsWk a5) (dsD a5) (moI a4)))
 (K (V.tup [eZ, (V.int .i64 1)]))
 (sel (ile (slen a6) 900)
 (sel (bnot (ieq (ckE a6) 0))
 (K (V.tup [eZ, (V.int .i64 (ckE a6))]))
 (K (V.tup [(V.agg [(V.int .i64 (amI a0)), (V.int .i64 2), (V.int .i64 0), (V.str a1), (V.str a2), (V.bool true), (V.int .i64 (nrI a3)), (V.int .i64 (moI a4)), (V.int .i64 (dsK a5)), (V.int .i64 (dsWk a5)), (V.int .i64 (dsD a5)), (V.int .i64 (ckA a6)), (V.int .i64 (ckB a6))]), (V.int .i64 0)])))
 (none))))
 (none)))
 (none)))
 (K (V.tup [eZ, (V.int .i64 1)]))))
 (none)))
 (none)))
 (none)))
 (none))))
 (K (V.tup [eZ, (V.int .i64 1)]))))
 (none) := by kernel_rfl
end Nt.Ev.YtpmemdamcadbgaaGreatDoor

set_option linter.unusedVariables false
set_option linter.unusedSimpArgs false
set_option linter.unusedSectionVars false
namespace Nt.Ev.YtpmemdamcadbgaaGreatDoor
open Go Go.RowKit Nt Nt.Num Nt.Civil Go.Proofs.YtpmemdamcadbgaaGreatDoor
variable [MLen]
theorem eE_ok : EOk eE := ⟨by kernel_rfl, by kernel_rfl⟩
theorem toE {f : Nat} {args : List V} {r : V} (h : Contract zE f args r) : Contract eE f args r := Contract.env (E := zE) rfl (fun n v h => by
  show (bif n == 0 then some firstV else zE.glob n) = some v
  cases e : n == 0 with
  | true =>
    obtain rfl : n = 0 := by simpa using e
    have : zE.glob 0 = none := by kernel_rfl
    rw [this] at h; cases h
  | false => exact h) h
theorem eNrS_ok (s : List UInt8) (hc : ile (slen s) 900 = true) : Contract eE 99 [.str s] (.tup [.int .i64 (nrI s), .int .i64 (nrW s)]) := toE (toZ (nRead_c s (by have := len_z9 hc; omega)))
theorem eNtS_ok (n : Int) (hc : band (ile (-9223372036854775808) n) (ile n 9223372036854775807) = true) : Contract eE 30 [.int .i64 n] (.str (text n)) := toE (toZ (nText_ev n (fits_z hc)))
theorem eChS_ok (s : List UInt8) (hc : ile (slen s) 900 = true) : Contract eE 65 [.str s] (.int .i64 (ckW s)) := toE (toZf (checkS_ok s (ile_10 hc)))
theorem eS0_ok : SOk eE eS0 := by
  unfold eS0
  refine SOk.cons (fun args r h => ?_) (SOk.cons (fun args r h => ?_) (SOk.cons (fun args r h => ?_) (SOk.cons (fun args r h => ?_) (SOk.cons (fun args r h => ?_) (SOk.cons (fun args r h => ?_) (SOk.cons (fun args r h => ?_) (SOk.cons (fun args r h => ?_) (SOk.cons (fun args r h => ?_) (SOk.cons (fun args r h => ?_) (SOk.cons (fun args r h => ?_) (SOk.cons (fun args r h => ?_) (SOk.cons (fun args r h => ?_) (SOk.cons (fun args r h => ?_) (SOk.nil))))))))))))))
  · unfold eNrS at h
    split at h
    · simp only [Option.some.injEq, Prod.mk.injEq] at h
      obtain ⟨hc, rfl⟩ := h
      exact eNrS_ok _ hc
    · cases h
  · unfold eNtS at h
    split at h
    · simp only [Option.some.injEq, Prod.mk.injEq] at h
      obtain ⟨hc, rfl⟩ := h
      exact eNtS_ok _ hc
    · cases h
  · unfold eChS at h
    split at h
    · simp only [Option.some.injEq, Prod.mk.injEq] at h
      obtain ⟨hc, rfl⟩ := h
      exact eChS_ok _ hc
    · cases h
  · unfold zNameS at h
    split at h
    · simp only [Option.some.injEq, Prod.mk.injEq] at h
      obtain ⟨hc, rfl⟩ := h
      exact toE (zNameS_ok _ hc)
    · cases h
  · unfold zFitsS at h
    split at h
    · simp only [Option.some.injEq, Prod.mk.injEq] at h
      obtain ⟨hc, rfl⟩ := h
      exact toE (zFitsS_ok _ _ _ _ rfl)
    · cases h
  · unfold zMonS at h
    split at h
    · simp only [Option.some.injEq, Prod.mk.injEq] at h
      obtain ⟨hc, rfl⟩ := h
      exact toE (zMonS_ok _ hc)
    · cases h
  · unfold zDayS at h
    split at h
    · simp only [Option.some.injEq, Prod.mk.injEq] at h
      obtain ⟨hc, rfl⟩ := h
      exact toE (zDayS_ok _ hc)
    · cases h
  · unfold zClkS at h
    split at h
    · simp only [Option.some.injEq, Prod.mk.injEq] at h
      obtain ⟨hc, rfl⟩ := h
      exact toE (zClkS_ok _ hc)
    · cases h
  · unfold zAmtS at h
    split at h
    · simp only [Option.some.injEq, Prod.mk.injEq] at h
      obtain ⟨hc, rfl⟩ := h
      exact toE (zAmtS_ok _ hc)
    · cases h
  · unfold zDtS at h
    split at h
    · simp only [Option.some.injEq, Prod.mk.injEq] at h
      obtain ⟨hc, rfl⟩ := h
      exact toE (zDtS_ok _ _ _ rfl)
    · cases h
  · unfold zCtS at h
    split at h
    · simp only [Option.some.injEq, Prod.mk.injEq] at h
      obtain ⟨hc, rfl⟩ := h
      exact toE (zCtS_ok _ _ rfl)
    · cases h
  · unfold zCrS at h
    split at h
    · simp only [Option.some.injEq, Prod.mk.injEq] at h
      obtain ⟨hc, rfl⟩ := h
      exact toE (zCrS_ok _ _ rfl)
    · cases h
  · unfold zAtS at h
    split at h
    · simp only [Option.some.injEq, Prod.mk.injEq] at h
      obtain ⟨hc, rfl⟩ := h
      exact toE (zAtS_ok _ hc)
    · cases h
  · unfold zMtS at h
    split at h
    · simp only [Option.some.injEq, Prod.mk.injEq] at h
      obtain ⟨hc, rfl⟩ := h
      exact toE (zMtS_ok _ hc)
    · cases h
theorem eNoS_ok (s : List UInt8) (hc : false = true) : Contract eE 62 [.str s] (.int .i64 0) := by cases hc
theorem eSn_ok : SOk eE eSn := by
  unfold eSn
  refine SOk.cons (fun args r h => ?_) (SOk.nil)
  · unfold eNoS at h
    split at h
    · simp only [Option.some.injEq, Prod.mk.injEq] at h
      obtain ⟨hc, rfl⟩ := h
      exact eNoS_ok _ hc
    · cases h
theorem sat_0 (c : UInt8) (t : List UInt8) : sat (c :: t) 0 = ((c.toNat : Nat) : Int) := rfl
theorem eNumS_ok (s : List UInt8) (hc : ile (slen s) 900 = true) : Contract eE 98 [.str s] (.bool (erN s)) := by
  refine contract_of_body eE_ok eS0_ok 5 4 ?_
  rw [eNum_top]
  have one : slen [45] = 1 := rfl
  rw [one]
  rcases s with _ | ⟨c, _ | ⟨d, t⟩⟩
  · rfl
  ·
    have l1 : ile 1 (slen [c]) = true := rfl
    have l2 : band (ile 0 1) true = true := rfl
    have l3 : ssub [c] 0 1 = [c] := rfl
    have l4 : ssub [c] 1 (slen [c]) = [] := rfl
    have l5 : band (ile 0 0) (ilt 0 (slen [c])) = true := rfl
    have l6 : seq [c] [] = false := rfl
    have e1 : seq [c] [45] = (c == 45) := by rw [Bool.eq_iff_iff, seq_iff, beq_iff_eq]; simp
    have e2 : ile 48 ((c.toNat : Nat) : Int) = decide (48 ≤ c.toNat) := u8_ile c 48
    have e3 : ile ((c.toNat : Nat) : Int) 57 = decide (c.toNat ≤ 57) := u8_ile' c 57
    rw [l1, l2, l3, l4, l5, l6, sat_0, e1, e2, e3]
    show _ = some (V.bool (decide (48 ≤ c.toNat) && decide (c.toNat ≤ 57)))
    cases h45 : c == 45 with
    | true =>
      have : c = 45 := by simpa using h45
      subst this; rfl
    | false => cases decide (48 ≤ c.toNat) <;> cases decide (c.toNat ≤ 57) <;> rfl
  ·
    rw [ile_iff, slen_nat] at hc
    have l1 : ile 1 (slen (c :: d :: t)) = true := ile_t (by rw [slen_nat, List.length_cons, List.length_cons]; omega)
    have l2 : band (ile 0 1) true = true := rfl
    have l3 : ssub (c :: d :: t) 0 1 = [c] := rfl
    have l4 : ssub (c :: d :: t) 1 (slen (c :: d :: t)) = d :: t := by
      unfold ssub slen
      show List.take (((c :: d :: t).length : Int).toNat - 1) (d :: t) = d :: t
      rw [List.take_of_length_le]
      simp; omega
    have l5 : seq (d :: t) [] = false := rfl
    have l6 : seq (c :: d :: t) [] = false := rfl
    have l7 : band (ile 0 0) (ilt 0 (slen (d :: t))) = true := by rw [ilt_t (by rw [slen_nat, List.length_cons]; omega)]; rfl
    have l8 : band (ile 0 0) (ilt 0 (slen (c :: d :: t))) = true := by rw [ilt_t (by rw [slen_nat, List.length_cons]; omega)]; rfl
    rw [l1, l2, l3, l4, l5, l6, l7, l8, sat_0, sat_0]
    have e1 : seq [c] [45] = (c == 45) := by rw [Bool.eq_iff_iff, seq_iff, beq_iff_eq]; simp
    have e2 : ∀ x : UInt8, ile 48 ((x.toNat : Nat) : Int) = decide (48 ≤ x.toNat) := fun x => u8_ile x 48
    have e3 : ∀ x : UInt8, ile ((x.toNat : Nat) : Int) 57 = decide (x.toNat ≤ 57) := fun x => u8_ile' x 57
    rw [e1, e2, e2, e3, e3]
    show _ = some (V.bool ((decide (48 ≤ c.toNat) && decide (c.toNat ≤ 57)) || (c == 45 && (decide (48 ≤ d.toNat) && decide (d.toNat ≤ 57)))))
    cases hc45 : c == 45 with
    | true =>
      have : c = 45 := by simpa using hc45
      subst this
      cases decide (48 ≤ d.toNat) <;> cases decide (d.toNat ≤ 57) <;> rfl
    | false => cases decide (48 ≤ c.toNat) <;> cases decide (c.toNat ≤ 57) <;> cases decide (48 ≤ d.toNat) <;> cases decide (d.toNat ≤ 57) <;> rfl
theorem rlW_sel (s : List UInt8) : rlW s = sel (seq s [45]) 0 (sel (erN s) (svW s) (nmI s)) := by
  unfold rlW rlP
  simp only [sel_if, seq_iff]
  (repeat' split) <;> rfl
theorem rlK_sel (s : List UInt8) : rlK s = sel (seq s [45]) 0 (sel (erN s) 1 2) := by
  unfold rlK rlP
  simp only [sel_if, seq_iff]
  (repeat' split) <;> rfl
theorem rlS_sel (s : List UInt8) : rlS s = sel (seq s [45]) 0 (sel (erN s) (svI s) 0) := by
  unfold rlS rlP
  simp only [sel_if, seq_iff]
  (repeat' split) <;> rfl
theorem rlN_sel (s : List UInt8) : rlN s = sel (seq s [45]) [] (sel (erN s) [] s) := by
  unfold rlN rlP
  simp only [sel_if, seq_iff]
  (repeat' split) <;> rfl
theorem svI_sel (s : List UInt8) : svI s = sel (ieq (amW s) 0) (sel (ile (-10800) (amI s)) (sel (ile (amI s) 10800) (amI s) 0) 0) (amI s) := by
  unfold svI svP
  simp only [sel_if, ieq_iff, ile_iff]
  by_cases h : amW s = 0
  · rw [if_pos h, if_pos h]
    by_cases h1 : -10800 ≤ amI s
    · rw [if_pos h1]
      by_cases h2 : amI s ≤ 10800
      · rw [if_pos h2, if_neg (by omega)]
      · rw [if_neg h2, if_pos (by omega)]
    · rw [if_neg h1, if_pos (by omega)]
  · rw [if_neg h, if_neg h]
theorem odK_sel (s : List UInt8) (m : Int) : odK s m = sel (ieq (dsE s) 0) (sel (ftB (dsK s) (dsWk s) (dsD s) m) (dsK s) 0) (dsK s) := by
  unfold odK odP
  simp only [sel_if, ieq_iff]
  (repeat' split) <;> rfl
theorem odW_sel (s : List UInt8) (m : Int) : odW s m = sel (ieq (dsE s) 0) (sel (ftB (dsK s) (dsWk s) (dsD s) m) (dsWk s) 0) (dsWk s) := by
  unfold odW odP
  simp only [sel_if, ieq_iff]
  (repeat' split) <;> rfl
theorem odD_sel (s : List UInt8) (m : Int) : odD s m = sel (ieq (dsE s) 0) (sel (ftB (dsK s) (dsWk s) (dsD s) m) (dsD s) 0) (dsD s) := by
  unfold odD odP
  simp only [sel_if, ieq_iff]
  (repeat' split) <;> rfl
theorem ilt_bn (a b : Int) : ilt a b = bnot (ile b a) := by
  unfold ilt ile bnot
  rw [Bool.eq_iff_iff, decide_eq_true_eq, Bool.not_eq_true', decide_eq_false_iff_not]
  omega
theorem eS1_ok : SOk eE eS1 := by
  unfold eS1
  refine SOk.cons (fun args r h => ?_) (eS0_ok)
  · unfold eNumS at h
    split at h
    · simp only [Option.some.injEq, Prod.mk.injEq] at h
      obtain ⟨hc, rfl⟩ := h
      exact eNumS_ok _ hc
    · cases h
def erO (s : List UInt8) : Int := sel (ieq (amW s) 0) (sel (ile (-54000) (amI s)) (sel (ile (amI s) 54000) 0 1) 1) (amW s)
def erE (xs : List V) : Int := sel (ilt (llen xs) 3) 5 (sel (ilt 7 (llen xs)) 6 (sel (ieq (erO (rg xs 0)) 0) (sel (ieq (rlW (rg xs 1)) 0) (sel (ieq (ckW (rg xs 2)) 0) (enE (lsub xs 3 (llen xs))) (ckW (rg xs 2))) (rlW (rg xs 1))) (erO (rg xs 0))))
def er0 (xs : List V) : Int := sel (ieq (erE xs) 0) (amI (rg xs 0)) 0
def er1 (xs : List V) : Int := sel (ieq (erE xs) 0) (rlK (rg xs 1)) 0
def er2 (xs : List V) : Int := sel (ieq (erE xs) 0) (rlS (rg xs 1)) 0
def er3 (xs : List V) : List UInt8 := sel (ieq (erE xs) 0) (rlN (rg xs 1)) []
def er4 (xs : List V) : List UInt8 := sel (ieq (erE xs) 0) (rg xs 2) []
def er5 (xs : List V) : Bool := sel (ieq (erE xs) 0) (enH (lsub xs 3 (llen xs))) false
def er6 (xs : List V) : Int := sel (ieq (erE xs) 0) (enY (lsub xs 3 (llen xs))) 0
def er7 (xs : List V) : Int := sel (ieq (erE xs) 0) (enM (lsub xs 3 (llen xs))) 0
def er8 (xs : List V) : Int := sel (ieq (erE xs) 0) (enK (lsub xs 3 (llen xs))) 0
def er9 (xs : List V) : Int := sel (ieq (erE xs) 0) (enW (lsub xs 3 (llen xs))) 0
def er10 (xs : List V) : Int := sel (ieq (erE xs) 0) (enD (lsub xs 3 (llen xs))) 0
def er11 (xs : List V) : Int := sel (ieq (erE xs) 0) (enA (lsub xs 3 (llen xs))) 0
def er12 (xs : List V) : Int := sel (ieq (erE xs) 0) (enB (lsub xs 3 (llen xs))) 0
def erV (xs : List V) : V := .tup [.agg [.int .i64 (er0 xs), .int .i64 (er1 xs), .int .i64 (er2 xs), .str (er3 xs), .str (er4 xs), .bool (er5 xs), .int .i64 (er6 xs), .int .i64 (er7 xs), .int .i64 (er8 xs), .int .i64 (er9 xs), .int .i64 (er10 xs), .int .i64 (er11 xs), .int .i64 (er12 xs)], .int .i64 (erE xs)]
def erW (xs : List V) (x0 x1 x2 : Int) (x3 x4 : List UInt8) (x5 : Bool) (x6 x7 x8 x9 x10 x11 x12 : Int) : V := .tup [.agg [.int .i64 (sel (ieq (erE xs) 0) x0 0), .int .i64 (sel (ieq (erE xs) 0) x1 0), .int .i64 (sel (ieq (erE xs) 0) x2 0), .str (sel (ieq (erE xs) 0) x3 []), .str (sel (ieq (erE xs) 0) x4 []), .bool (sel (ieq (erE xs) 0) x5 false), .int .i64 (sel (ieq (erE xs) 0) x6 0), .int .i64 (sel (ieq (erE xs) 0) x7 0), .int .i64 (sel (ieq (erE xs) 0) x8 0), .int .i64 (sel (ieq (erE xs) 0) x9 0), .int .i64 (sel (ieq (erE xs) 0) x10 0), .int .i64 (sel (ieq (erE xs) 0) x11 0), .int .i64 (sel (ieq (erE xs) 0) x12 0)], .int .i64 (erE xs)]
theorem er_yes (xs : List V) (x0 x1 x2 : Int) (x3 x4 : List UInt8) (x5 : Bool) (x6 x7 x8 x9 x10 x11 x12 : Int) (h : erE xs = 0) : erW xs x0 x1 x2 x3 x4 x5 x6 x7 x8 x9 x10 x11 x12 = .tup [.agg [.int .i64 x0, .int .i64 x1, .int .i64 x2, .str x3, .str x4, .bool x5, .int .i64 x6, .int .i64 x7, .int .i64 x8, .int .i64 x9, .int .i64 x10, .int .i64 x11, .int .i64 x12], .int .i64 0] := by
  unfold erW
  rw [h]; rfl
theorem er_no (xs : List V) {e : Int} (h : erE xs = e) (he : ieq e 0 = false) : erV xs = .tup [.agg [.int .i64 0, .int .i64 0, .int .i64 0, .str [], .str [], .bool false, .int .i64 0, .int .i64 0, .int .i64 0, .int .i64 0, .int .i64 0, .int .i64 0, .int .i64 0], .int .i64 e] := by
  unfold erV er0 er1 er2 er3 er4 er5 er6 er7 er8 er9 er10 er11 er12
  rw [h, he]; rfl
set_option maxHeartbeats 2000000 in
theorem eRead3_ev (a0 a1 a2 : List UInt8) (h0 : ile (slen a0) 900 = true) (h1 : ile (slen a1) 900 = true) (h2 : ile (slen a2) 900 = true) : Contract eE 11 [.sl 9 [.str] none [.str a0, .str a1, .str a2]] (erV [.str a0, .str a1, .str a2]) := by
  refine contract_of_body eE_ok eS1_ok 9 10 ?_
  rw [eRead3_u9_top]
  have g1 : erE [.str a0, .str a1, .str a2] = sel (ieq (erO a0) 0) (sel (ieq (rlW a1) 0) (sel (ieq (ckW a2) 0) (enE []) (ckW a2)) (rlW a1)) (erO a0) := rfl
  have gY : erV [.str a0, .str a1, .str a2] = erW [.str a0, .str a1, .str a2] (amI a0) (rlK a1) (rlS a1) (rlN a1) a2 (enH []) (enY []) (enM []) (enK []) (enW []) (enD []) (enA []) (enB []) := rfl
  have z1 : ieq 1 0 = false := rfl
  have z0 : ieq 0 0 = true := rfl
  have b0 : bnot true = false := rfl
  have b1 : bnot false = true := rfl
  have gE : enE [] = 0 := rfl
  simp only [h0, h1, h2, ilt_bn, sT]
  have hT := g1
  simp only [erO, rlW_sel, sv_sel, gE, sT, sF, z0, z1, b0, b1] at hT
  cases e0 : ieq (amW a0) 0 with
  | false => simp only [e0, sT, sF, z0, z1, b0, b1] at hT ⊢; rw [er_no _ hT e0]
  | true =>
  simp only [e0, sT, sF, z0, z1, b0, b1] at hT ⊢
  cases e1 : ile (-54000) (amI a0) with
  | false => simp only [e1, sT, sF, z0, z1, b0, b1] at hT ⊢; rw [er_no _ hT rfl]
  | true =>
  simp only [e1, sT, sF, z0, z1, b0, b1] at hT ⊢
  cases e2 : ile (amI a0) 54000 with
  | false => simp only [e2, sT, sF, z0, z1, b0, b1] at hT ⊢; rw [er_no _ hT rfl]
  | true =>
  simp only [e2, sT, sF, z0, z1, b0, b1] at hT ⊢
  cases e3 : seq a1 [45] with
  | true =>
    simp only [e3, sT, sF, z0, z1, b0, b1] at hT ⊢
    cases ec : ieq (ckW a2) 0 with
    | false => simp only [ec, sT, sF, z0, z1, b0, b1] at hT ⊢; rw [er_no _ hT ec]
    | true =>
    simp only [ec, sT, sF, z0, z1, b0, b1] at hT ⊢
    have c0 : ckW a2 = 0 := by rw [ieq_iff] at ec; exact ec
    rw [gY, er_yes _ _ _ _ _ _ _ _ _ _ _ _ _ _ (by first | exact hT | (rw [hT]; first | rfl | assumption))]
    simp only [rlK_sel, rlS_sel, rlN_sel, sv_sel, svI_sel, gE, e0, e1, e2, e3, ec, c0, sT, sF, z0, z1, b0, b1]
    rfl
  | false =>
  cases e4 : erN a1 with
  | true =>
    simp only [e3, e4, sT, sF, z0, z1, b0, b1] at hT ⊢
    cases e5 : ieq (amW a1) 0 with
    | false => simp only [e5, sT, sF, z0, z1, b0, b1] at hT ⊢; rw [er_no _ hT e5]
    | true =>
    simp only [e5, sT, sF, z0, z1, b0, b1] at hT ⊢
    cases e6 : ile (-10800) (amI a1) with
    | false => simp only [e6, sT, sF, z0, z1, b0, b1] at hT ⊢; rw [er_no _ hT rfl]
    | true =>
    simp only [e6, sT, sF, z0, z1, b0, b1] at hT ⊢
    cases e7 : ile (amI a1) 10800 with
    | false => simp only [e7, sT, sF, z0, z1, b0, b1] at hT ⊢; rw [er_no _ hT rfl]
    | true =>
    simp only [e7, sT, sF, z0, z1, b0, b1] at hT ⊢
    cases ec : ieq (ckW a2) 0 with
    | false => simp only [ec, sT, sF, z0, z1, b0, b1] at hT ⊢; rw [er_no _ hT ec]
    | true =>
    simp only [ec, sT, sF, z0, z1, b0, b1] at hT ⊢
    have c0 : ckW a2 = 0 := by rw [ieq_iff] at ec; exact ec
    rw [gY, er_yes _ _ _ _ _ _ _ _ _ _ _ _ _ _ (by first | exact hT | (rw [hT]; first | rfl | assumption))]
    simp only [rlK_sel, rlS_sel, rlN_sel, sv_sel, svI_sel, gE, e0, e1, e2, e3, e4, e5, e6, e7, ec, c0, sT, sF, z0, z1, b0, b1]
    rfl
  | false =>
  simp only [e3, e4, ile_10 h1, sT, sF, z0, z1, b0, b1] at hT ⊢
  cases e5 : ieq (nmI a1) 0 with
  | false => simp only [e5, sT, sF, z0, z1, b0, b1] at hT ⊢; rw [er_no _ hT e5]
  | true =>
  simp only [e5, sT, sF, z0, z1, b0, b1] at hT ⊢
  have q0 : nmI a1 = 0 := by rw [ieq_iff] at e5; exact e5
  cases ec : ieq (ckW a2) 0 with
  | false => simp only [ec, sT, sF, z0, z1, b0, b1] at hT ⊢; rw [er_no _ hT ec]
  | true =>
  simp only [ec, sT, sF, z0, z1, b0, b1] at hT ⊢
  have c0 : ckW a2 = 0 := by rw [ieq_iff] at ec; exact ec
  rw [gY, er_yes _ _ _ _ _ _ _ _ _ _ _ _ _ _ (by first | exact hT | (rw [hT]; first | rfl | assumption))]
  simp only [rlK_sel, rlS_sel, rlN_sel, sv_sel, svI_sel, gE, e0, e1, e2, e3, e4, e5, q0, ec, c0, sT, sF, z0, z1, b0, b1]
  rfl
set_option maxHeartbeats 2000000 in
theorem eRead4_ev (a0 a1 a2 a3 : List UInt8) (h0 : ile (slen a0) 900 = true) (h1 : ile (slen a1) 900 = true) (h2 : ile (slen a2) 900 = true) (h3 : ile (slen a3) 900 = true) : Contract eE 11 [.sl 9 [.str] none [.str a0, .str a1, .str a2, .str a3]] (erV [.str a0, .str a1, .str a2, .str a3]) := by
  refine contract_of_body eE_ok eS1_ok 9 10 ?_
  rw [eRead4_u9_top]
  have g1 : erE [.str a0, .str a1, .str a2, .str a3] = sel (ieq (erO a0) 0) (sel (ieq (rlW a1) 0) (sel (ieq (ckW a2) 0) (enE [.str a3]) (ckW a2)) (rlW a1)) (erO a0) := rfl
  have gY : erV [.str a0, .str a1, .str a2, .str a3] = erW [.str a0, .str a1, .str a2, .str a3] (amI a0) (rlK a1) (rlS a1) (rlN a1) a2 (enH [.str a3]) (enY [.str a3]) (enM [.str a3]) (enK [.str a3]) (enW [.str a3]) (enD [.str a3]) (enA [.str a3]) (enB [.str a3]) := rfl
  have z1 : ieq 1 0 = false := rfl
  have z0 : ieq 0 0 = true := rfl
  have b0 : bnot true = false := rfl
  have b1 : bnot false = true := rfl
  have r3 : rg [.str a3] 0 = a3 := rfl
  have hl : llen [.str a3] = 1 := rfl
  simp only [h0, h1, h2, h3, ilt_bn, sT]
  have hT := g1
  simp only [erO, rlW_sel, sv_sel, enE, en3, en2, en1, en0, enMo, enH, r3, hl, show ieq 1 0 = false from rfl, show ilt 1 1 = false from rfl, show ilt 2 1 = false from rfl, show ilt 3 1 = false from rfl, od_sel, sT, sF, z0, z1, b0, b1] at hT
  cases e0 : ieq (amW a0) 0 with
  | false => simp only [e0, sT, sF, z0, z1, b0, b1] at hT ⊢; rw [er_no _ hT e0]
  | true =>
  simp only [e0, sT, sF, z0, z1, b0, b1] at hT ⊢
  cases e1 : ile (-54000) (amI a0) with
  | false => simp only [e1, sT, sF, z0, z1, b0, b1] at hT ⊢; rw [er_no _ hT rfl]
  | true =>
  simp only [e1, sT, sF, z0, z1, b0, b1] at hT ⊢
  cases e2 : ile (amI a0) 54000 with
  | false => simp only [e2, sT, sF, z0, z1, b0, b1] at hT ⊢; rw [er_no _ hT rfl]
  | true =>
  simp only [e2, sT, sF, z0, z1, b0, b1] at hT ⊢
  cases e3 : seq a1 [45] with
  | true =>
    simp only [e3, sT, sF, z0, z1, b0, b1] at hT ⊢
    cases ec : ieq (ckW a2) 0 with
    | false => simp only [ec, sT, sF, z0, z1, b0, b1] at hT ⊢; rw [er_no _ hT ec]
    | true =>
    simp only [ec, sT, sF, z0, z1, b0, b1] at hT ⊢
    have c0 : ckW a2 = 0 := by rw [ieq_iff] at ec; exact ec
    cases en : ieq (nrW a3) 0 with
    | false => simp only [en, sT, sF, z0, z1, b0, b1] at hT ⊢; rw [er_no _ hT en]
    | true =>
    simp only [en, sT, sF, z0, z1, b0, b1] at hT ⊢
    cases ey : ile (nrI a3) (-32767) with
    | true => simp only [ey, sT, sF, z0, z1, b0, b1] at hT ⊢; rw [er_no _ hT rfl]
    | false =>
    simp only [ey, sT, sF, z0, z1, b0, b1] at hT ⊢
    cases ez : ile 32767 (nrI a3) with
    | true => simp only [ez, sT, sF, z0, z1, b0, b1] at hT ⊢; rw [er_no _ hT rfl]
    | false =>
    simp only [ez, sT, sF, z0, z1, b0, b1] at hT ⊢
    have n0 : nrW a3 = 0 := by rw [ieq_iff] at en; exact en
    rw [gY, er_yes _ _ _ _ _ _ _ _ _ _ _ _ _ _ (by first | exact hT | (rw [hT]; first | rfl | assumption))]
    simp only [rlK_sel, rlS_sel, rlN_sel, sv_sel, svI_sel, enY, enM, enK, enW, enD, enA, enB, enAt, enOn, odK_sel, odW_sel, odD_sel, enE, en3, en2, en1, en0, enMo, enH, r3, hl, show ieq 1 0 = false from rfl, show ilt 1 1 = false from rfl, show ilt 2 1 = false from rfl, show ilt 3 1 = false from rfl, od_sel, e0, e1, e2, e3, ec, c0, en, ey, ez, n0, sT, sF, z0, z1, b0, b1]
  | false =>
  cases e4 : erN a1 with
  | true =>
    simp only [e3, e4, sT, sF, z0, z1, b0, b1] at hT ⊢
    cases e5 : ieq (amW a1) 0 with
    | false => simp only [e5, sT, sF, z0, z1, b0, b1] at hT ⊢; rw [er_no _ hT e5]
    | true =>
    simp only [e5, sT, sF, z0, z1, b0, b1] at hT ⊢
    cases e6 : ile (-10800) (amI a1) with
    | false => simp only [e6, sT, sF, z0, z1, b0, b1] at hT ⊢; rw [er_no _ hT rfl]
    | true =>
    simp only [e6, sT, sF, z0, z1, b0, b1] at hT ⊢
    cases e7 : ile (amI a1) 10800 with
    | false => simp only [e7, sT, sF, z0, z1, b0, b1] at hT ⊢; rw [er_no _ hT rfl]
    | true =>
    simp only [e7, sT, sF, z0, z1, b0, b1] at hT ⊢
    cases ec : ieq (ckW a2) 0 with
    | false => simp only [ec, sT, sF, z0, z1, b0, b1] at hT ⊢; rw [er_no _ hT ec]
    | true =>
    simp only [ec, sT, sF, z0, z1, b0, b1] at hT ⊢
    have c0 : ckW a2 = 0 := by rw [ieq_iff] at ec; exact ec
    cases en : ieq (nrW a3) 0 with
    | false => simp only [en, sT, sF, z0, z1, b0, b1] at hT ⊢; rw [er_no _ hT en]
    | true =>
    simp only [en, sT, sF, z0, z1, b0, b1] at hT ⊢
    cases ey : ile (nrI a3) (-32767) with
    | true => simp only [ey, sT, sF, z0, z1, b0, b1] at hT ⊢; rw [er_no _ hT rfl]
    | false =>
    simp only [ey, sT, sF, z0, z1, b0, b1] at hT ⊢
    cases ez : ile 32767 (nrI a3) with
    | true => simp only [ez, sT, sF, z0, z1, b0, b1] at hT ⊢; rw [er_no _ hT rfl]
    | false =>
    simp only [ez, sT, sF, z0, z1, b0, b1] at hT ⊢
    have n0 : nrW a3 = 0 := by rw [ieq_iff] at en; exact en
    rw [gY, er_yes _ _ _ _ _ _ _ _ _ _ _ _ _ _ (by first | exact hT | (rw [hT]; first | rfl | assumption))]
    simp only [rlK_sel, rlS_sel, rlN_sel, sv_sel, svI_sel, enY, enM, enK, enW, enD, enA, enB, enAt, enOn, odK_sel, odW_sel, odD_sel, enE, en3, en2, en1, en0, enMo, enH, r3, hl, show ieq 1 0 = false from rfl, show ilt 1 1 = false from rfl, show ilt 2 1 = false from rfl, show ilt 3 1 = false from rfl, od_sel, e0, e1, e2, e3, e4, e5, e6, e7, ec, c0, en, ey, ez, n0, sT, sF, z0, z1, b0, b1]
  | false =>
  simp only [e3, e4, ile_10 h1, sT, sF, z0, z1, b0, b1] at hT ⊢
  cases e5 : ieq (nmI a1) 0 with
  | false => simp only [e5, sT, sF, z0, z1, b0, b1] at hT ⊢; rw [er_no _ hT e5]
  | true =>
  simp only [e5, sT, sF, z0, z1, b0, b1] at hT ⊢
  have q0 : nmI a1 = 0 := by rw [ieq_iff] at e5; exact e5
  cases ec : ieq (ckW a2) 0 with
  | false => simp only [ec, sT, sF, z0, z1, b0, b1] at hT ⊢; rw [er_no _ hT ec]
  | true =>
  simp only [ec, sT, sF, z0, z1, b0, b1] at hT ⊢
  have c0 : ckW a2 = 0 := by rw [ieq_iff] at ec; exact ec
  cases en : ieq (nrW a3) 0 with
  | false => simp only [en, sT, sF, z0, z1, b0, b1] at hT ⊢; rw [er_no _ hT en]
  | true =>
  simp only [en, sT, sF, z0, z1, b0, b1] at hT ⊢
  cases ey : ile (nrI a3) (-32767) with
  | true => simp only [ey, sT, sF, z0, z1, b0, b1] at hT ⊢; rw [er_no _ hT rfl]
  | false =>
  simp only [ey, sT, sF, z0, z1, b0, b1] at hT ⊢
  cases ez : ile 32767 (nrI a3) with
  | true => simp only [ez, sT, sF, z0, z1, b0, b1] at hT ⊢; rw [er_no _ hT rfl]
  | false =>
  simp only [ez, sT, sF, z0, z1, b0, b1] at hT ⊢
  have n0 : nrW a3 = 0 := by rw [ieq_iff] at en; exact en
  rw [gY, er_yes _ _ _ _ _ _ _ _ _ _ _ _ _ _ (by first | exact hT | (rw [hT]; first | rfl | assumption))]
  simp only [rlK_sel, rlS_sel, rlN_sel, sv_sel, svI_sel, enY, enM, enK, enW, enD, enA, enB, enAt, enOn, odK_sel, odW_sel, odD_sel, enE, en3, en2, en1, en0, enMo, enH, r3, hl, show ieq 1 0 = false from rfl, show ilt 1 1 = false from rfl, show ilt 2 1 = false from rfl, show ilt 3 1 = false from rfl, od_sel, e0, e1, e2, e3, e4, e5, q0, ec, c0, en, ey, ez, n0, sT, sF, z0, z1, b0, b1]
set_option maxHeartbeats 2000000 in
theorem eRead5_ev (a0 a1 a2 a3 a4 : List UInt8) (h0 : ile (slen a0) 900 = true) (h1 : ile (slen a1) 900 = true) (h2 : ile (slen a2) 900 = true) (h3 : ile (slen a3) 900 = true) (h4 : ile (slen a4) 900 = true) : Contract eE 11 [.sl 9 [.str] none [.str a0, .str a1, .str a2, .str a3, .str a4]] (erV [.str a0, .str a1, .str a2, .str a3, .str a4]) := by
  refine contract_of_body eE_ok eS1_ok 9 10 ?_
  rw [eRead5_u9_top]
  have g1 : erE [.str a0, .str a1, .str a2, .str a3, .str a4] = sel (ieq (erO a0) 0) (sel (ieq (rlW a1) 0) (sel (ieq (ckW a2) 0) (enE [.str a3, .str a4]) (ckW a2)) (rlW a1)) (erO a0) := rfl
  have gY : erV [.str a0, .str a1, .str a2, .str a3, .str a4] = erW [.str a0, .str a1, .str a2, .str a3, .str a4] (amI a0) (rlK a1) (rlS a1) (rlN a1) a2 (enH [.str a3, .str a4]) (enY [.str a3, .str a4]) (enM [.str a3, .str a4]) (enK [.str a3, .str a4]) (enW [.str a3, .str a4]) (enD [.str a3, .str a4]) (enA [.str a3, .str a4]) (enB [.str a3, .str a4]) := rfl
  have z1 : ieq 1 0 = false := rfl
  have z0 : ieq 0 0 = true := rfl
  have b0 : bnot true = false := rfl
  have b1 : bnot false = true := rfl
  have r3 : rg [.str a3, .str a4] 0 = a3 := rfl
  have r4 : rg [.str a3, .str a4] 1 = a4 := rfl
  have hl : llen [.str a3, .str a4] = 2 := rfl
  simp only [h0, h1, h2, h3, h4, ilt_bn, sT]
  have hT := g1
  simp only [erO, rlW_sel, sv_sel, enE, en3, en2, en1, en0, enMo, enH, r3, r4, hl, show ieq 2 0 = false from rfl, show ilt 1 2 = true from rfl, show ilt 2 2 = false from rfl, show ilt 3 2 = false from rfl, od_sel, sT, sF, z0, z1, b0, b1] at hT
  cases e0 : ieq (amW a0) 0 with
  | false => simp only [e0, sT, sF, z0, z1, b0, b1] at hT ⊢; rw [er_no _ hT e0]
  | true =>
  simp only [e0, sT, sF, z0, z1, b0, b1] at hT ⊢
  cases e1 : ile (-54000) (amI a0) with
  | false => simp only [e1, sT, sF, z0, z1, b0, b1] at hT ⊢; rw [er_no _ hT rfl]
  | true =>
  simp only [e1, sT, sF, z0, z1, b0, b1] at hT ⊢
  cases e2 : ile (amI a0) 54000 with
  | false => simp only [e2, sT, sF, z0, z1, b0, b1] at hT ⊢; rw [er_no _ hT rfl]
  | true =>
  simp only [e2, sT, sF, z0, z1, b0, b1] at hT ⊢
  cases e3 : seq a1 [45] with
  | true =>
    simp only [e3, sT, sF, z0, z1, b0, b1] at hT ⊢
    cases ec : ieq (ckW a2) 0 with
    | false => simp only [ec, sT, sF, z0, z1, b0, b1] at hT ⊢; rw [er_no _ hT ec]
    | true =>
    simp only [ec, sT, sF, z0, z1, b0, b1] at hT ⊢
    have c0 : ckW a2 = 0 := by rw [ieq_iff] at ec; exact ec
    cases en : ieq (nrW a3) 0 with
    | false => simp only [en, sT, sF, z0, z1, b0, b1] at hT ⊢; rw [er_no _ hT en]
    | true =>
    simp only [en, sT, sF, z0, z1, b0, b1] at hT ⊢
    cases ey : ile (nrI a3) (-32767) with
    | true => simp only [ey, sT, sF, z0, z1, b0, b1] at hT ⊢; rw [er_no _ hT rfl]
    | false =>
    simp only [ey, sT, sF, z0, z1, b0, b1] at hT ⊢
    cases ez : ile 32767 (nrI a3) with
    | true => simp only [ez, sT, sF, z0, z1, b0, b1] at hT ⊢; rw [er_no _ hT rfl]
    | false =>
    simp only [ez, sT, sF, z0, z1, b0, b1] at hT ⊢
    cases em : ieq (moW a4) 0 with
    | false => simp only [em, sT, sF, z0, z1, b0, b1] at hT ⊢; rw [er_no _ hT em]
    | true =>
    simp only [em, sT, sF, z0, z1, b0, b1] at hT ⊢
    have m0 : moW a4 = 0 := by rw [ieq_iff] at em; exact em
    have n0 : nrW a3 = 0 := by rw [ieq_iff] at en; exact en
    rw [gY, er_yes _ _ _ _ _ _ _ _ _ _ _ _ _ _ (by first | exact hT | (rw [hT]; first | rfl | assumption))]
    simp only [rlK_sel, rlS_sel, rlN_sel, sv_sel, svI_sel, enY, enM, enK, enW, enD, enA, enB, enAt, enOn, odK_sel, odW_sel, odD_sel, enE, en3, en2, en1, en0, enMo, enH, r3, r4, hl, show ieq 2 0 = false from rfl, show ilt 1 2 = true from rfl, show ilt 2 2 = false from rfl, show ilt 3 2 = false from rfl, od_sel, e0, e1, e2, e3, ec, c0, en, ey, ez, em, m0, n0, sT, sF, z0, z1, b0, b1]
  | false =>
  cases e4 : erN a1 with
  | true =>
    simp only [e3, e4, sT, sF, z0, z1, b0, b1] at hT ⊢
    cases e5 : ieq (amW a1) 0 with
    | false => simp only [e5, sT, sF, z0, z1, b0, b1] at hT ⊢; rw [er_no _ hT e5]
    | true =>
    simp only [e5, sT, sF, z0, z1, b0, b1] at hT ⊢
    cases e6 : ile (-10800) (amI a1) with
    | false => simp only [e6, sT, sF, z0, z1, b0, b1] at hT ⊢; rw [er_no _ hT rfl]
    | true =>
    simp only [e6, sT, sF, z0, z1, b0, b1] at hT ⊢
    cases e7 : ile (amI a1) 10800 with
    | false => simp only [e7, sT, sF, z0, z1, b0, b1] at hT ⊢; rw [er_no _ hT rfl]
    | true =>
    simp only [e7, sT, sF, z0, z1, b0, b1] at hT ⊢
    cases ec : ieq (ckW a2) 0 with
    | false => simp only [ec, sT, sF, z0, z1, b0, b1] at hT ⊢; rw [er_no _ hT ec]
    | true =>
    simp only [ec, sT, sF, z0, z1, b0, b1] at hT ⊢
    have c0 : ckW a2 = 0 := by rw [ieq_iff] at ec; exact ec
    cases en : ieq (nrW a3) 0 with
    | false => simp only [en, sT, sF, z0, z1, b0, b1] at hT ⊢; rw [er_no _ hT en]
    | true =>
    simp only [en, sT, sF, z0, z1, b0, b1] at hT ⊢
    cases ey : ile (nrI a3) (-32767) with
    | true => simp only [ey, sT, sF, z0, z1, b0, b1] at hT ⊢; rw [er_no _ hT rfl]
    | false =>
    simp only [ey, sT, sF, z0, z1, b0, b1] at hT ⊢
    cases ez : ile 32767 (nrI a3) with
    | true => simp only [ez, sT, sF, z0, z1, b0, b1] at hT ⊢; rw [er_no _ hT rfl]
    | false =>
    simp only [ez, sT, sF, z0, z1, b0, b1] at hT ⊢
    cases em : ieq (moW a4) 0 with
    | false => simp only [em, sT, sF, z0, z1, b0, b1] at hT ⊢; rw [er_no _ hT em]
    | true =>
    simp only [em, sT, sF, z0, z1, b0, b1] at hT ⊢
    have m0 : moW a4 = 0 := by rw [ieq_iff] at em; exact em
    have n0 : nrW a3 = 0 := by rw [ieq_iff] at en; exact en
    rw [gY, er_yes _ _ _ _ _ _ _ _ _ _ _ _ _ _ (by first | exact hT | (rw [hT]; first | rfl | assumption))]
    simp only [rlK_sel, rlS_sel, rlN_sel, sv_sel, svI_sel, enY, enM, enK, enW, enD, enA, enB, enAt, enOn, odK_sel, odW_sel, odD_sel, enE, en3, en2, en1, en0, enMo, enH, r3, r4, hl, show ieq 2 0 = false from rfl, show ilt 1 2 = true from rfl, show ilt 2 2 = false from rfl, show ilt 3 2 = false from rfl, od_sel, e0, e1, e2, e3, e4, e5, e6, e7, ec, c0, en, ey, ez, em, m0, n0, sT, sF, z0, z1, b0, b1]
  | false =>
  simp only [e3, e4, ile_10 h1, sT, sF, z0, z1, b0, b1] at hT ⊢
  cases e5 : ieq (nmI a1) 0 with
  | false => simp only [e5, sT, sF, z0, z1, b0, b1] at hT ⊢; rw [er_no _ hT e5]
  | true =>
  simp only [e5, sT, sF, z0, z1, b0, b1] at hT ⊢
  have q0 : nmI a1 = 0 := by rw [ieq_iff] at e5; exact e5
  cases ec : ieq (ckW a2) 0 with
  | false => simp only [ec, sT, sF, z0, z1, b0, b1] at hT ⊢; rw [er_no _ hT ec]
  | true =>
  simp only [ec, sT, sF, z0, z1, b0, b1] at hT ⊢
  have c0 : ckW a2 = 0 := by rw [ieq_iff] at ec; exact ec
  cases en : ieq (nrW a3) 0 with
  | false => simp only [en, sT, sF, z0, z1, b0, b1] at hT ⊢; rw [er_no _ hT en]
  | true =>
  simp only [en, sT, sF, z0, z1, b0, b1] at hT ⊢
  cases ey : ile (nrI a3) (-32767) with
  | true => simp only [ey, sT, sF, z0, z1, b0, b1] at hT ⊢; rw [er_no _ hT rfl]
  | false =>
  simp only [ey, sT, sF, z0, z1, b0, b1] at hT ⊢
  cases ez : ile 32767 (nrI a3) with
  | true => simp only [ez, sT, sF, z0, z1, b0, b1] at hT ⊢; rw [er_no _ hT rfl]
  | false =>
  simp only [ez, sT, sF, z0, z1, b0, b1] at hT ⊢
  cases em : ieq (moW a4) 0 with
  | false => simp only [em, sT, sF, z0, z1, b0, b1] at hT ⊢; rw [er_no _ hT em]
  | true =>
  simp only [em, sT, sF, z0, z1, b0, b1] at hT ⊢
  have m0 : moW a4 = 0 := by rw [ieq_iff] at em; exact em
  have n0 : nrW a3 = 0 := by rw [ieq_iff] at en; exact en
  rw [gY, er_yes _ _ _ _ _ _ _ _ _ _ _ _ _ _ (by first | exact hT | (rw [hT]; first | rfl | assumption))]
  simp only [rlK_sel, rlS_sel, rlN_sel, sv_sel, svI_sel, enY, enM, enK, enW, enD, enA, enB, enAt, enOn, odK_sel, odW_sel, odD_sel, enE, en3, en2, en1, en0, enMo, enH, r3, r4, hl, show ieq 2 0 = false from rfl, show ilt 1 2 = true from rfl, show ilt 2 2 = false from rfl, show ilt 3 2 = false from rfl, od_sel, e0, e1, e2, e3, e4, e5, q0, ec, c0, en, ey, ez, em, m0, n0, sT, sF, z0, z1, b0, b1]
set_option maxHeartbeats 2000000 in
theorem eRead6_ev (a0 a1 a2 a3 a4 a5 : List UInt8) (h0 : ile (slen a0) 900 = true) (h1 : ile (slen a1) 900 = true) (h2 : ile (slen a2) 900 = true) (h3 : ile (slen a3) 900 = true) (h4 : ile (slen a4) 900 = true) (h5 : ile (slen a5) 900 = true) : Contract eE 11 [.sl 9 [.str] none [.str a0, .str a1, .str a2, .str a3, .str a4, .str a5]] (erV [.str a0, .str a1, .str a2, .str a3, .str a4, .str a5]) := by
  refine contract_of_body eE_ok eS1_ok 9 10 ?_
  rw [eRead6_u9_top]
  have g1 : erE [.str a0, .str a1, .str a2, .str a3, .str a4, .str a5] = sel (ieq (erO a0) 0) (sel (ieq (rlW a1) 0) (sel (ieq (ckW a2) 0) (enE [.str a3, .str a4, .str a5]) (ckW a2)) (rlW a1)) (erO a0) := rfl
  have gY : erV [.str a0, .str a1, .str a2, .str a3, .str a4, .str a5] = erW [.str a0, .str a1, .str a2, .str a3, .str a4, .str a5] (amI a0) (rlK a1) (rlS a1) (rlN a1) a2 (enH [.str a3, .str a4, .str a5]) (enY [.str a3, .str a4, .str a5]) (enM [.str a3, .str a4, .str a5]) (enK [.str a3, .str a4, .str a5]) (enW [.str a3, .str a4, .str a5]) (enD [.str a3, .str a4, .str a5]) (enA [.str a3, .str a4, .str a5]) (enB [.str a3, .str a4, .str a5]) := rfl
  have z1 : ieq 1 0 = false := rfl
  have z0 : ieq 0 0 = true := rfl
  have b0 : bnot true = false := rfl
  have b1 : bnot false = true := rfl
  have r3 : rg [.str a3, .str a4, .str a5] 0 = a3 := rfl
  have r4 : rg [.str a3, .str a4, .str a5] 1 = a4 := rfl
  have r5 : rg [.str a3, .str a4, .str a5] 2 = a5 := rfl
  have hl : llen [.str a3, .str a4, .str a5] = 3 := rfl
  simp only [h0, h1, h2, h3, h4, h5, ilt_bn, sT]
  have hT := g1
  simp only [erO, rlW_sel, sv_sel, enE, en3, en2, en1, en0, enMo, enH, r3, r4, r5, hl, show ieq 3 0 = false from rfl, show ilt 1 3 = true from rfl, show ilt 2 3 = true from rfl, show ilt 3 3 = false from rfl, od_sel, sT, sF, z0, z1, b0, b1] at hT
  cases e0 : ieq (amW a0) 0 with
  | false => simp only [e0, sT, sF, z0, z1, b0, b1] at hT ⊢; rw [er_no _ hT e0]
  | true =>
  simp only [e0, sT, sF, z0, z1, b0, b1] at hT ⊢
  cases e1 : ile (-54000) (amI a0) with
  | false => simp only [e1, sT, sF, z0, z1, b0, b1] at hT ⊢; rw [er_no _ hT rfl]
  | true =>
  simp only [e1, sT, sF, z0, z1, b0, b1] at hT ⊢
  cases e2 : ile (amI a0) 54000 with
  | false => simp only [e2, sT, sF, z0, z1, b0, b1] at hT ⊢; rw [er_no _ hT rfl]
  | true =>
  simp only [e2, sT, sF, z0, z1, b0, b1] at hT ⊢
  cases e3 : seq a1 [45] with
  | true =>
    simp only [e3, sT, sF, z0, z1, b0, b1] at hT ⊢
    cases ec : ieq (ckW a2) 0 with
    | false => simp only [ec, sT, sF, z0, z1, b0, b1] at hT ⊢; rw [er_no _ hT ec]
    | true =>
    simp only [ec, sT, sF, z0, z1, b0, b1] at hT ⊢
    have c0 : ckW a2 = 0 := by rw [ieq_iff] at ec; exact ec
    cases en : ieq (nrW a3) 0 with
    | false => simp only [en, sT, sF, z0, z1, b0, b1] at hT ⊢; rw [er_no _ hT en]
    | true =>
    simp only [en, sT, sF, z0, z1, b0, b1] at hT ⊢
    cases ey : ile (nrI a3) (-32767) with
    | true => simp only [ey, sT, sF, z0, z1, b0, b1] at hT ⊢; rw [er_no _ hT rfl]
    | false =>
    simp only [ey, sT, sF, z0, z1, b0, b1] at hT ⊢
    cases ez : ile 32767 (nrI a3) with
    | true => simp only [ez, sT, sF, z0, z1, b0, b1] at hT ⊢; rw [er_no _ hT rfl]
    | false =>
    simp only [ez, sT, sF, z0, z1, b0, b1] at hT ⊢
    cases em : ieq (moW a4) 0 with
    | false => simp only [em, sT, sF, z0, z1, b0, b1] at hT ⊢; rw [er_no _ hT em]
    | true =>
    simp only [em, sT, sF, z0, z1, b0, b1] at hT ⊢
    cases ed : ieq (dsE a5) 0 with
    | false => simp only [ed, sT, sF, z0, z1, b0, b1] at hT ⊢; rw [er_no _ hT ed]
    | true =>
    simp only [ed, sT, sF, z0, z1, b0, b1] at hT ⊢
    cases ef : ftB (dsK a5) (dsWk a5) (dsD a5) (moI a4) with
    | false => simp only [ef, sT, sF, z0, z1, b0, b1] at hT ⊢; rw [er_no _ hT rfl]
    | true =>
    simp only [ef, sT, sF, z0, z1, b0, b1] at hT ⊢
    have m0 : moW a4 = 0 := by rw [ieq_iff] at em; exact em
    have n0 : nrW a3 = 0 := by rw [ieq_iff] at en; exact en
    rw [gY, er_yes _ _ _ _ _ _ _ _ _ _ _ _ _ _ (by first | exact hT | (rw [hT]; first | rfl | assumption))]
    simp only [rlK_sel, rlS_sel, rlN_sel, sv_sel, svI_sel, enY, enM, enK, enW, enD, enA, enB, enAt, enOn, odK_sel, odW_sel, odD_sel, enE, en3, en2, en1, en0, enMo, enH, r3, r4, r5, hl, show ieq 3 0 = false from rfl, show ilt 1 3 = true from rfl, show ilt 2 3 = true from rfl, show ilt 3 3 = false from rfl, od_sel, e0, e1, e2, e3, ec, c0, en, ey, ez, em, ed, ef, m0, n0, sT, sF, z0, z1, b0, b1]
  | false =>
  cases e4 : erN a1 with
  | true =>
    simp only [e3, e4, sT, sF, z0, z1, b0, b1] at hT ⊢
    cases e5 : ieq (amW a1) 0 with
    | false => simp only [e5, sT, sF, z0, z1, b0, b1] at hT ⊢; rw [er_no _ hT e5]
    | true =>
    simp only [e5, sT, sF, z0, z1, b0, b1] at hT ⊢
    cases e6 : ile (-10800) (amI a1) with
    | false => simp only [e6, sT, sF, z0, z1, b0, b1] at hT ⊢; rw [er_no _ hT rfl]
    | true =>
    simp only [e6, sT, sF, z0, z1, b0, b1] at hT ⊢
    cases e7 : ile (amI a1) 10800 with
    | false => simp only [e7, sT, sF, z0, z1, b0, b1] at hT ⊢; rw [er_no _ hT rfl]
    | true =>
    simp only [e7, sT, sF, z0, z1, b0, b1] at hT ⊢
    cases ec : ieq (ckW a2) 0 with
    | false => simp only [ec, sT, sF, z0, z1, b0, b1] at hT ⊢; rw [er_no _ hT ec]
    | true =>
    simp only [ec, sT, sF, z0, z1, b0, b1] at hT ⊢
    have c0 : ckW a2 = 0 := by rw [ieq_iff] at ec; exact ec
    cases en : ieq (nrW a3) 0 with
    | false => simp only [en, sT, sF, z0, z1, b0, b1] at hT ⊢; rw [er_no _ hT en]
    | true =>
    simp only [en, sT, sF, z0, z1, b0, b1] at hT ⊢
    cases ey : ile (nrI a3) (-32767) with
    | true => simp only [ey, sT, sF, z0, z1, b0, b1] at hT ⊢; rw [er_no _ hT rfl]
    | false =>
    simp only [ey, sT, sF, z0, z1, b0, b1] at hT ⊢
    cases ez : ile 32767 (nrI a3) with
    | true => simp only [ez, sT, sF, z0, z1, b0, b1] at hT ⊢; rw [er_no _ hT rfl]
    | false =>
    simp only [ez, sT, sF, z0, z1, b0, b1] at hT ⊢
    cases em : ieq (moW a4) 0 with
    | false => simp only [em, sT, sF, z0, z1, b0, b1] at hT ⊢; rw [er_no _ hT em]
    | true =>
    simp only [em, sT, sF, z0, z1, b0, b1] at hT ⊢
    cases ed : ieq (dsE a5) 0 with
    | false => simp only [ed, sT, sF, z0, z1, b0, b1] at hT ⊢; rw [er_no _ hT ed]
    | true =>
    simp only [ed, sT, sF, z0, z1, b0, b1] at hT ⊢
    cases ef : ftB (dsK a5) (dsWk a5) (dsD a5) (moI a4) with
    | false => simp only [ef, sT, sF, z0, z1, b0, b1] at hT ⊢; rw [er_no _ hT rfl]
    | true =>
    simp only [ef, sT, sF, z0, z1, b0, b1] at hT ⊢
    have m0 : moW a4 = 0 := by rw [ieq_iff] at em; exact em
    have n0 : nrW a3 = 0 := by rw [ieq_iff] at en; exact en
    rw [gY, er_yes _ _ _ _ _ _ _ _ _ _ _ _ _ _ (by first | exact hT | (rw [hT]; first | rfl | assumption))]
    simp only [rlK_sel, rlS_sel, rlN_sel, sv_sel, svI_sel, enY, enM, enK, enW, enD, enA, enB, enAt, enOn, odK_sel, odW_sel, odD_sel, enE, en3, en2, en1, en0, enMo, enH, r3, r4, r5, hl, show ieq 3 0 = false from rfl, show ilt 1 3 = true from rfl, show ilt 2 3 = true from rfl, show ilt 3 3 = false from rfl, od_sel, e0, e1, e2, e3, e4, e5, e6, e7, ec, c0, en, ey, ez, em, ed, ef, m0, n0, sT, sF, z0, z1, b0, b1]
  | false =>
  simp only [e3, e4, ile_10 h1, sT, sF, z0, z1, b0, b1] at hT ⊢
  cases e5 : ieq (nmI a1) 0 with
  | false => simp only [e5, sT, sF, z0, z1, b0, b1] at hT ⊢; rw [er_no _ hT e5]
  | true =>
  simp only [e5, sT, sF, z0, z1, b0, b1] at hT ⊢
  have q0 : nmI a1 = 0 := by rw [ieq_iff] at e5; exact e5
  cases ec : ieq (ckW a2) 0 with
  | false => simp only [ec, sT, sF, z0, z1, b0, b1] at hT ⊢; rw [er_no _ hT ec]
  | true =>
  simp only [ec, sT, sF, z0, z1, b0, b1] at hT ⊢
  have c0 : ckW a2 = 0 := by rw [ieq_iff] at ec; exact ec
  cases en : ieq (nrW a3) 0 with
  | false => simp only [en, sT, sF, z0, z1, b0, b1] at hT ⊢; rw [er_no _ hT en]
  | true =>
  simp only [en, sT, sF, z0, z1, b0, b1] at hT ⊢
  cases ey : ile (nrI a3) (-32767) with
  | true => simp only [ey, sT, sF, z0, z1, b0, b1] at hT ⊢; rw [er_no _ hT rfl]
  | false =>
  simp only [ey, sT, sF, z0, z1, b0, b1] at hT ⊢
  cases ez : ile 32767 (nrI a3) with
  | true => simp only [ez, sT, sF, z0, z1, b0, b1] at hT ⊢; rw [er_no _ hT rfl]
  | false =>
  simp only [ez, sT, sF, z0, z1, b0, b1] at hT ⊢
  cases em : ieq (moW a4) 0 with
  | false => simp only [em, sT, sF, z0, z1, b0, b1] at hT ⊢; rw [er_no _ hT em]
  | true =>
  simp only [em, sT, sF, z0, z1, b0, b1] at hT ⊢
  cases ed : ieq (dsE a5) 0 with
  | false => simp only [ed, sT, sF, z0, z1, b0, b1] at hT ⊢; rw [er_no _ hT ed]
  | true =>
  simp only [ed, sT, sF, z0, z1, b0, b1] at hT ⊢
  cases ef : ftB (dsK a5) (dsWk a5) (dsD a5) (moI a4) with
  | false => simp only [ef, sT, sF, z0, z1, b0, b1] at hT ⊢; rw [er_no _ hT rfl]
  | true =>
  simp only [ef, sT, sF, z0, z1, b0, b1] at hT ⊢
  have m0 : moW a4 = 0 := by rw [ieq_iff] at em; exact em
  have n0 : nrW a3 = 0 := by rw [ieq_iff] at en; exact en
  rw [gY, er_yes _ _ _ _ _ _ _ _ _ _ _ _ _ _ (by first | exact hT | (rw [hT]; first | rfl | assumption))]
  simp only [rlK_sel, rlS_sel, rlN_sel, sv_sel, svI_sel, enY, enM, enK, enW, enD, enA, enB, enAt, enOn, odK_sel, odW_sel, odD_sel, enE, en3, en2, en1, en0, enMo, enH, r3, r4, r5, hl, show ieq 3 0 = false from rfl, show ilt 1 3 = true from rfl, show ilt 2 3 = true from rfl, show ilt 3 3 = false from rfl, od_sel, e0, e1, e2, e3, e4, e5, q0, ec, c0, en, ey, ez, em, ed, ef, m0, n0, sT, sF, z0, z1, b0, b1]
set_option maxHeartbeats 2000000 in
theorem eRead7_ev (a0 a1 a2 a3 a4 a5 a6 : List UInt8) (h0 : ile (slen a0) 900 = true) (h1 : ile (slen a1) 900 = true) (h2 : ile (slen a2) 900 = true) (h3 : ile (slen a3) 900 = true) (h4 : ile (slen a4) 900 = true) (h5 : ile (slen a5) 900 = true) (h6 : ile (slen a6) 900 = true) : Contract eE 11 [.sl 9 [.str] none [.str a0, .str a1, .str a2, .str a3, .str a4, .str a5, .str a6]] (erV [.str a0, .str a1, .str a2, .str a3, .str a4, .str a5, .str a6]) := by
  refine contract_of_body eE_ok eS1_ok 9 10 ?_
  rw [eRead7_u9_top]
  have g1 : erE [.str a0, .str a1, .str a2, .str a3, .str a4, .str a5, .str a6] = sel (ieq (erO a0) 0) (sel (ieq (rlW a1) 0) (sel (ieq (ckW a2) 0) (enE [.str a3, .str a4, .str a5, .str a6]) (ckW a2)) (rlW a1)) (erO a0) := rfl
  have gY : erV [.str a0, .str a1, .str a2, .str a3, .str a4, .str a5, .str a6] = erW [.str a0, .str a1, .str a2, .str a3, .str a4, .str a5, .str a6] (amI a0) (rlK a1) (rlS a1) (rlN a1) a2 (enH [.str a3, .str a4, .str a5, .str a6]) (enY [.str a3, .str a4, .str a5, .str a6]) (enM [.str a3, .str a4, .str a5, .str a6]) (enK [.str a3, .str a4, .str a5, .str a6]) (enW [.str a3, .str a4, .str a5, .str a6]) (enD [.str a3, .str a4, .str a5, .str a6]) (enA [.str a3, .str a4, .str a5, .str a6]) (enB [.str a3, .str a4, .str a5, .str a6]) := rfl
  have z1 : ieq 1 0 = false := rfl
  have z0 : ieq 0 0 = true := rfl
  have b0 : bnot true = false := rfl
  have b1 : bnot false = true := rfl
  have r3 : rg [.str a3, .str a4, .str a5, .str a6] 0 = a3 := rfl
  have r4 : rg [.str a3, .str a4, .str a5, .str a6] 1 = a4 := rfl
  have r5 : rg [.str a3, .str a4, .str a5, .str a6] 2 = a5 := rfl
  have r6 : rg [.str a3, .str a4, .str a5, .str a6] 3 = a6 := rfl
  have hl : llen [.str a3, .str a4, .str a5, .str a6] = 4 := rfl
  simp only [h0, h1, h2, h3, h4, h5, h6, ilt_bn, sT]
  have hT := g1
  simp only [erO, rlW_sel, sv_sel, enE, en3, en2, en1, en0, enMo, enH, r3, r4, r5, r6, hl, show ieq 4 0 = false from rfl, show ilt 1 4 = true from rfl, show ilt 2 4 = true from rfl, show ilt 3 4 = true from rfl, od_sel, sT, sF, z0, z1, b0, b1] at hT
  cases e0 : ieq (amW a0) 0 with
  | false => simp only [e0, sT, sF, z0, z1, b0, b1] at hT ⊢; rw [er_no _ hT e0]
  | true =>
  simp only [e0, sT, sF, z0, z1, b0, b1] at hT ⊢
  cases e1 : ile (-54000) (amI a0) with
  | false => simp only [e1, sT, sF, z0, z1, b0, b1] at hT ⊢; rw [er_no _ hT rfl]
  | true =>
  simp only [e1, sT, sF, z0, z1, b0, b1] at hT ⊢
  cases e2 : ile (amI a0) 54000 with
  | false => simp only [e2, sT, sF, z0, z1, b0, b1] at hT ⊢; rw [er_no _ hT rfl]
  | true =>
  simp only [e2, sT, sF, z0, z1, b0, b1] at hT ⊢
  cases e3 : seq a1 [45] with
  | true =>
    simp only [e3, sT, sF, z0, z1, b0, b1] at hT ⊢
    cases ec : ieq (ckW a2) 0 with
    | false => simp only [ec, sT, sF, z0, z1, b0, b1] at hT ⊢; rw [er_no _ hT ec]
    | true =>
    simp only [ec, sT, sF, z0, z1, b0, b1] at hT ⊢
    have c0 : ckW a2 = 0 := by rw [ieq_iff] at ec; exact ec
    cases en : ieq (nrW a3) 0 with
    | false => simp only [en, sT, sF, z0, z1, b0, b1] at hT ⊢; rw [er_no _ hT en]
    | true =>
    simp only [en, sT, sF, z0, z1, b0, b1] at hT ⊢
    cases ey : ile (nrI a3) (-32767) with
    | true => simp only [ey, sT, sF, z0, z1, b0, b1] at hT ⊢; rw [er_no _ hT rfl]
    | false =>
    simp only [ey, sT, sF, z0, z1, b0, b1] at hT ⊢
    cases ez : ile 32767 (nrI a3) with
    | true => simp only [ez, sT, sF, z0, z1, b0, b1] at hT ⊢; rw [er_no _ hT rfl]
    | false =>
    simp only [ez, sT, sF, z0, z1, b0, b1] at hT ⊢
    cases em : ieq (moW a4) 0 with
    | false => simp only [em, sT, sF, z0, z1, b0, b1] at hT ⊢; rw [er_no _ hT em]
    | true =>
    simp only [em, sT, sF, z0, z1, b0, b1] at hT ⊢
    cases ed : ieq (dsE a5) 0 with
    | false => simp only [ed, sT, sF, z0, z1, b0, b1] at hT ⊢; rw [er_no _ hT ed]
    | true =>
    simp only [ed, sT, sF, z0, z1, b0, b1] at hT ⊢
    cases ef : ftB (dsK a5) (dsWk a5) (dsD a5) (moI a4) with
    | false => simp only [ef, sT, sF, z0, z1, b0, b1] at hT ⊢; rw [er_no _ hT rfl]
    | true =>
    simp only [ef, sT, sF, z0, z1, b0, b1] at hT ⊢
    cases ek : ieq (ckE a6) 0 with
    | false => simp only [ek, sT, sF, z0, z1, b0, b1] at hT ⊢; rw [er_no _ hT ek]
    | true =>
    simp only [ek, sT, sF, z0, z1, b0, b1] at hT ⊢
    have k0 : ckE a6 = 0 := by rw [ieq_iff] at ek; exact ek
    have m0 : moW a4 = 0 := by rw [ieq_iff] at em; exact em
    have n0 : nrW a3 = 0 := by rw [ieq_iff] at en; exact en
    rw [gY, er_yes _ _ _ _ _ _ _ _ _ _ _ _ _ _ (by first | exact hT | (rw [hT]; first | rfl | assumption))]
    simp only [rlK_sel, rlS_sel, rlN_sel, sv_sel, svI_sel, enY, enM, enK, enW, enD, enA, enB, enAt, enOn, odK_sel, odW_sel, odD_sel, enE, en3, en2, en1, en0, enMo, enH, r3, r4, r5, r6, hl, show ieq 4 0 = false from rfl, show ilt 1 4 = true from rfl, show ilt 2 4 = true from rfl, show ilt 3 4 = true from rfl, od_sel, e0, e1, e2, e3, ec, c0, en, ey, ez, em, ed, ef, ek, k0, m0, n0, sT, sF, z0, z1, b0, b1]
  | false =>
  cases e4 : erN a1 with
  | true =>
    simp only [e3, e4, sT, sF, z0, z1, b0, b1] at hT ⊢
    cases e5 : ieq (amW a1) 0 with
    | false => simp only [e5, sT, sF, z0, z1, b0, b1] at hT ⊢; rw [er_no _ hT e5]
    | true =>
    simp only [e5, sT, sF, z0, z1, b0, b1] at hT ⊢
    cases e6 : ile (-10800) (amI a1) with
    | false => simp only [e6, sT, sF, z0, z1, b0, b1] at hT ⊢; rw [er_no _ hT rfl]
    | true =>
    simp only [e6, sT, sF, z0, z1, b0, b1] at hT ⊢
    cases e7 : ile (amI a1) 10800 with
    | false => simp only [e7, sT, sF, z0, z1, b0, b1] at hT ⊢; rw [er_no _ hT rfl]
    | true =>
    simp only [e7, sT, sF, z0, z1, b0, b1] at hT ⊢
    cases ec : ieq (ckW a2) 0 with
    | false => simp only [ec, sT, sF, z0, z1, b0, b1] at hT ⊢; rw [er_no _ hT ec]
    | true =>
    simp only [ec, sT, sF, z0, z1, b0, b1] at hT ⊢
    have c0 : ckW a2 = 0 := by rw [ieq_iff] at ec; exact ec
    cases en : ieq (nrW a3) 0 with
    | false => simp only [en, sT, sF, z0, z1, b0, b1] at hT ⊢; rw [er_no _ hT en]
    | true =>
    simp only [en, sT, sF, z0, z1, b0, b1] at hT ⊢
    cases ey : ile (nrI a3) (-32767) with
    | true => simp only [ey, sT, sF, z0, z1, b0, b1] at hT ⊢; rw [er_no _ hT rfl]
    | false =>
    simp only [ey, sT, sF, z0, z1, b0, b1] at hT ⊢
    cases ez : ile 32767 (nrI a3) with
    | true => simp only [ez, sT, sF, z0, z1, b0, b1] at hT ⊢; rw [er_no _ hT rfl]
    | false =>
    simp only [ez, sT, sF, z0, z1, b0, b1] at hT ⊢
    cases em : ieq (moW a4) 0 with
    | false => simp only [em, sT, sF, z0, z1, b0, b1] at hT ⊢; rw [er_no _ hT em]
    | true =>
    simp only [em, sT, sF, z0, z1, b0, b1] at hT ⊢
    cases ed : ieq (dsE a5) 0 with
    | false => simp only [ed, sT, sF, z0, z1, b0, b1] at hT ⊢; rw [er_no _ hT ed]
    | true =>
    simp only [ed, sT, sF, z0, z1, b0, b1] at hT ⊢
    cases ef : ftB (dsK a5) (dsWk a5) (dsD a5) (moI a4) with
    | false => simp only [ef, sT, sF, z0, z1, b0, b1] at hT ⊢; rw [er_no _ hT rfl]
    | true =>
    simp only [ef, sT, sF, z0, z1, b0, b1] at hT ⊢
    cases ek : ieq (ckE a6) 0 with
    | false => simp only [ek, sT, sF, z0, z1, b0, b1] at hT ⊢; rw [er_no _ hT ek]
    | true =>
    simp only [ek, sT, sF, z0, z1, b0, b1] at hT ⊢
    have k0 : ckE a6 = 0 := by rw [ieq_iff] at ek; exact ek
    have m0 : moW a4 = 0 := by rw [ieq_iff] at em; exact em
    have n0 : nrW a3 = 0 := by rw [ieq_iff] at en; exact en
    rw [gY, er_yes _ _ _ _ _ _ _ _ _ _ _ _ _ _ (by first | exact hT | (rw [hT]; first | rfl | assumption))]
    simp only [rlK_sel, rlS_sel, rlN_sel, sv_sel, svI_sel, enY, enM, enK, enW, enD, enA, enB, enAt, enOn, odK_sel, odW_sel, odD_sel, enE, en3, en2, en1, en0, enMo, enH, r3, r4, r5, r6, hl, show ieq 4 0 = false from rfl, show ilt 1 4 = true from rfl, show ilt 2 4 = true from rfl, show ilt 3 4 = true from rfl, od_sel, e0, e1, e2, e3, e4, e5, e6, e7, ec, c0, en, ey, ez, em, ed, ef, ek, k0, m0, n0, sT, sF, z0, z1, b0, b1]
  | false =>
  simp only [e3, e4, ile_10 h1, sT, sF, z0, z1, b0, b1] at hT ⊢
  cases e5 : ieq (nmI a1) 0 with
  | false => simp only [e5, sT, sF, z0, z1, b0, b1] at hT ⊢; rw [er_no _ hT e5]
  | true =>
  simp only [e5, sT, sF, z0, z1, b0, b1] at hT ⊢
  have q0 : nmI a1 = 0 := by rw [ieq_iff] at e5; exact e5
  cases ec : ieq (ckW a2) 0 with
  | false => simp only [ec, sT, sF, z0, z1, b0, b1] at hT ⊢; rw [er_no _ hT ec]
  | true =>
  simp only [ec, sT, sF, z0, z1, b0, b1] at hT ⊢
  have c0 : ckW a2 = 0 := by rw [ieq_iff] at ec; exact ec
  cases en : ieq (nrW a3) 0 with
  | false => simp only [en, sT, sF, z0, z1, b0, b1] at hT ⊢; rw [er_no _ hT en]
  | true =>
  simp only [en, sT, sF, z0, z1, b0, b1] at hT ⊢
  cases ey : ile (nrI a3) (-32767) with
  | true => simp only [ey, sT, sF, z0, z1, b0, b1] at hT ⊢; rw [er_no _ hT rfl]
  | false =>
  simp only [ey, sT, sF, z0, z1, b0, b1] at hT ⊢
  cases ez : ile 32767 (nrI a3) with
  | true => simp only [ez, sT, sF, z0, z1, b0, b1] at hT ⊢; rw [er_no _ hT rfl]
  | false =>
  simp only [ez, sT, sF, z0, z1, b0, b1] at hT ⊢
  cases em : ieq (moW a4) 0 with
  | false => simp only [em, sT, sF, z0, z1, b0, b1] at hT ⊢; rw [er_no _ hT em]
  | true =>
  simp only [em, sT, sF, z0, z1, b0, b1] at hT ⊢
  cases ed : ieq (dsE a5) 0 with
  | false => simp only [ed, sT, sF, z0, z1, b0, b1] at hT ⊢; rw [er_no _ hT ed]
  | true =>
  simp only [ed, sT, sF, z0, z1, b0, b1] at hT ⊢
  cases ef : ftB (dsK a5) (dsWk a5) (dsD a5) (moI a4) with
  | false => simp only [ef, sT, sF, z0, z1, b0, b1] at hT ⊢; rw [er_no _ hT rfl]
  | true =>
  simp only [ef, sT, sF, z0, z1, b0, b1] at hT ⊢
  cases ek : ieq (ckE a6) 0 with
  | false => simp only [ek, sT, sF, z0, z1, b0, b1] at hT ⊢; rw [er_no _ hT ek]
  | true =>
  simp only [ek, sT, sF, z0, z1, b0, b1] at hT ⊢
  have k0 : ckE a6 = 0 := by rw [ieq_iff] at ek; exact ek
  have m0 : moW a4 = 0 := by rw [ieq_iff] at em; exact em
  have n0 : nrW a3 = 0 := by rw [ieq_iff] at en; exact en
  rw [gY, er_yes _ _ _ _ _ _ _ _ _ _ _ _ _ _ (by first | exact hT | (rw [hT]; first | rfl | assumption))]
  simp only [rlK_sel, rlS_sel, rlN_sel, sv_sel, svI_sel, enY, enM, enK, enW, enD, enA, enB, enAt, enOn, odK_sel, odW_sel, odD_sel, enE, en3, en2, en1, en0, enMo, enH, r3, r4, r5, r6, hl, show ieq 4 0 = false from rfl, show ilt 1 4 = true from rfl, show ilt 2 4 = true from rfl, show ilt 3 4 = true from rfl, od_sel, e0, e1, e2, e3, e4, e5, q0, ec, c0, en, ey, ez, em, ed, ef, ek, k0, m0, n0, sT, sF, z0, z1, b0, b1]
theorem eRead22_ev (xs : List V) (h : allS xs = true) : Contract eE 11 [.sl 9 [.str] none xs] (erV xs) := by
  by_cases h1 : llen xs < 3
  · refine contract_of_body eE_ok eSn_ok 5 10 ?_
    rw [eRead_top, sel_pos (by first | exact ilt_t h1 | (rw [bnot_iff, ile_iff]; omega)), er_no xs (e := 5) (by unfold erE; rw [ilt_t h1]; rfl) rfl]
  by_cases h2 : 7 < llen xs
  · refine contract_of_body eE_ok eSn_ok 5 10 ?_
    rw [eRead_top, sel_neg (by first | exact ilt_f (by omega) | (rw [ile_t (show 3 ≤ llen xs by omega)]; rfl)), sel_pos (by first | exact ilt_t h2 | (rw [bnot_iff, ile_iff]; omega)), er_no xs (e := 6) (by unfold erE; rw [ilt_f (by omega), ilt_t h2]; rfl) rfl]
  obtain ⟨l, rfl, ha⟩ := allS_strs xs h
  rw [llen_nat, List.length_map] at h1 h2
  match l, h1, h2, ha with
  | [], h1, _, _ => exact absurd h1 (by simp)
  | [_], h1, _, _ => exact absurd h1 (by simp)
  | [_, _], h1, _, _ => exact absurd h1 (by simp)
  | [a0, a1, a2], _, _, ha => exact eRead3_ev a0 a1 a2 (ha _ (by simp)) (ha _ (by simp)) (ha _ (by simp))
  | [a0, a1, a2, a3], _, _, ha => exact eRead4_ev a0 a1 a2 a3 (ha _ (by simp)) (ha _ (by simp)) (ha _ (by simp)) (ha _ (by simp))
  | [a0, a1, a2, a3, a4], _, _, ha => exact eRead5_ev a0 a1 a2 a3 a4 (ha _ (by simp)) (ha _ (by simp)) (ha _ (by simp)) (ha _ (by simp)) (ha _ (by simp))
  | [a0, a1, a2, a3, a4, a5], _, _, ha => exact eRead6_ev a0 a1 a2 a3 a4 a5 (ha _ (by simp)) (ha _ (by simp)) (ha _ (by simp)) (ha _ (by simp)) (ha _ (by simp)) (ha _ (by simp))
  | [a0, a1, a2, a3, a4, a5, a6], _, _, ha => exact eRead7_ev a0 a1 a2 a3 a4 a5 a6 (ha _ (by simp)) (ha _ (by simp)) (ha _ (by simp)) (ha _ (by simp)) (ha _ (by simp)) (ha _ (by simp)) (ha _ (by simp))
  | _ :: _ :: _ :: _ :: _ :: _ :: _ :: _ :: _, _, h2, _ => exact absurd h2 (by simp; omega)
def enR (h : Bool) (y m ok ow od c b : Int) : Bool := sel h (ilt (-32767) y && (ilt y 32767 && (ftB ok ow od m && rightC c b))) (band (ieq y 0) (band (ieq m 0) (band (band (ieq ok 0) (band (ieq ow 0) (ieq od 0))) (band (ieq c 0) (ieq b 0)))))
def erR (o k v : Int) (r q : List UInt8) (h : Bool) (y m ok ow od c b : Int) : Bool := ile (-54000) o && (ile o 54000 && (ieq (ckW q) 0 && (enR h y m ok ow od c b && sel (ieq k 0) (ieq v 0 && seq r []) (sel (ieq k 1) (ile (-10800) v && (ile v 10800 && seq r [])) (sel (ieq k 2) (ieq v 0 && ieq (nmI r) 0) false)))))
end Nt.Ev.YtpmemdamcadbgaaGreatDoor

set_option linter.unusedVariables false
set_option linter.unusedSimpArgs false
set_option linter.unusedSectionVars false
namespace Nt.Ev.YtpmemdamcadbgaaGreatDoor
open Go Nt.Num Go.Proofs.YtpmemdamcadbgaaGreatDoor
variable [MLen]
open Nt.Civil
end Nt.Ev.YtpmemdamcadbgaaGreatDoor

set_option linter.unusedVariables false
set_option linter.unusedSimpArgs false
set_option linter.unusedSectionVars false
namespace Nt.Ev.YtpmemdamcadbgaaGreatDoor
open Go Go.RowKit Nt Nt.Num Nt.Civil Go.Proofs.YtpmemdamcadbgaaGreatDoor
variable [MLen]
theorem contract_dropE {E : Env} {f : Nat} {args : List V} {e : Nat} {sh : List Kd} {L : Nat} {xs : List V} {y : V} (h : Contract E f args (.tup [.sl e sh (some L) xs, y])) : Contract E f args (.tup [.sl e sh none xs, y]) := by
  intro G w vs hG hg hp
  refine (h G w vs hG hg hp).mono ?_
  rintro e' w' ⟨v, G', rfl, hn, a, rfl, hpw, hc⟩
  refine ⟨_, G', rfl, hn, a, rfl, ?_, ?_⟩
  · match a, hpw with
    | [], hpw => exact absurd hpw.1 (by simp)
    | u :: us, hpw =>
      refine .cons ?_ hpw.tail
      have h1 := hpw.head
      show rep G' _ _
      refine ownG_rep ?_
      rcases h1.2 with ⟨hu, hx⟩ | ⟨b, cap, cur, l, hv, _, _, hcap, _, _, hG, hl, hE⟩
      · exact .inl ⟨hu, hx⟩
      · exact .inr ⟨b, cap, l, hv, hcap, hG, hl, hE⟩
  · simp only [List.countP_cons, List.countP_nil, hasL] at hc ⊢
    split <;> simp
theorem contract_lab {E : Env} {S : List (Nat × FSpec)} {f : Nat} {args : List V} {e : Nat} {sh : List Kd} {L : Nat} {xs : List V} {y : V} (hE : EOk E) (hS : SOk E S) (fuel d : Nat)
    (h : evBd E (evFn E S fuel d) fuel f args some = some (.tup [.sl e sh (some L) xs, y]) ∨ evBd E (evFn E S fuel d) fuel f args some = some (.tup [.sl e sh none xs, y])) : Contract E f args (.tup [.sl e sh none xs, y]) :=
  h.elim (fun h => contract_dropE (contract_of_body hE hS fuel d h)) (fun h => contract_of_body hE hS fuel d h)
def efM (k v : Int) (r : List UInt8) : List UInt8 := sel (ieq k 0) [45] (sel (ieq k 1) (amT v) r)
def efT (h : Bool) (y m ok ow od c b : Int) : List V := sel h (sel (band (ieq c 0) (ieq b 0)) (sel (band (ieq ok 0) (band (ieq ow 0) (ieq od 1))) (sel (ieq m 1) [.str (text y)] [.str (text y), .str (moT m)]) [.str (text y), .str (moT m), .str (dsTx ok ow od)]) [.str (text y), .str (moT m), .str (dsTx ok ow od), .str (tcT c b)]) []
def efL (o k v : Int) (r q : List UInt8) (h : Bool) (y m ok ow od c b : Int) : List V := .str (amT o) :: .str (efM k v r) :: .str q :: efT h y m ok ow od c b
def efV (o k v : Int) (r q : List UInt8) (h : Bool) (y m ok ow od c b : Int) : List V := sel (erR o k v r q h y m ok ow od c b) (efL o k v r q h y m ok ow od c b) []
def efE (o k v : Int) (r q : List UInt8) (h : Bool) (y m ok ow od c b : Int) : Int := sel (erR o k v r q h y m ok ow od c b) 0 4
theorem erR_k (o k v : Int) (r q : List UInt8) (h : Bool) (y m ok ow od c b : Int) (hR : erR o k v r q h y m ok ow od c b = true) : k = 0 ∨ k = 1 ∨ k = 2 := by
  unfold erR at hR
  simp only [Bool.and_eq_true] at hR
  obtain ⟨_, _, _, _, h⟩ := hR
  by_cases h0 : k = 0
  · exact .inl h0
  by_cases h1 : k = 1
  · exact .inr (.inl h1)
  by_cases h2 : k = 2
  · exact .inr (.inr h2)
  rw [ieq_f h0, ieq_f h1, ieq_f h2] at h
  cases h
end Nt.Ev.YtpmemdamcadbgaaGreatDoor

set_option linter.unusedVariables false
set_option linter.unusedSimpArgs false
set_option linter.unusedSectionVars false
namespace Nt.Ev.YtpmemdamcadbgaaGreatDoor
open Go Go.RowKit Nt Nt.Num Nt.Civil Go.Proofs.YtpmemdamcadbgaaGreatDoor
variable [MLen]
theorem ftB_mm {k w d m : Int} (h : ftB k w d m = true) : 1 ≤ m ∧ m ≤ 12 := by
  unfold ftB at h
  rw [Bool.and_eq_true, decide_eq_true_eq] at h
  exact ⟨h.2.1, h.2.2.1⟩
theorem num_head {c : UInt8} {t : List UInt8} (h : isDigit c = true) : erN (c :: t) = true := by
  unfold isDigit at h
  cases t with
  | nil => exact h
  | cons d t => show ((decide (48 ≤ c.toNat) && decide (c.toNat ≤ 57)) || _) = true; rw [h]; rfl
theorem num_neg {d : UInt8} {t : List UInt8} (h : isDigit d = true) : erN (45 :: d :: t) = true := by
  unfold isDigit at h
  show ((decide (48 ≤ (45 : UInt8).toNat) && decide ((45 : UInt8).toNat ≤ 57)) || ((45 : UInt8) == 45 && (decide (48 ≤ d.toNat) && decide (d.toNat ≤ 57)))) = true
  rw [h]; rfl
theorem pos_digit (k : Nat) (h : k ≤ 604799) : ∃ c t, posL k = c :: t ∧ isDigit c = true := by
  obtain ⟨c, t, e, _⟩ := pos_head k h
  have ho := (hour_ok k h).1
  unfold Amount.ok at ho
  rw [Bool.and_eq_true, Bool.and_eq_true] at ho
  have := List.all_eq_true.1 ho.2 c (by rw [e]; exact .head _)
  exact ⟨c, t ++ ([58] ++ Amount.two (k / 60 % 60)) ++ tailL k, by rw [posL_eq, e]; rfl, this⟩
theorem am_num (v : Int) (h1 : -604799 ≤ v) (h2 : v ≤ 604799) : erN (amT v) = true ∧ seq (amT v) [45] = false := by
  have key : ∀ s : List UInt8, s ≠ [45] → seq s [45] = false := fun s hs => by
    cases e : seq s [45] with
    | false => rfl
    | true => rw [seq_iff] at e; exact absurd e hs
  unfold amT
  by_cases h0 : v = 0
  · subst h0; exact ⟨rfl, rfl⟩
  · by_cases hp : 0 < v
    · obtain ⟨k, rfl⟩ : ∃ k : Nat, v = (k : Int) := ⟨v.toNat, by omega⟩
      obtain ⟨c, t, e, hd⟩ := pos_digit k (by omega)
      rw [amt_pos k (by omega) (by omega)]
      show erN (posL k) = true ∧ seq (posL k) [45] = false
      rw [e]
      refine ⟨num_head hd, key _ fun h => ?_⟩
      simp only [List.cons.injEq] at h
      rw [h.1] at hd; exact absurd hd (by decide)
    · obtain ⟨k, rfl⟩ : ∃ k : Nat, v = -(k : Int) := ⟨v.natAbs, by omega⟩
      obtain ⟨c, t, e, hd⟩ := pos_digit k (by omega)
      rw [amt_neg k (by omega) (by omega)]
      show erN ([45] ++ posL k) = true ∧ seq ([45] ++ posL k) [45] = false
      rw [e]
      exact ⟨num_neg hd, key _ fun h => by simp at h⟩
theorem nm_num (r : List UInt8) (h : nmI r = 0) : erN r = false ∧ seq r [45] = false := by
  unfold nmI at h
  by_cases h1 : 64 < r.length
  · rw [if_pos h1] at h; cases h
  rw [if_neg h1] at h
  by_cases h2 : nmF 0 r = true ∧ r ≠ []
  · obtain ⟨h3, h4⟩ := h2
    cases r with
    | nil => exact absurd rfl h4
    | cons c t =>
      have hc : nmC 0 c = true := by
        have : (nmC 0 c && nmF 1 t) = true := h3
        rw [Bool.and_eq_true] at this
        exact this.1
      have hf : ∀ c : UInt8, nmC 0 c = true → (decide (48 ≤ c.toNat) && decide (c.toNat ≤ 57)) = false ∧ (c == 45) = false := by
        intro c
        obtain ⟨⟨m⟩⟩ := c
        revert m
        decide +kernel
      obtain ⟨q1, q2⟩ := hf c hc
      constructor
      · cases t with
        | nil => exact q1
        | cons d t => show ((decide (48 ≤ c.toNat) && decide (c.toNat ≤ 57)) || (c == 45 && _)) = false; rw [q1, q2]; rfl
      · cases e : seq (c :: t) [45] with
        | false => rfl
        | true =>
          rw [seq_iff] at e
          simp only [List.cons.injEq] at e
          rw [e.1] at q2; cases q2
  · rw [if_neg h2] at h; cases h
theorem text_back (y : Int) (h : Fits y) : nrI (text y) = y ∧ nrW (text y) = 0 := by
  have hr := read_text y h
  exact ⟨by unfold nrI; rw [hr], by unfold nrW; rw [hr]⟩
theorem rl_back (k v : Int) (r : List UInt8) (h : (sel (ieq k 0) (ieq v 0 && seq r []) (sel (ieq k 1) (ile (-10800) v && (ile v 10800 && seq r [])) (sel (ieq k 2) (ieq v 0 && ieq (nmI r) 0) false))) = true) :
    rlK (efM k v r) = k ∧ rlS (efM k v r) = v ∧ rlN (efM k v r) = r ∧ rlW (efM k v r) = 0 ∧ (efM k v r).length ≤ 64 := by
  rw [rlK_sel, rlS_sel, rlN_sel, rlW_sel]
  unfold efM
  by_cases h0 : k = 0
  · subst h0
    rw [show ieq (0 : Int) 0 = true from rfl] at h ⊢
    rw [sT, Bool.and_eq_true, ieq_iff, seq_iff] at h
    obtain ⟨rfl, rfl⟩ := h
    exact ⟨rfl, rfl, rfl, rfl, by decide⟩
  · rw [ieq_f h0] at h ⊢
    by_cases h1 : k = 1
    · subst h1
      rw [show ieq (1 : Int) 1 = true from rfl] at h ⊢
      simp only [sT, sF, Bool.and_eq_true, ile_iff, seq_iff] at h
      obtain ⟨v1, v2, rfl⟩ := h
      obtain ⟨n1, n2⟩ := am_num v (by omega) (by omega)
      obtain ⟨a1, a2, a3⟩ := am_back v (by omega) (by omega)
      simp only [sT, sF, n1, n2, sv_sel, svI_sel, a1, a2, ile_t v1, ile_t v2, show ieq (0 : Int) 0 = true from rfl]
      exact ⟨trivial, trivial, trivial, trivial, by omega⟩
    · rw [ieq_f h1] at h ⊢
      by_cases h2 : k = 2
      · subst h2
        simp only [show ieq (2 : Int) 2 = true from rfl, sT, sF, Bool.and_eq_true, ieq_iff] at h
        obtain ⟨rfl, h3⟩ := h
        obtain ⟨n1, n2⟩ := nm_num r h3
        simp only [sT, sF, n1, n2, h3]
        exact ⟨trivial, trivial, trivial, trivial, nm_len r h3⟩
      · rw [ieq_f h2] at h; cases h
theorem erq_len (q : List UInt8) (h : ckW q = 0) : q.length ≤ 16 := by
  unfold ckW at h
  by_cases h1 : 16 < q.length
  · rw [if_pos h1] at h; cases h
  · omega
theorem enR_iff (y m ok ow od c b : Int) : (enR true y m ok ow od c b = true) = ((-32767 < y ∧ y < 32767) ∧ (ftB ok ow od m = true ∧ rightC c b = true)) := by
  unfold enR
  rw [sT, Bool.and_eq_true, Bool.and_eq_true, Bool.and_eq_true, ilt_iff, ilt_iff]
  apply propext
  constructor
  · rintro ⟨a, b, c, d⟩; exact ⟨⟨a, b⟩, c, d⟩
  · rintro ⟨⟨a, b⟩, c, d⟩; exact ⟨a, b, c, d⟩
theorem en_back (h : Bool) (y m ok ow od c b : Int) (hR : enR h y m ok ow od c b = true) :
    enE (efT h y m ok ow od c b) = 0 ∧ enH (efT h y m ok ow od c b) = h ∧ enY (efT h y m ok ow od c b) = y ∧ enM (efT h y m ok ow od c b) = m ∧ enK (efT h y m ok ow od c b) = ok ∧ enW (efT h y m ok ow od c b) = ow ∧ enD (efT h y m ok ow od c b) = od ∧ enA (efT h y m ok ow od c b) = c ∧ enB (efT h y m ok ow od c b) = b := by
  cases h with
  | false =>
    unfold enR at hR
    simp only [sF, band_iff, ieq_iff] at hR
    obtain ⟨rfl, rfl, ⟨rfl, rfl, rfl⟩, rfl, rfl⟩ := hR
    exact ⟨rfl, rfl, rfl, rfl, rfl, rfl, rfl, rfl, rfl⟩
  | true =>
    rw [enR_iff] at hR
    obtain ⟨⟨y1, y2⟩, hf, hr⟩ := hR
    obtain ⟨t1, t2⟩ := text_back y (by unfold Fits; omega)
    have hm := ftB_mm hf
    obtain ⟨m1, m2, m3⟩ := mo_back m hm.1 hm.2
    have hon : onB ok ow od = true := by unfold ftB at hf; rw [Bool.and_eq_true] at hf; exact hf.1
    have d1 := ds_text ok ow od hon
    have d2 : dsK (dsTx ok ow od) = ok := by unfold dsK; rw [d1]
    have d3 : dsWk (dsTx ok ow od) = ow := by unfold dsWk; rw [d1]
    have d4 : dsD (dsTx ok ow od) = od := by unfold dsD; rw [d1]
    have d5 : dsE (dsTx ok ow od) = 0 := by unfold dsE; rw [d1]
    obtain ⟨c1, c2, c3, c4⟩ := ck_back c b hr
    have p1 : ile y (-32767) = false := ile_f (by omega)
    have p2 : ile 32767 y = false := ile_f (by omega)
    have z0 : ieq (0 : Int) 0 = true := rfl
    have o1 : odE (dsTx ok ow od) m = 0 := by rw [od_sel, d5, d2, d3, d4, hf]; rfl
    have o2 : odK (dsTx ok ow od) m = ok := by rw [odK_sel, d5, d2, d3, d4, hf]; rfl
    have o3 : odW (dsTx ok ow od) m = ow := by rw [odW_sel, d5, d2, d3, d4, hf]; rfl
    have o4 : odD (dsTx ok ow od) m = od := by rw [odD_sel, d5, d2, d3, d4, hf]; rfl
    unfold efT
    rw [sT]
    cases ha : band (ieq c 0) (ieq b 0) with
    | false =>
      have l4 : llen [V.str (text y), V.str (moT m), V.str (dsTx ok ow od), V.str (tcT c b)] = 4 := rfl
      have r0 : rg [V.str (text y), V.str (moT m), V.str (dsTx ok ow od), V.str (tcT c b)] 0 = text y := rfl
      have r1 : rg [V.str (text y), V.str (moT m), V.str (dsTx ok ow od), V.str (tcT c b)] 1 = moT m := rfl
      have r2 : rg [V.str (text y), V.str (moT m), V.str (dsTx ok ow od), V.str (tcT c b)] 2 = dsTx ok ow od := rfl
      have r3 : rg [V.str (text y), V.str (moT m), V.str (dsTx ok ow od), V.str (tcT c b)] 3 = tcT c b := rfl
      simp only [sF, enY, enM, enK, enW, enD, enA, enB, enE, enAt, enOn, en3, en2, en1, en0, enMo, enH, l4, r0, r1, r2, r3, t1, t2, p1, p2, z0, m1, m2, o1, o2, o3, o4, c1, c2, c3, sT, show ieq (4 : Int) 0 = false from rfl, show bnot false = true from rfl, show ilt 1 4 = true from rfl, show ilt 2 4 = true from rfl, show ilt 3 4 = true from rfl]
      exact ⟨trivial, trivial, trivial, trivial, trivial, trivial, trivial, trivial, trivial⟩
    | true =>
      rw [band_iff, ieq_iff, ieq_iff] at ha
      obtain ⟨rfl, rfl⟩ := ha
      cases hb : band (ieq ok 0) (band (ieq ow 0) (ieq od 1)) with
      | false =>
        have l4 : llen [V.str (text y), V.str (moT m), V.str (dsTx ok ow od)] = 3 := rfl
        have r0 : rg [V.str (text y), V.str (moT m), V.str (dsTx ok ow od)] 0 = text y := rfl
        have r1 : rg [V.str (text y), V.str (moT m), V.str (dsTx ok ow od)] 1 = moT m := rfl
        have r2 : rg [V.str (text y), V.str (moT m), V.str (dsTx ok ow od)] 2 = dsTx ok ow od := rfl
        simp only [sF, enY, enM, enK, enW, enD, enA, enB, enE, enAt, enOn, en3, en2, en1, en0, enMo, enH, l4, r0, r1, r2, t1, t2, p1, p2, z0, m1, m2, o1, o2, o3, o4, sT, show ieq (3 : Int) 0 = false from rfl, show bnot false = true from rfl, show ilt 1 3 = true from rfl, show ilt 2 3 = true from rfl, show ilt 3 3 = false from rfl]
        exact ⟨trivial, trivial, trivial, trivial, trivial, trivial, trivial, trivial, trivial⟩
      | true =>
        rw [band_iff, band_iff, ieq_iff, ieq_iff, ieq_iff] at hb
        obtain ⟨rfl, rfl, rfl⟩ := hb
        cases hc : ieq m 1 with
        | false =>
          have l4 : llen [V.str (text y), V.str (moT m)] = 2 := rfl
          have r0 : rg [V.str (text y), V.str (moT m)] 0 = text y := rfl
          have r1 : rg [V.str (text y), V.str (moT m)] 1 = moT m := rfl
          simp only [sF, enY, enM, enK, enW, enD, enA, enB, enE, enAt, enOn, en3, en2, en1, en0, enMo, enH, l4, r0, r1, t1, t2, p1, p2, z0, m1, m2, sT, show ieq (2 : Int) 0 = false from rfl, show bnot false = true from rfl, show ilt 1 2 = true from rfl, show ilt 2 2 = false from rfl, show ilt 3 2 = false from rfl]
          exact ⟨trivial, trivial, trivial, trivial, trivial, trivial, trivial, trivial, trivial⟩
        | true =>
          rw [ieq_iff] at hc
          subst hc
          have l4 : llen [V.str (text y)] = 1 := rfl
          have r0 : rg [V.str (text y)] 0 = text y := rfl
          simp only [sF, enY, enM, enK, enW, enD, enA, enB, enE, enAt, enOn, en3, en2, en1, en0, enMo, enH, l4, r0, t1, t2, p1, p2, z0, sT, show ieq (1 : Int) 0 = false from rfl, show bnot false = true from rfl, show ilt 1 1 = false from rfl, show ilt 2 1 = false from rfl, show ilt 3 1 = false from rfl]
          exact ⟨trivial, trivial, trivial, trivial, trivial, trivial, trivial, trivial, trivial⟩
theorem erR_iff (o k v : Int) (r q : List UInt8) (h : Bool) (y m ok ow od c b : Int) : (erR o k v r q h y m ok ow od c b = true) = ((-54000 ≤ o ∧ o ≤ 54000) ∧ (ckW q = 0 ∧ (enR h y m ok ow od c b = true ∧ (sel (ieq k 0) (ieq v 0 && seq r []) (sel (ieq k 1) (ile (-10800) v && (ile v 10800 && seq r [])) (sel (ieq k 2) (ieq v 0 && ieq (nmI r) 0) false))) = true))) := by
  unfold erR
  rw [Bool.and_eq_true, Bool.and_eq_true, Bool.and_eq_true, Bool.and_eq_true, ile_iff, ile_iff, ieq_iff]
  apply propext
  constructor
  · rintro ⟨a, b, c, d⟩; exact ⟨⟨a, b⟩, c, d⟩
  · rintro ⟨⟨a, b⟩, c, d⟩; exact ⟨a, b, c, d⟩
theorem efT_len (h : Bool) (y m ok ow od c b : Int) : (efT h y m ok ow od c b).length ≤ 4 := by
  unfold efT
  cases h <;> cases band (ieq c 0) (ieq b 0) <;> cases band (ieq ok 0) (band (ieq ow 0) (ieq od 1)) <;> cases ieq m 1 <;> simp [sel]
theorem lsub_3 (a b c : V) (t : List V) : lsub (a :: b :: c :: t) 3 (llen (a :: b :: c :: t)) = t := by
  unfold lsub llen
  show List.take ((((a :: b :: c :: t).length : Nat) : Int).toNat - 3) t = t
  rw [List.take_of_length_le]
  simp; omega
theorem erE_3 (a b c : List UInt8) (t : List V) (ht : t.length ≤ 4) : erE (.str a :: .str b :: .str c :: t) = sel (ieq (erO a) 0) (sel (ieq (rlW b) 0) (sel (ieq (ckW c) 0) (enE t) (ckW c)) (rlW b)) (erO a) := by
  unfold erE
  rw [lsub_3, ilt_f (by rw [llen_nat]; simp; omega), ilt_f (by rw [llen_nat]; simp; omega)]; rfl
theorem erV_3 (a b c : List UInt8) (t : List V) (h : erE (.str a :: .str b :: .str c :: t) = 0) : erV (.str a :: .str b :: .str c :: t) = .tup [.agg [.int .i64 (amI a), .int .i64 (rlK b), .int .i64 (rlS b), .str (rlN b), .str c, .bool (enH t), .int .i64 (enY t), .int .i64 (enM t), .int .i64 (enK t), .int .i64 (enW t), .int .i64 (enD t), .int .i64 (enA t), .int .i64 (enB t)], .int .i64 0] := by
  unfold erV er0 er1 er2 er3 er4 er5 er6 er7 er8 er9 er10 er11 er12
  rw [h, lsub_3]; rfl
theorem allS_efT (h : Bool) (y m ok ow od c b : Int) (hR : enR h y m ok ow od c b = true) : allS (efT h y m ok ow od c b) = true := by
  cases h with
  | false => rfl
  | true =>
    rw [enR_iff] at hR
    obtain ⟨⟨y1, y2⟩, hf, hr⟩ := hR
    have hm := ftB_mm hf
    have n1 := (text_len y (by unfold Fits; omega)).1
    have n2 := (mo_back m hm.1 hm.2).2.2
    have n3 := dsTx_len ok ow od
    have n4 := (ck_back c b hr).2.2.2
    have s1 := sV_len (show (text y).length ≤ 900 by omega)
    have s2 := sV_len (show (moT m).length ≤ 900 by omega)
    have s3 := sV_len (show (dsTx ok ow od).length ≤ 900 by omega)
    have s4 := sV_len (show (tcT c b).length ≤ 900 by omega)
    unfold efT allS
    cases band (ieq c 0) (ieq b 0) <;> cases band (ieq ok 0) (band (ieq ow 0) (ieq od 1)) <;> cases ieq m 1 <;>
      simp only [sT, sF, List.all_cons, List.all_nil, s1, s2, s3, s4] <;> rfl
theorem er_back (o k v : Int) (r q : List UInt8) (h : Bool) (y m ok ow od c b : Int) (hR : erR o k v r q h y m ok ow od c b = true) :
    allS (efL o k v r q h y m ok ow od c b) = true ∧ erV (efL o k v r q h y m ok ow od c b) = .tup [.agg [.int .i64 o, .int .i64 k, .int .i64 v, .str r, .str q, .bool h, .int .i64 y, .int .i64 m, .int .i64 ok, .int .i64 ow, .int .i64 od, .int .i64 c, .int .i64 b], .int .i64 0] := by
  rw [erR_iff] at hR
  obtain ⟨⟨o1, o2⟩, hq, hE, hK⟩ := hR
  obtain ⟨a1, a2, a3⟩ := am_back o (by omega) (by omega)
  obtain ⟨k1, k2, k3, k4, k5⟩ := rl_back k v r hK
  obtain ⟨e0, e1, e2, e3, e4, e5, e6, e7, e8⟩ := en_back h y m ok ow od c b hE
  have q1 := erq_len q hq
  constructor
  · unfold efL allS
    rw [List.all_cons, List.all_cons, List.all_cons, sV_len (show (amT o).length ≤ 900 by omega), sV_len (show (efM k v r).length ≤ 900 by omega), sV_len (show q.length ≤ 900 by omega)]
    exact allS_efT h y m ok ow od c b hE
  · unfold efL
    have hO : erO (amT o) = 0 := by
      unfold erO
      rw [a1, a2, ile_t o1, ile_t o2]; rfl
    have hZ : erE (.str (amT o) :: .str (efM k v r) :: .str q :: efT h y m ok ow od c b) = 0 := by
      rw [erE_3 _ _ _ _ (efT_len h y m ok ow od c b), hO, k4, hq, e0]; rfl
    rw [erV_3 _ _ _ _ hZ, a1, k1, k2, k3, e1, e2, e3, e4, e5, e6, e7, e8]
end Nt.Ev.YtpmemdamcadbgaaGreatDoor

set_option linter.unusedVariables false
set_option linter.unusedSimpArgs false
set_option linter.unusedSectionVars false
namespace Nt.Ev.YtpmemdamcadbgaaGreatDoor
open Go Nt.Num Go.Proofs.YtpmemdamcadbgaaGreatDoor
variable [MLen]
open Nt.Civil
end Nt.Ev.YtpmemdamcadbgaaGreatDoor

set_option linter.unusedVariables false
set_option linter.unusedSimpArgs false
set_option linter.unusedSectionVars false
namespace Nt.Ev.YtpmemdamcadbgaaGreatDoor
open Go Go.RowKit Nt Nt.Num Nt.Civil Go.Proofs.YtpmemdamcadbgaaGreatDoor
variable [MLen]
theorem eRdS_ok (xs : List V) (hc : allS xs = true) : Contract eE 11 [.sl 9 [.str] none xs] (.tup [.agg [.int .i64 (er0 xs), .int .i64 (er1 xs), .int .i64 (er2 xs), .str (er3 xs), .str (er4 xs), .bool (er5 xs), .int .i64 (er6 xs), .int .i64 (er7 xs), .int .i64 (er8 xs), .int .i64 (er9 xs), .int .i64 (er10 xs), .int .i64 (er11 xs), .int .i64 (er12 xs)], .int .i64 (erE xs)]) := eRead22_ev xs hc
theorem er_inj (xs : List V) {o k v : Int} {r q : List UInt8} {h : Bool} {y m ok ow od c b : Int} {e : Int} (hh : erV xs = .tup [.agg [.int .i64 o, .int .i64 k, .int .i64 v, .str r, .str q, .bool h, .int .i64 y, .int .i64 m, .int .i64 ok, .int .i64 ow, .int .i64 od, .int .i64 c, .int .i64 b], .int .i64 e]) :
    er0 xs = o ∧ er1 xs = k ∧ er2 xs = v ∧ er3 xs = r ∧ er4 xs = q ∧ er5 xs = h ∧ er6 xs = y ∧ er7 xs = m ∧ er8 xs = ok ∧ er9 xs = ow ∧ er10 xs = od ∧ er11 xs = c ∧ er12 xs = b ∧ erE xs = e := by
  unfold erV at hh
  simp only [V.tup.injEq, List.cons.injEq, V.agg.injEq, V.str.injEq, V.int.injEq, V.bool.injEq, true_and, and_true] at hh
  obtain ⟨⟨h0, h1, h2, h3, h4, h5, h6, h7, h8, h9, h10, h11, h12⟩, he⟩ := hh
  exact ⟨h0, h1, h2, h3, h4, h5, h6, h7, h8, h9, h10, h11, h12, he⟩
end Nt.Ev.YtpmemdamcadbgaaGreatDoor
