/-
  Year: equations of functions, as the evaluator prints them. Years: what the program's functions and the document's answer. YearLaw: equations of functions, as the evaluator prints them. Years: the statements YearTells and YearBack.
-/
import Derived.Test.YtpmemdamcadbgaaGreatDoorME
import Derived.Test.YtpmemdamcadbgaaGreatDoorMC
set_option linter.unusedVariables false
set_option linter.unusedSimpArgs false
set_option linter.unusedSectionVars false
namespace Nt.Ev.YtpmemdamcadbgaaGreatDoor
open Go Nt.Num Go.Proofs.YtpmemdamcadbgaaGreatDoor
noncomputable def yE : Env := ⟨Go.Proofs.Tryz.prog, fun _ => none⟩
noncomputable def nReadS : FSpec := fun a => match a with | [.str s] => some (ile (slen s) 1000, .tup [.int .i64 (nrI s), .int .i64 (nrW s)]) | _ => none
noncomputable def nTextS : FSpec := fun a => match a with | [.int .i64 m] => some (band (ile (-9223372036854775808) m) (ile m 9223372036854775807), .str (text m)) | _ => none
noncomputable def matchS : FSpec := fun a => match a with | [.str s, .sl e [.str] o ws] => some (band (ile (slen s) 1000) (wsOk ws), .tup [.int .i64 (mtI s ws), .int .i64 (mtW s ws)]) | _ => none
noncomputable def idxS : FSpec := fun a => match a with | [.str s, .int .u8 c] => some (true, .int .i64 (idxB s c)) | _ => none
noncomputable def yS : List (Nat × FSpec) := (99, nReadS) :: (30, nTextS) :: (88, matchS) :: (12, idxS) :: []
set_option maxRecDepth 100000 in
theorem yFrom_top (F : Nat) (s : List UInt8) (K : V → Option V) :
 evBd yE (evFn yE yS F 4) F 54 [(V.str s)] K =
 sel (seq s [])
 (sel (band (ile (slen s) 1000) (wsOk [(V.str [109, 105, 110, 105, 109, 117, 109]), (V.str [109, 97, 120, 105, 109, 117, 109]), (V.str [111, 110, 108, 121])]))
 (sel (bnot (ieq (mtW s [(V.str [109, 105, 110, 105, 109, 117, 109]), (V.str [109, 97, 120, 105, 109, 117, 109]), (V.str [111, 110, 108, 121])]) 0))
 (K (V.tup [(V.int .i64 0), (V.int .i64 3)]))
 (sel (bnot (ieq (mtI s [(V.str [109, 105, 110, 105, 109, 117, 109]), (V.str [109, 97, 120, 105, 109, 117, 109]), (V.str [111, 110, 108, 121])]) 0))
 (K (V.tup [(V.int .i64 0), (V.int .i64 3)]))
 (K (V.tup [(V.int .i64 (-32767)), (V.int .i64 0)]))))
 (none))
 (sel (band (ile 0 0) (ilt 0 (slen s)))
 (sel (ilt (idxB [45, 48, 49, 50, 51, 52, 53, 54, 55, 56, 57] (sat s 0)) 0)
 (sel (band (ile (slen s) 1000) (wsOk [(V.str [109, 105, 110, 105, 109, 117, 109]), (V.str [109, 97, 120, 105, 109, 117, 109]), (V.str [111, 110, 108, 121])]))
 (sel (bnot (ieq (mtW s [(V.str [109, 105, 110, 105, 109, 117, 109]), (V.str [109, 97, 120, 105, 109, 117, 109]), (V.str [111, 110, 108, 121])]) 0))
 (K (V.tup [(V.int .i64 0), (V.int .i64 3)]))
 (sel (bnot (ieq (mtI s [(V.str [109, 105, 110, 105, 109, 117, 109]), (V.str [109, 97, 120, 105, 109, 117, 109]), (V.str [111, 110, 108, 121])]) 0))
 (K (V.tup [(V.int .i64 0), (V.int .i64 3)]))
 (K (V.tup [(V.int .i64 (-32767)), (V.int .i64 0)]))))
 (none))
 (sel (ile (slen s) 1000)
 (sel (ieq (nrW s) 0)
 (sel (ile (-32767) (nrI s))
 (sel (bnot (ile (nrI s) 32767))
 (K (V.tup [(V.int .i64 0), (V.int .i64 1)]))
 (sel (bnot (ieq (nrW s) 0))
 (K (V.tup [(V.int .i64 0), (V.int .i64 (nrW s))]))
 (K (V.tup [(V.int .i64 (nrI s)), (V.int .i64 0)]))))
 (K (V.tup [(V.int .i64 0), (V.int .i64 1)])))
 (sel (bnot (ieq (nrW s) 0))
 (K (V.tup [(V.int .i64 0), (V.int .i64 (nrW s))]))
 (K (V.tup [(V.int .i64 (nrI s)), (V.int .i64 0)]))))
 (none)))
 (none)) := by kernel_rfl
set_option maxRecDepth 100000 in
theorem yTo_top (F : Nat) (s : List UInt8) (n : Int) (K : V → Option V) :
 evBd yE (evFn yE yS F 4) F 55 [(V.str s), (V.int .i64 n)] K =
 sel (seq s [])
 (sel (band (ile (slen s) 1000) (wsOk [(V.str [109, 105, 110, 105, 109, 117, 109]), (V.str [109, 97, 120, 105, 109, 117, 109]), (V.str [111, 110, 108, 121])]))
 (sel (ieq (mtW s [(V.str [109, 105, 110, 105, 109, 117, 109]), (V.str [109, 97, 120, 105, 109, 117, 109]), (V.str [111, 110, 108, 121])]) 0)
 (sel (ieq (mtI s [(V.str [109, 105, 110, 105, 109, 117, 109]), (V.str [109, 97, 120, 105, 109, 117, 109]), (V.str [111, 110, 108, 121])]) 1)
 (sel (ieq (mtW s [(V.str [109, 105, 110, 105, 109, 117, 109]), (V.str [109, 97, 120, 105, 109, 117, 109]), (V.str [111, 110, 108, 121])]) 0)
 (sel (ilt 32767 n)
 (K (V.tup [(V.int .i64 0), (V.int .i64 14)]))
 (K (V.tup [(V.int .i64 32767), (V.int .i64 (mtW s [(V.str [109, 105, 110, 105, 109, 117, 109]), (V.str [109, 97, 120, 105, 109, 117, 109]), (V.str [111, 110, 108, 121])]))])))
 (K (V.tup [(V.int .i64 32767), (V.int .i64 (mtW s [(V.str [109, 105, 110, 105, 109, 117, 109]), (V.str [109, 97, 120, 105, 109, 117, 109]), (V.str [111, 110, 108, 121])]))])))
 (sel (ieq (mtW s [(V.str [109, 105, 110, 105, 109, 117, 109]), (V.str [109, 97, 120, 105, 109, 117, 109]), (V.str [111, 110, 108, 121])]) 0)
 (sel (ieq (mtI s [(V.str [109, 105, 110, 105, 109, 117, 109]), (V.str [109, 97, 120, 105, 109, 117, 109]), (V.str [111, 110, 108, 121])]) 2)
 (sel (ieq (mtW s [(V.str [109, 105, 110, 105, 109, 117, 109]), (V.str [109, 97, 120, 105, 109, 117, 109]), (V.str [111, 110, 108, 121])]) 0)
 (sel (ilt n n)
 (K (V.tup [(V.int .i64 0), (V.int .i64 14)]))
 (K (V.tup [(V.int .i64 n), (V.int .i64 (mtW s [(V.str [109, 105, 110, 105, 109, 117, 109]), (V.str [109, 97, 120, 105, 109, 117, 109]), (V.str [111, 110, 108, 121])]))])))
 (K (V.tup [(V.int .i64 n), (V.int .i64 (mtW s [(V.str [109, 105, 110, 105, 109, 117, 109]), (V.str [109, 97, 120, 105, 109, 117, 109]), (V.str [111, 110, 108, 121])]))])))
 (K (V.tup [(V.int .i64 0), (V.int .i64 3)])))
 (K (V.tup [(V.int .i64 0), (V.int .i64 3)]))))
 (sel (ieq (mtW s [(V.str [109, 105, 110, 105, 109, 117, 109]), (V.str [109, 97, 120, 105, 109, 117, 109]), (V.str [111, 110, 108, 121])]) 0)
 (sel (ieq (mtI s [(V.str [109, 105, 110, 105, 109, 117, 109]), (V.str [109, 97, 120, 105, 109, 117, 109]), (V.str [111, 110, 108, 121])]) 2)
 (sel (ieq (mtW s [(V.str [109, 105, 110, 105, 109, 117, 109]), (V.str [109, 97, 120, 105, 109, 117, 109]), (V.str [111, 110, 108, 121])]) 0)
 (sel (ilt n n)
 (K (V.tup [(V.int .i64 0), (V.int .i64 14)]))
 (K (V.tup [(V.int .i64 n), (V.int .i64 (mtW s [(V.str [109, 105, 110, 105, 109, 117, 109]), (V.str [109, 97, 120, 105, 109, 117, 109]), (V.str [111, 110, 108, 121])]))])))
 (K (V.tup [(V.int .i64 n), (V.int .i64 (mtW s [(V.str [109, 105, 110, 105, 109, 117, 109]), (V.str [109, 97, 120, 105, 109, 117, 109]), (V.str [111, 110, 108, 121])]))])))
 (K (V.tup [(V.int .i64 0), (V.int .i64 3)])))
 (K (V.tup [(V.int .i64 0), (V.int .i64 3)]))))
 (none))
 (sel (band (ile 0 0) (ilt 0 (slen s)))
 (sel (ilt (idxB [45, 48, 49, 50, 51, 52, 53, 54, 55, 56, 57] (sat s 0)) 0)
 (sel (band (ile (slen s) 1000) (wsOk [(V.str [109, 105, 110, 105, 109, 117, 109]), (V.str [109, 97, 120, 105, 109, 117, 109]), (V.str [111, 110, 108, 121])]))
 (sel (ieq (mtW s [(V.str [109, 105, 110, 105, 109, 117, 109]), (V.str [109, 97, 120, 105, 109, 117, 109]), (V.str [111, 110, 108, 121])]) 0)
 (sel (ieq (mtI s [(V.str [109, 105, 110, 105, 109, 117, 109]), (V.str [109, 97, 120, 105, 109, 117, 109]), (V.str [111, 110, 108, 121])]) 1)
 (sel (ieq (mtW s [(V.str [109, 105, 110, 105, 109, 117, 109]), (V.str [109, 97, 120, 105, 109, 117, 109]), (V.str [111, 110, 108, 121])]) 0)
 (sel (ilt 32767 n)
 (K (V.tup [(V.int .i64 0), (V.int .i64 14)]))
 (K (V.tup [(V.int .i64 32767), (V.int .i64 (mtW s [(V.str [109, 105, 110, 105, 109, 117, 109]), (V.str [109, 97, 120, 105, 109, 117, 109]), (V.str [111, 110, 108, 121])]))])))
 (K (V.tup [(V.int .i64 32767), (V.int .i64 (mtW s [(V.str [109, 105, 110, 105, 109, 117, 109]), (V.str [109, 97, 120, 105, 109, 117, 109]), (V.str [111, 110, 108, 121])]))])))
 (sel (ieq (mtW s [(V.str [109, 105, 110, 105, 109, 117, 109]), (V.str [109, 97, 120, 105, 109, 117, 109]), (V.str [111, 110, 108, 121])]) 0)
 (sel (ieq (mtI s [(V.str [109, 105, 110, 105, 109, 117, 109]), (V.str [109, 97, 120, 105, 109, 117, 109]), (V.str [111, 110, 108, 121])]) 2)
 (sel (ieq (mtW s [(V.str [109, 105, 110, 105, 109, 117, 109]), (V.str [109, 97, 120, 105, 109, 117, 109]), (V.str [111, 110, 108, 121])]) 0)
 (sel (ilt n n)
 (K (V.tup [(V.int .i64 0), (V.int .i64 14)]))
 (K (V.tup [(V.int .i64 n), (V.int .i64 (mtW s [(V.str [109, 105, 110, 105, 109, 117, 109]), (V.str [109, 97, 120, 105, 109, 117, 109]), (V.str [111, 110, 108, 121])]))])))
 (K (V.tup [(V.int .i64 n), (V.int .i64 (mtW s [(V.str [109, 105, 110, 105, 109, 117, 109]), (V.str [109, 97, 120, 105, 109, 117, 109]), (V.str [111, 110, 108, 121])]))])))
 (K (V.tup [(V.int .i64 0), (V.int .i64 3)])))
 (K (V.tup [(V.int .i64 0), (V.int .i64 3)]))))
 (sel (ieq (mtW s [(V.str [109, 105, 110, 105, 109, 117, 109]), (V.str [109, 97, 120, 105, 109, 117, 109]), (V.str [111, 110, 108, 121])]) 0)
 (sel (ieq (mtI s [(V.str [109, 105, 110, 105, 109, 117, 109]), (V.str [109, 97, 120, 105, 109, 117, 109]), (V.str [111, 110, 108, 121])]) 2)
 (sel (ieq (mtW s [(V.str [109, 105, 110, 105, 109, 117, 109]), (V.str [109, 97, 120, 105, 109, 117, 109]), (V.str [111, 110, 108, 121])]) 0)
 (sel (ilt n n)
 (K (V.tup [(V.int .i64 0), (V.int .i64 14)]))
 (K (V.tup [(V.int .i64 n), (V.int .i64 (mtW s [(V.str [109, 105, 110, 105, 109, 117, 109]), (V.str [109, 97, 120, 105, 109, 117, 109]), (V.str [111, 110, 108, 121])]))])))
 (K (V.tup [(V.int .i64 n), (V.int .i64 (mtW s [(V.str [109, 105, 110, 105, 109, 117, 109]), (V.str [109, 97, 120, 105, 109, 117, 109]), (V.str [111, 110, 108, 121])]))])))
 (K (V.tup [(V.int .i64 0), (V.int .i64 3)])))
 (K (V.tup [(V.int .i64 0), (V.int .i64 3)]))))
 (none))
 (sel (ile (slen s) 1000)
 (sel (ieq (nrW s) 0)
 (sel (ile (-32767) (nrI s))
 (sel (bnot (ile (nrI s) 32767))
 (K (V.tup [(V.int .i64 0), (V.int .i64 1)]))
 (sel (bnot (ieq (nrW s) 0))
 (sel (ieq (nrW s) 0)
 (sel (ilt 0 n)
 (K (V.tup [(V.int .i64 0), (V.int .i64 14)]))
 (K (V.tup [(V.int .i64 0), (V.int .i64 (nrW s))])))
 (K (V.tup [(V.int .i64 0), (V.int .i64 (nrW s))])))
 (sel (ilt (nrI s) n)
 (K (V.tup [(V.int .i64 0), (V.int .i64 14)]))
 (K (V.tup [(V.int .i64 (nrI s)), (V.int .i64 0)])))))
 (K (V.tup [(V.int .i64 0), (V.int .i64 1)])))
 (sel (bnot (ieq (nrW s) 0))
 (sel (ieq (nrW s) 0)
 (sel (ilt 0 n)
 (K (V.tup [(V.int .i64 0), (V.int .i64 14)]))
 (K (V.tup [(V.int .i64 0), (V.int .i64 (nrW s))])))
 (K (V.tup [(V.int .i64 0), (V.int .i64 (nrW s))])))
 (sel (ilt (nrI s) n)
 (K (V.tup [(V.int .i64 0), (V.int .i64 14)]))
 (K (V.tup [(V.int .i64 (nrI s)), (V.int .i64 0)])))))
 (none)))
 (none)) := by kernel_rfl
set_option maxRecDepth 100000 in
theorem yFromText_top (F : Nat) (n : Int) (K : V → Option V) :
 evBd yE (evFn yE yS F 4) F 14 [(V.int .i64 n)] K =
 sel (ile (-32767) n)
 (sel (bnot (ile n 32767))
 (K (V.tup [(V.str []), (V.int .i64 1)]))
 (sel (ieq n (-32767))
 (K (V.tup [(V.str [109, 105, 110]), (V.int .i64 0)]))
 (sel (band (ile (-9223372036854775808) n) (ile n 9223372036854775807))
 (K (V.tup [(V.str (text n)), (V.int .i64 0)]))
 (none))))
 (K (V.tup [(V.str []), (V.int .i64 1)])) := by kernel_rfl
set_option maxRecDepth 100000 in
theorem yToText_top (F : Nat) (m : Int) (n : Int) (K : V → Option V) :
 evBd yE (evFn yE yS F 4) F 15 [(V.int .i64 m), (V.int .i64 n)] K =
 sel (ile (-32767) n)
 (sel (bnot (ile n 32767))
 (K (V.tup [(V.str []), (V.int .i64 1)]))
 (sel (ilt n m)
 (K (V.tup [(V.str []), (V.int .i64 14)]))
 (sel (ieq n m)
 (K (V.tup [(V.str [111, 110, 108, 121]), (V.int .i64 0)]))
 (sel (ieq n 32767)
 (K (V.tup [(V.str [109, 97, 120]), (V.int .i64 0)]))
 (sel (band (ile (-9223372036854775808) n) (ile n 9223372036854775807))
 (K (V.tup [(V.str (text n)), (V.int .i64 0)]))
 (none))))))
 (K (V.tup [(V.str []), (V.int .i64 1)])) := by kernel_rfl
end Nt.Ev.YtpmemdamcadbgaaGreatDoor

set_option linter.unusedVariables false
set_option linter.unusedSimpArgs false
namespace Nt.Ev.YtpmemdamcadbgaaGreatDoor
open Go Nt Nt.Num Go.Proofs.YtpmemdamcadbgaaGreatDoor
theorem yE_ok : EOk yE := ⟨by kernel_rfl, by kernel_rfl⟩
theorem toY {f : Nat} {args : List V} {r : V} (h : Contract nE f args r) : Contract yE f args r := Contract.env (E := nE) rfl (fun n v h => by cases h) h
theorem len_of {s : List UInt8} (h : ile (slen s) 1000 = true) : s.length ≤ 1000 := by rw [ile_iff, slen_nat] at h; omega
theorem nReadS_ok (s : List UInt8) (hc : ile (slen s) 1000 = true) : Contract yE 99 [.str s] (.tup [.int .i64 (nrI s), .int .i64 (nrW s)]) := toY (nRead_c s (len_of hc))
theorem fits_of {m : Int} (h : band (ile (-9223372036854775808) m) (ile m 9223372036854775807) = true) : Fits m := by rw [band_iff, ile_iff, ile_iff] at h; exact h
theorem nTextS_ok (m : Int) (hc : band (ile (-9223372036854775808) m) (ile m 9223372036854775807) = true) : Contract yE 30 [.int .i64 m] (.str (text m)) := toY (nText_ev m (fits_of hc))
theorem matchS_ok (s : List UInt8) (e : Nat) (o : Option Nat) (ws : List V) (hc : band (ile (slen s) 1000) (wsOk ws) = true) : Contract yE 88 [.str s, .sl e [.str] o ws] (.tup [.int .i64 (mtI s ws), .int .i64 (mtW s ws)]) := by
  obtain ⟨h1, h2⟩ := band_true hc
  exact toY (wMatch_c s e o ws (len_of h1) h2)
theorem idxS_ok (s : List UInt8) (c : Int) (hc : true = true) : Contract yE 12 [.str s, .int .u8 c] (.int .i64 (idxB s c)) := toY (idx_c s c)
theorem yS_ok : SOk yE yS := by
  unfold yS
  refine SOk.cons (fun args r h => ?_) (SOk.cons (fun args r h => ?_) (SOk.cons (fun args r h => ?_) (SOk.cons (fun args r h => ?_) (SOk.nil))))
  · unfold nReadS at h
    split at h
    · simp only [Option.some.injEq, Prod.mk.injEq] at h
      obtain ⟨hc, rfl⟩ := h
      exact nReadS_ok _ hc
    · cases h
  · unfold nTextS at h
    split at h
    · simp only [Option.some.injEq, Prod.mk.injEq] at h
      obtain ⟨hc, rfl⟩ := h
      exact nTextS_ok _ hc
    · cases h
  · unfold matchS at h
    split at h
    · simp only [Option.some.injEq, Prod.mk.injEq] at h
      obtain ⟨hc, rfl⟩ := h
      exact matchS_ok _ _ _ _ hc
    · cases h
  · unfold idxS at h
    split at h
    · simp only [Option.some.injEq, Prod.mk.injEq] at h
      obtain ⟨hc, rfl⟩ := h
      exact idxS_ok _ _ rfl
    · cases h
def numC (c : UInt8) : Bool := decide (c.toNat = 45) || (decide (48 ≤ c.toNat) && decide (c.toNat ≤ 57))
def numeral : List UInt8 → Bool
  | [] => false
  | c :: _ => numC c
theorem idx_num (c : UInt8) : ilt (idxB [45, 48, 49, 50, 51, 52, 53, 54, 55, 56, 57] ((c.toNat : Nat) : Int)) 0 = !numC c := by
  have h : ∀ n : Fin 256, ilt (idxB [45, 48, 49, 50, 51, 52, 53, 54, 55, 56, 57] ((n.val : Nat) : Int)) 0 = !numC (UInt8.ofNat n) := by decide +kernel
  have := h ⟨c.toNat, c.toNat_lt⟩
  simpa using this
def wsY : List V := [(V.str [109, 105, 110, 105, 109, 117, 109]), (V.str [109, 97, 120, 105, 109, 117, 109]), (V.str [111, 110, 108, 121])]
def yearN (s : List UInt8) : Int × Int := if nrW s = 0 then (if -32767 ≤ nrI s ∧ nrI s ≤ 32767 then (nrI s, 0) else (0, 1)) else (0, nrW s)
def yFromP (s : List UInt8) : Int × Int := if numeral s = true then yearN s else if mtW s wsY = 0 ∧ mtI s wsY = 0 then (-32767, 0) else (0, 3)
def yLastP (s : List UInt8) (n : Int) : Int × Int := if numeral s = true then yearN s else if mtW s wsY = 0 then (if mtI s wsY = 1 then (32767, 0) else if mtI s wsY = 2 then (n, 0) else (0, 3)) else (0, 3)
def yToP (s : List UInt8) (n : Int) : Int × Int := if (yLastP s n).2 = 0 ∧ (yLastP s n).1 < n then (0, 14) else yLastP s n
def res2 (p : Int × Int) : V := .tup [.int .i64 p.1, .int .i64 p.2]
theorem mtW_err (s : List UInt8) (ws : List V) : mtW s ws = 0 ∨ mtW s ws = 3 := by
  unfold mtW
  rcases Words.mt_err ⟨s.toArray⟩ (wsB ws) with h | h <;> rw [h]
  · exact .inl rfl
  · exact .inr rfl
theorem mtI_bd (s : List UInt8) (ws : List V) : 0 ≤ mtI s ws ∧ (mtW s ws = 0 → mtI s ws < ws.length) ∧ (mtW s ws ≠ 0 → mtI s ws = 0) := by
  unfold mtI mtW
  refine ⟨by omega, fun h => ?_, fun h => ?_⟩
  · have := (Words.mt_told ⟨s.toArray⟩ (wsB ws) (Words.mt ⟨s.toArray⟩ (wsB ws)).1 (by rw [show (Words.mt ⟨s.toArray⟩ (wsB ws)) = ((Words.mt ⟨s.toArray⟩ (wsB ws)).1, (Words.mt ⟨s.toArray⟩ (wsB ws)).2) from rfl]; congr 1; omega)).2.1
    unfold wsB at this ⊢
    rw [List.length_map] at this
    omega
  · have := Words.mt_not ⟨s.toArray⟩ (wsB ws) (Words.mt ⟨s.toArray⟩ (wsB ws)).1 (Words.mt ⟨s.toArray⟩ (wsB ws)).2 rfl (by omega)
    omega
theorem wsY_ok : wsOk wsY = true := by decide
theorem slen_cons (c : UInt8) (l : List UInt8) : slen (c :: l) = (l.length : Int) + 1 := by unfold slen; simp
theorem sat_zero (c : UInt8) (l : List UInt8) : sat (c :: l) 0 = (c.toNat : Int) := rfl
theorem seq_cons (c : UInt8) (l : List UInt8) : seq (c :: l) [] = false := by unfold seq; rfl
theorem yFrom_ev (s : List UInt8) (hs : s.length ≤ 1000) : Contract yE 54 [.str s] (res2 (yFromP s)) := by
  refine contract_of_body yE_ok yS_ok 5 4 ?_
  rw [yFrom_top]
  rw [show [(V.str [109, 105, 110, 105, 109, 117, 109]), (V.str [109, 97, 120, 105, 109, 117, 109]), (V.str [111, 110, 108, 121])] = wsY from rfl, wsY_ok]
  cases s with
  | nil =>
    have h2 : ile (slen []) 1000 = true := rfl
    have h3 : seq [] [] = true := rfl
    simp only [h2, h3, sel_if, band_iff, bnot_iff, ieq_iff, if_true, and_self]
    unfold yFromP numeral res2
    simp only [Bool.false_eq_true, if_false]
    repeat' split
    all_goals first | rfl | (exfalso; simp_all; done)
  | cons c l =>
    have h1 : ilt 0 (slen (c :: l)) = true := ilt_t (by rw [slen_cons]; omega)
    have h2 : ile (slen (c :: l)) 1000 = true := ile_t (by rw [slen_nat]; omega)
    simp only [h1, h2, seq_cons, sat_zero, idx_num]
    unfold yFromP numeral yearN res2
    simp only [sel_if, band_iff, bnot_iff, ieq_iff, ile_iff, if_true, and_self, Bool.false_eq_true, if_false]
    repeat' split
    all_goals first | rfl | (exfalso; simp_all; done) | (exfalso; omega)
set_option maxHeartbeats 2000000 in
theorem yTo_ev (s : List UInt8) (n : Int) (hs : s.length ≤ 1000) : Contract yE 55 [.str s, .int .i64 n] (res2 (yToP s n)) := by
  refine contract_of_body yE_ok yS_ok 5 4 ?_
  rw [yTo_top]
  rw [show [(V.str [109, 105, 110, 105, 109, 117, 109]), (V.str [109, 97, 120, 105, 109, 117, 109]), (V.str [111, 110, 108, 121])] = wsY from rfl, wsY_ok]
  cases s with
  | nil =>
    have h2 : ile (slen []) 1000 = true := rfl
    have h3 : seq [] [] = true := rfl
    have hw := mtW_err [] wsY
    obtain ⟨hb1, hb2, hb3⟩ := mtI_bd [] wsY
    rw [show wsY.length = 3 from rfl] at hb2
    unfold yToP yLastP numeral res2
    simp only [h2, h3, sel_if, band_iff, bnot_iff, ieq_iff, ilt_iff, if_true, and_self, Bool.false_eq_true, if_false, not_true_eq_false]
    repeat' split
    all_goals first | rfl | (exfalso; omega) | (simp only [Option.some.injEq, V.tup.injEq, List.cons.injEq, V.int.injEq, true_and, and_true]; omega) | (exfalso; simp_all; done) | (simp_all; done)
  | cons c l =>
    have h1 : ilt 0 (slen (c :: l)) = true := ilt_t (by rw [slen_cons]; omega)
    have h2 : ile (slen (c :: l)) 1000 = true := ile_t (by rw [slen_nat]; omega)
    have h4 : ieq (c.toNat : Int) 45 = decide (c.toNat = 45) := by unfold ieq; rw [Bool.eq_iff_iff]; simp; omega
    have h5 : ile 48 (c.toNat : Int) = decide (48 ≤ c.toNat) := by unfold ile; rw [Bool.eq_iff_iff]; simp; omega
    have h6 : ile (c.toNat : Int) 57 = decide (c.toNat ≤ 57) := by unfold ile; rw [Bool.eq_iff_iff]; simp; omega
    have hw := mtW_err (c :: l) wsY
    obtain ⟨hb1, hb2, hb3⟩ := mtI_bd (c :: l) wsY
    rw [show wsY.length = 3 from rfl] at hb2
    simp only [h1, h2, seq_cons, sat_zero, idx_num, h4, h5, h6]
    unfold yToP yLastP res2
    rw [show numeral (c :: l) = numC c from rfl]
    clear h4 h5 h6 h1 h2
    generalize numC c = q
    cases q <;> simp only [Bool.not_true, Bool.not_false, sel_if, band_iff, bnot_iff, ieq_iff, ile_iff, ilt_iff, if_true, and_self, Bool.false_eq_true, if_false, not_true_eq_false, not_false_eq_true, Bool.or_false, Bool.or_true, Bool.false_or, Bool.true_or, Bool.and_false, Bool.and_true, Bool.and_self, Bool.or_self]
    all_goals (try unfold yearN)
    all_goals (repeat' split)
    all_goals first | rfl | (exfalso; omega) | (simp only [Option.some.injEq, V.tup.injEq, List.cons.injEq, V.int.injEq, true_and, and_true]; omega) | (exfalso; simp_all; done) | (simp_all; done)
def minT : List UInt8 := [109, 105, 110]
def maxT : List UInt8 := [109, 97, 120]
def onlyT : List UInt8 := [111, 110, 108, 121]
def yFromTextP (n : Int) : List UInt8 × Int := if -32767 ≤ n ∧ n ≤ 32767 then (if n = -32767 then (minT, 0) else (text n, 0)) else ([], 1)
def yToTextP (m n : Int) : List UInt8 × Int := if -32767 ≤ n ∧ n ≤ 32767 then (if n < m then ([], 14) else if n = m then (onlyT, 0) else if n = 32767 then (maxT, 0) else (text n, 0)) else ([], 1)
def resS (p : List UInt8 × Int) : V := .tup [.str p.1, .int .i64 p.2]
theorem yFromText_ev (n : Int) : Contract yE 14 [.int .i64 n] (resS (yFromTextP n)) := by
  refine contract_of_body yE_ok yS_ok 5 4 ?_
  rw [yFromText_top]
  unfold yFromTextP resS minT
  simp only [sel_if, band_iff, bnot_iff, ieq_iff, ile_iff, ilt_iff, if_true, and_self, Bool.false_eq_true, if_false, not_true_eq_false, not_false_eq_true]
  repeat' split
  all_goals first | rfl | (exfalso; omega) | (simp only [Option.some.injEq, V.tup.injEq, List.cons.injEq, V.int.injEq, true_and, and_true]; omega) | (exfalso; simp_all; done) | (simp_all; done)
theorem yToText_ev (m n : Int) : Contract yE 15 [.int .i64 m, .int .i64 n] (resS (yToTextP m n)) := by
  refine contract_of_body yE_ok yS_ok 5 4 ?_
  rw [yToText_top]
  unfold yToTextP resS maxT onlyT
  simp only [sel_if, band_iff, bnot_iff, ieq_iff, ile_iff, ilt_iff, if_true, and_self, Bool.false_eq_true, if_false, not_true_eq_false, not_false_eq_true]
  repeat' split
  all_goals first | rfl | (exfalso; omega) | (simp only [Option.some.injEq, V.tup.injEq, List.cons.injEq, V.int.injEq, true_and, and_true]; omega) | (exfalso; simp_all; done) | (simp_all; done)
end Nt.Ev.YtpmemdamcadbgaaGreatDoor

set_option linter.unusedVariables false
set_option linter.unusedSimpArgs false
set_option linter.unusedSectionVars false
namespace Nt.Ev.YtpmemdamcadbgaaGreatDoor
open Go Nt.Num Go.Proofs.YtpmemdamcadbgaaGreatDoor
def yFI (s : List UInt8) : Int := (yFromP s).1
def yFW (s : List UInt8) : Int := (yFromP s).2
def yTI (s : List UInt8) (n : Int) : Int := (yToP s n).1
def yTW (s : List UInt8) (n : Int) : Int := (yToP s n).2
def yfT (n : Int) : List UInt8 := (yFromTextP n).1
def yfW (n : Int) : Int := (yFromTextP n).2
def ytT (m n : Int) : List UInt8 := (yToTextP m n).1
def ytW (m n : Int) : Int := (yToTextP m n).2
end Nt.Ev.YtpmemdamcadbgaaGreatDoor

set_option linter.unusedVariables false
set_option linter.unusedSimpArgs false
namespace Nt.Ev.YtpmemdamcadbgaaGreatDoor
open Go Nt Nt.Num Go.Proofs.YtpmemdamcadbgaaGreatDoor
theorem text_num (n : Int) : numeral (text n) = true := by
  have h := digs_all (n.natAbs + 1) n.natAbs (by omega)
  unfold text
  by_cases h0 : n < 0
  · rw [if_pos h0]; rfl
  · rw [if_neg h0, List.nil_append]
    cases e : digs n.natAbs with
    | nil => exact absurd e h.2
    | cons c l =>
      have := List.all_eq_true.1 h.1 c (by rw [e]; exact .head _)
      unfold isDigit at this
      show numC c = true
      unfold numC
      rw [this, Bool.or_true]
theorem fits_year {n : Int} (h : -32767 ≤ n ∧ n ≤ 32767) : Fits n := by unfold Fits; omega
theorem text_year (n : Int) (h : -32767 ≤ n ∧ n ≤ 32767) : yearN (text n) = (n, 0) := by
  have hr := read_text n (fits_year h)
  have h1 : nrI (text n) = n := by unfold nrI; rw [hr]
  have h2 : nrW (text n) = 0 := by unfold nrW; rw [hr]
  unfold yearN
  rw [h1, h2, if_pos rfl, if_pos h]
theorem only_mt : mtW onlyT wsY = 0 ∧ mtI onlyT wsY = 2 := by decide +kernel
theorem max_mt : mtW maxT wsY = 0 ∧ mtI maxT wsY = 1 := by decide +kernel
theorem min_mt : mtW minT wsY = 0 ∧ mtI minT wsY = 0 := by decide +kernel
theorem yfT_len (m : Int) : (yfT m).length ≤ 25 := by
  unfold yfT yFromTextP
  split
  · rename_i h
    split
    · decide
    · have := (text_len m (fits_year h)).1
      simp only; omega
  · simp
theorem ytT_len (m n : Int) : (ytT m n).length ≤ 25 := by
  unfold ytT yToTextP
  split
  · rename_i h
    split
    · simp
    · split
      · decide
      · split
        · decide
        · have := (text_len n (fits_year h)).1
          simp only; omega
  · simp
theorem yf_back (m : Int) (h : yfW m = 0) : yFI (yfT m) = m ∧ yFW (yfT m) = 0 := by
  unfold yfW yFromTextP at h
  unfold yFI yFW yfT yFromTextP
  split at h
  · rename_i hr
    rw [if_pos hr]
    by_cases h1 : m = -32767
    · rw [if_pos h1]
      unfold yFromP
      rw [if_neg (by decide), if_pos min_mt]
      exact ⟨h1.symm, rfl⟩
    · rw [if_neg h1]
      unfold yFromP
      rw [if_pos (text_num m), text_year m hr]
      exact ⟨rfl, rfl⟩
  · cases h
theorem yt_back (m n : Int) (h : ytW m n = 0) : yTI (ytT m n) m = n ∧ yTW (ytT m n) m = 0 := by
  unfold ytW yToTextP at h
  unfold yTI yTW ytT yToTextP
  split at h
  · rename_i hr
    rw [if_pos hr]
    split at h
    · cases h
    · rename_i hlt
      rw [if_neg hlt]
      by_cases h1 : n = m
      · rw [if_pos h1]
        have e : yLastP onlyT m = (m, 0) := by
          unfold yLastP
          rw [if_neg (by decide), if_pos only_mt.1, only_mt.2]; rfl
        unfold yToP
        rw [e, if_neg (by simp)]
        exact ⟨h1.symm, rfl⟩
      · rw [if_neg h1]
        by_cases h2 : n = 32767
        · rw [if_pos h2]
          have e : yLastP maxT m = (32767, 0) := by
            unfold yLastP
            rw [if_neg (by decide), if_pos max_mt.1, max_mt.2]; rfl
          unfold yToP
          rw [e, if_neg (by simp only; omega)]
          exact ⟨h2.symm, rfl⟩
        · rw [if_neg h2]
          have e : yLastP (text n) m = (n, 0) := by
            unfold yLastP
            rw [if_pos (text_num n), text_year n hr]
          unfold yToP
          rw [e, if_neg (by simp only; omega)]
          exact ⟨rfl, rfl⟩
  · cases h
end Nt.Ev.YtpmemdamcadbgaaGreatDoor
