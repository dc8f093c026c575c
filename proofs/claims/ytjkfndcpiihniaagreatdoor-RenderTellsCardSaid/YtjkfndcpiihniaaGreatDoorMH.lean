/-
  Clock: equations of functions, as the evaluator prints them. Times of day: what the program's functions and the document's answer. ClockLaw: equations of functions, as the evaluator prints them. Times of day: the statements ClockTells and ClockBack.
-/
import Derived.Test.YtjkfndcpiihniaaGreatDoorMF
import Derived.Test.YtjkfndcpiihniaaGreatDoorME
import Derived.Shelf.Strings.SlTrimAscii
set_option linter.unusedVariables false
set_option linter.unusedSimpArgs false
set_option linter.unusedSectionVars false
namespace Nt.Ev.YtjkfndcpiihniaaGreatDoor
open Go Nt.Num Go.Proofs.YtjkfndcpiihniaaGreatDoor
variable [MLen]
def rdI (s : List UInt8) : Int := (Amount.read s).1
def rdWc (s : List UInt8) : Int := (Amount.read s).2
def txL (n : Int) : List UInt8 := (Amount.text n).1
def txW (n : Int) : Int := (Amount.text n).2
noncomputable def cTextS : FSpec := fun a => match a with | [.int .i64 n] => some (band (ile (-9223372036854775808) n) (ile n 9223372036854775807), .tup [.str (txL n), .int .i64 (txW n)]) | _ => none
def clsI (x : Int) : Int := if x = 119 ∨ x = 87 then 0 else if x = 115 ∨ x = 83 then 1 else if x = 117 ∨ x = 85 ∨ x = 103 ∨ x = 71 ∨ x = 122 ∨ x = 90 then 2 else 3
def bsP (s : List UInt8) : List UInt8 × Int := match s.getLast? with | none => (s, 0) | some c => if clsI (c.toNat : Int) = 3 then (s, 0) else (s.dropLast, clsI (c.toNat : Int))
def bsT (s : List UInt8) : List UInt8 := (bsP s).1
def bsB (s : List UInt8) : Int := (bsP s).2
end Nt.Ev.YtjkfndcpiihniaaGreatDoor

namespace Nt.Ev.YtjkfndcpiihniaaGreatDoor
open Go Nt Nt.Num Go.Proofs.YtjkfndcpiihniaaGreatDoor
variable [MLen]
theorem fitsA {m : Int} (h : band (ile (-9223372036854775808) m) (ile m 9223372036854775807) = true) : Fits m := by rw [band_iff, ile_iff, ile_iff] at h; exact h
theorem bsP_last (l : List UInt8) (c : UInt8) : bsP (l ++ [c]) = if clsI (c.toNat : Int) = 3 then (l ++ [c], 0) else (l, clsI (c.toNat : Int)) := by
  unfold bsP; simp
def readC (s : List UInt8) : Int × Int × Int := if rdWc (bsT s) = 0 then (if 0 ≤ rdI (bsT s) ∧ rdI (bsT s) ≤ 172800 then (rdI (bsT s), bsB s, 0) else (0, 0, 1)) else (0, 0, rdWc (bsT s))
def rightC (n b : Int) : Bool := decide (0 ≤ n ∧ n ≤ 172800 ∧ 0 ≤ b ∧ b ≤ 2)
def letC (b : Int) : List UInt8 := if b = 0 then [] else if b = 1 then [115] else [117]
def textC (n b : Int) : List UInt8 × Int := if rightC n b = true then (txL n ++ letC b, 0) else ([], 4)
theorem tx_week (n : Int) (h : 0 ≤ n ∧ n ≤ 172800) : txW n = 0 ∧ (txL n).length ≤ 10 := by
  unfold txW txL Amount.text
  rw [if_neg (by omega)]
  by_cases h0 : n = 0
  · subst h0; exact ⟨rfl, by decide⟩
  · rw [if_neg h0]
    refine ⟨rfl, ?_⟩
    have := digs_len 3 (n.natAbs / 3600) (by omega) (by decide)
    simp only [Amount.two]
    split <;> split <;> simp <;> omega
end Nt.Ev.YtjkfndcpiihniaaGreatDoor

namespace Nt.Ev.YtjkfndcpiihniaaGreatDoor
open Go Nt.Num Go.Proofs.YtjkfndcpiihniaaGreatDoor
variable [MLen]
end Nt.Ev.YtjkfndcpiihniaaGreatDoor

namespace Nt.Ev.YtjkfndcpiihniaaGreatDoor
open Go Nt Nt.Num Go.Proofs.YtjkfndcpiihniaaGreatDoor
variable [MLen]
theorem readC_last (l : List UInt8) (x : UInt8) (n q : Int) (hx : clsI (x.toNat : Int) = q) (hq : q ≠ 3) (hr : Amount.read l = (n, 0)) (hn : 0 ≤ n ∧ n ≤ 172800) : readC (l ++ [x]) = (n, q, 0) := by
  have h1 : bsT (l ++ [x]) = l := by unfold bsT; rw [bsP_last, hx, if_neg hq]
  have h2 : bsB (l ++ [x]) = q := by unfold bsB; rw [bsP_last, hx, if_neg hq]
  have h3 : rdI l = n := by unfold rdI; rw [hr]
  have h4 : rdWc l = 0 := by unfold rdWc; rw [hr]
  unfold readC
  rw [h1, h2, h3, h4, if_pos rfl, if_pos hn]
theorem readC_none (l : List UInt8) (c : UInt8) (n : Int) (hx : clsI (c.toNat : Int) = 3) (hr : Amount.read (l ++ [c]) = (n, 0)) (hn : 0 ≤ n ∧ n ≤ 172800) : readC (l ++ [c]) = (n, 0, 0) := by
  have h1 : bsT (l ++ [c]) = l ++ [c] := by unfold bsT; rw [bsP_last, hx, if_pos rfl]
  have h2 : bsB (l ++ [c]) = 0 := by unfold bsB; rw [bsP_last, hx, if_pos rfl]
  have h3 : rdI (l ++ [c]) = n := by unfold rdI; rw [hr]
  have h4 : rdWc (l ++ [c]) = 0 := by unfold rdWc; rw [hr]
  unfold readC
  rw [h1, h2, h3, h4, if_pos rfl, if_pos hn]
end Nt.Ev.YtjkfndcpiihniaaGreatDoor
