/-
  Era: equations of functions, as the evaluator prints them. Eras: what the program's functions and the document's answer. Era2: equations of functions, as the evaluator prints them. Eras: how they are written. Eras: there and back, in plain terms. EraLaw: equations of functions, as the evaluator prints them. Eras: the two statements.
-/
import Derived.Test.YtjkfndcpiihniaaGreatDoorMM
set_option linter.unusedVariables false
set_option linter.unusedSimpArgs false
set_option linter.unusedSectionVars false
namespace Nt.Ev.YtjkfndcpiihniaaGreatDoor
open Go Nt.Num Go.Proofs.YtjkfndcpiihniaaGreatDoor
variable [MLen]
open Nt.Civil
noncomputable def firstV : V := .rptr [.int .i64, .int .i64, .int .i64] (.agg [.int .i64 0, .int .i64 0, .int .i64 1]) 0
end Nt.Ev.YtjkfndcpiihniaaGreatDoor

namespace Nt.Ev.YtjkfndcpiihniaaGreatDoor
open Go Go.RowKit Nt Nt.Num Nt.Civil Go.Proofs.YtjkfndcpiihniaaGreatDoor
variable [MLen]
theorem ilt_bn (a b : Int) : ilt a b = bnot (ile b a) := by
  unfold ilt ile bnot
  rw [Bool.eq_iff_iff, decide_eq_true_eq, Bool.not_eq_true', decide_eq_false_iff_not]
  omega
def enR (h : Bool) (y m ok ow od c b : Int) : Bool := sel h (ilt (-32767) y && (ilt y 32767 && (ftB ok ow od m && rightC c b))) (band (ieq y 0) (band (ieq m 0) (band (band (ieq ok 0) (band (ieq ow 0) (ieq od 0))) (band (ieq c 0) (ieq b 0)))))
def erR (o k v : Int) (r q : List UInt8) (h : Bool) (y m ok ow od c b : Int) : Bool := ile (-54000) o && (ile o 54000 && (ieq (ckW q) 0 && (enR h y m ok ow od c b && sel (ieq k 0) (ieq v 0 && seq r []) (sel (ieq k 1) (ile (-10800) v && (ile v 10800 && seq r [])) (sel (ieq k 2) (ieq v 0 && ieq (nmI r) 0) false)))))
end Nt.Ev.YtjkfndcpiihniaaGreatDoor

namespace Nt.Ev.YtjkfndcpiihniaaGreatDoor
open Go Nt.Num Go.Proofs.YtjkfndcpiihniaaGreatDoor
variable [MLen]
open Nt.Civil
noncomputable def eRightS : FSpec := fun a => match a with | [.agg [.int .i64 o, .int .i64 k, .int .i64 v, .str r, .str q, .bool h, .int .i64 y, .int .i64 m, .int .i64 ok, .int .i64 ow, .int .i64 od, .int .i64 c, .int .i64 b]] => some (band (ile (slen r) 900) (ile (slen q) 900), .bool (erR o k v r q h y m ok ow od c b)) | _ => none
end Nt.Ev.YtjkfndcpiihniaaGreatDoor

namespace Nt.Ev.YtjkfndcpiihniaaGreatDoor
open Go Go.RowKit Nt Nt.Num Nt.Civil Go.Proofs.YtjkfndcpiihniaaGreatDoor
variable [MLen]
theorem contract_dropE {E : Env} {f : Nat} {args : List V} {e : Nat} {sh : List Kd} {L : Nat} {xs : List V} {y : V} (h : Contract E f args (.tup [.sl e sh (some L) xs, y])) : Contract E f args (.tup [.sl e sh none xs, y]) := by
  intro G w vs hG hg hp
  refine (h G w vs hG hg hp).mono ?_
  rintro e' w' ⟨v, G', rfl, hn, a, rfl, hpw, hc⟩
  refine ⟨_, G', rfl, hn, a, rfl, ?_, ?_⟩
  · match a, hpw with
    | [], hpw => exact absurd hpw.1 (by simp)
    | u :: us, hpw =>
      refine .cons ?_ hpw.tail
      have h1 := hpw.head
      show rep G' _ _
      refine ownG_rep ?_
      rcases h1.2 with ⟨hu, hx⟩ | ⟨b, cap, cur, l, hv, _, _, hcap, _, _, hG, hl, hE⟩
      · exact .inl ⟨hu, hx⟩
      · exact .inr ⟨b, cap, l, hv, hcap, hG, hl, hE⟩
  · simp only [List.countP_cons, List.countP_nil, hasL] at hc ⊢
    split <;> simp
theorem contract_lab {E : Env} {S : List (Nat × FSpec)} {f : Nat} {args : List V} {e : Nat} {sh : List Kd} {L : Nat} {xs : List V} {y : V} (hE : EOk E) (hS : SOk E S) (fuel d : Nat)
    (h : evBd E (evFn E S fuel d) fuel f args some = some (.tup [.sl e sh (some L) xs, y]) ∨ evBd E (evFn E S fuel d) fuel f args some = some (.tup [.sl e sh none xs, y])) : Contract E f args (.tup [.sl e sh none xs, y]) :=
  h.elim (fun h => contract_dropE (contract_of_body hE hS fuel d h)) (fun h => contract_of_body hE hS fuel d h)
def efM (k v : Int) (r : List UInt8) : List UInt8 := sel (ieq k 0) [45] (sel (ieq k 1) (amT v) r)
def efT (h : Bool) (y m ok ow od c b : Int) : List V := sel h (sel (band (ieq c 0) (ieq b 0)) (sel (band (ieq ok 0) (band (ieq ow 0) (ieq od 1))) (sel (ieq m 1) [.str (text y)] [.str (text y), .str (moT m)]) [.str (text y), .str (moT m), .str (dsTx ok ow od)]) [.str (text y), .str (moT m), .str (dsTx ok ow od), .str (tcT c b)]) []
def efL (o k v : Int) (r q : List UInt8) (h : Bool) (y m ok ow od c b : Int) : List V := .str (amT o) :: .str (efM k v r) :: .str q :: efT h y m ok ow od c b
def efV (o k v : Int) (r q : List UInt8) (h : Bool) (y m ok ow od c b : Int) : List V := sel (erR o k v r q h y m ok ow od c b) (efL o k v r q h y m ok ow od c b) []
def efE (o k v : Int) (r q : List UInt8) (h : Bool) (y m ok ow od c b : Int) : Int := sel (erR o k v r q h y m ok ow od c b) 0 4
theorem erR_k (o k v : Int) (r q : List UInt8) (h : Bool) (y m ok ow od c b : Int) (hR : erR o k v r q h y m ok ow od c b = true) : k = 0 ∨ k = 1 ∨ k = 2 := by
  unfold erR at hR
  simp only [Bool.and_eq_true] at hR
  obtain ⟨_, _, _, _, h⟩ := hR
  by_cases h0 : k = 0
  · exact .inl h0
  by_cases h1 : k = 1
  · exact .inr (.inl h1)
  by_cases h2 : k = 2
  · exact .inr (.inr h2)
  rw [ieq_f h0, ieq_f h1, ieq_f h2] at h
  cases h
end Nt.Ev.YtjkfndcpiihniaaGreatDoor

namespace Nt.Ev.YtjkfndcpiihniaaGreatDoor
open Go Go.RowKit Nt Nt.Num Nt.Civil Go.Proofs.YtjkfndcpiihniaaGreatDoor
variable [MLen]
theorem erq_len (q : List UInt8) (h : ckW q = 0) : q.length ≤ 16 := by
  unfold ckW at h
  by_cases h1 : 16 < q.length
  · rw [if_pos h1] at h; cases h
  · omega
theorem enR_iff (y m ok ow od c b : Int) : (enR true y m ok ow od c b = true) = ((-32767 < y ∧ y < 32767) ∧ (ftB ok ow od m = true ∧ rightC c b = true)) := by
  unfold enR
  rw [sT, Bool.and_eq_true, Bool.and_eq_true, Bool.and_eq_true, ilt_iff, ilt_iff]
  apply propext
  constructor
  · rintro ⟨a, b, c, d⟩; exact ⟨⟨a, b⟩, c, d⟩
  · rintro ⟨⟨a, b⟩, c, d⟩; exact ⟨a, b, c, d⟩
theorem erR_iff (o k v : Int) (r q : List UInt8) (h : Bool) (y m ok ow od c b : Int) : (erR o k v r q h y m ok ow od c b = true) = ((-54000 ≤ o ∧ o ≤ 54000) ∧ (ckW q = 0 ∧ (enR h y m ok ow od c b = true ∧ (sel (ieq k 0) (ieq v 0 && seq r []) (sel (ieq k 1) (ile (-10800) v && (ile v 10800 && seq r [])) (sel (ieq k 2) (ieq v 0 && ieq (nmI r) 0) false))) = true))) := by
  unfold erR
  rw [Bool.and_eq_true, Bool.and_eq_true, Bool.and_eq_true, Bool.and_eq_true, ile_iff, ile_iff, ieq_iff]
  apply propext
  constructor
  · rintro ⟨a, b, c, d⟩; exact ⟨⟨a, b⟩, c, d⟩
  · rintro ⟨⟨a, b⟩, c, d⟩; exact ⟨a, b, c, d⟩
end Nt.Ev.YtjkfndcpiihniaaGreatDoor

namespace Nt.Ev.YtjkfndcpiihniaaGreatDoor
open Go Nt.Num Go.Proofs.YtjkfndcpiihniaaGreatDoor
variable [MLen]
open Nt.Civil
noncomputable def eFlS : FSpec := fun a => match a with | [.agg [.int .i64 o, .int .i64 k, .int .i64 v, .str r, .str q, .bool h, .int .i64 y, .int .i64 m, .int .i64 ok, .int .i64 ow, .int .i64 od, .int .i64 c, .int .i64 b]] => some (band (band (ile (slen r) 900) (ile (slen q) 900)) (band (band (band (ile (-9223372036854775808) o) (ile o 9223372036854775807)) (band (ile (-9223372036854775808) v) (ile v 9223372036854775807))) (band (band (ile (-9223372036854775808) y) (ile y 9223372036854775807)) (band (ile (-9223372036854775808) m) (ile m 9223372036854775807)))), .tup [.sl 9 [.str] none (efV o k v r q h y m ok ow od c b), .int .i64 (efE o k v r q h y m ok ow od c b)]) | _ => none
noncomputable def eLd : List (Nat × FSpec) := (47, eFlS) :: (22, eFlS) :: (74, eRightS) :: (57, eRightS) :: []
noncomputable def eL : List (Nat × FSpec) := eLd
end Nt.Ev.YtjkfndcpiihniaaGreatDoor

namespace Nt.Ev.YtjkfndcpiihniaaGreatDoor
open Go Go.RowKit Nt Nt.Num Nt.Civil Go.Proofs.YtjkfndcpiihniaaGreatDoor
variable [MLen]
end Nt.Ev.YtjkfndcpiihniaaGreatDoor
