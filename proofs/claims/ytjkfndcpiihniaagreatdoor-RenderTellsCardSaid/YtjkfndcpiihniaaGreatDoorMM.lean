/-
  Months: equations of functions, as the evaluator prints them. Words: months, for the evaluator, both sides. Rule: equations of functions, as the evaluator prints them. Rules: what the program's functions and the document's answer. Rules: what is read, and what may be. Rules: there and back, in plain terms. RuleLaw: equations of functions, as the evaluator prints them. Rules: the two statements.
-/
import Derived.Test.YtjkfndcpiihniaaGreatDoorML
import Derived.Test.YtjkfndcpiihniaaGreatDoorMG
import Derived.Test.YtjkfndcpiihniaaGreatDoorMH
import Derived.Test.YtjkfndcpiihniaaGreatDoorMJ
import Derived.Test.YtjkfndcpiihniaaGreatDoorMI
import Derived.Test.YtjkfndcpiihniaaGreatDoorMF
set_option linter.unusedVariables false
set_option linter.unusedSimpArgs false
set_option linter.unusedSectionVars false
namespace Nt.Ev.YtjkfndcpiihniaaGreatDoor
set_option maxRecDepth 100000
open Go Nt.Num Go.Proofs.YtjkfndcpiihniaaGreatDoor
noncomputable def monthsV : V := .rptr [.str, .str, .str, .str, .str, .str, .str, .str, .str, .str, .str, .str] (.agg [.str [74, 97, 110, 117, 97, 114, 121], .str [70, 101, 98, 114, 117, 97, 114, 121], .str [77, 97, 114, 99, 104], .str [65, 112, 114, 105, 108], .str [77, 97, 121], .str [74, 117, 110, 101], .str [74, 117, 108, 121], .str [65, 117, 103, 117, 115, 116], .str [83, 101, 112, 116, 101, 109, 98, 101, 114], .str [79, 99, 116, 111, 98, 101, 114], .str [78, 111, 118, 101, 109, 98, 101, 114], .str [68, 101, 99, 101, 109, 98, 101, 114]]) 0
noncomputable def mE : Env := ⟨Go.Proofs.Tryz.prog, fun g => bif g == 0 then some monthsV else none⟩
noncomputable def mS : List (Nat × FSpec) := []
theorem mMText_top (F : Nat) (n : Int) (K : V → Option V) :
 evBd mE (evFn mE mS F 2) F 41 [(V.int .i64 n)] K =
 sel (ilt n 1)
 (K (V.str []))
 (sel (ilt (isub .i64 n 1) 0)
 (K (V.str []))
 (sel (ile (llen [(V.str [74, 97, 110, 117, 97, 114, 121]), (V.str [70, 101, 98, 114, 117, 97, 114, 121]), (V.str [77, 97, 114, 99, 104]), (V.str [65, 112, 114, 105, 108]), (V.str [77, 97, 121]), (V.str [74, 117, 110, 101]), (V.str [74, 117, 108, 121]), (V.str [65, 117, 103, 117, 115, 116]), (V.str [83, 101, 112, 116, 101, 109, 98, 101, 114]), (V.str [79, 99, 116, 111, 98, 101, 114]), (V.str [78, 111, 118, 101, 109, 98, 101, 114]), (V.str [68, 101, 99, 101, 109, 98, 101, 114])]) (isub .i64 n 1))
 (K (V.str []))
 (sel (band (ile 0 (isub .i64 n 1)) (ilt (isub .i64 n 1) (llen [(V.str [74, 97, 110, 117, 97, 114, 121]), (V.str [70, 101, 98, 114, 117, 97, 114, 121]), (V.str [77, 97, 114, 99, 104]), (V.str [65, 112, 114, 105, 108]), (V.str [77, 97, 121]), (V.str [74, 117, 110, 101]), (V.str [74, 117, 108, 121]), (V.str [65, 117, 103, 117, 115, 116]), (V.str [83, 101, 112, 116, 101, 109, 98, 101, 114]), (V.str [79, 99, 116, 111, 98, 101, 114]), (V.str [78, 111, 118, 101, 109, 98, 101, 114]), (V.str [68, 101, 99, 101, 109, 98, 101, 114])])))
 (sel (band (ile 0 3) (ile 3 (slen (asStr (acell (lget [(V.str [74, 97, 110, 117, 97, 114, 121]), (V.str [70, 101, 98, 114, 117, 97, 114, 121]), (V.str [77, 97, 114, 99, 104]), (V.str [65, 112, 114, 105, 108]), (V.str [77, 97, 121]), (V.str [74, 117, 110, 101]), (V.str [74, 117, 108, 121]), (V.str [65, 117, 103, 117, 115, 116]), (V.str [83, 101, 112, 116, 101, 109, 98, 101, 114]), (V.str [79, 99, 116, 111, 98, 101, 114]), (V.str [78, 111, 118, 101, 109, 98, 101, 114]), (V.str [68, 101, 99, 101, 109, 98, 101, 114])] (isub .i64 n 1)) 0)))))
 (K (V.str (ssub (asStr (acell (lget [(V.str [74, 97, 110, 117, 97, 114, 121]), (V.str [70, 101, 98, 114, 117, 97, 114, 121]), (V.str [77, 97, 114, 99, 104]), (V.str [65, 112, 114, 105, 108]), (V.str [77, 97, 121]), (V.str [74, 117, 110, 101]), (V.str [74, 117, 108, 121]), (V.str [65, 117, 103, 117, 115, 116]), (V.str [83, 101, 112, 116, 101, 109, 98, 101, 114]), (V.str [79, 99, 116, 111, 98, 101, 114]), (V.str [78, 111, 118, 101, 109, 98, 101, 114]), (V.str [68, 101, 99, 101, 109, 98, 101, 114])] (isub .i64 n 1)) 0)) 0 3)))
 (none))
 (none)))) := by kernel_rfl
theorem rMText_top (F : Nat) (n : Int) (K : V → Option V) :
 evBd mE (evFn mE mS F 2) F 55 [(V.int .i64 n)] K =
 sel (ilt n 1)
 (K (V.str []))
 (sel (ilt 12 n)
 (K (V.str []))
 (sel (band (ile 0 (isub .i64 n 1)) (ilt (isub .i64 n 1) (llen [(V.str [74, 97, 110, 117, 97, 114, 121]), (V.str [70, 101, 98, 114, 117, 97, 114, 121]), (V.str [77, 97, 114, 99, 104]), (V.str [65, 112, 114, 105, 108]), (V.str [77, 97, 121]), (V.str [74, 117, 110, 101]), (V.str [74, 117, 108, 121]), (V.str [65, 117, 103, 117, 115, 116]), (V.str [83, 101, 112, 116, 101, 109, 98, 101, 114]), (V.str [79, 99, 116, 111, 98, 101, 114]), (V.str [78, 111, 118, 101, 109, 98, 101, 114]), (V.str [68, 101, 99, 101, 109, 98, 101, 114])])))
 (sel (band (ile 0 3) (ile 3 (slen (asStr (acell (lget [(V.str [74, 97, 110, 117, 97, 114, 121]), (V.str [70, 101, 98, 114, 117, 97, 114, 121]), (V.str [77, 97, 114, 99, 104]), (V.str [65, 112, 114, 105, 108]), (V.str [77, 97, 121]), (V.str [74, 117, 110, 101]), (V.str [74, 117, 108, 121]), (V.str [65, 117, 103, 117, 115, 116]), (V.str [83, 101, 112, 116, 101, 109, 98, 101, 114]), (V.str [79, 99, 116, 111, 98, 101, 114]), (V.str [78, 111, 118, 101, 109, 98, 101, 114]), (V.str [68, 101, 99, 101, 109, 98, 101, 114])] (isub .i64 n 1)) 0)))))
 (K (V.str (ssub (asStr (acell (lget [(V.str [74, 97, 110, 117, 97, 114, 121]), (V.str [70, 101, 98, 114, 117, 97, 114, 121]), (V.str [77, 97, 114, 99, 104]), (V.str [65, 112, 114, 105, 108]), (V.str [77, 97, 121]), (V.str [74, 117, 110, 101]), (V.str [74, 117, 108, 121]), (V.str [65, 117, 103, 117, 115, 116]), (V.str [83, 101, 112, 116, 101, 109, 98, 101, 114]), (V.str [79, 99, 116, 111, 98, 101, 114]), (V.str [78, 111, 118, 101, 109, 98, 101, 114]), (V.str [68, 101, 99, 101, 109, 98, 101, 114])] (isub .i64 n 1)) 0)) 0 3)))
 (none))
 (none))) := by kernel_rfl
end Nt.Ev.YtjkfndcpiihniaaGreatDoor

namespace Nt.Ev.YtjkfndcpiihniaaGreatDoor
open Go Go.RowKit Nt Nt.Num Go.Proofs.YtjkfndcpiihniaaGreatDoor
theorem mE_ok : EOk mE := ⟨by kernel_rfl, by kernel_rfl⟩
theorem mS_ok : SOk mE mS := by
  unfold mS
  refine SOk.nil
def moV : List V := [.str [74, 97, 110, 117, 97, 114, 121], .str [70, 101, 98, 114, 117, 97, 114, 121], .str [77, 97, 114, 99, 104], .str [65, 112, 114, 105, 108], .str [77, 97, 121], .str [74, 117, 110, 101], .str [74, 117, 108, 121], .str [65, 117, 103, 117, 115, 116], .str [83, 101, 112, 116, 101, 109, 98, 101, 114], .str [79, 99, 116, 111, 98, 101, 114], .str [78, 111, 118, 101, 109, 98, 101, 114], .str [68, 101, 99, 101, 109, 98, 101, 114]]
def moI (s : List UInt8) : Int := if mtW s moV = 0 then mtI s moV + 1 else 0
def moW (s : List UInt8) : Int := mtW s moV
def moT (n : Int) : List UInt8 := if 1 ≤ n ∧ n ≤ 12 then (asStr (moV.getD (n - 1).toNat .any)).take 3 else []
theorem mMText_ev (n : Int) (hn : Fits n) : Contract mE 41 [.int .i64 n] (.str (moT n)) := by
  refine contract_of_body mE_ok mS_ok 5 2 ?_
  rw [mMText_top]
  by_cases h : 1 ≤ n ∧ n ≤ 12
  · obtain rfl | rfl | rfl | rfl | rfl | rfl | rfl | rfl | rfl | rfl | rfl | rfl : n = 1 ∨ n = 2 ∨ n = 3 ∨ n = 4 ∨ n = 5 ∨ n = 6 ∨ n = 7 ∨ n = 8 ∨ n = 9 ∨ n = 10 ∨ n = 11 ∨ n = 12 := by omega
    all_goals rfl
  · have e : moT n = [] := by unfold moT; rw [if_neg h]
    rw [e]
    by_cases h1 : n < 1
    · rw [sel_pos (ilt_t h1)]
    · unfold Fits at hn
      have e1 : isub .i64 n 1 = n - 1 := isub64 (by omega)
      rw [sel_neg (ilt_f (by omega)), e1, sel_neg (ilt_f (by omega)), sel_pos (ile_t (by rw [llen_nat]; show (12 : Int) ≤ n - 1; omega))]
theorem rMText_ev (n : Int) (hn : Fits n) : Contract mE 55 [.int .i64 n] (.str (moT n)) := by
  refine contract_of_body mE_ok mS_ok 5 2 ?_
  rw [rMText_top]
  by_cases h : 1 ≤ n ∧ n ≤ 12
  · obtain rfl | rfl | rfl | rfl | rfl | rfl | rfl | rfl | rfl | rfl | rfl | rfl : n = 1 ∨ n = 2 ∨ n = 3 ∨ n = 4 ∨ n = 5 ∨ n = 6 ∨ n = 7 ∨ n = 8 ∨ n = 9 ∨ n = 10 ∨ n = 11 ∨ n = 12 := by omega
    all_goals rfl
  · have e : moT n = [] := by unfold moT; rw [if_neg h]
    rw [e]
    by_cases h1 : n < 1
    · rw [sel_pos (ilt_t h1)]
    · rw [sel_neg (ilt_f (by omega)), sel_pos (ilt_t (by omega))]
end Nt.Ev.YtjkfndcpiihniaaGreatDoor

namespace Nt.Ev.YtjkfndcpiihniaaGreatDoor
open Go Nt.Num Go.Proofs.YtjkfndcpiihniaaGreatDoor
variable [MLen]
open Nt.Civil
def fstC (c : UInt8) : Bool := (decide (65 ≤ c.toNat) && decide (c.toNat ≤ 90)) || (decide (97 ≤ c.toNat) && decide (c.toNat ≤ 122)) || c == 95
def othC (c : UInt8) : Bool := (decide (48 ≤ c.toNat) && decide (c.toNat ≤ 57)) || c == 45 || c == 43 || c == 47 || c == 46
def nmC (k : Nat) (c : UInt8) : Bool := fstC c || (decide (0 < k) && othC c)
def nmF : Nat → List UInt8 → Bool | _, [] => true | k, c :: t => nmC k c && nmF (k + 1) t
def nmI (s : List UInt8) : Int := if 64 < s.length then 9 else if nmF 0 s = true ∧ s ≠ [] then 0 else 10
def ftB (k w d m : Int) : Bool := onB k w d && decide (1 ≤ m ∧ m ≤ 12 ∧ d ≤ lenI 1 m)
def ckA (s : List UInt8) : Int := (readC s).1
def ckB (s : List UInt8) : Int := (readC s).2.1
def ckE (s : List UInt8) : Int := (readC s).2.2
def tcT (n b : Int) : List UInt8 := (textC n b).1
def tcW (n b : Int) : Int := (textC n b).2
def amI (s : List UInt8) : Int := (Amount.read s).1
def amW (s : List UInt8) : Int := (Amount.read s).2
def amT (n : Int) : List UInt8 := (Amount.text n).1
def amE (n : Int) : Int := (Amount.text n).2
def fxT (n : Int) : List UInt8 := (yFromTextP n).1
def fxW (n : Int) : Int := (yFromTextP n).2
def txTy (m n : Int) : List UInt8 := (yToTextP m n).1
def txWy (m n : Int) : Int := (yToTextP m n).2
def yrB (f t : Int) : Bool := ile (-32767) f && (ile f t && ile t 32767)
def ruR (n : List UInt8) (f t m k w d c b v : Int) (l : List UInt8) : Bool := ieq (nmI n) 0 && (yrB f t && (ftB k w d m && (rightC c b && ((ile (-10800) v && ile v 10800) && ieq (ltW l) 0))))
end Nt.Ev.YtjkfndcpiihniaaGreatDoor

namespace Nt.Ev.YtjkfndcpiihniaaGreatDoor
open Go Go.RowKit Nt Nt.Num Nt.Civil Go.Proofs.YtjkfndcpiihniaaGreatDoor
variable [MLen]
theorem ibits_letter (c : UInt8) : (ile 97 (ibits .or .u8 ((c.toNat : Nat) : Int) 32) && ile (ibits .or .u8 ((c.toNat : Nat) : Int) 32) 122) = ((decide (65 ≤ c.toNat) && decide (c.toNat ≤ 90)) || (decide (97 ≤ c.toNat) && decide (c.toNat ≤ 122))) := by
  have h : ∀ n : Fin 256, (ile 97 (ibits .or .u8 ((n.val : Nat) : Int) 32) && ile (ibits .or .u8 ((n.val : Nat) : Int) 32) 122) = ((decide (65 ≤ n.val) && decide (n.val ≤ 90)) || (decide (97 ≤ n.val) && decide (n.val ≤ 122))) := by decide +kernel
  exact h ⟨c.toNat, c.toNat_lt⟩
theorem idx_oth (c : UInt8) : ile 0 (idxB [45, 43, 47, 46] ((c.toNat : Nat) : Int)) = (c == 45 || c == 43 || c == 47 || c == 46) := by
  have h : ∀ n : Fin 256, ile 0 (idxB [45, 43, 47, 46] ((n.val : Nat) : Int)) = (UInt8.ofNat n == 45 || UInt8.ofNat n == 43 || UInt8.ofNat n == 47 || UInt8.ofNat n == 46) := by decide +kernel
  have := h ⟨c.toNat, c.toNat_lt⟩
  simpa using this
theorem u8_ieq (c d : UInt8) : ieq ((c.toNat : Nat) : Int) ((d.toNat : Nat) : Int) = (c == d) := by
  rw [Bool.eq_iff_iff, ieq_iff, beq_iff_eq, ← UInt8.toNat_inj]; omega
theorem u8_ile (c : UInt8) (a : Nat) : ile (a : Int) ((c.toNat : Nat) : Int) = decide (a ≤ c.toNat) := by
  rw [Bool.eq_iff_iff, ile_iff, decide_eq_true_eq]; omega
theorem u8_ile' (c : UInt8) (a : Nat) : ile ((c.toNat : Nat) : Int) (a : Int) = decide (c.toNat ≤ a) := by
  rw [Bool.eq_iff_iff, ile_iff, decide_eq_true_eq]; omega
theorem nm_fin (s : List UInt8) : (if nmF 0 s = true then (if s = [] then (10 : Int) else 0) else 10) = if nmF 0 s = true ∧ s ≠ [] then 0 else 10 := by
  by_cases h : nmF 0 s = true
  · rw [if_pos h]
    by_cases h0 : s = []
    · rw [if_pos h0, if_neg (fun e => e.2 h0)]
    · rw [if_neg h0, if_pos ⟨h, h0⟩]
  · rw [if_neg h, if_neg (fun e => h e.1)]
theorem sel_fun (f : Bool → Option V) (c a b : Bool) : sel c (f a) (f b) = f (sel c a b) := by cases c <;> rfl
end Nt.Ev.YtjkfndcpiihniaaGreatDoor

namespace Nt.Ev.YtjkfndcpiihniaaGreatDoor
open Go Go.RowKit Nt Nt.Num Nt.Civil Go.Proofs.YtjkfndcpiihniaaGreatDoor
variable [MLen]
theorem sT {α : Type} (x y : α) : sel true x y = x := rfl
end Nt.Ev.YtjkfndcpiihniaaGreatDoor

namespace Nt.Ev.YtjkfndcpiihniaaGreatDoor
open Go Go.RowKit Nt Nt.Num Nt.Civil Go.Proofs.YtjkfndcpiihniaaGreatDoor
variable [MLen]
theorem mo_back (m : Int) (h1 : 1 ≤ m) (h2 : m ≤ 12) : moI (moT m) = m ∧ moW (moT m) = 0 ∧ (moT m).length ≤ 10 := by
  obtain rfl | rfl | rfl | rfl | rfl | rfl | rfl | rfl | rfl | rfl | rfl | rfl : m = 1 ∨ m = 2 ∨ m = 3 ∨ m = 4 ∨ m = 5 ∨ m = 6 ∨ m = 7 ∨ m = 8 ∨ m = 9 ∨ m = 10 ∨ m = 11 ∨ m = 12 := by omega
  all_goals decide +kernel
theorem ck_back (n b : Int) (hr : rightC n b = true) : ckA (tcT n b) = n ∧ ckB (tcT n b) = b ∧ ckE (tcT n b) = 0 ∧ (tcT n b).length ≤ 20 := by
  have hr' := hr
  unfold rightC at hr'
  have hr' := of_decide_eq_true hr'
  obtain ⟨l, c, h1, h2, h3, h4⟩ := week_text n (by omega) (by omega)
  have hn : 0 ≤ n ∧ n ≤ 172800 := by omega
  have hlen := (tx_week n hn).2
  have hcl : clsI (c.toNat : Int) = 3 := by unfold clsI; rw [if_neg (by omega), if_neg (by omega), if_neg (by omega)]
  have e2 : tcT n b = (Amount.text n).1 ++ letC b := by unfold tcT textC; rw [if_pos hr]; rfl
  have hl : (Amount.text n).1.length ≤ 10 := hlen
  rw [e2]
  generalize (Amount.text n).1 = t at *
  have rd : ∀ (x : UInt8) (q : Int), clsI (x.toNat : Int) = q → q ≠ 3 → ckA (t ++ [x]) = n ∧ ckB (t ++ [x]) = q ∧ ckE (t ++ [x]) = 0 ∧ (t ++ [x]).length ≤ 20 := fun x q hx hq => by
    have := readC_last t x n q hx hq h4 hn
    unfold ckA ckB ckE
    rw [this]; exact ⟨rfl, rfl, rfl, by simp; omega⟩
  have hb : b = 0 ∨ b = 1 ∨ b = 2 := by omega
  rcases hb with rfl | rfl | rfl
  · have e3 : t ++ letC 0 = t := by unfold letC; simp
    have e4 : readC t = (n, 0, 0) := by rw [h1]; exact readC_none l c n hcl (by rw [← h1]; exact h4) hn
    rw [e3]
    unfold ckA ckB ckE
    rw [e4]; exact ⟨rfl, rfl, rfl, by omega⟩
  · exact rd 115 1 rfl (by decide)
  · exact rd 117 2 rfl (by decide)
theorem am_neg (k : Nat) (h : k ≤ 604799) : Amount.read ([45] ++ posL k) = (-(k : Int), 0) := by
  rw [read_minus (posL_ne k h), posL_eq, told_pos _ k h (hour_ok k h).1 (hour_ok k h).2]
  rfl
theorem am_back (v : Int) (h1 : -604799 ≤ v) (h2 : v ≤ 604799) : amI (amT v) = v ∧ amW (amT v) = 0 ∧ (amT v).length ≤ 40 := by
  unfold amI amW amT
  by_cases h0 : v = 0
  · subst h0; decide
  · by_cases hp : 0 < v
    · obtain ⟨k, rfl⟩ : ∃ k : Nat, v = (k : Int) := ⟨v.toNat, by omega⟩
      have e := posL_len k (by omega)
      rw [amt_pos k (by omega) (by omega), read_pos k (by omega)]
      exact ⟨rfl, rfl, by show (posL k).length ≤ 40; omega⟩
    · obtain ⟨k, rfl⟩ : ∃ k : Nat, v = -(k : Int) := ⟨v.natAbs, by omega⟩
      have e := posL_len k (by omega)
      rw [amt_neg k (by omega) (by omega), am_neg k (by omega)]
      exact ⟨rfl, rfl, by show ([45] ++ posL k).length ≤ 40; simp; omega⟩
theorem le_back (s : List UInt8) (h : leW s = 0) : ltW (leT s) = 0 ∧ (leT s).length ≤ 6 := by
  have h' := h
  unfold leW leP at h
  by_cases h1 : s = [45]
  · subst h1; decide
  · rw [if_neg h1] at h
    by_cases h2 : 6 < s.length
    · rw [if_pos h2] at h; cases h
    · rw [if_neg h2] at h
      by_cases h3 : s = [] ∨ Fmt.wordB s = false
      · rw [if_pos h3] at h; cases h
      · have e : leT s = s := by unfold leT leP; rw [if_neg h1, if_neg h2, if_neg h3]
        have hs : ¬ s = [] := fun e => h3 (.inl e)
        rw [e]
        refine ⟨?_, by omega⟩
        unfold ltW ltP
        rw [if_neg hs, if_neg (by rw [e, h']; simp)]
theorem lt_len6 (t : List UInt8) (h : ltW t = 0) : (ltT t).length ≤ 6 ∧ t.length ≤ 6 := by
  obtain ⟨h1, h2⟩ := lt_back t h
  have h3 := le_back _ h1
  rw [h2] at h3
  refine ⟨?_, h3.2⟩
  unfold ltT ltP
  (repeat' split)
  · decide
  · decide
  · exact h3.2
theorem nm_len (n : List UInt8) (h : nmI n = 0) : n.length ≤ 64 := by
  unfold nmI at h
  by_cases h1 : 64 < n.length
  · rw [if_pos h1] at h; cases h
  · omega
def rfL (n : List UInt8) (f t m k w d c b v : Int) (l : List UInt8) : List V := [.str n, .str (fxT f), .str (txTy f t), .str [45], .str (moT m), .str (dsTx k w d), .str (tcT c b), .str (amT v), .str (ltT l)]
theorem ruR_iff (n : List UInt8) (f t m k w d c b v : Int) (l : List UInt8) : (ruR n f t m k w d c b v l = true) = (nmI n = 0 ∧ (yrB f t = true ∧ (ftB k w d m = true ∧ (rightC c b = true ∧ ((-10800 ≤ v ∧ v ≤ 10800) ∧ ltW l = 0))))) := by
  unfold ruR
  rw [Bool.and_eq_true, Bool.and_eq_true, Bool.and_eq_true, Bool.and_eq_true, Bool.and_eq_true, Bool.and_eq_true, ieq_iff, ile_iff, ile_iff, ieq_iff]
end Nt.Ev.YtjkfndcpiihniaaGreatDoor

namespace Nt.Ev.YtjkfndcpiihniaaGreatDoor
open Go Nt.Num Go.Proofs.YtjkfndcpiihniaaGreatDoor
variable [MLen]
open Nt.Civil
def rfV (n : List UInt8) (f t m k w d c b v : Int) (l : List UInt8) : List V := sel (ruR n f t m k w d c b v l) (rfL n f t m k w d c b v l) []
def rfE (n : List UInt8) (f t m k w d c b v : Int) (l : List UInt8) : Int := sel (ruR n f t m k w d c b v l) 0 4
end Nt.Ev.YtjkfndcpiihniaaGreatDoor

namespace Nt.Ev.YtjkfndcpiihniaaGreatDoor
open Go Go.RowKit Nt Nt.Num Nt.Civil Go.Proofs.YtjkfndcpiihniaaGreatDoor
variable [MLen]
end Nt.Ev.YtjkfndcpiihniaaGreatDoor
