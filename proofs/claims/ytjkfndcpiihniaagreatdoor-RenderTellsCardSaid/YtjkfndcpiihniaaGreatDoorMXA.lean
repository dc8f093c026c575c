/-
  Top06: equations of functions, as the evaluator prints them. Lines of rules and of eras: what the fields' texts are made of, and how long the lines are.
-/
import Derived.Test.YtjkfndcpiihniaaGreatDoorMN
import Derived.Test.YtjkfndcpiihniaaGreatDoorMO
import Derived.Test.YtjkfndcpiihniaaGreatDoorMQ
set_option linter.unusedVariables false
set_option linter.unusedSimpArgs false
set_option linter.unusedSectionVars false
namespace Nt.Ev.YtjkfndcpiihniaaGreatDoor
open Go Nt.Num Go.Proofs.YtjkfndcpiihniaaGreatDoor
variable [MLen]
open Nt.Civil
open Nt.Fld
end Nt.Ev.YtjkfndcpiihniaaGreatDoor

namespace Nt.Ev.YtjkfndcpiihniaaGreatDoor
open Go Go.RowKit Nt Nt.Num Nt.Civil Nt.Fld Go.Proofs.YtjkfndcpiihniaaGreatDoor
set_option maxRecDepth 100000
def GdB (c : UInt8) : Prop := 33 ≤ c.toNat ∧ c.toNat ≤ 126 ∧ c.toNat ≠ 34
def Gd (l : List UInt8) : Prop := ∀ c ∈ l, GdB c
instance (c : UInt8) : Decidable (GdB c) := by unfold GdB; infer_instance
instance (l : List UInt8) : Decidable (Gd l) := by unfold Gd; infer_instance
theorem gd_app {a b : List UInt8} (ha : Gd a) (hb : Gd b) : Gd (a ++ b) := fun c hc => (List.mem_append.1 hc).elim (ha c) (hb c)
theorem gd_nil : Gd [] := fun _ h => by cases h
theorem gd_one {c : UInt8} (h : GdB c) : Gd [c] := fun x hx => by rw [List.mem_singleton] at hx; rw [hx]; exact h
theorem gd_dig (k : Nat) (h : k < 10) : GdB (digit k) := by
  unfold GdB
  rw [digit_toNat k h]
  omega
theorem gd_digs (n : Nat) : Gd (digs n) := by
  induction n using Nat.strongRecOn with
  | _ n ih =>
    by_cases h : n < 10
    · rw [digs_small n h]; exact gd_one (gd_dig n h)
    · rw [digs_step n (by omega)]
      exact gd_app (ih (n / 10) (by omega)) (gd_one (gd_dig _ (by omega)))
theorem gd_text (n : Int) : Gd (text n) := by
  unfold text
  refine gd_app ?_ (gd_digs _)
  split
  · decide
  · exact gd_nil
theorem gd_two (n : Nat) (h : n < 100) : Gd (Amount.two n) := by
  unfold Amount.two
  exact gd_app (gd_one (gd_dig _ (by omega))) (gd_one (gd_dig _ (by omega)))
theorem gd_amt (n : Int) : Gd (amT n) := by
  unfold amT Amount.text
  split
  · exact gd_nil
  split
  · decide
  refine gd_app (gd_app (gd_app (gd_app ?_ (gd_digs _)) (by decide)) (gd_two _ (by omega))) ?_
  · split
    · decide
    · exact gd_nil
  · split
    · exact gd_app (a := [58]) (by decide) (gd_two _ (by omega))
    · exact gd_nil
theorem gd_mo (m : Int) : Gd (moT m) := by
  unfold moT
  split
  next h =>
    obtain rfl | rfl | rfl | rfl | rfl | rfl | rfl | rfl | rfl | rfl | rfl | rfl : m = 1 ∨ m = 2 ∨ m = 3 ∨ m = 4 ∨ m = 5 ∨ m = 6 ∨ m = 7 ∨ m = 8 ∨ m = 9 ∨ m = 10 ∨ m = 11 ∨ m = 12 := by omega
    all_goals decide
  next => exact gd_nil
theorem gd_wt (n : Int) : Gd (wtT n) := by
  unfold wtT
  split
  next h =>
    obtain rfl | rfl | rfl | rfl | rfl | rfl | rfl : n = 0 ∨ n = 1 ∨ n = 2 ∨ n = 3 ∨ n = 4 ∨ n = 5 ∨ n = 6 := by omega
    all_goals decide
  next => exact gd_nil
theorem gd_ds (k w d : Int) : Gd (dsTx k w d) := by
  unfold dsTx
  split
  · unfold dsT
    split
    · exact gd_app (by decide) (gd_wt w)
    split
    · exact gd_app (gd_app (gd_wt w) (by decide)) (gd_text d)
    split
    · exact gd_app (gd_app (gd_wt w) (by decide)) (gd_text d)
    · exact gd_text d
  · exact gd_nil
theorem gd_tc (n b : Int) : Gd (tcT n b) := by
  unfold tcT textC
  split
  · refine gd_app (gd_amt n) ?_
    unfold letC
    split
    · exact gd_nil
    split <;> decide
  · exact gd_nil
theorem gd_fx (n : Int) : Gd (fxT n) := by
  unfold fxT yFromTextP
  split
  · split
    · show Gd minT; decide
    · exact gd_text n
  · exact gd_nil
theorem gd_tx (m n : Int) : Gd (txTy m n) := by
  unfold txTy yToTextP
  split
  · split
    · exact gd_nil
    split
    · show Gd onlyT; decide
    split
    · show Gd maxT; decide
    · exact gd_text n
  · exact gd_nil
theorem gd_let {c : UInt8} (h : Fmt.letB c = true) : GdB c := by
  unfold Fmt.letB at h
  rw [decide_eq_true_eq] at h
  unfold GdB
  omega
theorem gd_word {s : List UInt8} (h : Fmt.wordB s = true) : Gd s := fun c hc => gd_let (Fmt.word_mem h hc)
theorem gd_lt (l : List UInt8) : Gd (ltT l) := by
  unfold ltT ltP
  split
  · decide
  split
  · exact gd_nil
  next h =>
    show Gd l
    have h1 : leW l = 0 := by
      by_cases x : leW l = 0
      · exact x
      · exact absurd (.inl x) h
    have h2 : leT l = l := by
      by_cases x : leT l = l
      · exact x
      · exact absurd (.inr x) h
    unfold leW leP at h1
    split at h1
    next e => rw [e]; decide
    split at h1
    · cases h1
    split at h1
    · cases h1
    next hw =>
      refine gd_word ?_
      cases hx : Fmt.wordB l with
      | true => rfl
      | false => exact absurd (.inr hx) hw
theorem gd_ck (q : List UInt8) (h : ckW q = 0) : Gd q := by
  intro c hc
  unfold ckW at h
  by_cases h1 : 16 < q.length
  · rw [if_pos h1] at h; cases h
  rw [if_neg h1] at h
  have h2 : fkK q ≠ 0 := fun e => by rw [if_pos e] at h; cases h
  cases hl : Fmt.letB c with
  | true => exact gd_let hl
  | false =>
    by_cases e1 : c = 37
    · rw [e1]; decide
    by_cases e2 : c = 47
    · rw [e2]; decide
    exact absurd (Fmt.kind_char hc hl e1 e2) h2
theorem gd_nmC (k : Nat) (c : UInt8) (h : nmC k c = true) : GdB c := by
  unfold nmC fstC othC at h
  simp only [Bool.or_eq_true, Bool.and_eq_true, decide_eq_true_eq, beq_iff_eq] at h
  unfold GdB
  rcases h with ((h | h) | h) | ⟨_, (((h | h) | h) | h) | h⟩
  all_goals first | omega | (rw [h]; decide)
theorem gd_nmF : ∀ (s : List UInt8) (k : Nat), nmF k s = true → Gd s
  | [], _, _ => gd_nil
  | c :: t, k, h => by
    unfold nmF at h
    rw [Bool.and_eq_true] at h
    exact gd_app (a := [c]) (gd_one (gd_nmC k c h.1)) (gd_nmF t (k + 1) h.2)
theorem gd_nm (n : List UInt8) (h : nmI n = 0) : Gd n := by
  unfold nmI at h
  split at h
  · cases h
  split at h
  next hh => exact gd_nmF n 0 hh.1
  next => cases h
def PrB (c : UInt8) : Prop := 32 ≤ c.toNat ∧ c.toNat ≤ 126
def Pr (l : List UInt8) : Prop := ∀ c ∈ l, PrB c
instance (c : UInt8) : Decidable (PrB c) := by unfold PrB; infer_instance
instance (l : List UInt8) : Decidable (Pr l) := by unfold Pr; infer_instance
theorem pr_app {a b : List UInt8} (ha : Pr a) (hb : Pr b) : Pr (a ++ b) := fun c hc => (List.mem_append.1 hc).elim (ha c) (hb c)
theorem gd_pr {a : List UInt8} (h : Gd a) : Pr a := fun c hc => by have := h c hc; unfold GdB at this; unfold PrB; omega
theorem gd_no {a : List UInt8} (h : Gd a) : a.contains 34 = false := by
  cases e : a.contains 34 with
  | false => rfl
  | true =>
    rw [List.contains_iff_mem] at e
    have := h _ e
    exact absurd this (by decide)
theorem pr_tx {a : List UInt8} (h : Gd a) : Pr (txP a).1 := by
  unfold txP
  split
  · exact fun _ h => by cases h
  split
  · exact pr_app (pr_app (by decide) (gd_pr h)) (by decide)
  · exact gd_pr h
theorem tx_len (x : List UInt8) : (txP x).1.length ≤ x.length + 2 := by
  unfold txP
  (repeat' split) <;> simp
theorem pr_join : ∀ (l : List (List UInt8)), (∀ x ∈ l, Gd x) → Pr (joinR l).1 ∧ (joinR l).1.length ≤ totL l + 3 * l.length
  | [], _ => ⟨fun _ h => (by cases h), Nat.zero_le _⟩
  | x :: l, h => by
    obtain ⟨i1, i2⟩ := pr_join l fun y hy => h y (List.mem_cons_of_mem _ hy)
    have hx := h x List.mem_cons_self
    have e1 := tx_some (gd_no hx)
    have e2 := joinR_ok l fun y hy => gd_no (h y (List.mem_cons_of_mem _ hy))
    have e : (joinR (x :: l)).1 = [32] ++ (txP x).1 ++ (joinR l).1 := by
      show (if (txP x).2 = 0 then (if (joinR l).2 = 0 then (([32] ++ (txP x).1 ++ (joinR l).1, 0) : List UInt8 × Int) else ([], (joinR l).2)) else ([], (txP x).2)).1 = _
      rw [if_pos e1, if_pos e2]
    rw [e]
    refine ⟨pr_app (pr_app (by decide) (pr_tx hx)) i1, ?_⟩
    have := tx_len x
    have ht : totL (x :: l) = x.length + totL l := rfl
    rw [List.length_append, List.length_append, List.length_cons, List.length_cons, List.length_nil, ht]
    omega
theorem line_ok (l : List (List UInt8)) (h : ∀ x ∈ l, Gd x) (hl : l.length ≤ 16) (ht : totL l ≤ 400) : (joinP l).2 = 0 ∧ ofP (joinP l).1 = (l, 0) ∧ Pr (joinP l).1 ∧ (joinP l).1.length ≤ totL l + 3 * l.length := by
  have e := joinR_ok l fun y hy => gd_no (h y hy)
  have h1 : joinP l = ((joinR l).1.drop 1, 0) := by unfold joinP; rw [if_neg (by omega), if_pos e]
  have h0 : (joinP l).2 = 0 := by rw [h1]
  obtain ⟨p1, p2⟩ := pr_join l h
  refine ⟨h0, of_join l h0, ?_, ?_⟩
  · rw [h1]; exact fun c hc => p1 c (List.mem_of_mem_drop hc)
  · rw [h1]; show ((joinR l).1.drop 1).length ≤ _; rw [List.length_drop]; omega
variable [MLen]
def rfS (n : List UInt8) (f t m k w d c b v : Int) (l : List UInt8) : List (List UInt8) := [n, fxT f, txTy f t, [45], moT m, dsTx k w d, tcT c b, amT v, ltT l]
theorem rf_good (n : List UInt8) (f t m k w d c b v : Int) (l : List UInt8) (h : ruR n f t m k w d c b v l = true) : (∀ x ∈ rfS n f t m k w d c b v l, Gd x) ∧ totL (rfS n f t m k w d c b v l) ≤ 400 := by
  rw [ruR_iff] at h
  obtain ⟨h1, h2, h3, h4, h5, h6⟩ := h
  constructor
  · intro x hx
    unfold rfS at hx
    simp only [List.mem_cons, List.not_mem_nil, or_false] at hx
    rcases hx with rfl | rfl | rfl | rfl | rfl | rfl | rfl | rfl | rfl
    · exact gd_nm _ h1
    · exact gd_fx _
    · exact gd_tx _ _
    · decide
    · exact gd_mo _
    · exact gd_ds _ _ _
    · exact gd_tc _ _
    · exact gd_amt _
    · exact gd_lt _
  · have n1 := nm_len n h1
    have n2 : (fxT f).length ≤ 25 := yfT_len f
    have n3 : (txTy f t).length ≤ 25 := ytT_len f t
    have n4 := dsTx_len k w d
    unfold ftB at h3
    rw [Bool.and_eq_true, decide_eq_true_eq] at h3
    obtain ⟨m1, m2, m3⟩ := mo_back m h3.2.1 h3.2.2.1
    obtain ⟨c1, c2, c3, c4⟩ := ck_back c b h4
    obtain ⟨a1, a2, a3⟩ := am_back v (by omega) (by omega)
    have l3 := (lt_len6 l h6).1
    show n.length + ((fxT f).length + ((txTy f t).length + (1 + ((moT m).length + ((dsTx k w d).length + ((tcT c b).length + ((amT v).length + ((ltT l).length + 0)))))))) ≤ 400
    omega
def efTs (h : Bool) (y m ok ow od c b : Int) : List (List UInt8) := sel h (sel (band (ieq c 0) (ieq b 0)) (sel (band (ieq ok 0) (band (ieq ow 0) (ieq od 1))) (sel (ieq m 1) [text y] [text y, moT m]) [text y, moT m, dsTx ok ow od]) [text y, moT m, dsTx ok ow od, tcT c b]) []
def efS (o k v : Int) (r q : List UInt8) (h : Bool) (y m ok ow od c b : Int) : List (List UInt8) := amT o :: efM k v r :: q :: efTs h y m ok ow od c b
theorem ef_strs (o k v : Int) (r q : List UInt8) (h : Bool) (y m ok ow od c b : Int) : efL o k v r q h y m ok ow od c b = strsV (efS o k v r q h y m ok ow od c b) := by
  unfold efL efS efT efTs
  cases h <;> cases band (ieq c 0) (ieq b 0) <;> cases band (ieq ok 0) (band (ieq ow 0) (ieq od 1)) <;> cases ieq m 1 <;> rfl
theorem text_len7 (y : Int) (h1 : -32767 < y) (h2 : y < 32767) : (text y).length ≤ 7 := by
  have h : (digs y.natAbs).length ≤ 5 := (digs_len 5 y.natAbs (by omega) (by omega)).1
  unfold text
  rw [List.length_append]
  split
  · rw [List.length_cons, List.length_nil]; omega
  · rw [List.length_nil]; omega
theorem ef_good (o k v : Int) (r q : List UInt8) (h : Bool) (y m ok ow od c b : Int) (hR : erR o k v r q h y m ok ow od c b = true) :
    (∀ x ∈ efS o k v r q h y m ok ow od c b, Gd x) ∧ totL (efS o k v r q h y m ok ow od c b) ≤ 400 ∧ (efS o k v r q h y m ok ow od c b).length ≤ 7 := by
  rw [erR_iff] at hR
  obtain ⟨⟨o1, o2⟩, hq, hE, hK⟩ := hR
  obtain ⟨a1, a2, a3⟩ := am_back o (by omega) (by omega)
  have hM : Gd (efM k v r) ∧ (efM k v r).length ≤ 64 := by
    unfold efM
    cases e0 : ieq k 0 with
    | true => exact ⟨(show Gd [45] by decide), (show ([45] : List UInt8).length ≤ 64 by decide)⟩
    | false =>
    cases e1 : ieq k 1 with
    | true =>
      rw [e0, e1] at hK
      have hK' : (ile (-10800) v && (ile v 10800 && seq r [])) = true := hK
      rw [Bool.and_eq_true, Bool.and_eq_true, ile_iff, ile_iff] at hK'
      obtain ⟨v1, v2, v3⟩ := am_back v (by omega) (by omega)
      exact ⟨gd_amt v, by show (amT v).length ≤ 64; omega⟩
    | false =>
      rw [e0, e1] at hK
      cases e2 : ieq k 2 with
      | false => rw [e2] at hK; exact absurd (show false = true from hK) (by decide)
      | true =>
        rw [e2] at hK
        have hK' : (ieq v 0 && ieq (nmI r) 0) = true := hK
        rw [Bool.and_eq_true, ieq_iff, ieq_iff] at hK'
        exact ⟨gd_nm r hK'.2, nm_len r hK'.2⟩
  have hQ := erq_len q hq
  have hT : (∀ x ∈ efTs h y m ok ow od c b, Gd x) ∧ totL (efTs h y m ok ow od c b) ≤ 200 ∧ (efTs h y m ok ow od c b).length ≤ 4 := by
    cases h with
    | false => exact ⟨fun _ h => (by cases h), Nat.zero_le _, Nat.zero_le _⟩
    | true =>
      rw [enR_iff] at hE
      obtain ⟨⟨y1, y2⟩, hf, hc⟩ := hE
      have hf' := hf
      unfold ftB at hf'
      rw [Bool.and_eq_true, decide_eq_true_eq] at hf'
      obtain ⟨m1, m2, m3⟩ := mo_back m hf'.2.1 hf'.2.2.1
      obtain ⟨c1, c2, c3, c4⟩ := ck_back c b hc
      have n4 := dsTx_len ok ow od
      have n1 := text_len7 y y1 y2
      have G : ∀ x ∈ [text y, moT m, dsTx ok ow od, tcT c b], Gd x := by
        intro x hx
        simp only [List.mem_cons, List.not_mem_nil, or_false] at hx
        rcases hx with rfl | rfl | rfl | rfl
        · exact gd_text _
        · exact gd_mo _
        · exact gd_ds _ _ _
        · exact gd_tc _ _
      unfold efTs
      refine ⟨?_, ?_, ?_⟩
      · cases band (ieq c 0) (ieq b 0) <;> cases band (ieq ok 0) (band (ieq ow 0) (ieq od 1)) <;> cases ieq m 1
        all_goals (intro x hx; refine G x ?_)
        all_goals first
          | exact List.mem_of_mem_take (i := 4) hx
          | exact List.mem_of_mem_take (i := 3) hx
          | exact List.mem_of_mem_take (i := 2) hx
          | exact List.mem_of_mem_take (i := 1) hx
      · cases band (ieq c 0) (ieq b 0) <;> cases band (ieq ok 0) (band (ieq ow 0) (ieq od 1)) <;> cases ieq m 1
        all_goals first
          | (show (text y).length + ((moT m).length + ((dsTx ok ow od).length + ((tcT c b).length + 0))) ≤ 200; omega)
          | (show (text y).length + ((moT m).length + ((dsTx ok ow od).length + 0)) ≤ 200; omega)
          | (show (text y).length + ((moT m).length + 0) ≤ 200; omega)
          | (show (text y).length + 0 ≤ 200; omega)
      · cases band (ieq c 0) (ieq b 0) <;> cases band (ieq ok 0) (band (ieq ow 0) (ieq od 1)) <;> cases ieq m 1 <;> exact Nat.le_of_ble_eq_true rfl
  refine ⟨?_, ?_, ?_⟩
  · intro x hx
    unfold efS at hx
    rcases List.mem_cons.1 hx with rfl | hx
    · exact gd_amt _
    rcases List.mem_cons.1 hx with rfl | hx
    · exact hM.1
    rcases List.mem_cons.1 hx with rfl | hx
    · exact gd_ck _ hq
    · exact hT.1 x hx
  · show (amT o).length + ((efM k v r).length + (q.length + totL (efTs h y m ok ow od c b))) ≤ 400
    omega
  · show (efTs h y m ok ow od c b).length + 1 + 1 + 1 ≤ 7
    omega
end Nt.Ev.YtjkfndcpiihniaaGreatDoor
