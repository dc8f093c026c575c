/-
  Top06: equations of functions, as the evaluator prints them. Lines of rules and of eras: what the fields' texts are made of, and how long the lines are. Top06L: equations of functions, as the evaluator prints them. Lines of rules and of eras: the statement.
-/
import Derived.Test.YtpmemdamcadbgaaGreatDoorMN
import Derived.Test.YtpmemdamcadbgaaGreatDoorMO
import Derived.Test.YtpmemdamcadbgaaGreatDoorMQ
set_option linter.unusedVariables false
set_option linter.unusedSimpArgs false
set_option linter.unusedSectionVars false
namespace Nt.Ev.YtpmemdamcadbgaaGreatDoor
open Go Nt.Num Go.Proofs.YtpmemdamcadbgaaGreatDoor
variable [MLen]
open Nt.Civil
open Nt.Fld
noncomputable def tLeS : FSpec := fun a => match a with | [.str s] => some (true, .tup [.str (leT s), .int .i64 (leW s)]) | _ => none
noncomputable def tSl : List (Nat × FSpec) := (41, tLeS) :: []
noncomputable def tNmS : FSpec := fun a => match a with | [.str s] => some (true, .int .i64 (nmI s)) | _ => none
noncomputable def tLtS : FSpec := fun a => match a with | [.str s] => some (true, .tup [.str (ltT s), .int .i64 (ltW s)]) | _ => none
noncomputable def tChS : FSpec := fun a => match a with | [.str s] => some (true, .int .i64 (ckW s)) | _ => none
noncomputable def tS0 : List (Nat × FSpec) := (4, tNmS) :: (19, tLtS) :: (65, tChS) :: (34, zFitsS) :: (14, zFxS) :: (15, zTxS) :: (16, zDtS) :: (17, zCtS) :: (35, zCrS) :: (18, zAtS) :: (20, zMtS) :: (30, eNtS) :: []
noncomputable def tRrS : FSpec := fun a => match a with | [.agg [.str n, .int .i64 f, .int .i64 t, .int .i64 m, .int .i64 k, .int .i64 w, .int .i64 d, .int .i64 c, .int .i64 b, .int .i64 v, .str l]] => some (true, .bool (ruR n f t m k w d c b v l)) | _ => none
noncomputable def tErS : FSpec := fun a => match a with | [.agg [.int .i64 o, .int .i64 k, .int .i64 v, .str r, .str q, .bool h, .int .i64 y, .int .i64 m, .int .i64 ok, .int .i64 ow, .int .i64 od, .int .i64 c, .int .i64 b]] => some (true, .bool (erR o k v r q h y m ok ow od c b)) | _ => none
noncomputable def tS1 : List (Nat × FSpec) := (13, tRrS) :: (29, tErS) :: tS0
set_option maxRecDepth 100000 in
theorem tLT_top (F : Nat) (s : List UInt8) (K : V → Option V) :
 evBd eE (evFn eE tSl F 2) F 19 [(V.str s)] K =
 sel (seq s [])
 (K (V.tup [(V.str [45]), (V.int .i64 0)]))
 (sel (bnot (ieq (leW s) 0))
 (K (V.tup [(V.str []), (V.int .i64 4)]))
 (sel (bnot (seq (leT s) s))
 (K (V.tup [(V.str []), (V.int .i64 4)]))
 (K (V.tup [(V.str s), (V.int .i64 0)])))) := by kernel_rfl
set_option maxRecDepth 100000 in
theorem tRR_top (F : Nat) (n : List UInt8) (f : Int) (t : Int) (m : Int) (k : Int) (w : Int) (d : Int) (c : Int) (b : Int) (v : Int) (l : List UInt8) (K : V → Option V) :
 evBd eE (evFn eE tS0 F 3) F 13 [(V.agg [(V.str n), (V.int .i64 f), (V.int .i64 t), (V.int .i64 m), (V.int .i64 k), (V.int .i64 w), (V.int .i64 d), (V.int .i64 c), (V.int .i64 b), (V.int .i64 v), (V.str l)])] K =
 sel (ieq (txWy f t) 0)
 (sel (ieq (fxW f) 0)
 (sel (ieq (ltW l) 0)
 (sel (ieq (nmI n) 0)
 (sel (ftB k w d m)
 (sel (rightC c b)
 (sel (ile (-10800) v)
 (K (V.bool (ile v 10800)))
 (K (V.bool false)))
 (K (V.bool false)))
 (K (V.bool false)))
 (K (V.bool false)))
 (K (V.bool false)))
 (K (V.bool false)))
 (K (V.bool false)) := by kernel_rfl
set_option maxRecDepth 100000 in
theorem tER_top (F : Nat) (o : Int) (k : Int) (v : Int) (r : List UInt8) (q : List UInt8) (h : Bool) (y : Int) (m : Int) (ok : Int) (ow : Int) (od : Int) (c : Int) (b : Int) (K : V → Option V) :
 evBd eE (evFn eE tS0 F 3) F 29 [(V.agg [(V.int .i64 o), (V.int .i64 k), (V.int .i64 v), (V.str r), (V.str q), (V.bool h), (V.int .i64 y), (V.int .i64 m), (V.int .i64 ok), (V.int .i64 ow), (V.int .i64 od), (V.int .i64 c), (V.int .i64 b)])] K =
 sel (ile (isub .i64 0 54000) o)
 (sel (ile o 54000)
 (sel (ieq (ckW q) 0)
 (sel (bnot h)
 (sel (ieq k 0)
 (sel (band (beq h false) (band (ieq y 0) (band (ieq m 0) (band (band (ieq ok 0) (band (ieq ow 0) (ieq od 0))) (band (ieq c 0) (ieq b 0))))))
 (sel (ieq v 0)
 (K (V.bool (seq r [])))
 (K (V.bool false)))
 (K (V.bool false)))
 (sel (ieq k 1)
 (sel (band (beq h false) (band (ieq y 0) (band (ieq m 0) (band (band (ieq ok 0) (band (ieq ow 0) (ieq od 0))) (band (ieq c 0) (ieq b 0))))))
 (sel (ile (isub .i64 0 10800) v)
 (sel (ile v 10800)
 (K (V.bool (seq r [])))
 (K (V.bool false)))
 (K (V.bool false)))
 (K (V.bool false)))
 (sel (ieq k 2)
 (sel (band (beq h false) (band (ieq y 0) (band (ieq m 0) (band (band (ieq ok 0) (band (ieq ow 0) (ieq od 0))) (band (ieq c 0) (ieq b 0))))))
 (sel (ieq v 0)
 (K (V.bool (ieq (nmI r) 0)))
 (K (V.bool false)))
 (K (V.bool false)))
 (K (V.bool false)))))
 (sel (ilt (-32767) y)
 (sel (ilt y 32767)
 (sel (ftB ok ow od m)
 (sel (ieq k 0)
 (sel (rightC c b)
 (sel (ieq v 0)
 (K (V.bool (seq r [])))
 (K (V.bool false)))
 (K (V.bool false)))
 (sel (ieq k 1)
 (sel (rightC c b)
 (sel (ile (isub .i64 0 10800) v)
 (sel (ile v 10800)
 (K (V.bool (seq r [])))
 (K (V.bool false)))
 (K (V.bool false)))
 (K (V.bool false)))
 (sel (ieq k 2)
 (sel (rightC c b)
 (sel (ieq v 0)
 (K (V.bool (ieq (nmI r) 0)))
 (K (V.bool false)))
 (K (V.bool false)))
 (K (V.bool false)))))
 (sel (ieq k 0)
 (K (V.bool false))
 (sel (ieq k 1)
 (K (V.bool false))
 (sel (ieq k 2)
 (K (V.bool false))
 (K (V.bool false))))))
 (sel (ieq k 0)
 (K (V.bool false))
 (sel (ieq k 1)
 (K (V.bool false))
 (sel (ieq k 2)
 (K (V.bool false))
 (K (V.bool false))))))
 (sel (ieq k 0)
 (K (V.bool false))
 (sel (ieq k 1)
 (K (V.bool false))
 (sel (ieq k 2)
 (K (V.bool false))
 (K (V.bool false)))))))
 (sel (ieq k 0)
 (K (V.bool false))
 (sel (ieq k 1)
 (K (V.bool false))
 (sel (ieq k 2)
 (K (V.bool false))
 (K (V.bool false))))))
 (sel (ieq k 0)
 (K (V.bool false))
 (sel (ieq k 1)
 (K (V.bool false))
 (sel (ieq k 2)
 (K (V.bool false))
 (K (V.bool false))))))
 (sel (ieq k 0)
 (K (V.bool false))
 (sel (ieq k 1)
 (K (V.bool false))
 (sel (ieq k 2)
 (K (V.bool false))
 (K (V.bool false))))) := by kernel_rfl
set_option maxRecDepth 100000 in
theorem tRF_top (F : Nat) (n : List UInt8) (f : Int) (t : Int) (m : Int) (k : Int) (w : Int) (d : Int) (c : Int) (b : Int) (v : Int) (l : List UInt8) (K : V → Option V) :
 evBd eE (evFn eE tS1 F 2) F 5 [(V.agg [(V.str n), (V.int .i64 f), (V.int .i64 t), (V.int .i64 m), (V.int .i64 k), (V.int .i64 w), (V.int .i64 d), (V.int .i64 c), (V.int .i64 b), (V.int .i64 v), (V.str l)])] K =
 sel (bnot (ruR n f t m k w d c b v l))
 (K (V.tup [(V.sl 9 [(Kd.str)] (some 0) []), (V.int .i64 4)]))
 (sel (band (ile (-9223372036854775808) v) (ile v 9223372036854775807))
 (sel (band (ile (-9223372036854775808) m) (ile m 9223372036854775807))
 (K (V.tup [(V.sl 9 [(Kd.str)] (some 0) [(V.str n), (V.str (fxT f)), (V.str (txTy f t)), (V.str [45]), (V.str (moT m)), (V.str (dsTx k w d)), (V.str (tcT c b)), (V.str (amT v)), (V.str (ltT l))]), (V.int .i64 0)]))
 (none))
 (none)) := by kernel_rfl
set_option maxRecDepth 100000 in
theorem tEF_u9_top (o : Int) (k : Int) (v : Int) (r : List UInt8) (q : List UInt8) (h : Bool) (y : Int) (m : Int) (ok : Int) (ow : Int) (od : Int) (c : Int) (b : Int) (K : V → Option V) :
 evBd eE (evFn eE tS1 9 2) 9 10 [(V.agg [(V.int .i64 o), (V.int .i64 k), (V.int .i64 v), (V.str r), (V.str q), (V.bool h), (V.int .i64 y), (V.int .i64 m), (V.int .i64 ok), (V.int .i64 ow), (V.int .i64 od), (V.int .i64 c), (V.int .i64 b)])] K =
 sel (bnot (erR o k v r q h y m ok ow od c b))
 (K (V.tup [(V.sl 9 [(Kd.str)] (some 0) []), (V.int .i64 4)]))
 (sel (band (ile (-9223372036854775808) o) (ile o 9223372036854775807))
 (sel (band (ile (-9223372036854775808) v) (ile v 9223372036854775807))
 (sel (ieq k 0)
 (sel (bnot h)
 (K (V.tup [(V.sl 9 [(Kd.str)] (some 0) [(V.str (amT o)), (V.str [45]), (V.str q)]), (V.int .i64 0)]))
 (sel (band (ile (-9223372036854775808) y) (ile y 9223372036854775807))
 (sel (band (ile (-9223372036854775808) m) (ile m 9223372036854775807))
 (sel (okApp [(V.str (amT o)), (V.str [45]), (V.str q)] [(V.str (text y)), (V.str (moT m)), (V.str (dsTx ok ow od)), (V.str (tcT c b))])
 (sel (bnot (band (ieq c 0) (ieq b 0)))
 (K (V.tup [(V.sl 9 [(Kd.str)] (some 0) [(V.str (amT o)), (V.str [45]), (V.str q), (V.str (text y)), (V.str (moT m)), (V.str (dsTx ok ow od)), (V.str (tcT c b))]), (V.int .i64 0)]))
 (sel (bnot (band (ieq ok 0) (band (ieq ow 0) (ieq od 1))))
 (K (V.tup [(V.sl 9 [(Kd.str)] none [(V.str (amT o)), (V.str [45]), (V.str q), (V.str (text y)), (V.str (moT m)), (V.str (dsTx ok ow od))]), (V.int .i64 0)]))
 (sel (bnot (ieq m 1))
 (K (V.tup [(V.sl 9 [(Kd.str)] none [(V.str (amT o)), (V.str [45]), (V.str q), (V.str (text y)), (V.str (moT m))]), (V.int .i64 0)]))
 (K (V.tup [(V.sl 9 [(Kd.str)] none [(V.str (amT o)), (V.str [45]), (V.str q), (V.str (text y))]), (V.int .i64 0)])))))
 (none))
 (none))
 (none)))
 (sel (ieq k 1)
 (sel (bnot h)
 (K (V.tup [(V.sl 9 [(Kd.str)] (some 0) [(V.str (amT o)), (V.str (amT v)), (V.str q)]), (V.int .i64 0)]))
 (sel (band (ile (-9223372036854775808) y) (ile y 9223372036854775807))
 (sel (band (ile (-9223372036854775808) m) (ile m 9223372036854775807))
 (sel (okApp [(V.str (amT o)), (V.str (amT v)), (V.str q)] [(V.str (text y)), (V.str (moT m)), (V.str (dsTx ok ow od)), (V.str (tcT c b))])
 (sel (bnot (band (ieq c 0) (ieq b 0)))
 (K (V.tup [(V.sl 9 [(Kd.str)] (some 0) [(V.str (amT o)), (V.str (amT v)), (V.str q), (V.str (text y)), (V.str (moT m)), (V.str (dsTx ok ow od)), (V.str (tcT c b))]), (V.int .i64 0)]))
 (sel (bnot (band (ieq ok 0) (band (ieq ow 0) (ieq od 1))))
 (K (V.tup [(V.sl 9 [(Kd.str)] none [(V.str (amT o)), (V.str (amT v)), (V.str q), (V.str (text y)), (V.str (moT m)), (V.str (dsTx ok ow od))]), (V.int .i64 0)]))
 (sel (bnot (ieq m 1))
 (K (V.tup [(V.sl 9 [(Kd.str)] none [(V.str (amT o)), (V.str (amT v)), (V.str q), (V.str (text y)), (V.str (moT m))]), (V.int .i64 0)]))
 (K (V.tup [(V.sl 9 [(Kd.str)] none [(V.str (amT o)), (V.str (amT v)), (V.str q), (V.str (text y))]), (V.int .i64 0)])))))
 (none))
 (none))
 (none)))
 (sel (ieq k 2)
 (sel (bnot h)
 (K (V.tup [(V.sl 9 [(Kd.str)] (some 0) [(V.str (amT o)), (V.str r), (V.str q)]), (V.int .i64 0)]))
 (sel (band (ile (-9223372036854775808) y) (ile y 9223372036854775807))
 (sel (band (ile (-9223372036854775808) m) (ile m 9223372036854775807))
 (sel (okApp [(V.str (amT o)), (V.str r), (V.str q)] [(V.str (text y)), (V.str (moT m)), (V.str (dsTx ok ow od)), (V.str (tcT c b))])
 (sel (bnot (band (ieq c 0) (ieq b 0)))
 (K (V.tup [(V.sl 9 [(Kd.str)] (some 0) [(V.str (amT o)), (V.str r), (V.str q), (V.str (text y)), (V.str (moT m)), (V.str (dsTx ok ow od)), (V.str (tcT c b))]), (V.int .i64 0)]))
 (sel (bnot (band (ieq ok 0) (band (ieq ow 0) (ieq od 1))))
 (K (V.tup [(V.sl 9 [(Kd.str)] none [(V.str (amT o)), (V.str r), (V.str q), (V.str (text y)), (V.str (moT m)), (V.str (dsTx ok ow od))]), (V.int .i64 0)]))
 (sel (bnot (ieq m 1))
 (K (V.tup [(V.sl 9 [(Kd.str)] none [(V.str (amT o)), (V.str r), (V.str q), (V.str (text y)), (V.str (moT m))]), (V.int .i64 0)]))
 (K (V.tup [(V.sl 9 [(Kd.str)] none [(V.str (amT o)), (V.str r), (V.str q), (V.str (text y))]), (V.int .i64 0)])))))
 (none))
 (none))
 (none)))
 (none))))
 (none))
 (none)) := by kernel_rfl
end Nt.Ev.YtpmemdamcadbgaaGreatDoor

set_option linter.unusedVariables false
set_option linter.unusedSimpArgs false
set_option linter.unusedSectionVars false
namespace Nt.Ev.YtpmemdamcadbgaaGreatDoor
open Go Go.RowKit Nt Nt.Num Nt.Civil Nt.Fld Go.Proofs.YtpmemdamcadbgaaGreatDoor
set_option maxRecDepth 100000
def GdB (c : UInt8) : Prop := 33 ≤ c.toNat ∧ c.toNat ≤ 126 ∧ c.toNat ≠ 34
def Gd (l : List UInt8) : Prop := ∀ c ∈ l, GdB c
instance (c : UInt8) : Decidable (GdB c) := by unfold GdB; infer_instance
instance (l : List UInt8) : Decidable (Gd l) := by unfold Gd; infer_instance
theorem gd_app {a b : List UInt8} (ha : Gd a) (hb : Gd b) : Gd (a ++ b) := fun c hc => (List.mem_append.1 hc).elim (ha c) (hb c)
theorem gd_nil : Gd [] := fun _ h => by cases h
theorem gd_one {c : UInt8} (h : GdB c) : Gd [c] := fun x hx => by rw [List.mem_singleton] at hx; rw [hx]; exact h
theorem gd_dig (k : Nat) (h : k < 10) : GdB (digit k) := by
  unfold GdB
  rw [digit_toNat k h]
  omega
theorem gd_digs (n : Nat) : Gd (digs n) := by
  induction n using Nat.strongRecOn with
  | _ n ih =>
    by_cases h : n < 10
    · rw [digs_small n h]; exact gd_one (gd_dig n h)
    · rw [digs_step n (by omega)]
      exact gd_app (ih (n / 10) (by omega)) (gd_one (gd_dig _ (by omega)))
theorem gd_text (n : Int) : Gd (text n) := by
  unfold text
  refine gd_app ?_ (gd_digs _)
  split
  · decide
  · exact gd_nil
theorem gd_two (n : Nat) (h : n < 100) : Gd (Amount.two n) := by
  unfold Amount.two
  exact gd_app (gd_one (gd_dig _ (by omega))) (gd_one (gd_dig _ (by omega)))
theorem gd_amt (n : Int) : Gd (amT n) := by
  unfold amT Amount.text
  split
  · exact gd_nil
  split
  · decide
  refine gd_app (gd_app (gd_app (gd_app ?_ (gd_digs _)) (by decide)) (gd_two _ (by omega))) ?_
  · split
    · decide
    · exact gd_nil
  · split
    · exact gd_app (a := [58]) (by decide) (gd_two _ (by omega))
    · exact gd_nil
theorem gd_mo (m : Int) : Gd (moT m) := by
  unfold moT
  split
  next h =>
    obtain rfl | rfl | rfl | rfl | rfl | rfl | rfl | rfl | rfl | rfl | rfl | rfl : m = 1 ∨ m = 2 ∨ m = 3 ∨ m = 4 ∨ m = 5 ∨ m = 6 ∨ m = 7 ∨ m = 8 ∨ m = 9 ∨ m = 10 ∨ m = 11 ∨ m = 12 := by omega
    all_goals decide
  next => exact gd_nil
theorem gd_wt (n : Int) : Gd (wtT n) := by
  unfold wtT
  split
  next h =>
    obtain rfl | rfl | rfl | rfl | rfl | rfl | rfl : n = 0 ∨ n = 1 ∨ n = 2 ∨ n = 3 ∨ n = 4 ∨ n = 5 ∨ n = 6 := by omega
    all_goals decide
  next => exact gd_nil
theorem gd_ds (k w d : Int) : Gd (dsTx k w d) := by
  unfold dsTx
  split
  · unfold dsT
    split
    · exact gd_app (by decide) (gd_wt w)
    split
    · exact gd_app (gd_app (gd_wt w) (by decide)) (gd_text d)
    split
    · exact gd_app (gd_app (gd_wt w) (by decide)) (gd_text d)
    · exact gd_text d
  · exact gd_nil
theorem gd_tc (n b : Int) : Gd (tcT n b) := by
  unfold tcT textC
  split
  · refine gd_app (gd_amt n) ?_
    unfold letC
    split
    · exact gd_nil
    split <;> decide
  · exact gd_nil
theorem gd_fx (n : Int) : Gd (fxT n) := by
  unfold fxT yFromTextP
  split
  · split
    · show Gd minT; decide
    · exact gd_text n
  · exact gd_nil
theorem gd_tx (m n : Int) : Gd (txTy m n) := by
  unfold txTy yToTextP
  split
  · split
    · exact gd_nil
    split
    · show Gd onlyT; decide
    split
    · show Gd maxT; decide
    · exact gd_text n
  · exact gd_nil
theorem gd_let {c : UInt8} (h : Fmt.letB c = true) : GdB c := by
  unfold Fmt.letB at h
  rw [decide_eq_true_eq] at h
  unfold GdB
  omega
theorem gd_word {s : List UInt8} (h : Fmt.wordB s = true) : Gd s := fun c hc => gd_let (Fmt.word_mem h hc)
theorem gd_lt (l : List UInt8) : Gd (ltT l) := by
  unfold ltT ltP
  split
  · decide
  split
  · exact gd_nil
  next h =>
    show Gd l
    have h1 : leW l = 0 := by
      by_cases x : leW l = 0
      · exact x
      · exact absurd (.inl x) h
    have h2 : leT l = l := by
      by_cases x : leT l = l
      · exact x
      · exact absurd (.inr x) h
    unfold leW leP at h1
    split at h1
    next e => rw [e]; decide
    split at h1
    · cases h1
    split at h1
    · cases h1
    next hw =>
      refine gd_word ?_
      cases hx : Fmt.wordB l with
      | true => rfl
      | false => exact absurd (.inr hx) hw
theorem gd_ck (q : List UInt8) (h : ckW q = 0) : Gd q := by
  intro c hc
  unfold ckW at h
  by_cases h1 : 16 < q.length
  · rw [if_pos h1] at h; cases h
  rw [if_neg h1] at h
  have h2 : fkK q ≠ 0 := fun e => by rw [if_pos e] at h; cases h
  cases hl : Fmt.letB c with
  | true => exact gd_let hl
  | false =>
    by_cases e1 : c = 37
    · rw [e1]; decide
    by_cases e2 : c = 47
    · rw [e2]; decide
    exact absurd (Fmt.kind_char hc hl e1 e2) h2
theorem gd_nmC (k : Nat) (c : UInt8) (h : nmC k c = true) : GdB c := by
  unfold nmC fstC othC at h
  simp only [Bool.or_eq_true, Bool.and_eq_true, decide_eq_true_eq, beq_iff_eq] at h
  unfold GdB
  rcases h with ((h | h) | h) | ⟨_, (((h | h) | h) | h) | h⟩
  all_goals first | omega | (rw [h]; decide)
theorem gd_nmF : ∀ (s : List UInt8) (k : Nat), nmF k s = true → Gd s
  | [], _, _ => gd_nil
  | c :: t, k, h => by
    unfold nmF at h
    rw [Bool.and_eq_true] at h
    exact gd_app (a := [c]) (gd_one (gd_nmC k c h.1)) (gd_nmF t (k + 1) h.2)
theorem gd_nm (n : List UInt8) (h : nmI n = 0) : Gd n := by
  unfold nmI at h
  split at h
  · cases h
  split at h
  next hh => exact gd_nmF n 0 hh.1
  next => cases h
def PrB (c : UInt8) : Prop := 32 ≤ c.toNat ∧ c.toNat ≤ 126
def Pr (l : List UInt8) : Prop := ∀ c ∈ l, PrB c
instance (c : UInt8) : Decidable (PrB c) := by unfold PrB; infer_instance
instance (l : List UInt8) : Decidable (Pr l) := by unfold Pr; infer_instance
theorem pr_app {a b : List UInt8} (ha : Pr a) (hb : Pr b) : Pr (a ++ b) := fun c hc => (List.mem_append.1 hc).elim (ha c) (hb c)
theorem gd_pr {a : List UInt8} (h : Gd a) : Pr a := fun c hc => by have := h c hc; unfold GdB at this; unfold PrB; omega
theorem gd_no {a : List UInt8} (h : Gd a) : a.contains 34 = false := by
  cases e : a.contains 34 with
  | false => rfl
  | true =>
    rw [List.contains_iff_mem] at e
    have := h _ e
    exact absurd this (by decide)
theorem pr_tx {a : List UInt8} (h : Gd a) : Pr (txP a).1 := by
  unfold txP
  split
  · exact fun _ h => by cases h
  split
  · exact pr_app (pr_app (by decide) (gd_pr h)) (by decide)
  · exact gd_pr h
theorem tx_len (x : List UInt8) : (txP x).1.length ≤ x.length + 2 := by
  unfold txP
  (repeat' split) <;> simp
theorem pr_join : ∀ (l : List (List UInt8)), (∀ x ∈ l, Gd x) → Pr (joinR l).1 ∧ (joinR l).1.length ≤ totL l + 3 * l.length
  | [], _ => ⟨fun _ h => (by cases h), Nat.zero_le _⟩
  | x :: l, h => by
    obtain ⟨i1, i2⟩ := pr_join l fun y hy => h y (List.mem_cons_of_mem _ hy)
    have hx := h x List.mem_cons_self
    have e1 := tx_some (gd_no hx)
    have e2 := joinR_ok l fun y hy => gd_no (h y (List.mem_cons_of_mem _ hy))
    have e : (joinR (x :: l)).1 = [32] ++ (txP x).1 ++ (joinR l).1 := by
      show (if (txP x).2 = 0 then (if (joinR l).2 = 0 then (([32] ++ (txP x).1 ++ (joinR l).1, 0) : List UInt8 × Int) else ([], (joinR l).2)) else ([], (txP x).2)).1 = _
      rw [if_pos e1, if_pos e2]
    rw [e]
    refine ⟨pr_app (pr_app (by decide) (pr_tx hx)) i1, ?_⟩
    have := tx_len x
    have ht : totL (x :: l) = x.length + totL l := rfl
    rw [List.length_append, List.length_append, List.length_cons, List.length_cons, List.length_nil, ht]
    omega
theorem line_ok (l : List (List UInt8)) (h : ∀ x ∈ l, Gd x) (hl : l.length ≤ 16) (ht : totL l ≤ 400) : (joinP l).2 = 0 ∧ ofP (joinP l).1 = (l, 0) ∧ Pr (joinP l).1 ∧ (joinP l).1.length ≤ totL l + 3 * l.length := by
  have e := joinR_ok l fun y hy => gd_no (h y hy)
  have h1 : joinP l = ((joinR l).1.drop 1, 0) := by unfold joinP; rw [if_neg (by omega), if_pos e]
  have h0 : (joinP l).2 = 0 := by rw [h1]
  obtain ⟨p1, p2⟩ := pr_join l h
  refine ⟨h0, of_join l h0, ?_, ?_⟩
  · rw [h1]; exact fun c hc => p1 c (List.mem_of_mem_drop hc)
  · rw [h1]; show ((joinR l).1.drop 1).length ≤ _; rw [List.length_drop]; omega
theorem odd_no (s : List UInt8) (h : Pr s) : oddS s = false := by
  unfold oddS
  rw [List.any_eq_false]
  intro c hc
  have := h c hc
  unfold PrB at this
  rw [ilt_f (show 32 ≤ (c.toNat : Int) by omega), ilt_f (show (c.toNat : Int) ≤ 126 by omega)]
  cases ieq (c.toNat : Int) 9 <;> decide
theorem ck_good (s : List UInt8) (h : Pr s) (hl : s.length ≤ 511) : ckP s = 0 := by
  unfold ckP
  rw [ilt_f (by rw [slen_nat]; omega), odd_no s h]
  rfl
variable [MLen]
def rfS (n : List UInt8) (f t m k w d c b v : Int) (l : List UInt8) : List (List UInt8) := [n, fxT f, txTy f t, [45], moT m, dsTx k w d, tcT c b, amT v, ltT l]
theorem rf_good (n : List UInt8) (f t m k w d c b v : Int) (l : List UInt8) (h : ruR n f t m k w d c b v l = true) : (∀ x ∈ rfS n f t m k w d c b v l, Gd x) ∧ totL (rfS n f t m k w d c b v l) ≤ 400 := by
  rw [ruR_iff] at h
  obtain ⟨h1, h2, h3, h4, h5, h6⟩ := h
  constructor
  · intro x hx
    unfold rfS at hx
    simp only [List.mem_cons, List.not_mem_nil, or_false] at hx
    rcases hx with rfl | rfl | rfl | rfl | rfl | rfl | rfl | rfl | rfl
    · exact gd_nm _ h1
    · exact gd_fx _
    · exact gd_tx _ _
    · decide
    · exact gd_mo _
    · exact gd_ds _ _ _
    · exact gd_tc _ _
    · exact gd_amt _
    · exact gd_lt _
  · have n1 := nm_len n h1
    have n2 : (fxT f).length ≤ 25 := yfT_len f
    have n3 : (txTy f t).length ≤ 25 := ytT_len f t
    have n4 := dsTx_len k w d
    unfold ftB at h3
    rw [Bool.and_eq_true, decide_eq_true_eq] at h3
    obtain ⟨m1, m2, m3⟩ := mo_back m h3.2.1 h3.2.2.1
    obtain ⟨c1, c2, c3, c4⟩ := ck_back c b h4
    obtain ⟨a1, a2, a3⟩ := am_back v (by omega) (by omega)
    have l3 := (lt_len6 l h6).1
    show n.length + ((fxT f).length + ((txTy f t).length + (1 + ((moT m).length + ((dsTx k w d).length + ((tcT c b).length + ((amT v).length + ((ltT l).length + 0)))))))) ≤ 400
    omega
theorem rf_strs (n : List UInt8) (f t m k w d c b v : Int) (l : List UInt8) : rfL n f t m k w d c b v l = strsV (rfS n f t m k w d c b v l) := rfl
def efTs (h : Bool) (y m ok ow od c b : Int) : List (List UInt8) := sel h (sel (band (ieq c 0) (ieq b 0)) (sel (band (ieq ok 0) (band (ieq ow 0) (ieq od 1))) (sel (ieq m 1) [text y] [text y, moT m]) [text y, moT m, dsTx ok ow od]) [text y, moT m, dsTx ok ow od, tcT c b]) []
def efS (o k v : Int) (r q : List UInt8) (h : Bool) (y m ok ow od c b : Int) : List (List UInt8) := amT o :: efM k v r :: q :: efTs h y m ok ow od c b
theorem ef_strs (o k v : Int) (r q : List UInt8) (h : Bool) (y m ok ow od c b : Int) : efL o k v r q h y m ok ow od c b = strsV (efS o k v r q h y m ok ow od c b) := by
  unfold efL efS efT efTs
  cases h <;> cases band (ieq c 0) (ieq b 0) <;> cases band (ieq ok 0) (band (ieq ow 0) (ieq od 1)) <;> cases ieq m 1 <;> rfl
theorem text_len7 (y : Int) (h1 : -32767 < y) (h2 : y < 32767) : (text y).length ≤ 7 := by
  have h : (digs y.natAbs).length ≤ 5 := (digs_len 5 y.natAbs (by omega) (by omega)).1
  unfold text
  rw [List.length_append]
  split
  · rw [List.length_cons, List.length_nil]; omega
  · rw [List.length_nil]; omega
theorem ef_good (o k v : Int) (r q : List UInt8) (h : Bool) (y m ok ow od c b : Int) (hR : erR o k v r q h y m ok ow od c b = true) :
    (∀ x ∈ efS o k v r q h y m ok ow od c b, Gd x) ∧ totL (efS o k v r q h y m ok ow od c b) ≤ 400 ∧ (efS o k v r q h y m ok ow od c b).length ≤ 7 := by
  rw [erR_iff] at hR
  obtain ⟨⟨o1, o2⟩, hq, hE, hK⟩ := hR
  obtain ⟨a1, a2, a3⟩ := am_back o (by omega) (by omega)
  have hM : Gd (efM k v r) ∧ (efM k v r).length ≤ 64 := by
    unfold efM
    cases e0 : ieq k 0 with
    | true => exact ⟨(show Gd [45] by decide), (show ([45] : List UInt8).length ≤ 64 by decide)⟩
    | false =>
    cases e1 : ieq k 1 with
    | true =>
      rw [e0, e1] at hK
      have hK' : (ile (-10800) v && (ile v 10800 && seq r [])) = true := hK
      rw [Bool.and_eq_true, Bool.and_eq_true, ile_iff, ile_iff] at hK'
      obtain ⟨v1, v2, v3⟩ := am_back v (by omega) (by omega)
      exact ⟨gd_amt v, by show (amT v).length ≤ 64; omega⟩
    | false =>
      rw [e0, e1] at hK
      cases e2 : ieq k 2 with
      | false => rw [e2] at hK; exact absurd (show false = true from hK) (by decide)
      | true =>
        rw [e2] at hK
        have hK' : (ieq v 0 && ieq (nmI r) 0) = true := hK
        rw [Bool.and_eq_true, ieq_iff, ieq_iff] at hK'
        exact ⟨gd_nm r hK'.2, nm_len r hK'.2⟩
  have hQ := erq_len q hq
  have hT : (∀ x ∈ efTs h y m ok ow od c b, Gd x) ∧ totL (efTs h y m ok ow od c b) ≤ 200 ∧ (efTs h y m ok ow od c b).length ≤ 4 := by
    cases h with
    | false => exact ⟨fun _ h => (by cases h), Nat.zero_le _, Nat.zero_le _⟩
    | true =>
      rw [enR_iff] at hE
      obtain ⟨⟨y1, y2⟩, hf, hc⟩ := hE
      have hf' := hf
      unfold ftB at hf'
      rw [Bool.and_eq_true, decide_eq_true_eq] at hf'
      obtain ⟨m1, m2, m3⟩ := mo_back m hf'.2.1 hf'.2.2.1
      obtain ⟨c1, c2, c3, c4⟩ := ck_back c b hc
      have n4 := dsTx_len ok ow od
      have n1 := text_len7 y y1 y2
      have G : ∀ x ∈ [text y, moT m, dsTx ok ow od, tcT c b], Gd x := by
        intro x hx
        simp only [List.mem_cons, List.not_mem_nil, or_false] at hx
        rcases hx with rfl | rfl | rfl | rfl
        · exact gd_text _
        · exact gd_mo _
        · exact gd_ds _ _ _
        · exact gd_tc _ _
      unfold efTs
      refine ⟨?_, ?_, ?_⟩
      · cases band (ieq c 0) (ieq b 0) <;> cases band (ieq ok 0) (band (ieq ow 0) (ieq od 1)) <;> cases ieq m 1
        all_goals (intro x hx; refine G x ?_)
        all_goals first
          | exact List.mem_of_mem_take (i := 4) hx
          | exact List.mem_of_mem_take (i := 3) hx
          | exact List.mem_of_mem_take (i := 2) hx
          | exact List.mem_of_mem_take (i := 1) hx
      · cases band (ieq c 0) (ieq b 0) <;> cases band (ieq ok 0) (band (ieq ow 0) (ieq od 1)) <;> cases ieq m 1
        all_goals first
          | (show (text y).length + ((moT m).length + ((dsTx ok ow od).length + ((tcT c b).length + 0))) ≤ 200; omega)
          | (show (text y).length + ((moT m).length + ((dsTx ok ow od).length + 0)) ≤ 200; omega)
          | (show (text y).length + ((moT m).length + 0) ≤ 200; omega)
          | (show (text y).length + 0 ≤ 200; omega)
      · cases band (ieq c 0) (ieq b 0) <;> cases band (ieq ok 0) (band (ieq ow 0) (ieq od 1)) <;> cases ieq m 1 <;> exact Nat.le_of_ble_eq_true rfl
  refine ⟨?_, ?_, ?_⟩
  · intro x hx
    unfold efS at hx
    rcases List.mem_cons.1 hx with rfl | hx
    · exact gd_amt _
    rcases List.mem_cons.1 hx with rfl | hx
    · exact hM.1
    rcases List.mem_cons.1 hx with rfl | hx
    · exact gd_ck _ hq
    · exact hT.1 x hx
  · show (amT o).length + ((efM k v r).length + (q.length + totL (efTs h y m ok ow od c b))) ≤ 400
    omega
  · show (efTs h y m ok ow od c b).length + 1 + 1 + 1 ≤ 7
    omega
end Nt.Ev.YtpmemdamcadbgaaGreatDoor

set_option linter.unusedVariables false
set_option linter.unusedSimpArgs false
set_option linter.unusedSectionVars false
namespace Nt.Ev.YtpmemdamcadbgaaGreatDoor.T6
open Go Nt.Num Go.Proofs.YtpmemdamcadbgaaGreatDoor
variable [MLen]
class TA where
 (nmI : List UInt8 → Int)
 (rB : List UInt8 → Int → Int → Int → Int → Int → Int → Int → Int → Int → List UInt8 → Bool)
 (rG : List UInt8 → Int → Int → Int → Int → Int → Int → Int → Int → Int → List UInt8 → Bool)
 (rfL : List UInt8 → Int → Int → Int → Int → Int → Int → Int → Int → Int → List UInt8 → List V)
 (eB : Int → Int → Int → List UInt8 → List UInt8 → Bool → Int → Int → Int → Int → Int → Int → Int → Bool)
 (eG : Int → Int → Int → List UInt8 → List UInt8 → Bool → Int → Int → Int → Int → Int → Int → Int → Bool)
 (efL : Int → Int → Int → List UInt8 → List UInt8 → Bool → Int → Int → Int → Int → Int → Int → Int → List V)
 (jnG : List V → Bool)
 (jnT : List V → List UInt8)
 (ofG : List UInt8 → Bool)
 (ofL : List UInt8 → List V)
 (rdG : List V → Bool)
 (edG : List V → Bool)
 (ckG : List UInt8 → Bool)
 (ru0 : List V → List UInt8)
 (ru1 : List V → Int)
 (ru2 : List V → Int)
 (ru3 : List V → Int)
 (ru4 : List V → Int)
 (ru5 : List V → Int)
 (ru6 : List V → Int)
 (ru7 : List V → Int)
 (ru8 : List V → Int)
 (ru9 : List V → Int)
 (ru10 : List V → List UInt8)
 (er0 : List V → Int)
 (er1 : List V → Int)
 (er2 : List V → Int)
 (er3 : List V → List UInt8)
 (er4 : List V → List UInt8)
 (er5 : List V → Bool)
 (er6 : List V → Int)
 (er7 : List V → Int)
 (er8 : List V → Int)
 (er9 : List V → Int)
 (er10 : List V → Int)
 (er11 : List V → Int)
 (er12 : List V → Int)
noncomputable abbrev nmI [TA] : List UInt8 → Int := TA.nmI
noncomputable abbrev rB [TA] : List UInt8 → Int → Int → Int → Int → Int → Int → Int → Int → Int → List UInt8 → Bool := TA.rB
noncomputable abbrev rG [TA] : List UInt8 → Int → Int → Int → Int → Int → Int → Int → Int → Int → List UInt8 → Bool := TA.rG
noncomputable abbrev rfL [TA] : List UInt8 → Int → Int → Int → Int → Int → Int → Int → Int → Int → List UInt8 → List V := TA.rfL
noncomputable abbrev eB [TA] : Int → Int → Int → List UInt8 → List UInt8 → Bool → Int → Int → Int → Int → Int → Int → Int → Bool := TA.eB
noncomputable abbrev eG [TA] : Int → Int → Int → List UInt8 → List UInt8 → Bool → Int → Int → Int → Int → Int → Int → Int → Bool := TA.eG
noncomputable abbrev efL [TA] : Int → Int → Int → List UInt8 → List UInt8 → Bool → Int → Int → Int → Int → Int → Int → Int → List V := TA.efL
noncomputable abbrev jnG [TA] : List V → Bool := TA.jnG
noncomputable abbrev jnT [TA] : List V → List UInt8 := TA.jnT
noncomputable abbrev ofG [TA] : List UInt8 → Bool := TA.ofG
noncomputable abbrev ofL [TA] : List UInt8 → List V := TA.ofL
noncomputable abbrev rdG [TA] : List V → Bool := TA.rdG
noncomputable abbrev edG [TA] : List V → Bool := TA.edG
noncomputable abbrev ckG [TA] : List UInt8 → Bool := TA.ckG
noncomputable abbrev ru0 [TA] : List V → List UInt8 := TA.ru0
noncomputable abbrev ru1 [TA] : List V → Int := TA.ru1
noncomputable abbrev ru2 [TA] : List V → Int := TA.ru2
noncomputable abbrev ru3 [TA] : List V → Int := TA.ru3
noncomputable abbrev ru4 [TA] : List V → Int := TA.ru4
noncomputable abbrev ru5 [TA] : List V → Int := TA.ru5
noncomputable abbrev ru6 [TA] : List V → Int := TA.ru6
noncomputable abbrev ru7 [TA] : List V → Int := TA.ru7
noncomputable abbrev ru8 [TA] : List V → Int := TA.ru8
noncomputable abbrev ru9 [TA] : List V → Int := TA.ru9
noncomputable abbrev ru10 [TA] : List V → List UInt8 := TA.ru10
noncomputable abbrev er0 [TA] : List V → Int := TA.er0
noncomputable abbrev er1 [TA] : List V → Int := TA.er1
noncomputable abbrev er2 [TA] : List V → Int := TA.er2
noncomputable abbrev er3 [TA] : List V → List UInt8 := TA.er3
noncomputable abbrev er4 [TA] : List V → List UInt8 := TA.er4
noncomputable abbrev er5 [TA] : List V → Bool := TA.er5
noncomputable abbrev er6 [TA] : List V → Int := TA.er6
noncomputable abbrev er7 [TA] : List V → Int := TA.er7
noncomputable abbrev er8 [TA] : List V → Int := TA.er8
noncomputable abbrev er9 [TA] : List V → Int := TA.er9
noncomputable abbrev er10 [TA] : List V → Int := TA.er10
noncomputable abbrev er11 [TA] : List V → Int := TA.er11
noncomputable abbrev er12 [TA] : List V → Int := TA.er12
variable [TA]
noncomputable def gNm : FSpec := fun a => match a with | [.str s] => some (true, .int .i64 (nmI s)) | _ => none
noncomputable def gRB : FSpec := fun a => match a with | [.agg [.str n, .int .i64 f, .int .i64 t, .int .i64 m, .int .i64 k, .int .i64 w, .int .i64 d, .int .i64 c, .int .i64 b, .int .i64 v, .str l]] => some (rB n f t m k w d c b v l, .tup [.sl 9 [.str] none [], .int .i64 4]) | _ => none
noncomputable def gRG : FSpec := fun a => match a with | [.agg [.str n, .int .i64 f, .int .i64 t, .int .i64 m, .int .i64 k, .int .i64 w, .int .i64 d, .int .i64 c, .int .i64 b, .int .i64 v, .str l]] => some (rG n f t m k w d c b v l, .tup [.sl 9 [.str] none (rfL n f t m k w d c b v l), .int .i64 0]) | _ => none
noncomputable def gEB : FSpec := fun a => match a with | [.agg [.int .i64 o, .int .i64 k, .int .i64 v, .str r, .str q, .bool h, .int .i64 y, .int .i64 m, .int .i64 ok, .int .i64 ow, .int .i64 od, .int .i64 c, .int .i64 b]] => some (eB o k v r q h y m ok ow od c b, .tup [.sl 9 [.str] none [], .int .i64 4]) | _ => none
noncomputable def gEG : FSpec := fun a => match a with | [.agg [.int .i64 o, .int .i64 k, .int .i64 v, .str r, .str q, .bool h, .int .i64 y, .int .i64 m, .int .i64 ok, .int .i64 ow, .int .i64 od, .int .i64 c, .int .i64 b]] => some (eG o k v r q h y m ok ow od c b, .tup [.sl 9 [.str] none (efL o k v r q h y m ok ow od c b), .int .i64 0]) | _ => none
noncomputable def gJn : FSpec := fun a => match a with | [.sl 9 [.str] none xs] => some (jnG xs, .tup [.str (jnT xs), .int .i64 0]) | _ => none
noncomputable def gOf : FSpec := fun a => match a with | [.str s] => some (ofG s, .tup [.sl 9 [.str] none (ofL s), .int .i64 0]) | _ => none
noncomputable def gRd : FSpec := fun a => match a with | [.sl 9 [.str] none xs] => some (rdG xs, .tup [.agg [.str (ru0 xs), .int .i64 (ru1 xs), .int .i64 (ru2 xs), .int .i64 (ru3 xs), .int .i64 (ru4 xs), .int .i64 (ru5 xs), .int .i64 (ru6 xs), .int .i64 (ru7 xs), .int .i64 (ru8 xs), .int .i64 (ru9 xs), .str (ru10 xs)], .int .i64 0]) | _ => none
noncomputable def gEd : FSpec := fun a => match a with | [.sl 9 [.str] none xs] => some (edG xs, .tup [.agg [.int .i64 (er0 xs), .int .i64 (er1 xs), .int .i64 (er2 xs), .str (er3 xs), .str (er4 xs), .bool (er5 xs), .int .i64 (er6 xs), .int .i64 (er7 xs), .int .i64 (er8 xs), .int .i64 (er9 xs), .int .i64 (er10 xs), .int .i64 (er11 xs), .int .i64 (er12 xs)], .int .i64 0]) | _ => none
noncomputable def gCk : FSpec := fun a => match a with | [.str s] => some (ckG s, .int .i64 0) | _ => none
noncomputable def tLa : List (Nat × FSpec) := (4, gNm) :: (5, gRB) :: (10, gEB) :: (6, gJn) :: (7, gOf) :: (8, gRd) :: (11, gEd) :: (9, gCk) :: []
noncomputable def tLb : List (Nat × FSpec) := (4, gNm) :: (5, gRB) :: (10, gEG) :: (6, gJn) :: (7, gOf) :: (8, gRd) :: (11, gEd) :: (9, gCk) :: []
noncomputable def tLc : List (Nat × FSpec) := (4, gNm) :: (5, gRG) :: (10, gEB) :: (6, gJn) :: (7, gOf) :: (8, gRd) :: (11, gEd) :: (9, gCk) :: []
noncomputable def tLd : List (Nat × FSpec) := (4, gNm) :: (5, gRG) :: (10, gEG) :: (6, gJn) :: (7, gOf) :: (8, gRd) :: (11, gEd) :: (9, gCk) :: []
set_option maxRecDepth 100000 in
theorem l06a_top (F : Nat) (n : List UInt8) (f : Int) (t : Int) (m : Int) (k : Int) (w : Int) (d : Int) (c : Int) (b : Int) (v : Int) (l : List UInt8) (eo : Int) (ek : Int) (ev : Int) (er : List UInt8) (eq : List UInt8) (eh : Bool) (ey : Int) (em : Int) (eok : Int) (eow : Int) (eod : Int) (ec : Int) (eb : Int) (K : V → Option V) :
 evBd eE (evFn eE tLa F 2) F 3 [(V.agg [(V.str n), (V.int .i64 f), (V.int .i64 t), (V.int .i64 m), (V.int .i64 k), (V.int .i64 w), (V.int .i64 d), (V.int .i64 c), (V.int .i64 b), (V.int .i64 v), (V.str l)]), (V.agg [(V.int .i64 eo), (V.int .i64 ek), (V.int .i64 ev), (V.str er), (V.str eq), (V.bool eh), (V.int .i64 ey), (V.int .i64 em), (V.int .i64 eok), (V.int .i64 eow), (V.int .i64 eod), (V.int .i64 ec), (V.int .i64 eb)])] K =
 sel (bnot (ieq (nmI [65]) 0))
 (K (V.bool false))
 (sel (bnot (ieq (nmI [49]) 10))
 (K (V.bool false))
 (sel (rB n f t m k w d c b v l)
 (sel (eB eo ek ev er eq eh ey em eok eow eod ec eb)
 (K (V.bool true))
 (none))
 (none))) := by kernel_rfl
set_option maxRecDepth 100000 in
theorem l06b_top (F : Nat) (n : List UInt8) (f : Int) (t : Int) (m : Int) (k : Int) (w : Int) (d : Int) (c : Int) (b : Int) (v : Int) (l : List UInt8) (eo : Int) (ek : Int) (ev : Int) (er : List UInt8) (eq : List UInt8) (eh : Bool) (ey : Int) (em : Int) (eok : Int) (eow : Int) (eod : Int) (ec : Int) (eb : Int) (K : V → Option V) :
 evBd eE (evFn eE tLb F 2) F 3 [(V.agg [(V.str n), (V.int .i64 f), (V.int .i64 t), (V.int .i64 m), (V.int .i64 k), (V.int .i64 w), (V.int .i64 d), (V.int .i64 c), (V.int .i64 b), (V.int .i64 v), (V.str l)]), (V.agg [(V.int .i64 eo), (V.int .i64 ek), (V.int .i64 ev), (V.str er), (V.str eq), (V.bool eh), (V.int .i64 ey), (V.int .i64 em), (V.int .i64 eok), (V.int .i64 eow), (V.int .i64 eod), (V.int .i64 ec), (V.int .i64 eb)])] K =
 sel (bnot (ieq (nmI [65]) 0))
 (K (V.bool false))
 (sel (bnot (ieq (nmI [49]) 10))
 (K (V.bool false))
 (sel (rB n f t m k w d c b v l)
 (sel (eG eo ek ev er eq eh ey em eok eow eod ec eb)
 (sel (jnG (efL eo ek ev er eq eh ey em eok eow eod ec eb))
 (sel (ofG (jnT (efL eo ek ev er eq eh ey em eok eow eod ec eb)))
 (sel (edG (ofL (jnT (efL eo ek ev er eq eh ey em eok eow eod ec eb))))
 (sel (band (ieq (er0 (ofL (jnT (efL eo ek ev er eq eh ey em eok eow eod ec eb)))) eo) (band (ieq (er1 (ofL (jnT (efL eo ek ev er eq eh ey em eok eow eod ec eb)))) ek) (band (ieq (er2 (ofL (jnT (efL eo ek ev er eq eh ey em eok eow eod ec eb)))) ev) (band (seq (er3 (ofL (jnT (efL eo ek ev er eq eh ey em eok eow eod ec eb)))) er) (band (seq (er4 (ofL (jnT (efL eo ek ev er eq eh ey em eok eow eod ec eb)))) eq) (band (beq (er5 (ofL (jnT (efL eo ek ev er eq eh ey em eok eow eod ec eb)))) eh) (band (ieq (er6 (ofL (jnT (efL eo ek ev er eq eh ey em eok eow eod ec eb)))) ey) (band (ieq (er7 (ofL (jnT (efL eo ek ev er eq eh ey em eok eow eod ec eb)))) em) (band (band (ieq (er8 (ofL (jnT (efL eo ek ev er eq eh ey em eok eow eod ec eb)))) eok) (band (ieq (er9 (ofL (jnT (efL eo ek ev er eq eh ey em eok eow eod ec eb)))) eow) (ieq (er10 (ofL (jnT (efL eo ek ev er eq eh ey em eok eow eod ec eb)))) eod))) (band (ieq (er11 (ofL (jnT (efL eo ek ev er eq eh ey em eok eow eod ec eb)))) ec) (ieq (er12 (ofL (jnT (efL eo ek ev er eq eh ey em eok eow eod ec eb)))) eb)))))))))))
 (sel (ckG (jnT (efL eo ek ev er eq eh ey em eok eow eod ec eb)))
 (K (V.bool (ieq 0 0)))
 (none))
 (K (V.bool false)))
 (none))
 (none))
 (none))
 (none))
 (none))) := by kernel_rfl
set_option maxRecDepth 100000 in
theorem l06c_top (F : Nat) (n : List UInt8) (f : Int) (t : Int) (m : Int) (k : Int) (w : Int) (d : Int) (c : Int) (b : Int) (v : Int) (l : List UInt8) (eo : Int) (ek : Int) (ev : Int) (er : List UInt8) (eq : List UInt8) (eh : Bool) (ey : Int) (em : Int) (eok : Int) (eow : Int) (eod : Int) (ec : Int) (eb : Int) (K : V → Option V) :
 evBd eE (evFn eE tLc F 2) F 3 [(V.agg [(V.str n), (V.int .i64 f), (V.int .i64 t), (V.int .i64 m), (V.int .i64 k), (V.int .i64 w), (V.int .i64 d), (V.int .i64 c), (V.int .i64 b), (V.int .i64 v), (V.str l)]), (V.agg [(V.int .i64 eo), (V.int .i64 ek), (V.int .i64 ev), (V.str er), (V.str eq), (V.bool eh), (V.int .i64 ey), (V.int .i64 em), (V.int .i64 eok), (V.int .i64 eow), (V.int .i64 eod), (V.int .i64 ec), (V.int .i64 eb)])] K =
 sel (bnot (ieq (nmI [65]) 0))
 (K (V.bool false))
 (sel (bnot (ieq (nmI [49]) 10))
 (K (V.bool false))
 (sel (rG n f t m k w d c b v l)
 (sel (jnG (rfL n f t m k w d c b v l))
 (sel (ofG (jnT (rfL n f t m k w d c b v l)))
 (sel (rdG (ofL (jnT (rfL n f t m k w d c b v l))))
 (sel (bnot (band (seq (ru0 (ofL (jnT (rfL n f t m k w d c b v l)))) n) (band (ieq (ru1 (ofL (jnT (rfL n f t m k w d c b v l)))) f) (band (ieq (ru2 (ofL (jnT (rfL n f t m k w d c b v l)))) t) (band (ieq (ru3 (ofL (jnT (rfL n f t m k w d c b v l)))) m) (band (band (ieq (ru4 (ofL (jnT (rfL n f t m k w d c b v l)))) k) (band (ieq (ru5 (ofL (jnT (rfL n f t m k w d c b v l)))) w) (ieq (ru6 (ofL (jnT (rfL n f t m k w d c b v l)))) d))) (band (band (ieq (ru7 (ofL (jnT (rfL n f t m k w d c b v l)))) c) (ieq (ru8 (ofL (jnT (rfL n f t m k w d c b v l)))) b)) (band (ieq (ru9 (ofL (jnT (rfL n f t m k w d c b v l)))) v) (seq (ru10 (ofL (jnT (rfL n f t m k w d c b v l)))) l)))))))))
 (K (V.bool false))
 (sel (okCat [82, 117, 108, 101, 32] (jnT (rfL n f t m k w d c b v l)))
 (sel (ckG (scat [82, 117, 108, 101, 32] (jnT (rfL n f t m k w d c b v l))))
 (sel (eB eo ek ev er eq eh ey em eok eow eod ec eb)
 (K (V.bool true))
 (none))
 (none))
 (none)))
 (none))
 (none))
 (none))
 (none))) := by kernel_rfl
set_option maxRecDepth 100000 in
theorem l06d_top (F : Nat) (n : List UInt8) (f : Int) (t : Int) (m : Int) (k : Int) (w : Int) (d : Int) (c : Int) (b : Int) (v : Int) (l : List UInt8) (eo : Int) (ek : Int) (ev : Int) (er : List UInt8) (eq : List UInt8) (eh : Bool) (ey : Int) (em : Int) (eok : Int) (eow : Int) (eod : Int) (ec : Int) (eb : Int) (K : V → Option V) :
 evBd eE (evFn eE tLd F 2) F 3 [(V.agg [(V.str n), (V.int .i64 f), (V.int .i64 t), (V.int .i64 m), (V.int .i64 k), (V.int .i64 w), (V.int .i64 d), (V.int .i64 c), (V.int .i64 b), (V.int .i64 v), (V.str l)]), (V.agg [(V.int .i64 eo), (V.int .i64 ek), (V.int .i64 ev), (V.str er), (V.str eq), (V.bool eh), (V.int .i64 ey), (V.int .i64 em), (V.int .i64 eok), (V.int .i64 eow), (V.int .i64 eod), (V.int .i64 ec), (V.int .i64 eb)])] K =
 sel (bnot (ieq (nmI [65]) 0))
 (K (V.bool false))
 (sel (bnot (ieq (nmI [49]) 10))
 (K (V.bool false))
 (sel (rG n f t m k w d c b v l)
 (sel (jnG (rfL n f t m k w d c b v l))
 (sel (ofG (jnT (rfL n f t m k w d c b v l)))
 (sel (rdG (ofL (jnT (rfL n f t m k w d c b v l))))
 (sel (bnot (band (seq (ru0 (ofL (jnT (rfL n f t m k w d c b v l)))) n) (band (ieq (ru1 (ofL (jnT (rfL n f t m k w d c b v l)))) f) (band (ieq (ru2 (ofL (jnT (rfL n f t m k w d c b v l)))) t) (band (ieq (ru3 (ofL (jnT (rfL n f t m k w d c b v l)))) m) (band (band (ieq (ru4 (ofL (jnT (rfL n f t m k w d c b v l)))) k) (band (ieq (ru5 (ofL (jnT (rfL n f t m k w d c b v l)))) w) (ieq (ru6 (ofL (jnT (rfL n f t m k w d c b v l)))) d))) (band (band (ieq (ru7 (ofL (jnT (rfL n f t m k w d c b v l)))) c) (ieq (ru8 (ofL (jnT (rfL n f t m k w d c b v l)))) b)) (band (ieq (ru9 (ofL (jnT (rfL n f t m k w d c b v l)))) v) (seq (ru10 (ofL (jnT (rfL n f t m k w d c b v l)))) l)))))))))
 (K (V.bool false))
 (sel (okCat [82, 117, 108, 101, 32] (jnT (rfL n f t m k w d c b v l)))
 (sel (ckG (scat [82, 117, 108, 101, 32] (jnT (rfL n f t m k w d c b v l))))
 (sel (eG eo ek ev er eq eh ey em eok eow eod ec eb)
 (sel (jnG (efL eo ek ev er eq eh ey em eok eow eod ec eb))
 (sel (ofG (jnT (efL eo ek ev er eq eh ey em eok eow eod ec eb)))
 (sel (edG (ofL (jnT (efL eo ek ev er eq eh ey em eok eow eod ec eb))))
 (sel (band (ieq (er0 (ofL (jnT (efL eo ek ev er eq eh ey em eok eow eod ec eb)))) eo) (band (ieq (er1 (ofL (jnT (efL eo ek ev er eq eh ey em eok eow eod ec eb)))) ek) (band (ieq (er2 (ofL (jnT (efL eo ek ev er eq eh ey em eok eow eod ec eb)))) ev) (band (seq (er3 (ofL (jnT (efL eo ek ev er eq eh ey em eok eow eod ec eb)))) er) (band (seq (er4 (ofL (jnT (efL eo ek ev er eq eh ey em eok eow eod ec eb)))) eq) (band (beq (er5 (ofL (jnT (efL eo ek ev er eq eh ey em eok eow eod ec eb)))) eh) (band (ieq (er6 (ofL (jnT (efL eo ek ev er eq eh ey em eok eow eod ec eb)))) ey) (band (ieq (er7 (ofL (jnT (efL eo ek ev er eq eh ey em eok eow eod ec eb)))) em) (band (band (ieq (er8 (ofL (jnT (efL eo ek ev er eq eh ey em eok eow eod ec eb)))) eok) (band (ieq (er9 (ofL (jnT (efL eo ek ev er eq eh ey em eok eow eod ec eb)))) eow) (ieq (er10 (ofL (jnT (efL eo ek ev er eq eh ey em eok eow eod ec eb)))) eod))) (band (ieq (er11 (ofL (jnT (efL eo ek ev er eq eh ey em eok eow eod ec eb)))) ec) (ieq (er12 (ofL (jnT (efL eo ek ev er eq eh ey em eok eow eod ec eb)))) eb)))))))))))
 (sel (ckG (jnT (efL eo ek ev er eq eh ey em eok eow eod ec eb)))
 (K (V.bool (ieq 0 0)))
 (none))
 (K (V.bool false)))
 (none))
 (none))
 (none))
 (none))
 (none))
 (none)))
 (none))
 (none))
 (none))
 (none))) := by kernel_rfl
end Nt.Ev.YtpmemdamcadbgaaGreatDoor.T6

set_option linter.unusedVariables false
set_option linter.unusedSimpArgs false
set_option linter.unusedSectionVars false
namespace Nt.Ev.YtpmemdamcadbgaaGreatDoor
open Go Go.RowKit Nt Nt.Num Nt.Civil Nt.Fld Go.Proofs.YtpmemdamcadbgaaGreatDoor
set_option maxRecDepth 100000
variable [MLen]
theorem t_h {f : Nat} {args : List V} {r : V} (h : Contract hE f args r) : Contract eE f args r := Contract.env (E := hE) rfl (fun n v h => by cases h) h
theorem t_o {f : Nat} {args : List V} {r : V} (h : Contract oE f args r) : Contract eE f args r := Contract.env (E := oE) rfl (fun n v h => by cases h) h
theorem tNmS_ok (s : List UInt8) (hc : true = true) : Contract eE 4 [.str s] (.int .i64 (nmI s)) := by
  by_cases h : s.length ≤ 1000
  · exact toE (zNameS_ok s (ile_t (by rw [slen_nat]; omega)))
  · refine toE (contract_of_body zE_ok zS0_ok 100 2 ?_)
    rw [zName_top]
    unfold nmI
    rw [sel_pos (ilt_t (by rw [slen_nat]; omega)), if_pos (by omega)]
theorem tChS_ok (s : List UInt8) (hc : true = true) : Contract eE 65 [.str s] (.int .i64 (ckW s)) := by
  by_cases h : s.length ≤ 900
  · exact eChS_ok s (ile_t (by rw [slen_nat]; omega))
  · refine toE (toZf (contract_of_body fE_ok fS3_ok 5 2 ?_))
    rw [fCheck_top]
    unfold ckW
    rw [sel_pos (ilt_t (by rw [slen_nat]; omega)), if_pos (by omega)]
theorem tLeS_ok (s : List UInt8) (hc : true = true) : Contract eE 41 [.str s] (.tup [.str (leT s), .int .i64 (leW s)]) := by
  by_cases h : s.length ≤ 900
  · exact toE (zLetS_ok s (ile_t (by rw [slen_nat]; omega)))
  · refine toE (toZf (contract_of_body fE_ok fS2_ok 5 2 ?_))
    rw [fLetter_top]
    have h1 : s ≠ [45] := fun e => by rw [e] at h; exact h (by decide)
    unfold leT leW leP
    rw [if_neg h1, if_pos (by omega), sel_neg (by rw [← Bool.not_eq_true, seq_iff]; exact h1), sel_pos (ilt_t (by rw [slen_nat]; omega))]
theorem tSl_ok : SOk eE tSl := by
  unfold tSl
  refine SOk.cons (fun args r h => ?_) (SOk.nil)
  · unfold tLeS at h
    split at h
    · simp only [Option.some.injEq, Prod.mk.injEq] at h
      obtain ⟨hc, rfl⟩ := h
      exact tLeS_ok _ rfl
    · cases h
theorem tLtS_ok (s : List UInt8) (hc : true = true) : Contract eE 19 [.str s] (.tup [.str (ltT s), .int .i64 (ltW s)]) := by
  refine contract_of_body eE_ok tSl_ok 5 2 ?_
  rw [tLT_top]
  unfold ltT ltW ltP
  by_cases h1 : s = []
  · rw [if_pos h1, sel_pos (by rw [seq_iff]; exact h1)]
  · rw [if_neg h1, sel_neg (by rw [← Bool.not_eq_true, seq_iff]; exact h1)]
    by_cases h2 : leW s = 0
    · by_cases h3 : leT s = s
      · rw [if_neg (fun e => e.elim (fun x => x h2) (fun x => x h3)), sel_neg (by rw [ieq_t h2]; rfl), sel_neg (by rw [show seq (leT s) s = true by rw [seq_iff]; exact h3]; rfl)]
      · rw [if_pos (.inr h3), sel_neg (by rw [ieq_t h2]; rfl), sel_pos (by rw [bnot_iff, seq_iff]; exact h3)]
    · rw [if_pos (.inl h2), sel_pos (by rw [bnot_iff, ieq_iff]; exact h2)]
theorem tS0_ok : SOk eE tS0 := by
  unfold tS0
  refine SOk.cons (fun args r h => ?_) (SOk.cons (fun args r h => ?_) (SOk.cons (fun args r h => ?_) (SOk.cons (fun args r h => ?_) (SOk.cons (fun args r h => ?_) (SOk.cons (fun args r h => ?_) (SOk.cons (fun args r h => ?_) (SOk.cons (fun args r h => ?_) (SOk.cons (fun args r h => ?_) (SOk.cons (fun args r h => ?_) (SOk.cons (fun args r h => ?_) (SOk.cons (fun args r h => ?_) (SOk.nil))))))))))))
  · unfold tNmS at h
    split at h
    · simp only [Option.some.injEq, Prod.mk.injEq] at h
      obtain ⟨hc, rfl⟩ := h
      exact tNmS_ok _ rfl
    · cases h
  · unfold tLtS at h
    split at h
    · simp only [Option.some.injEq, Prod.mk.injEq] at h
      obtain ⟨hc, rfl⟩ := h
      exact tLtS_ok _ rfl
    · cases h
  · unfold tChS at h
    split at h
    · simp only [Option.some.injEq, Prod.mk.injEq] at h
      obtain ⟨hc, rfl⟩ := h
      exact tChS_ok _ rfl
    · cases h
  · unfold zFitsS at h
    split at h
    · simp only [Option.some.injEq, Prod.mk.injEq] at h
      obtain ⟨hc, rfl⟩ := h
      exact toE (zFitsS_ok _ _ _ _ rfl)
    · cases h
  · unfold zFxS at h
    split at h
    · simp only [Option.some.injEq, Prod.mk.injEq] at h
      obtain ⟨hc, rfl⟩ := h
      exact toE (zFxS_ok _ rfl)
    · cases h
  · unfold zTxS at h
    split at h
    · simp only [Option.some.injEq, Prod.mk.injEq] at h
      obtain ⟨hc, rfl⟩ := h
      exact toE (zTxS_ok _ _ rfl)
    · cases h
  · unfold zDtS at h
    split at h
    · simp only [Option.some.injEq, Prod.mk.injEq] at h
      obtain ⟨hc, rfl⟩ := h
      exact toE (zDtS_ok _ _ _ rfl)
    · cases h
  · unfold zCtS at h
    split at h
    · simp only [Option.some.injEq, Prod.mk.injEq] at h
      obtain ⟨hc, rfl⟩ := h
      exact toE (zCtS_ok _ _ rfl)
    · cases h
  · unfold zCrS at h
    split at h
    · simp only [Option.some.injEq, Prod.mk.injEq] at h
      obtain ⟨hc, rfl⟩ := h
      exact toE (zCrS_ok _ _ rfl)
    · cases h
  · unfold zAtS at h
    split at h
    · simp only [Option.some.injEq, Prod.mk.injEq] at h
      obtain ⟨hc, rfl⟩ := h
      exact toE (zAtS_ok _ hc)
    · cases h
  · unfold zMtS at h
    split at h
    · simp only [Option.some.injEq, Prod.mk.injEq] at h
      obtain ⟨hc, rfl⟩ := h
      exact toE (zMtS_ok _ hc)
    · cases h
  · unfold eNtS at h
    split at h
    · simp only [Option.some.injEq, Prod.mk.injEq] at h
      obtain ⟨hc, rfl⟩ := h
      exact eNtS_ok _ hc
    · cases h
theorem tRrS_ok (n : List UInt8) (f t m k w d c b v : Int) (l : List UInt8) (hc : true = true) : Contract eE 13 [.agg [.str n, .int .i64 f, .int .i64 t, .int .i64 m, .int .i64 k, .int .i64 w, .int .i64 d, .int .i64 c, .int .i64 b, .int .i64 v, .str l]] (.bool (ruR n f t m k w d c b v l)) := by
  refine contract_of_body eE_ok tS0_ok 5 3 ?_
  rw [tRR_top]
  unfold ruR
  rw [← yr_eq]
  cases ieq (txWy f t) 0 <;> cases ieq (fxW f) 0 <;> cases ieq (ltW l) 0 <;> cases ieq (nmI n) 0 <;> cases ftB k w d m <;> cases rightC c b <;> cases ile (-10800) v <;> cases ile v 10800 <;> rfl
theorem tErS_ok (o k v : Int) (r q : List UInt8) (h : Bool) (y m ok ow od c b : Int) (hc : true = true) : Contract eE 29 [.agg [.int .i64 o, .int .i64 k, .int .i64 v, .str r, .str q, .bool h, .int .i64 y, .int .i64 m, .int .i64 ok, .int .i64 ow, .int .i64 od, .int .i64 c, .int .i64 b]] (.bool (erR o k v r q h y m ok ow od c b)) := by
  refine contract_of_body eE_ok tS0_ok 5 3 ?_
  rw [tER_top, show isub .i64 0 54000 = -54000 by decide, show isub .i64 0 10800 = -10800 by decide]
  unfold erR enR
  cases ile (-54000) o with
  | false => cases ieq k 0 <;> cases ieq k 1 <;> cases ieq k 2 <;> rfl
  | true =>
  cases ile o 54000 with
  | false => cases ieq k 0 <;> cases ieq k 1 <;> cases ieq k 2 <;> rfl
  | true =>
  cases ieq (ckW q) 0 with
  | false => cases ieq k 0 <;> cases ieq k 1 <;> cases ieq k 2 <;> rfl
  | true =>
  cases h with
  | false =>
    have e : band (beq false false) (band (ieq y 0) (band (ieq m 0) (band (band (ieq ok 0) (band (ieq ow 0) (ieq od 0))) (band (ieq c 0) (ieq b 0))))) = (band (ieq y 0) (band (ieq m 0) (band (band (ieq ok 0) (band (ieq ow 0) (ieq od 0))) (band (ieq c 0) (ieq b 0))))) := rfl
    rw [e]
    generalize band (ieq y 0) (band (ieq m 0) (band (band (ieq ok 0) (band (ieq ow 0) (ieq od 0))) (band (ieq c 0) (ieq b 0)))) = z
    cases z with
    | false => cases ieq k 0 <;> cases ieq k 1 <;> cases ieq k 2 <;> rfl
    | true =>
    cases ieq k 0 with
    | true => cases ieq v 0 <;> rfl
    | false =>
    cases ieq k 1 with
    | true => cases ile (-10800) v <;> cases ile v 10800 <;> rfl
    | false => cases ieq k 2 <;> cases ieq v 0 <;> rfl
  | true =>
    cases ilt (-32767) y with
    | false => cases ieq k 0 <;> cases ieq k 1 <;> cases ieq k 2 <;> rfl
    | true =>
    cases ilt y 32767 with
    | false => cases ieq k 0 <;> cases ieq k 1 <;> cases ieq k 2 <;> rfl
    | true =>
    cases ftB ok ow od m with
    | false => cases ieq k 0 <;> cases ieq k 1 <;> cases ieq k 2 <;> rfl
    | true =>
    cases rightC c b with
    | false => cases ieq k 0 <;> cases ieq k 1 <;> cases ieq k 2 <;> rfl
    | true =>
    cases ieq k 0 with
    | true => cases ieq v 0 <;> rfl
    | false =>
    cases ieq k 1 with
    | true => cases ile (-10800) v <;> cases ile v 10800 <;> rfl
    | false => cases ieq k 2 <;> cases ieq v 0 <;> rfl
theorem tS1_ok : SOk eE tS1 := by
  unfold tS1
  refine SOk.cons (fun args r h => ?_) (SOk.cons (fun args r h => ?_) (tS0_ok))
  · unfold tRrS at h
    split at h
    · simp only [Option.some.injEq, Prod.mk.injEq] at h
      obtain ⟨hc, rfl⟩ := h
      exact tRrS_ok _ _ _ _ _ _ _ _ _ _ _ rfl
    · cases h
  · unfold tErS at h
    split at h
    · simp only [Option.some.injEq, Prod.mk.injEq] at h
      obtain ⟨hc, rfl⟩ := h
      exact tErS_ok _ _ _ _ _ _ _ _ _ _ _ _ _ rfl
    · cases h
theorem tRFS_ok (n : List UInt8) (f t m k w d c b v : Int) (l : List UInt8) (hc : band (band (ile (-9223372036854775808) v) (ile v 9223372036854775807)) (band (ile (-9223372036854775808) m) (ile m 9223372036854775807)) = true) : Contract eE 5 [.agg [.str n, .int .i64 f, .int .i64 t, .int .i64 m, .int .i64 k, .int .i64 w, .int .i64 d, .int .i64 c, .int .i64 b, .int .i64 v, .str l]] (.tup [.sl 9 [.str] none (rfV n f t m k w d c b v l), .int .i64 (rfE n f t m k w d c b v l)]) := by
  obtain ⟨h1, h2⟩ := band_true hc
  refine contract_lab (L := 0) eE_ok tS1_ok 5 2 ?_
  rw [tRF_top, h1, h2]
  unfold rfV rfE
  cases hR : ruR n f t m k w d c b v l <;> exact .inl rfl
theorem tEFS_ok (o k v : Int) (r q : List UInt8) (h : Bool) (y m ok ow od c b : Int) (hc : band (band (band (ile (-9223372036854775808) o) (ile o 9223372036854775807)) (band (ile (-9223372036854775808) v) (ile v 9223372036854775807))) (band (band (ile (-9223372036854775808) y) (ile y 9223372036854775807)) (band (ile (-9223372036854775808) m) (ile m 9223372036854775807))) = true) : Contract eE 10 [.agg [.int .i64 o, .int .i64 k, .int .i64 v, .str r, .str q, .bool h, .int .i64 y, .int .i64 m, .int .i64 ok, .int .i64 ow, .int .i64 od, .int .i64 c, .int .i64 b]] (.tup [.sl 9 [.str] none (efV o k v r q h y m ok ow od c b), .int .i64 (efE o k v r q h y m ok ow od c b)]) := by
  obtain ⟨h3, h4⟩ := band_true hc
  obtain ⟨h5, h6⟩ := band_true h3
  obtain ⟨h7, h8⟩ := band_true h4
  refine contract_lab (L := 0) eE_ok tS1_ok 9 2 ?_
  rw [tEF_u9_top]
  unfold efV efE
  cases hR : erR o k v r q h y m ok ow od c b with
  | false => exact .inl rfl
  | true =>
    have hk := erR_k o k v r q h y m ok ow od c b hR
    rw [sel_neg (show bnot true = false from rfl), sel_pos h5, sel_pos h6, h7, h8]
    unfold efL efM efT
    rcases hk with rfl | rfl | rfl
    all_goals
      cases h
      · first | exact .inl rfl | exact .inr rfl
      · cases band (ieq c 0) (ieq b 0) <;> cases band (ieq ok 0) (band (ieq ow 0) (ieq od 1)) <;> cases ieq m 1 <;> first | exact .inl rfl | exact .inr rfl
def rRng (m v : Int) : Bool := (band (band (ile (-9223372036854775808) v) (ile v 9223372036854775807)) (band (ile (-9223372036854775808) m) (ile m 9223372036854775807)))
def eRng (o v y m : Int) : Bool := (band (band (band (ile (-9223372036854775808) o) (ile o 9223372036854775807)) (band (ile (-9223372036854775808) v) (ile v 9223372036854775807))) (band (band (ile (-9223372036854775808) y) (ile y 9223372036854775807)) (band (ile (-9223372036854775808) m) (ile m 9223372036854775807))))
theorem jn_strs (l : List (List UInt8)) : jnT (strsV l) = (joinP l).1 ∧ jnW (strsV l) = (joinP l).2 ∧ jnC (strsV l) = decide (totL l ≤ 3000000) := by
  unfold jnT jnW jnC
  rw [str_strs]
  exact ⟨rfl, rfl, rfl⟩
theorem line_all (l : List (List UInt8)) (h : ∀ x ∈ l, Gd x) (hl : l.length ≤ 16) (ht : totL l ≤ 400) :
    jnC (strsV l) = true ∧ jnW (strsV l) = 0 ∧ ofL (jnT (strsV l)) = strsV l ∧ ofW (jnT (strsV l)) = 0 ∧ (jnT (strsV l)).length ≤ 448 ∧ Pr (jnT (strsV l)) := by
  obtain ⟨h1, h2, h3, h4⟩ := line_ok l h hl ht
  obtain ⟨e1, e2, e3⟩ := jn_strs l
  unfold ofL ofW
  rw [e1, e2, e3, h1, h2]
  exact ⟨decide_eq_true (by omega), rfl, rfl, rfl, by omega, h3⟩
namespace T6
noncomputable instance tA : TA where
  nmI := Nt.Ev.YtpmemdamcadbgaaGreatDoor.nmI
  rB := fun n f t m k w d c b v l => band (bnot (ruR n f t m k w d c b v l)) (rRng m v)
  rG := fun n f t m k w d c b v l => band (ruR n f t m k w d c b v l) (rRng m v)
  rfL := Nt.Ev.YtpmemdamcadbgaaGreatDoor.rfL
  eB := fun o k v r q h y m ok ow od c b => band (bnot (erR o k v r q h y m ok ow od c b)) (eRng o v y m)
  eG := fun o k v r q h y m ok ow od c b => band (erR o k v r q h y m ok ow od c b) (eRng o v y m)
  efL := Nt.Ev.YtpmemdamcadbgaaGreatDoor.efL
  jnG := fun xs => band (jnC xs) (ieq (jnW xs) 0)
  jnT := Nt.Ev.YtpmemdamcadbgaaGreatDoor.jnT
  ofG := fun s => band (ile (slen s) 4000000) (ieq (ofW s) 0)
  ofL := Nt.Ev.YtpmemdamcadbgaaGreatDoor.ofL
  rdG := fun xs => band (allS xs) (ieq (ruE xs) 0)
  edG := fun xs => band (allS xs) (ieq (erE xs) 0)
  ckG := fun s => band (ile (slen s) 4000000) (ieq (ckP s) 0)
  ru0 := Nt.Ev.YtpmemdamcadbgaaGreatDoor.ru0
  ru1 := Nt.Ev.YtpmemdamcadbgaaGreatDoor.ru1
  ru2 := Nt.Ev.YtpmemdamcadbgaaGreatDoor.ru2
  ru3 := Nt.Ev.YtpmemdamcadbgaaGreatDoor.ru3
  ru4 := Nt.Ev.YtpmemdamcadbgaaGreatDoor.ru4
  ru5 := Nt.Ev.YtpmemdamcadbgaaGreatDoor.ru5
  ru6 := Nt.Ev.YtpmemdamcadbgaaGreatDoor.ru6
  ru7 := Nt.Ev.YtpmemdamcadbgaaGreatDoor.ru7
  ru8 := Nt.Ev.YtpmemdamcadbgaaGreatDoor.ru8
  ru9 := Nt.Ev.YtpmemdamcadbgaaGreatDoor.ru9
  ru10 := Nt.Ev.YtpmemdamcadbgaaGreatDoor.ru10
  er0 := Nt.Ev.YtpmemdamcadbgaaGreatDoor.er0
  er1 := Nt.Ev.YtpmemdamcadbgaaGreatDoor.er1
  er2 := Nt.Ev.YtpmemdamcadbgaaGreatDoor.er2
  er3 := Nt.Ev.YtpmemdamcadbgaaGreatDoor.er3
  er4 := Nt.Ev.YtpmemdamcadbgaaGreatDoor.er4
  er5 := Nt.Ev.YtpmemdamcadbgaaGreatDoor.er5
  er6 := Nt.Ev.YtpmemdamcadbgaaGreatDoor.er6
  er7 := Nt.Ev.YtpmemdamcadbgaaGreatDoor.er7
  er8 := Nt.Ev.YtpmemdamcadbgaaGreatDoor.er8
  er9 := Nt.Ev.YtpmemdamcadbgaaGreatDoor.er9
  er10 := Nt.Ev.YtpmemdamcadbgaaGreatDoor.er10
  er11 := Nt.Ev.YtpmemdamcadbgaaGreatDoor.er11
  er12 := Nt.Ev.YtpmemdamcadbgaaGreatDoor.er12
theorem gNm_ok (s : List UInt8) (hc : true = true) : Contract eE 4 [.str s] (.int .i64 (nmI s)) := tNmS_ok s rfl
theorem gRB_ok (n : List UInt8) (f t m k w d c b v : Int) (l : List UInt8) (hc : rB n f t m k w d c b v l = true) : Contract eE 5 [.agg [.str n, .int .i64 f, .int .i64 t, .int .i64 m, .int .i64 k, .int .i64 w, .int .i64 d, .int .i64 c, .int .i64 b, .int .i64 v, .str l]] (.tup [.sl 9 [.str] none [], .int .i64 4]) := by
  obtain ⟨h1, h2⟩ := band_true hc
  have h := tRFS_ok n f t m k w d c b v l h2
  unfold rfV rfE at h
  rw [show ruR n f t m k w d c b v l = false by cases e : ruR n f t m k w d c b v l with | false => rfl | true => rw [e] at h1; cases h1] at h
  exact h
theorem gRG_ok (n : List UInt8) (f t m k w d c b v : Int) (l : List UInt8) (hc : rG n f t m k w d c b v l = true) : Contract eE 5 [.agg [.str n, .int .i64 f, .int .i64 t, .int .i64 m, .int .i64 k, .int .i64 w, .int .i64 d, .int .i64 c, .int .i64 b, .int .i64 v, .str l]] (.tup [.sl 9 [.str] none (rfL n f t m k w d c b v l), .int .i64 0]) := by
  obtain ⟨h1, h2⟩ := band_true hc
  have h := tRFS_ok n f t m k w d c b v l h2
  unfold rfV rfE at h
  rw [h1] at h
  exact h
theorem gEB_ok (o k v : Int) (r q : List UInt8) (h : Bool) (y m ok ow od c b : Int) (hc : eB o k v r q h y m ok ow od c b = true) : Contract eE 10 [.agg [.int .i64 o, .int .i64 k, .int .i64 v, .str r, .str q, .bool h, .int .i64 y, .int .i64 m, .int .i64 ok, .int .i64 ow, .int .i64 od, .int .i64 c, .int .i64 b]] (.tup [.sl 9 [.str] none [], .int .i64 4]) := by
  obtain ⟨h1, h2⟩ := band_true hc
  have h' := tEFS_ok o k v r q h y m ok ow od c b h2
  unfold efV efE at h'
  rw [show erR o k v r q h y m ok ow od c b = false by cases e : erR o k v r q h y m ok ow od c b with | false => rfl | true => rw [e] at h1; cases h1] at h'
  exact h'
theorem gEG_ok (o k v : Int) (r q : List UInt8) (h : Bool) (y m ok ow od c b : Int) (hc : eG o k v r q h y m ok ow od c b = true) : Contract eE 10 [.agg [.int .i64 o, .int .i64 k, .int .i64 v, .str r, .str q, .bool h, .int .i64 y, .int .i64 m, .int .i64 ok, .int .i64 ow, .int .i64 od, .int .i64 c, .int .i64 b]] (.tup [.sl 9 [.str] none (efL o k v r q h y m ok ow od c b), .int .i64 0]) := by
  obtain ⟨h1, h2⟩ := band_true hc
  have h' := tEFS_ok o k v r q h y m ok ow od c b h2
  unfold efV efE at h'
  rw [h1] at h'
  exact h'
theorem ie0 {a : Int} (h : ieq a 0 = true) : a = 0 := by rw [ieq_iff] at h; exact h
theorem gJn_ok (xs : List V) (hc : jnG xs = true) : Contract eE 6 [.sl 9 [.str] none xs] (.tup [.str (jnT xs), .int .i64 0]) := by
  obtain ⟨h1, h2⟩ := band_true hc
  have h := t_h (hJnS_ok xs h1)
  rw [ie0 h2] at h
  exact h
theorem gOf_ok (s : List UInt8) (hc : ofG s = true) : Contract eE 7 [.str s] (.tup [.sl 9 [.str] none (ofL s), .int .i64 0]) := by
  obtain ⟨h1, h2⟩ := band_true hc
  have h := t_h (hOfS_ok s h1)
  rw [ie0 h2] at h
  exact h
theorem gRd_ok (xs : List V) (hc : rdG xs = true) : Contract eE 8 [.sl 9 [.str] none xs] (.tup [.agg [.str (ru0 xs), .int .i64 (ru1 xs), .int .i64 (ru2 xs), .int .i64 (ru3 xs), .int .i64 (ru4 xs), .int .i64 (ru5 xs), .int .i64 (ru6 xs), .int .i64 (ru7 xs), .int .i64 (ru8 xs), .int .i64 (ru9 xs), .str (ru10 xs)], .int .i64 0]) := by
  obtain ⟨h1, h2⟩ := band_true hc
  have h := toE (zRdS_ok xs h1)
  rw [ie0 h2] at h
  exact h
theorem gEd_ok (xs : List V) (hc : edG xs = true) : Contract eE 11 [.sl 9 [.str] none xs] (.tup [.agg [.int .i64 (er0 xs), .int .i64 (er1 xs), .int .i64 (er2 xs), .str (er3 xs), .str (er4 xs), .bool (er5 xs), .int .i64 (er6 xs), .int .i64 (er7 xs), .int .i64 (er8 xs), .int .i64 (er9 xs), .int .i64 (er10 xs), .int .i64 (er11 xs), .int .i64 (er12 xs)], .int .i64 0]) := by
  obtain ⟨h1, h2⟩ := band_true hc
  have h := eRdS_ok xs h1
  rw [ie0 h2] at h
  exact h
theorem gCk_ok (s : List UInt8) (hc : ckG s = true) : Contract eE 9 [.str s] (.int .i64 0) := by
  obtain ⟨h1, h2⟩ := band_true hc
  have h := t_o (xCkS_ok s h1)
  rw [ie0 h2] at h
  exact h
theorem tLa_ok : SOk eE tLa := by
  unfold tLa
  refine SOk.cons (fun args r h => ?_) (SOk.cons (fun args r h => ?_) (SOk.cons (fun args r h => ?_) (SOk.cons (fun args r h => ?_) (SOk.cons (fun args r h => ?_) (SOk.cons (fun args r h => ?_) (SOk.cons (fun args r h => ?_) (SOk.cons (fun args r h => ?_) (SOk.nil))))))))
  · unfold gNm at h
    split at h
    · simp only [Option.some.injEq, Prod.mk.injEq] at h
      obtain ⟨hc, rfl⟩ := h
      exact gNm_ok _ rfl
    · cases h
  · unfold gRB at h
    split at h
    · simp only [Option.some.injEq, Prod.mk.injEq] at h
      obtain ⟨hc, rfl⟩ := h
      exact gRB_ok _ _ _ _ _ _ _ _ _ _ _ hc
    · cases h
  · unfold gEB at h
    split at h
    · simp only [Option.some.injEq, Prod.mk.injEq] at h
      obtain ⟨hc, rfl⟩ := h
      exact gEB_ok _ _ _ _ _ _ _ _ _ _ _ _ _ hc
    · cases h
  · unfold gJn at h
    split at h
    · simp only [Option.some.injEq, Prod.mk.injEq] at h
      obtain ⟨hc, rfl⟩ := h
      exact gJn_ok _ hc
    · cases h
  · unfold gOf at h
    split at h
    · simp only [Option.some.injEq, Prod.mk.injEq] at h
      obtain ⟨hc, rfl⟩ := h
      exact gOf_ok _ hc
    · cases h
  · unfold gRd at h
    split at h
    · simp only [Option.some.injEq, Prod.mk.injEq] at h
      obtain ⟨hc, rfl⟩ := h
      exact gRd_ok _ hc
    · cases h
  · unfold gEd at h
    split at h
    · simp only [Option.some.injEq, Prod.mk.injEq] at h
      obtain ⟨hc, rfl⟩ := h
      exact gEd_ok _ hc
    · cases h
  · unfold gCk at h
    split at h
    · simp only [Option.some.injEq, Prod.mk.injEq] at h
      obtain ⟨hc, rfl⟩ := h
      exact gCk_ok _ hc
    · cases h
theorem tLb_ok : SOk eE tLb := by
  unfold tLb
  refine SOk.cons (fun args r h => ?_) (SOk.cons (fun args r h => ?_) (SOk.cons (fun args r h => ?_) (SOk.cons (fun args r h => ?_) (SOk.cons (fun args r h => ?_) (SOk.cons (fun args r h => ?_) (SOk.cons (fun args r h => ?_) (SOk.cons (fun args r h => ?_) (SOk.nil))))))))
  · unfold gNm at h
    split at h
    · simp only [Option.some.injEq, Prod.mk.injEq] at h
      obtain ⟨hc, rfl⟩ := h
      exact gNm_ok _ rfl
    · cases h
  · unfold gRB at h
    split at h
    · simp only [Option.some.injEq, Prod.mk.injEq] at h
      obtain ⟨hc, rfl⟩ := h
      exact gRB_ok _ _ _ _ _ _ _ _ _ _ _ hc
    · cases h
  · unfold gEG at h
    split at h
    · simp only [Option.some.injEq, Prod.mk.injEq] at h
      obtain ⟨hc, rfl⟩ := h
      exact gEG_ok _ _ _ _ _ _ _ _ _ _ _ _ _ hc
    · cases h
  · unfold gJn at h
    split at h
    · simp only [Option.some.injEq, Prod.mk.injEq] at h
      obtain ⟨hc, rfl⟩ := h
      exact gJn_ok _ hc
    · cases h
  · unfold gOf at h
    split at h
    · simp only [Option.some.injEq, Prod.mk.injEq] at h
      obtain ⟨hc, rfl⟩ := h
      exact gOf_ok _ hc
    · cases h
  · unfold gRd at h
    split at h
    · simp only [Option.some.injEq, Prod.mk.injEq] at h
      obtain ⟨hc, rfl⟩ := h
      exact gRd_ok _ hc
    · cases h
  · unfold gEd at h
    split at h
    · simp only [Option.some.injEq, Prod.mk.injEq] at h
      obtain ⟨hc, rfl⟩ := h
      exact gEd_ok _ hc
    · cases h
  · unfold gCk at h
    split at h
    · simp only [Option.some.injEq, Prod.mk.injEq] at h
      obtain ⟨hc, rfl⟩ := h
      exact gCk_ok _ hc
    · cases h
theorem tLc_ok : SOk eE tLc := by
  unfold tLc
  refine SOk.cons (fun args r h => ?_) (SOk.cons (fun args r h => ?_) (SOk.cons (fun args r h => ?_) (SOk.cons (fun args r h => ?_) (SOk.cons (fun args r h => ?_) (SOk.cons (fun args r h => ?_) (SOk.cons (fun args r h => ?_) (SOk.cons (fun args r h => ?_) (SOk.nil))))))))
  · unfold gNm at h
    split at h
    · simp only [Option.some.injEq, Prod.mk.injEq] at h
      obtain ⟨hc, rfl⟩ := h
      exact gNm_ok _ rfl
    · cases h
  · unfold gRG at h
    split at h
    · simp only [Option.some.injEq, Prod.mk.injEq] at h
      obtain ⟨hc, rfl⟩ := h
      exact gRG_ok _ _ _ _ _ _ _ _ _ _ _ hc
    · cases h
  · unfold gEB at h
    split at h
    · simp only [Option.some.injEq, Prod.mk.injEq] at h
      obtain ⟨hc, rfl⟩ := h
      exact gEB_ok _ _ _ _ _ _ _ _ _ _ _ _ _ hc
    · cases h
  · unfold gJn at h
    split at h
    · simp only [Option.some.injEq, Prod.mk.injEq] at h
      obtain ⟨hc, rfl⟩ := h
      exact gJn_ok _ hc
    · cases h
  · unfold gOf at h
    split at h
    · simp only [Option.some.injEq, Prod.mk.injEq] at h
      obtain ⟨hc, rfl⟩ := h
      exact gOf_ok _ hc
    · cases h
  · unfold gRd at h
    split at h
    · simp only [Option.some.injEq, Prod.mk.injEq] at h
      obtain ⟨hc, rfl⟩ := h
      exact gRd_ok _ hc
    · cases h
  · unfold gEd at h
    split at h
    · simp only [Option.some.injEq, Prod.mk.injEq] at h
      obtain ⟨hc, rfl⟩ := h
      exact gEd_ok _ hc
    · cases h
  · unfold gCk at h
    split at h
    · simp only [Option.some.injEq, Prod.mk.injEq] at h
      obtain ⟨hc, rfl⟩ := h
      exact gCk_ok _ hc
    · cases h
theorem tLd_ok : SOk eE tLd := by
  unfold tLd
  refine SOk.cons (fun args r h => ?_) (SOk.cons (fun args r h => ?_) (SOk.cons (fun args r h => ?_) (SOk.cons (fun args r h => ?_) (SOk.cons (fun args r h => ?_) (SOk.cons (fun args r h => ?_) (SOk.cons (fun args r h => ?_) (SOk.cons (fun args r h => ?_) (SOk.nil))))))))
  · unfold gNm at h
    split at h
    · simp only [Option.some.injEq, Prod.mk.injEq] at h
      obtain ⟨hc, rfl⟩ := h
      exact gNm_ok _ rfl
    · cases h
  · unfold gRG at h
    split at h
    · simp only [Option.some.injEq, Prod.mk.injEq] at h
      obtain ⟨hc, rfl⟩ := h
      exact gRG_ok _ _ _ _ _ _ _ _ _ _ _ hc
    · cases h
  · unfold gEG at h
    split at h
    · simp only [Option.some.injEq, Prod.mk.injEq] at h
      obtain ⟨hc, rfl⟩ := h
      exact gEG_ok _ _ _ _ _ _ _ _ _ _ _ _ _ hc
    · cases h
  · unfold gJn at h
    split at h
    · simp only [Option.some.injEq, Prod.mk.injEq] at h
      obtain ⟨hc, rfl⟩ := h
      exact gJn_ok _ hc
    · cases h
  · unfold gOf at h
    split at h
    · simp only [Option.some.injEq, Prod.mk.injEq] at h
      obtain ⟨hc, rfl⟩ := h
      exact gOf_ok _ hc
    · cases h
  · unfold gRd at h
    split at h
    · simp only [Option.some.injEq, Prod.mk.injEq] at h
      obtain ⟨hc, rfl⟩ := h
      exact gRd_ok _ hc
    · cases h
  · unfold gEd at h
    split at h
    · simp only [Option.some.injEq, Prod.mk.injEq] at h
      obtain ⟨hc, rfl⟩ := h
      exact gEd_ok _ hc
    · cases h
  · unfold gCk at h
    split at h
    · simp only [Option.some.injEq, Prod.mk.injEq] at h
      obtain ⟨hc, rfl⟩ := h
      exact gCk_ok _ hc
    · cases h
theorem bnd {a b : Bool} (h1 : a = true) (h2 : b = true) : band a b = true := by rw [h1, h2]; rfl
theorem nA : bnot (ieq (nmI [65]) 0) = false := by
  have h : Nt.Ev.YtpmemdamcadbgaaGreatDoor.nmI [65] = 0 := by decide
  show bnot (ieq (Nt.Ev.YtpmemdamcadbgaaGreatDoor.nmI [65]) 0) = false
  rw [h]; rfl
theorem n1 : bnot (ieq (nmI [49]) 10) = false := by
  have h : Nt.Ev.YtpmemdamcadbgaaGreatDoor.nmI [49] = 10 := by decide
  show bnot (ieq (Nt.Ev.YtpmemdamcadbgaaGreatDoor.nmI [49]) 10) = false
  rw [h]; rfl
theorem rule_all (n : List UInt8) (f t m k w d c b v : Int) (l : List UInt8) (h : ruR n f t m k w d c b v l = true) :
    jnG (rfL n f t m k w d c b v l) = true ∧ ofG (jnT (rfL n f t m k w d c b v l)) = true ∧ ofL (jnT (rfL n f t m k w d c b v l)) = rfL n f t m k w d c b v l ∧ rdG (rfL n f t m k w d c b v l) = true ∧ okCat [82, 117, 108, 101, 32] (jnT (rfL n f t m k w d c b v l)) = true ∧ ckG (scat [82, 117, 108, 101, 32] (jnT (rfL n f t m k w d c b v l))) = true ∧ ru0 (rfL n f t m k w d c b v l) = n ∧ ru1 (rfL n f t m k w d c b v l) = f ∧ ru2 (rfL n f t m k w d c b v l) = t ∧ ru3 (rfL n f t m k w d c b v l) = m ∧ ru4 (rfL n f t m k w d c b v l) = k ∧ ru5 (rfL n f t m k w d c b v l) = w ∧ ru6 (rfL n f t m k w d c b v l) = d ∧ ru7 (rfL n f t m k w d c b v l) = c ∧ ru8 (rfL n f t m k w d c b v l) = b ∧ ru9 (rfL n f t m k w d c b v l) = v ∧ ru10 (rfL n f t m k w d c b v l) = l := by
  obtain ⟨g1, g2⟩ := rf_good n f t m k w d c b v l h
  obtain ⟨h1, h2, h3, h4, h5, h6⟩ := line_all _ g1 (by show 9 ≤ 16; omega) g2
  rw [← rf_strs] at h1 h2 h3 h4 h5 h6
  obtain ⟨b1, b2⟩ := ru_back n f t m k w d c b v l h
  obtain ⟨r0, r1, r2, r3, r4, r5, r6, r7, r8, r9, r10, rE⟩ := rd_inj _ b2
  have hp : Pr (scat [82, 117, 108, 101, 32] (Nt.Ev.YtpmemdamcadbgaaGreatDoor.jnT (Nt.Ev.YtpmemdamcadbgaaGreatDoor.rfL n f t m k w d c b v l))) := pr_app (by decide) h6
  have hl : (scat [82, 117, 108, 101, 32] (Nt.Ev.YtpmemdamcadbgaaGreatDoor.jnT (Nt.Ev.YtpmemdamcadbgaaGreatDoor.rfL n f t m k w d c b v l))).length ≤ 511 := by
    show ([82, 117, 108, 101, 32] ++ Nt.Ev.YtpmemdamcadbgaaGreatDoor.jnT (Nt.Ev.YtpmemdamcadbgaaGreatDoor.rfL n f t m k w d c b v l)).length ≤ 511
    rw [List.length_append]
    simp only [List.length_cons, List.length_nil]
    omega
  have h7 : ile (slen (Nt.Ev.YtpmemdamcadbgaaGreatDoor.jnT (Nt.Ev.YtpmemdamcadbgaaGreatDoor.rfL n f t m k w d c b v l))) 4000000 = true := ile_t (by rw [slen_nat]; omega)
  have h8 : ile (slen (scat [82, 117, 108, 101, 32] (Nt.Ev.YtpmemdamcadbgaaGreatDoor.jnT (Nt.Ev.YtpmemdamcadbgaaGreatDoor.rfL n f t m k w d c b v l)))) 4000000 = true := ile_t (by rw [slen_nat]; omega)
  refine ⟨bnd h1 (ieq_t h2), bnd h7 (ieq_t h4), h3, bnd b1 (ieq_t rE), ?_, bnd h8 (ieq_t (ck_good _ hp hl)), r0, r1, r2, r3, r4, r5, r6, r7, r8, r9, r10⟩
  rw [okCat_iff]
  simp only [List.length_cons, List.length_nil]
  show _ + (Nt.Ev.YtpmemdamcadbgaaGreatDoor.jnT (Nt.Ev.YtpmemdamcadbgaaGreatDoor.rfL n f t m k w d c b v l)).length ≤ _
  omega
theorem era_all (o k v : Int) (r q : List UInt8) (h : Bool) (y m ok ow od c b : Int) (hR : erR o k v r q h y m ok ow od c b = true) :
    jnG (efL o k v r q h y m ok ow od c b) = true ∧ ofG (jnT (efL o k v r q h y m ok ow od c b)) = true ∧ ofL (jnT (efL o k v r q h y m ok ow od c b)) = efL o k v r q h y m ok ow od c b ∧ edG (efL o k v r q h y m ok ow od c b) = true ∧ ckG (jnT (efL o k v r q h y m ok ow od c b)) = true ∧ er0 (efL o k v r q h y m ok ow od c b) = o ∧ er1 (efL o k v r q h y m ok ow od c b) = k ∧ er2 (efL o k v r q h y m ok ow od c b) = v ∧ er3 (efL o k v r q h y m ok ow od c b) = r ∧ er4 (efL o k v r q h y m ok ow od c b) = q ∧ er5 (efL o k v r q h y m ok ow od c b) = h ∧ er6 (efL o k v r q h y m ok ow od c b) = y ∧ er7 (efL o k v r q h y m ok ow od c b) = m ∧ er8 (efL o k v r q h y m ok ow od c b) = ok ∧ er9 (efL o k v r q h y m ok ow od c b) = ow ∧ er10 (efL o k v r q h y m ok ow od c b) = od ∧ er11 (efL o k v r q h y m ok ow od c b) = c ∧ er12 (efL o k v r q h y m ok ow od c b) = b := by
  obtain ⟨g1, g2, g3⟩ := ef_good o k v r q h y m ok ow od c b hR
  obtain ⟨h1, h2, h3, h4, h5, h6⟩ := line_all _ g1 (by omega) g2
  rw [← ef_strs] at h1 h2 h3 h4 h5 h6
  obtain ⟨b1, b2⟩ := er_back o k v r q h y m ok ow od c b hR
  obtain ⟨r0, r1, r2, r3, r4, r5, r6, r7, r8, r9, r10, r11, r12, rE⟩ := er_inj _ b2
  have h7 : ile (slen (Nt.Ev.YtpmemdamcadbgaaGreatDoor.jnT (Nt.Ev.YtpmemdamcadbgaaGreatDoor.efL o k v r q h y m ok ow od c b))) 4000000 = true := ile_t (by rw [slen_nat]; omega)
  have h8 := ck_good _ h6 (by omega)
  exact ⟨bnd h1 (ieq_t h2), bnd h7 (ieq_t h4), h3, bnd b1 (ieq_t rE), bnd h7 (ieq_t h8), r0, r1, r2, r3, r4, r5, r6, r7, r8, r9, r10, r11, r12⟩
theorem iR (a : Int) : ieq a a = true := ieq_t rfl
theorem sR (a : List UInt8) : seq a a = true := by rw [seq_iff]
theorem bR (a : Bool) : beq a a = true := by cases a <;> rfl
theorem bT (a : Bool) : band true a = a := rfl
theorem bN : bnot true = false := rfl
theorem sTt {α : Type} (a b : α) : sel true a b = a := rfl
theorem sFf {α : Type} (a b : α) : sel false a b = b := rfl
theorem l06_ev (n : List UInt8) (f t m k w d c b v : Int) (l : List UInt8) (eo ek ev : Int) (er eq : List UInt8) (eh : Bool) (ey em eok eow eod ec eb : Int) (hv : Fits v) (hm : Fits m) (ho : Fits eo) (he : Fits ev) (hy : Fits ey) (hem : Fits em) :
    Contract eE 3 [.agg [.str n, .int .i64 f, .int .i64 t, .int .i64 m, .int .i64 k, .int .i64 w, .int .i64 d, .int .i64 c, .int .i64 b, .int .i64 v, .str l], .agg [.int .i64 eo, .int .i64 ek, .int .i64 ev, .str er, .str eq, .bool eh, .int .i64 ey, .int .i64 em, .int .i64 eok, .int .i64 eow, .int .i64 eod, .int .i64 ec, .int .i64 eb]] (.bool true) := by
  have F (x : Int) (h : Fits x) : band (ile (-9223372036854775808) x) (ile x 9223372036854775807) = true := by
    unfold Fits at h
    rw [band_iff, ile_iff, ile_iff]; omega
  have hrr : rRng m v = true := bnd (F v hv) (F m hm)
  have her : eRng eo ev ey em = true := bnd (bnd (F eo ho) (F ev he)) (bnd (F ey hy) (F em hem))
  cases hr : ruR n f t m k w d c b v l with
  | false =>
    have hr' : rB n f t m k w d c b v l = true := bnd (by rw [hr]; rfl) hrr
    cases hE : erR eo ek ev er eq eh ey em eok eow eod ec eb with
    | false =>
      have hE' : eB eo ek ev er eq eh ey em eok eow eod ec eb = true := bnd (by rw [hE]; rfl) her
      refine contract_of_body eE_ok tLa_ok 5 2 ?_
      rw [l06a_top, sel_neg nA, sel_neg n1, hr', hE']
      rfl
    | true =>
      have hE' : eG eo ek ev er eq eh ey em eok eow eod ec eb = true := bnd hE her
      obtain ⟨e1, e2, e3, e4, e5, p0, p1, p2, p3, p4, p5, p6, p7, p8, p9, p10, p11, p12⟩ := era_all eo ek ev er eq eh ey em eok eow eod ec eb hE
      refine contract_of_body eE_ok tLb_ok 5 2 ?_
      rw [l06b_top, sel_neg nA, sel_neg n1, hr', hE', e1, e2, e3, e4, e5]
      simp only [p0, p1, p2, p3, p4, p5, p6, p7, p8, p9, p10, p11, p12, iR, sR, bR, bT, bN, sTt, sFf]
  | true =>
    have hr' : rG n f t m k w d c b v l = true := bnd hr hrr
    obtain ⟨r1, r2, r3, r4, r5, r6, q0, q1, q2, q3, q4, q5, q6, q7, q8, q9, q10⟩ := rule_all n f t m k w d c b v l hr
    cases hE : erR eo ek ev er eq eh ey em eok eow eod ec eb with
    | false =>
      have hE' : eB eo ek ev er eq eh ey em eok eow eod ec eb = true := bnd (by rw [hE]; rfl) her
      refine contract_of_body eE_ok tLc_ok 5 2 ?_
      rw [l06c_top, sel_neg nA, sel_neg n1, hr', hE', r1, r2, r3, r4, r5, r6]
      simp only [q0, q1, q2, q3, q4, q5, q6, q7, q8, q9, q10, iR, sR, bR, bT, bN, sTt, sFf]
    | true =>
      have hE' : eG eo ek ev er eq eh ey em eok eow eod ec eb = true := bnd hE her
      obtain ⟨e1, e2, e3, e4, e5, p0, p1, p2, p3, p4, p5, p6, p7, p8, p9, p10, p11, p12⟩ := era_all eo ek ev er eq eh ey em eok eow eod ec eb hE
      refine contract_of_body eE_ok tLd_ok 5 2 ?_
      rw [l06d_top, sel_neg nA, sel_neg n1, hr', hE', r1, r2, r3, r4, r5, r6, e1, e2, e3, e4, e5]
      simp only [q0, q1, q2, q3, q4, q5, q6, q7, q8, q9, q10, p0, p1, p2, p3, p4, p5, p6, p7, p8, p9, p10, p11, p12, iR, sR, bR, bT, bN, sTt, sFf]
end T6
end Nt.Ev.YtpmemdamcadbgaaGreatDoor
