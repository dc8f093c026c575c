/-
  Until: equations of functions, as the evaluator prints them. When eras end.
-/
import Derived.Test.YtheojhajckcdlaaGreatDoorMXD
set_option linter.unusedVariables false
set_option linter.unusedSimpArgs false
set_option linter.unusedSectionVars false
namespace Nt.Ev.YtheojhajckcdlaaGreatDoor.Un
set_option maxRecDepth 100000
open Go Nt.Num Go.Proofs.YtheojhajckcdlaaGreatDoor
variable [MLen]
open Nt.Ev.YtheojhajckcdlaaGreatDoor
open Nt.Civil
open Nt.Ev.YtheojhajckcdlaaGreatDoor.Rl
open Nt.Ev.YtheojhajckcdlaaGreatDoor.Oc
noncomputable def uChS : FSpec := fun a => match a with | [.str s] => some (true, .int .i64 (ckW s)) | _ => none
noncomputable def uS0 : List (Nat × FSpec) := (13, uChS) :: (15, kNmS) :: (26, kFtS) :: (27, kCrS) :: []
def enP (h : Bool) (y m ok ow od c b : Int) : Bool := sel h (ilt (-32767) y && (ilt y 32767 && (ftP ok ow od m && rightC c b))) (band (ieq y 0) (band (ieq m 0) (band (band (ieq ok 0) (band (ieq ow 0) (ieq od 0))) (band (ieq c 0) (ieq b 0)))))
def erP (o k v : Int) (r q : List UInt8) (h : Bool) (y m ok ow od c b : Int) : Bool := ile (-54000) o && (ile o 54000 && (ieq (ckW q) 0 && (enP h y m ok ow od c b && sel (ieq k 0) (ieq v 0 && seq r []) (sel (ieq k 1) (ile (-10800) v && (ile v 10800 && seq r [])) (sel (ieq k 2) (ieq v 0 && ieq (nmI r) 0) false)))))
noncomputable def uErS : FSpec := fun a => match a with | [.agg [.int .i64 o, .int .i64 k, .int .i64 v, .str r, .str q, .bool h, .int .i64 y, .int .i64 m, .int .i64 ok, .int .i64 ow, .int .i64 od, .int .i64 c, .int .i64 b]] => some (true, .bool (erP o k v r q h y m ok ow od c b)) | _ => none
noncomputable def rsOk (xs : List V) : Bool := xs.all rOk && ile (llen xs) 1000
noncomputable def prB (xs : List V) (s : List UInt8) (x z : Int) : Bool := (prA xs s x z).1
noncomputable def prR (xs : List V) (s : List UInt8) (x z : Int) : Int := (prA xs s x z).2.1
noncomputable def prY (xs : List V) (s : List UInt8) (x z : Int) : Int := (prA xs s x z).2.2.1
noncomputable def prN (xs : List V) (s : List UInt8) (x z : Int) : Int := (prA xs s x z).2.2.2
noncomputable def uPvS : FSpec := fun a => match a with | [.sl e [.str, .int .i64, .int .i64, .int .i64, .int .i64, .int .i64, .int .i64, .int .i64, .int .i64, .int .i64, .str] o1 xs, .str s, .agg [.int .i64 x, .int .i64 y, .int .i64 z]] => some (rsOk xs, .tup [.agg [.int .i64 (prR xs s x z), .int .i64 (prY xs s x z), .int .i64 (prN xs s x z)], .bool (prB xs s x z)]) | _ => none
noncomputable def uS1 : List (Nat × FSpec) := (7, uErS) :: (38, uPvS) :: (78, oDyS) :: []
noncomputable def svA (xs : List V) (s : List UInt8) (x z : Int) : Int := if prB xs s x z = true then asInt (acell (lget xs (prR xs s x z)) 9) else 0
noncomputable def uSvS : FSpec := fun a => match a with | [.sl e [.str, .int .i64, .int .i64, .int .i64, .int .i64, .int .i64, .int .i64, .int .i64, .int .i64, .int .i64, .str] o1 xs, .str s, .agg [.int .i64 x, .int .i64 y, .int .i64 z]] => some (rsOk xs, .int .i64 (svA xs s x z)) | _ => none
theorem uEr_top (F : Nat) (o : Int) (k : Int) (v : Int) (r : List UInt8) (q : List UInt8) (h : Bool) (y : Int) (m : Int) (ok : Int) (ow : Int) (od : Int) (c : Int) (b : Int) (K : V → Option V) :
 evBd fE (evFn fE uS0 F 3) F 7 [(V.agg [(V.int .i64 o), (V.int .i64 k), (V.int .i64 v), (V.str r), (V.str q), (V.bool h), (V.int .i64 y), (V.int .i64 m), (V.int .i64 ok), (V.int .i64 ow), (V.int .i64 od), (V.int .i64 c), (V.int .i64 b)])] K =
 sel (ile (isub .i64 0 54000) o)
 (sel (ile o 54000)
 (sel (ieq (ckW q) 0)
 (sel (bnot h)
 (sel (ieq k 0)
 (sel (band (beq h false) (band (ieq y 0) (band (ieq m 0) (band (band (ieq ok 0) (band (ieq ow 0) (ieq od 0))) (band (ieq c 0) (ieq b 0))))))
 (sel (ieq v 0)
 (K (V.bool (seq r [])))
 (K (V.bool false)))
 (K (V.bool false)))
 (sel (ieq k 1)
 (sel (band (beq h false) (band (ieq y 0) (band (ieq m 0) (band (band (ieq ok 0) (band (ieq ow 0) (ieq od 0))) (band (ieq c 0) (ieq b 0))))))
 (sel (ile (isub .i64 0 10800) v)
 (sel (ile v 10800)
 (K (V.bool (seq r [])))
 (K (V.bool false)))
 (K (V.bool false)))
 (K (V.bool false)))
 (sel (ieq k 2)
 (sel (band (beq h false) (band (ieq y 0) (band (ieq m 0) (band (band (ieq ok 0) (band (ieq ow 0) (ieq od 0))) (band (ieq c 0) (ieq b 0))))))
 (sel (ieq v 0)
 (K (V.bool (ieq (nmI r) 0)))
 (K (V.bool false)))
 (K (V.bool false)))
 (K (V.bool false)))))
 (sel (ilt (-32767) y)
 (sel (ilt y 32767)
 (sel (ftP ok ow od m)
 (sel (ieq k 0)
 (sel (rightC c b)
 (sel (ieq v 0)
 (K (V.bool (seq r [])))
 (K (V.bool false)))
 (K (V.bool false)))
 (sel (ieq k 1)
 (sel (rightC c b)
 (sel (ile (isub .i64 0 10800) v)
 (sel (ile v 10800)
 (K (V.bool (seq r [])))
 (K (V.bool false)))
 (K (V.bool false)))
 (K (V.bool false)))
 (sel (ieq k 2)
 (sel (rightC c b)
 (sel (ieq v 0)
 (K (V.bool (ieq (nmI r) 0)))
 (K (V.bool false)))
 (K (V.bool false)))
 (K (V.bool false)))))
 (sel (ieq k 0)
 (K (V.bool false))
 (sel (ieq k 1)
 (K (V.bool false))
 (sel (ieq k 2)
 (K (V.bool false))
 (K (V.bool false))))))
 (sel (ieq k 0)
 (K (V.bool false))
 (sel (ieq k 1)
 (K (V.bool false))
 (sel (ieq k 2)
 (K (V.bool false))
 (K (V.bool false))))))
 (sel (ieq k 0)
 (K (V.bool false))
 (sel (ieq k 1)
 (K (V.bool false))
 (sel (ieq k 2)
 (K (V.bool false))
 (K (V.bool false)))))))
 (sel (ieq k 0)
 (K (V.bool false))
 (sel (ieq k 1)
 (K (V.bool false))
 (sel (ieq k 2)
 (K (V.bool false))
 (K (V.bool false))))))
 (sel (ieq k 0)
 (K (V.bool false))
 (sel (ieq k 1)
 (K (V.bool false))
 (sel (ieq k 2)
 (K (V.bool false))
 (K (V.bool false))))))
 (sel (ieq k 0)
 (K (V.bool false))
 (sel (ieq k 1)
 (K (V.bool false))
 (sel (ieq k 2)
 (K (V.bool false))
 (K (V.bool false))))) := by kernel_rfl
theorem uSv_top (F : Nat) (xs : List V) (s : List UInt8) (x : Int) (y : Int) (z : Int) (K : V → Option V) :
 evBd fE (evFn fE uS1 F 2) F 64 [(V.sl 41 [(Kd.str), (Kd.int .i64), (Kd.int .i64), (Kd.int .i64), (Kd.int .i64), (Kd.int .i64), (Kd.int .i64), (Kd.int .i64), (Kd.int .i64), (Kd.int .i64), (Kd.str)] none xs), (V.str s), (V.agg [(V.int .i64 x), (V.int .i64 y), (V.int .i64 z)])] K =
 sel (rsOk xs)
 (sel (prB xs s x z)
 (sel (band (ile 0 (prR xs s x z)) (ilt (prR xs s x z) (llen xs)))
 (K (V.int .i64 (asInt (acell (lget xs (prR xs s x z)) 9))))
 (none))
 (K (V.int .i64 0)))
 (none) := by kernel_rfl
end Nt.Ev.YtheojhajckcdlaaGreatDoor.Un

namespace Nt.Ev.YtheojhajckcdlaaGreatDoor.Un
set_option maxRecDepth 100000
open Go Go.RowKit Nt Nt.Num Go.Proofs.YtheojhajckcdlaaGreatDoor Nt.Ev.YtheojhajckcdlaaGreatDoor Nt.Civil Nt.Ev.YtheojhajckcdlaaGreatDoor.Rl Nt.Ev.YtheojhajckcdlaaGreatDoor.Oc
variable [MLen]
theorem uChS_ok (s : List UInt8) (hc : true = true) : Contract fE 13 [.str s] (.int .i64 (ckW s)) := by
  by_cases h : s.length ≤ 1000
  · exact checkS_ok s (p_len h)
  · refine contract_of_body fE_ok fS3_ok 5 2 ?_
    rw [fCheck_top]
    unfold ckW
    rw [sel_pos (ilt_t (by rw [slen_nat]; omega)), if_pos (by omega)]
theorem uS0_ok : SOk fE uS0 := by
  unfold uS0
  refine SOk.cons (fun args r h => ?_) (SOk.cons (fun args r h => ?_) (SOk.cons (fun args r h => ?_) (SOk.cons (fun args r h => ?_) (SOk.nil))))
  · unfold uChS at h
    split at h
    · simp only [Option.some.injEq, Prod.mk.injEq] at h
      obtain ⟨hc, rfl⟩ := h
      exact uChS_ok _ rfl
    · cases h
  · unfold kNmS at h
    split at h
    · simp only [Option.some.injEq, Prod.mk.injEq] at h
      obtain ⟨hc, rfl⟩ := h
      exact kNmS_ok _ rfl
    · cases h
  · unfold kFtS at h
    split at h
    · simp only [Option.some.injEq, Prod.mk.injEq] at h
      obtain ⟨hc, rfl⟩ := h
      exact kFtS_ok _ _ _ _ rfl
    · cases h
  · unfold kCrS at h
    split at h
    · simp only [Option.some.injEq, Prod.mk.injEq] at h
      obtain ⟨hc, rfl⟩ := h
      exact kCrS_ok _ _ rfl
    · cases h
theorem uErS_ok (o k v : Int) (r q : List UInt8) (h : Bool) (y m ok ow od c b : Int) (hc : true = true) : Contract fE 7 [.agg [.int .i64 o, .int .i64 k, .int .i64 v, .str r, .str q, .bool h, .int .i64 y, .int .i64 m, .int .i64 ok, .int .i64 ow, .int .i64 od, .int .i64 c, .int .i64 b]] (.bool (erP o k v r q h y m ok ow od c b)) := by
  refine contract_of_body fE_ok uS0_ok 5 3 ?_
  rw [uEr_top, show isub .i64 0 54000 = -54000 by decide, show isub .i64 0 10800 = -10800 by decide]
  unfold erP enP
  cases ile (-54000) o with
  | false => cases ieq k 0 <;> cases ieq k 1 <;> cases ieq k 2 <;> rfl
  | true =>
  cases ile o 54000 with
  | false => cases ieq k 0 <;> cases ieq k 1 <;> cases ieq k 2 <;> rfl
  | true =>
  cases ieq (ckW q) 0 with
  | false => cases ieq k 0 <;> cases ieq k 1 <;> cases ieq k 2 <;> rfl
  | true =>
  cases h with
  | false =>
    have e : band (beq false false) (band (ieq y 0) (band (ieq m 0) (band (band (ieq ok 0) (band (ieq ow 0) (ieq od 0))) (band (ieq c 0) (ieq b 0))))) = (band (ieq y 0) (band (ieq m 0) (band (band (ieq ok 0) (band (ieq ow 0) (ieq od 0))) (band (ieq c 0) (ieq b 0))))) := rfl
    rw [e]
    generalize band (ieq y 0) (band (ieq m 0) (band (band (ieq ok 0) (band (ieq ow 0) (ieq od 0))) (band (ieq c 0) (ieq b 0)))) = z
    cases z with
    | false => cases ieq k 0 <;> cases ieq k 1 <;> cases ieq k 2 <;> rfl
    | true =>
    cases ieq k 0 with
    | true => cases ieq v 0 <;> rfl
    | false =>
    cases ieq k 1 with
    | true => cases ile (-10800) v <;> cases ile v 10800 <;> rfl
    | false => cases ieq k 2 <;> cases ieq v 0 <;> rfl
  | true =>
    cases ilt (-32767) y with
    | false => cases ieq k 0 <;> cases ieq k 1 <;> cases ieq k 2 <;> rfl
    | true =>
    cases ilt y 32767 with
    | false => cases ieq k 0 <;> cases ieq k 1 <;> cases ieq k 2 <;> rfl
    | true =>
    cases ftP ok ow od m with
    | false => cases ieq k 0 <;> cases ieq k 1 <;> cases ieq k 2 <;> rfl
    | true =>
    cases rightC c b with
    | false => cases ieq k 0 <;> cases ieq k 1 <;> cases ieq k 2 <;> rfl
    | true =>
    cases ieq k 0 with
    | true => cases ieq v 0 <;> rfl
    | false =>
    cases ieq k 1 with
    | true => cases ile (-10800) v <;> cases ile v 10800 <;> rfl
    | false => cases ieq k 2 <;> cases ieq v 0 <;> rfl
theorem rs_all {xs : List V} (h : rsOk xs = true) : (∀ e ∈ xs, rOk e = true) ∧ xs.length ≤ 1000 := by
  unfold rsOk at h
  rw [Bool.and_eq_true, List.all_eq_true, ile_iff, llen_nat] at h
  exact ⟨h.1, by omega⟩
theorem uPvS_ok (e : Nat) (o1 : Option Nat) (xs : List V) (s : List UInt8) (x y z : Int) (hc : rsOk xs = true) : Contract fE 38 [.sl e [.str, .int .i64, .int .i64, .int .i64, .int .i64, .int .i64, .int .i64, .int .i64, .int .i64, .int .i64, .str] o1 xs, .str s, .agg [.int .i64 x, .int .i64 y, .int .i64 z]] (.tup [.agg [.int .i64 (prR xs s x z), .int .i64 (prY xs s x z), .int .i64 (prN xs s x z)], .bool (prB xs s x z)]) := by
  obtain ⟨h1, h2⟩ := rs_all hc
  intro G w vs hG hg hp
  refine prev_ev xs s x y z h1 (by omega) G w vs hG hg ?_
  obtain ⟨x, us, rfl, hx, ht⟩ := PW.cons_inv hp
  refine .cons ?_ ht
  unfold rep at hx ⊢
  exact hx
theorem uS1_ok : SOk fE uS1 := by
  unfold uS1
  refine SOk.cons (fun args r h => ?_) (SOk.cons (fun args r h => ?_) (SOk.cons (fun args r h => ?_) (SOk.nil)))
  · unfold uErS at h
    split at h
    · simp only [Option.some.injEq, Prod.mk.injEq] at h
      obtain ⟨hc, rfl⟩ := h
      exact uErS_ok _ _ _ _ _ _ _ _ _ _ _ _ _ rfl
    · cases h
  · unfold uPvS at h
    split at h
    · simp only [Option.some.injEq, Prod.mk.injEq] at h
      obtain ⟨hc, rfl⟩ := h
      exact uPvS_ok _ _ _ _ _ _ _ hc
    · cases h
  · unfold oDyS at h
    split at h
    · simp only [Option.some.injEq, Prod.mk.injEq] at h
      obtain ⟨hc, rfl⟩ := h
      exact oDyS_ok _ _ _ _ _ rfl
    · cases h
theorem saved_ev (xs : List V) (s : List UInt8) (x y z : Int) (hc : rsOk xs = true) : Contract fE 64 [.sl 41 [.str, .int .i64, .int .i64, .int .i64, .int .i64, .int .i64, .int .i64, .int .i64, .int .i64, .int .i64, .str] none xs, .str s, .agg [.int .i64 x, .int .i64 y, .int .i64 z]] (.int .i64 (svA xs s x z)) := by
  refine contract_of_body fE_ok uS1_ok 5 2 ?_
  rw [uSv_top, sel_pos hc]
  unfold svA
  cases h : prB xs s x z with
  | false => rfl
  | true =>
    have hi := prev_in xs s x z h
    have hb : band (ile 0 (prR xs s x z)) (ilt (prR xs s x z) (llen xs)) = true := by
      rw [band_iff, ile_iff, ilt_iff, llen_nat]; exact hi
    rw [sel_pos rfl, sel_pos hb, if_pos rfl]
theorem uSvS_ok (e : Nat) (o1 : Option Nat) (xs : List V) (s : List UInt8) (x y z : Int) (hc : rsOk xs = true) : Contract fE 64 [.sl e [.str, .int .i64, .int .i64, .int .i64, .int .i64, .int .i64, .int .i64, .int .i64, .int .i64, .int .i64, .str] o1 xs, .str s, .agg [.int .i64 x, .int .i64 y, .int .i64 z]] (.int .i64 (svA xs s x z)) := by
  intro G w vs hG hg hp
  refine saved_ev xs s x y z hc G w vs hG hg ?_
  obtain ⟨x, us, rfl, hx, ht⟩ := PW.cons_inv hp
  refine .cons ?_ ht
  unfold rep at hx ⊢
  exact hx
theorem pr_right (xs : List V) (s : List UInt8) (q x z : Int) : ∀ (k : Nat) (i : Int) (st : Bool × Int × Int × Int), (st.1 = true → ruV (lget xs st.2.1) = true) → (prL xs s q x z k i st).1 = true → ruV (lget xs (prL xs s q x z k i st).2.1) = true := by
  intro k
  induction k with
  | zero => intro i st h hb; exact h hb
  | succ k ih =>
    intro i st h hb
    unfold prL at hb ⊢
    refine ih (i + 1) _ ?_ hb
    intro hs
    split at hs
    · rename_i hc
      rw [if_pos hc]
      have hb' : bV (lget xs i) i q x z = true := hc.2.2.1
      have : rV (lget xs i) i q x z = i := by unfold rV qvR; unfold bV at hb'; rw [if_pos hb']
      show ruV (lget xs (rV (lget xs i) i q x z)) = true
      rw [this]
      exact hc.2.1
    · rename_i hc
      rw [if_neg hc]
      exact h hs
theorem sv_in (xs : List V) (s : List UInt8) (x z : Int) : -10800 ≤ svA xs s x z ∧ svA xs s x z ≤ 10800 := by
  unfold svA
  split
  · rename_i h
    have := pr_right xs s (nearI z) x z xs.length 0 (false, 0, 0, 0) (fun h => by cases h) h
    exact (ru_ft this).2.2.2.2.2
  · omega
theorem er_en {o k v : Int} {r q : List UInt8} {h : Bool} {y m ok ow od c b : Int} (he : erP o k v r q h y m ok ow od c b = true) : (-54000 ≤ o ∧ o ≤ 54000) ∧ enP h y m ok ow od c b = true ∧ (k = 0 ∨ k = 1 ∨ k = 2) ∧ -10800 ≤ v ∧ v ≤ 10800 := by
  unfold erP at he
  simp only [Bool.and_eq_true, ile_iff] at he
  obtain ⟨h1, h2, _, h4, h5⟩ := he
  refine ⟨⟨h1, h2⟩, h4, ?_⟩
  by_cases k0 : k = 0
  · rw [sel_pos (ieq_t k0), Bool.and_eq_true, ieq_iff] at h5; omega
  · rw [sel_neg (ieq_f k0)] at h5
    by_cases k1 : k = 1
    · rw [sel_pos (ieq_t k1), Bool.and_eq_true, Bool.and_eq_true, ile_iff, ile_iff] at h5; omega
    · rw [sel_neg (ieq_f k1)] at h5
      by_cases k2 : k = 2
      · rw [sel_pos (ieq_t k2), Bool.and_eq_true, ieq_iff] at h5; omega
      · rw [sel_neg (ieq_f k2)] at h5; cases h5
end Nt.Ev.YtheojhajckcdlaaGreatDoor.Un
