/-
  Until: equations of functions, as the evaluator prints them. When eras end.
-/
import Derived.Test.YtjkfndcpiihniaaGreatDoorMXD
set_option linter.unusedVariables false
set_option linter.unusedSimpArgs false
set_option linter.unusedSectionVars false
namespace Nt.Ev.YtjkfndcpiihniaaGreatDoor.Un
set_option maxRecDepth 100000
open Go Nt.Num Go.Proofs.YtjkfndcpiihniaaGreatDoor
variable [MLen]
open Nt.Ev.YtjkfndcpiihniaaGreatDoor
open Nt.Civil
open Nt.Ev.YtjkfndcpiihniaaGreatDoor.Rl
open Nt.Ev.YtjkfndcpiihniaaGreatDoor.Oc
noncomputable def uChS : FSpec := fun a => match a with | [.str s] => some (true, .int .i64 (ckW s)) | _ => none
noncomputable def uS0 : List (Nat × FSpec) := (98, uChS) :: (46, kNmS) :: (61, kFtS) :: (62, kCrS) :: []
def enP (h : Bool) (y m ok ow od c b : Int) : Bool := sel h (ilt (-32767) y && (ilt y 32767 && (ftP ok ow od m && rightC c b))) (band (ieq y 0) (band (ieq m 0) (band (band (ieq ok 0) (band (ieq ow 0) (ieq od 0))) (band (ieq c 0) (ieq b 0)))))
def erP (o k v : Int) (r q : List UInt8) (h : Bool) (y m ok ow od c b : Int) : Bool := ile (-54000) o && (ile o 54000 && (ieq (ckW q) 0 && (enP h y m ok ow od c b && sel (ieq k 0) (ieq v 0 && seq r []) (sel (ieq k 1) (ile (-10800) v && (ile v 10800 && seq r [])) (sel (ieq k 2) (ieq v 0 && ieq (nmI r) 0) false)))))
noncomputable def uErS : FSpec := fun a => match a with | [.agg [.int .i64 o, .int .i64 k, .int .i64 v, .str r, .str q, .bool h, .int .i64 y, .int .i64 m, .int .i64 ok, .int .i64 ow, .int .i64 od, .int .i64 c, .int .i64 b]] => some (true, .bool (erP o k v r q h y m ok ow od c b)) | _ => none
noncomputable def rsOk (xs : List V) : Bool := xs.all rOk && ile (llen xs) 1000
noncomputable def prB (xs : List V) (s : List UInt8) (x z : Int) : Bool := (prA xs s x z).1
noncomputable def prR (xs : List V) (s : List UInt8) (x z : Int) : Int := (prA xs s x z).2.1
noncomputable def prY (xs : List V) (s : List UInt8) (x z : Int) : Int := (prA xs s x z).2.2.1
noncomputable def prN (xs : List V) (s : List UInt8) (x z : Int) : Int := (prA xs s x z).2.2.2
noncomputable def uPvS : FSpec := fun a => match a with | [.sl e [.str, .int .i64, .int .i64, .int .i64, .int .i64, .int .i64, .int .i64, .int .i64, .int .i64, .int .i64, .str] o1 xs, .str s, .agg [.int .i64 x, .int .i64 y, .int .i64 z]] => some (rsOk xs, .tup [.agg [.int .i64 (prR xs s x z), .int .i64 (prY xs s x z), .int .i64 (prN xs s x z)], .bool (prB xs s x z)]) | _ => none
noncomputable def uS1 : List (Nat × FSpec) := (74, uErS) :: (137, uPvS) :: (115, oDyS) :: []
noncomputable def svA (xs : List V) (s : List UInt8) (x z : Int) : Int := if prB xs s x z = true then asInt (acell (lget xs (prR xs s x z)) 9) else 0
noncomputable def uSvS : FSpec := fun a => match a with | [.sl e [.str, .int .i64, .int .i64, .int .i64, .int .i64, .int .i64, .int .i64, .int .i64, .int .i64, .int .i64, .str] o1 xs, .str s, .agg [.int .i64 x, .int .i64 y, .int .i64 z]] => some (rsOk xs, .int .i64 (svA xs s x z)) | _ => none
noncomputable def uS2 : List (Nat × FSpec) := (118, uSvS) :: uS1
def clE (t n b : Int) : Int := if -54000 ≤ t ∧ t ≤ 54000 ∧ -2000000000000 ≤ n ∧ n ≤ 2000000000000 then (if 0 ≤ b ∧ b ≤ 2 then 0 else 4) else 1
noncomputable def clkI (xs : List V) (s : List UInt8) (t n b : Int) : Int := if clE t n b = 0 then n - (if b = 0 then t + svA xs s (-1) n else if b = 1 then t else 0) else 0
noncomputable def uClS : FSpec := fun a => match a with | [.sl e [.str, .int .i64, .int .i64, .int .i64, .int .i64, .int .i64, .int .i64, .int .i64, .int .i64, .int .i64, .str] o1 xs, .str s, .int .i64 t, .int .i64 n, .int .i64 b] => some (rsOk xs, .tup [.int .i64 (clkI xs s t n b), .int .i64 (clE t n b)]) | _ => none
noncomputable def uS3 : List (Nat × FSpec) := (101, uClS) :: uS2
def unI (h : Bool) (y m ok ow od c b : Int) : Int := if h = true ∧ enP h y m ok ow od c b = true then nomI m ok ow od c y else 0
def unE (h : Bool) (y m ok ow od c b : Int) : Int := if h = true then (if enP h y m ok ow od c b = true then 0 else 4) else 12
noncomputable def uNomS : FSpec := fun a => match a with | [.agg [.bool h, .int .i64 y, .int .i64 m, .int .i64 ok, .int .i64 ow, .int .i64 od, .int .i64 c, .int .i64 b]] => some (true, .tup [.int .i64 (unI h y m ok ow od c b), .int .i64 (unE h y m ok ow od c b)]) | _ => none
noncomputable def uS4 : List (Nat × FSpec) := (100, uNomS) :: uS3
noncomputable def inI (xs : List V) (o k v : Int) (r q : List UInt8) (h : Bool) (y m ok ow od c b : Int) : Int := if erP o k v r q h y m ok ow od c b = true ∧ h = true then (if k = 2 then clkI xs r o (nomI m ok ow od c y) b else if b = 0 then nomI m ok ow od c y - v - o else if b = 1 then nomI m ok ow od c y - o else nomI m ok ow od c y) else 0
noncomputable def inE (xs : List V) (o k v : Int) (r q : List UInt8) (h : Bool) (y m ok ow od c b : Int) : Int := if erP o k v r q h y m ok ow od c b = true then (if h = true then 0 else 12) else 4
noncomputable def uInS : FSpec := fun a => match a with | [.sl e [.str, .int .i64, .int .i64, .int .i64, .int .i64, .int .i64, .int .i64, .int .i64, .int .i64, .int .i64, .str] o1 xs, .agg [.int .i64 o, .int .i64 k, .int .i64 v, .str r, .str q, .bool h, .int .i64 y, .int .i64 m, .int .i64 ok, .int .i64 ow, .int .i64 od, .int .i64 c, .int .i64 b]] => some (rsOk xs, .tup [.int .i64 (inI xs o k v r q h y m ok ow od c b), .int .i64 (inE xs o k v r q h y m ok ow od c b)]) | _ => none
theorem uEr_top (F : Nat) (o : Int) (k : Int) (v : Int) (r : List UInt8) (q : List UInt8) (h : Bool) (y : Int) (m : Int) (ok : Int) (ow : Int) (od : Int) (c : Int) (b : Int) (K : V → Option V) :
 evBd fE (evFn fE uS0 F 3) F 74 [(V.agg [(V.int .i64 o), (V.int .i64 k), (V.int .i64 v), (V.str r), (V.str q), (V.bool h), (V.int .i64 y), (V.int .i64 m), (V.int .i64 ok), (V.int .i64 ow), (V.int .i64 od), (V.int .i64 c), (V.int .i64 b)])] K =
 sel (ile (isub .i64 0 54000) o)
 (sel (ile o 54000)
 (sel (ieq (ckW q) 0)
 (sel (bnot h)
 (sel (ieq k 0)
 (sel (band (beq h false) (band (ieq y 0) (band (ieq m 0) (band (band (ieq ok 0) (band (ieq ow 0) (ieq od 0))) (band (ieq c 0) (ieq b 0))))))
 (sel (ieq v 0)
 (K (V.bool (seq r [])))
 (K (V.bool false)))
 (K (V.bool false)))
 (sel (ieq k 1)
 (sel (band (beq h false) (band (ieq y 0) (band (ieq m 0) (band (band (ieq ok 0) (band (ieq ow 0) (ieq od 0))) (band (ieq c 0) (ieq b 0))))))
 (sel (ile (isub .i64 0 10800) v)
 (sel (ile v 10800)
 (K (V.bool (seq r [])))
 (K (V.bool false)))
 (K (V.bool false)))
 (K (V.bool false)))
 (sel (ieq k 2)
 (sel (band (beq h false) (band (ieq y 0) (band (ieq m 0) (band (band (ieq ok 0) (band (ieq ow 0) (ieq od 0))) (band (ieq c 0) (ieq b 0))))))
 (sel (ieq v 0)
 (K (V.bool (ieq (nmI r) 0)))
 (K (V.bool false)))
 (K (V.bool false)))
 (K (V.bool false)))))
 (sel (ilt (-32767) y)
 (sel (ilt y 32767)
 (sel (ftP ok ow od m)
 (sel (ieq k 0)
 (sel (rightC c b)
 (sel (ieq v 0)
 (K (V.bool (seq r [])))
 (K (V.bool false)))
 (K (V.bool false)))
 (sel (ieq k 1)
 (sel (rightC c b)
 (sel (ile (isub .i64 0 10800) v)
 (sel (ile v 10800)
 (K (V.bool (seq r [])))
 (K (V.bool false)))
 (K (V.bool false)))
 (K (V.bool false)))
 (sel (ieq k 2)
 (sel (rightC c b)
 (sel (ieq v 0)
 (K (V.bool (ieq (nmI r) 0)))
 (K (V.bool false)))
 (K (V.bool false)))
 (K (V.bool false)))))
 (sel (ieq k 0)
 (K (V.bool false))
 (sel (ieq k 1)
 (K (V.bool false))
 (sel (ieq k 2)
 (K (V.bool false))
 (K (V.bool false))))))
 (sel (ieq k 0)
 (K (V.bool false))
 (sel (ieq k 1)
 (K (V.bool false))
 (sel (ieq k 2)
 (K (V.bool false))
 (K (V.bool false))))))
 (sel (ieq k 0)
 (K (V.bool false))
 (sel (ieq k 1)
 (K (V.bool false))
 (sel (ieq k 2)
 (K (V.bool false))
 (K (V.bool false)))))))
 (sel (ieq k 0)
 (K (V.bool false))
 (sel (ieq k 1)
 (K (V.bool false))
 (sel (ieq k 2)
 (K (V.bool false))
 (K (V.bool false))))))
 (sel (ieq k 0)
 (K (V.bool false))
 (sel (ieq k 1)
 (K (V.bool false))
 (sel (ieq k 2)
 (K (V.bool false))
 (K (V.bool false))))))
 (sel (ieq k 0)
 (K (V.bool false))
 (sel (ieq k 1)
 (K (V.bool false))
 (sel (ieq k 2)
 (K (V.bool false))
 (K (V.bool false))))) := by kernel_rfl
theorem uSv_top (F : Nat) (xs : List V) (s : List UInt8) (x : Int) (y : Int) (z : Int) (K : V → Option V) :
 evBd fE (evFn fE uS1 F 2) F 118 [(V.sl 49 [(Kd.str), (Kd.int .i64), (Kd.int .i64), (Kd.int .i64), (Kd.int .i64), (Kd.int .i64), (Kd.int .i64), (Kd.int .i64), (Kd.int .i64), (Kd.int .i64), (Kd.str)] none xs), (V.str s), (V.agg [(V.int .i64 x), (V.int .i64 y), (V.int .i64 z)])] K =
 sel (rsOk xs)
 (sel (prB xs s x z)
 (sel (band (ile 0 (prR xs s x z)) (ilt (prR xs s x z) (llen xs)))
 (K (V.int .i64 (asInt (acell (lget xs (prR xs s x z)) 9))))
 (none))
 (K (V.int .i64 0)))
 (none) := by kernel_rfl
theorem uCl_top (F : Nat) (xs : List V) (s : List UInt8) (t : Int) (n : Int) (b : Int) (K : V → Option V) :
 evBd fE (evFn fE uS2 F 3) F 101 [(V.sl 49 [(Kd.str), (Kd.int .i64), (Kd.int .i64), (Kd.int .i64), (Kd.int .i64), (Kd.int .i64), (Kd.int .i64), (Kd.int .i64), (Kd.int .i64), (Kd.int .i64), (Kd.str)] none xs), (V.str s), (V.int .i64 t), (V.int .i64 n), (V.int .i64 b)] K =
 sel (ile (-54000) t)
 (sel (bnot (ile t 54000))
 (K (V.tup [(V.int .i64 0), (V.int .i64 1)]))
 (sel (ilt n (-2000000000000))
 (K (V.tup [(V.int .i64 0), (V.int .i64 1)]))
 (sel (ilt 2000000000000 n)
 (K (V.tup [(V.int .i64 0), (V.int .i64 1)]))
 (sel (ilt b 0)
 (K (V.tup [(V.int .i64 0), (V.int .i64 4)]))
 (sel (ilt 2 b)
 (K (V.tup [(V.int .i64 0), (V.int .i64 4)]))
 (both
 (sel (ieq b 0)
 (sel (rsOk xs)
 (K (V.tup [(V.int .i64 (isub .i64 n (iadd .i64 t (svA xs s (-1) n)))), (V.int .i64 0)]))
 (none))
 (sel (ieq b 1)
 (K (V.tup [(V.int .i64 (isub .i64 n t)), (V.int .i64 0)]))
 (K (V.tup [(V.int .i64 (isub .i64 n 0)), (V.int .i64 0)]))))
 (sel (ieq b 0)
 (sel (rsOk xs)
 (K (V.tup [(V.int .i64 (isub .i64 n (iadd .i64 t (svA xs s (-1) n)))), (V.int .i64 0)]))
 (none))
 (sel (ieq b 1)
 (K (V.tup [(V.int .i64 (isub .i64 n t)), (V.int .i64 0)]))
 (K (V.tup [(V.int .i64 (isub .i64 n 0)), (V.int .i64 0)]))))))))))
 (K (V.tup [(V.int .i64 0), (V.int .i64 1)])) := by kernel_rfl
theorem uNom_top (F : Nat) (h : Bool) (y : Int) (m : Int) (ok : Int) (ow : Int) (od : Int) (c : Int) (b : Int) (K : V → Option V) :
 evBd fE (evFn fE uS3 F 2) F 100 [(V.agg [(V.bool h), (V.int .i64 y), (V.int .i64 m), (V.int .i64 ok), (V.int .i64 ow), (V.int .i64 od), (V.int .i64 c), (V.int .i64 b)])] K =
 sel (bnot h)
 (K (V.tup [(V.int .i64 0), (V.int .i64 12)]))
 (sel (bnot (erP 0 0 0 [] [88] h y m ok ow od c b))
 (K (V.tup [(V.int .i64 0), (V.int .i64 4)]))
 (K (V.tup [(V.int .i64 (iadd .i64 (imul .i64 (oyI ok ow od y m) 86400) c)), (V.int .i64 (oyE ok ow od y m))]))) := by kernel_rfl
theorem uIn_top (F : Nat) (xs : List V) (o : Int) (k : Int) (v : Int) (r : List UInt8) (q : List UInt8) (h : Bool) (y : Int) (m : Int) (ok : Int) (ow : Int) (od : Int) (c : Int) (b : Int) (K : V → Option V) :
 evBd fE (evFn fE uS4 F 2) F 75 [(V.sl 49 [(Kd.str), (Kd.int .i64), (Kd.int .i64), (Kd.int .i64), (Kd.int .i64), (Kd.int .i64), (Kd.int .i64), (Kd.int .i64), (Kd.int .i64), (Kd.int .i64), (Kd.str)] none xs), (V.agg [(V.int .i64 o), (V.int .i64 k), (V.int .i64 v), (V.str r), (V.str q), (V.bool h), (V.int .i64 y), (V.int .i64 m), (V.int .i64 ok), (V.int .i64 ow), (V.int .i64 od), (V.int .i64 c), (V.int .i64 b)])] K =
 sel (bnot (erP o k v r q h y m ok ow od c b))
 (K (V.tup [(V.int .i64 0), (V.int .i64 4)]))
 (sel (bnot (ieq (unE h y m ok ow od c b) 0))
 (K (V.tup [(V.int .i64 0), (V.int .i64 (unE h y m ok ow od c b))]))
 (sel (ieq k 2)
 (sel (rsOk xs)
 (K (V.tup [(V.int .i64 (clkI xs r o (unI h y m ok ow od c b) b)), (V.int .i64 (clE o (unI h y m ok ow od c b) b))]))
 (none))
 (sel (ieq b 0)
 (K (V.tup [(V.int .i64 (isub .i64 (isub .i64 (unI h y m ok ow od c b) v) o)), (V.int .i64 0)]))
 (sel (ieq b 1)
 (K (V.tup [(V.int .i64 (isub .i64 (unI h y m ok ow od c b) o)), (V.int .i64 0)]))
 (K (V.tup [(V.int .i64 (unI h y m ok ow od c b)), (V.int .i64 0)])))))) := by kernel_rfl
end Nt.Ev.YtjkfndcpiihniaaGreatDoor.Un

namespace Nt.Ev.YtjkfndcpiihniaaGreatDoor.Un
set_option maxRecDepth 100000
open Go Go.RowKit Nt Nt.Num Go.Proofs.YtjkfndcpiihniaaGreatDoor Nt.Ev.YtjkfndcpiihniaaGreatDoor Nt.Civil Nt.Ev.YtjkfndcpiihniaaGreatDoor.Rl Nt.Ev.YtjkfndcpiihniaaGreatDoor.Oc
variable [MLen]
theorem uChS_ok (s : List UInt8) (hc : true = true) : Contract fE 98 [.str s] (.int .i64 (ckW s)) := by
  by_cases h : s.length ≤ 1000
  · exact checkS_ok s (p_len h)
  · refine contract_of_body fE_ok fS3_ok 5 2 ?_
    rw [fCheck_top]
    unfold ckW
    rw [sel_pos (ilt_t (by rw [slen_nat]; omega)), if_pos (by omega)]
theorem uS0_ok : SOk fE uS0 := by
  unfold uS0
  refine SOk.cons (fun args r h => ?_) (SOk.cons (fun args r h => ?_) (SOk.cons (fun args r h => ?_) (SOk.cons (fun args r h => ?_) (SOk.nil))))
  · unfold uChS at h
    split at h
    · simp only [Option.some.injEq, Prod.mk.injEq] at h
      obtain ⟨hc, rfl⟩ := h
      exact uChS_ok _ rfl
    · cases h
  · unfold kNmS at h
    split at h
    · simp only [Option.some.injEq, Prod.mk.injEq] at h
      obtain ⟨hc, rfl⟩ := h
      exact kNmS_ok _ rfl
    · cases h
  · unfold kFtS at h
    split at h
    · simp only [Option.some.injEq, Prod.mk.injEq] at h
      obtain ⟨hc, rfl⟩ := h
      exact kFtS_ok _ _ _ _ rfl
    · cases h
  · unfold kCrS at h
    split at h
    · simp only [Option.some.injEq, Prod.mk.injEq] at h
      obtain ⟨hc, rfl⟩ := h
      exact kCrS_ok _ _ rfl
    · cases h
theorem uErS_ok (o k v : Int) (r q : List UInt8) (h : Bool) (y m ok ow od c b : Int) (hc : true = true) : Contract fE 74 [.agg [.int .i64 o, .int .i64 k, .int .i64 v, .str r, .str q, .bool h, .int .i64 y, .int .i64 m, .int .i64 ok, .int .i64 ow, .int .i64 od, .int .i64 c, .int .i64 b]] (.bool (erP o k v r q h y m ok ow od c b)) := by
  refine contract_of_body fE_ok uS0_ok 5 3 ?_
  rw [uEr_top, show isub .i64 0 54000 = -54000 by decide, show isub .i64 0 10800 = -10800 by decide]
  unfold erP enP
  cases ile (-54000) o with
  | false => cases ieq k 0 <;> cases ieq k 1 <;> cases ieq k 2 <;> rfl
  | true =>
  cases ile o 54000 with
  | false => cases ieq k 0 <;> cases ieq k 1 <;> cases ieq k 2 <;> rfl
  | true =>
  cases ieq (ckW q) 0 with
  | false => cases ieq k 0 <;> cases ieq k 1 <;> cases ieq k 2 <;> rfl
  | true =>
  cases h with
  | false =>
    have e : band (beq false false) (band (ieq y 0) (band (ieq m 0) (band (band (ieq ok 0) (band (ieq ow 0) (ieq od 0))) (band (ieq c 0) (ieq b 0))))) = (band (ieq y 0) (band (ieq m 0) (band (band (ieq ok 0) (band (ieq ow 0) (ieq od 0))) (band (ieq c 0) (ieq b 0))))) := rfl
    rw [e]
    generalize band (ieq y 0) (band (ieq m 0) (band (band (ieq ok 0) (band (ieq ow 0) (ieq od 0))) (band (ieq c 0) (ieq b 0)))) = z
    cases z with
    | false => cases ieq k 0 <;> cases ieq k 1 <;> cases ieq k 2 <;> rfl
    | true =>
    cases ieq k 0 with
    | true => cases ieq v 0 <;> rfl
    | false =>
    cases ieq k 1 with
    | true => cases ile (-10800) v <;> cases ile v 10800 <;> rfl
    | false => cases ieq k 2 <;> cases ieq v 0 <;> rfl
  | true =>
    cases ilt (-32767) y with
    | false => cases ieq k 0 <;> cases ieq k 1 <;> cases ieq k 2 <;> rfl
    | true =>
    cases ilt y 32767 with
    | false => cases ieq k 0 <;> cases ieq k 1 <;> cases ieq k 2 <;> rfl
    | true =>
    cases ftP ok ow od m with
    | false => cases ieq k 0 <;> cases ieq k 1 <;> cases ieq k 2 <;> rfl
    | true =>
    cases rightC c b with
    | false => cases ieq k 0 <;> cases ieq k 1 <;> cases ieq k 2 <;> rfl
    | true =>
    cases ieq k 0 with
    | true => cases ieq v 0 <;> rfl
    | false =>
    cases ieq k 1 with
    | true => cases ile (-10800) v <;> cases ile v 10800 <;> rfl
    | false => cases ieq k 2 <;> cases ieq v 0 <;> rfl
theorem rs_all {xs : List V} (h : rsOk xs = true) : (∀ e ∈ xs, rOk e = true) ∧ xs.length ≤ 1000 := by
  unfold rsOk at h
  rw [Bool.and_eq_true, List.all_eq_true, ile_iff, llen_nat] at h
  exact ⟨h.1, by omega⟩
theorem uPvS_ok (e : Nat) (o1 : Option Nat) (xs : List V) (s : List UInt8) (x y z : Int) (hc : rsOk xs = true) : Contract fE 137 [.sl e [.str, .int .i64, .int .i64, .int .i64, .int .i64, .int .i64, .int .i64, .int .i64, .int .i64, .int .i64, .str] o1 xs, .str s, .agg [.int .i64 x, .int .i64 y, .int .i64 z]] (.tup [.agg [.int .i64 (prR xs s x z), .int .i64 (prY xs s x z), .int .i64 (prN xs s x z)], .bool (prB xs s x z)]) := by
  obtain ⟨h1, h2⟩ := rs_all hc
  intro G w vs hG hg hp
  refine prev_ev xs s x y z h1 (by omega) G w vs hG hg ?_
  obtain ⟨x, us, rfl, hx, ht⟩ := PW.cons_inv hp
  refine .cons ?_ ht
  unfold rep at hx ⊢
  exact hx
theorem uS1_ok : SOk fE uS1 := by
  unfold uS1
  refine SOk.cons (fun args r h => ?_) (SOk.cons (fun args r h => ?_) (SOk.cons (fun args r h => ?_) (SOk.nil)))
  · unfold uErS at h
    split at h
    · simp only [Option.some.injEq, Prod.mk.injEq] at h
      obtain ⟨hc, rfl⟩ := h
      exact uErS_ok _ _ _ _ _ _ _ _ _ _ _ _ _ rfl
    · cases h
  · unfold uPvS at h
    split at h
    · simp only [Option.some.injEq, Prod.mk.injEq] at h
      obtain ⟨hc, rfl⟩ := h
      exact uPvS_ok _ _ _ _ _ _ _ hc
    · cases h
  · unfold oDyS at h
    split at h
    · simp only [Option.some.injEq, Prod.mk.injEq] at h
      obtain ⟨hc, rfl⟩ := h
      exact oDyS_ok _ _ _ _ _ rfl
    · cases h
theorem saved_ev (xs : List V) (s : List UInt8) (x y z : Int) (hc : rsOk xs = true) : Contract fE 118 [.sl 49 [.str, .int .i64, .int .i64, .int .i64, .int .i64, .int .i64, .int .i64, .int .i64, .int .i64, .int .i64, .str] none xs, .str s, .agg [.int .i64 x, .int .i64 y, .int .i64 z]] (.int .i64 (svA xs s x z)) := by
  refine contract_of_body fE_ok uS1_ok 5 2 ?_
  rw [uSv_top, sel_pos hc]
  unfold svA
  cases h : prB xs s x z with
  | false => rfl
  | true =>
    have hi := prev_in xs s x z h
    have hb : band (ile 0 (prR xs s x z)) (ilt (prR xs s x z) (llen xs)) = true := by
      rw [band_iff, ile_iff, ilt_iff, llen_nat]; exact hi
    rw [sel_pos rfl, sel_pos hb, if_pos rfl]
theorem uSvS_ok (e : Nat) (o1 : Option Nat) (xs : List V) (s : List UInt8) (x y z : Int) (hc : rsOk xs = true) : Contract fE 118 [.sl e [.str, .int .i64, .int .i64, .int .i64, .int .i64, .int .i64, .int .i64, .int .i64, .int .i64, .int .i64, .str] o1 xs, .str s, .agg [.int .i64 x, .int .i64 y, .int .i64 z]] (.int .i64 (svA xs s x z)) := by
  intro G w vs hG hg hp
  refine saved_ev xs s x y z hc G w vs hG hg ?_
  obtain ⟨x, us, rfl, hx, ht⟩ := PW.cons_inv hp
  refine .cons ?_ ht
  unfold rep at hx ⊢
  exact hx
theorem uS2_ok : SOk fE uS2 := by
  unfold uS2
  refine SOk.cons (fun args r h => ?_) (uS1_ok)
  · unfold uSvS at h
    split at h
    · simp only [Option.some.injEq, Prod.mk.injEq] at h
      obtain ⟨hc, rfl⟩ := h
      exact uSvS_ok _ _ _ _ _ _ _ hc
    · cases h
theorem pr_right (xs : List V) (s : List UInt8) (q x z : Int) : ∀ (k : Nat) (i : Int) (st : Bool × Int × Int × Int), (st.1 = true → ruV (lget xs st.2.1) = true) → (prL xs s q x z k i st).1 = true → ruV (lget xs (prL xs s q x z k i st).2.1) = true := by
  intro k
  induction k with
  | zero => intro i st h hb; exact h hb
  | succ k ih =>
    intro i st h hb
    unfold prL at hb ⊢
    refine ih (i + 1) _ ?_ hb
    intro hs
    split at hs
    · rename_i hc
      rw [if_pos hc]
      have hb' : bV (lget xs i) i q x z = true := hc.2.2.1
      have : rV (lget xs i) i q x z = i := by unfold rV qvR; unfold bV at hb'; rw [if_pos hb']
      show ruV (lget xs (rV (lget xs i) i q x z)) = true
      rw [this]
      exact hc.2.1
    · rename_i hc
      rw [if_neg hc]
      exact h hs
theorem sv_in (xs : List V) (s : List UInt8) (x z : Int) : -10800 ≤ svA xs s x z ∧ svA xs s x z ≤ 10800 := by
  unfold svA
  split
  · rename_i h
    have := pr_right xs s (nearI z) x z xs.length 0 (false, 0, 0, 0) (fun h => by cases h) h
    exact (ru_ft this).2.2.2.2.2
  · omega
theorem clock_ev (xs : List V) (s : List UInt8) (t n b : Int) (hc : rsOk xs = true) : Contract fE 101 [.sl 49 [.str, .int .i64, .int .i64, .int .i64, .int .i64, .int .i64, .int .i64, .int .i64, .int .i64, .int .i64, .str] none xs, .str s, .int .i64 t, .int .i64 n, .int .i64 b] (.tup [.int .i64 (clkI xs s t n b), .int .i64 (clE t n b)]) := by
  refine contract_of_body fE_ok uS2_ok 5 3 ?_
  rw [uCl_top]
  simp only [both_self]
  have hs := sv_in xs s (-1) n
  unfold clkI clE
  by_cases h1 : -54000 ≤ t
  · by_cases h2 : t ≤ 54000
    · by_cases h3 : n < -2000000000000
      · rw [sel_pos (ile_t h1), ile_t h2, sel_neg (show bnot true = false from rfl), sel_pos (ilt_t h3), if_neg (show ¬ (-54000 ≤ t ∧ t ≤ 54000 ∧ -2000000000000 ≤ n ∧ n ≤ 2000000000000) by omega)]; rfl
      · by_cases h4 : 2000000000000 < n
        · rw [sel_pos (ile_t h1), ile_t h2, sel_neg (show bnot true = false from rfl), sel_neg (ilt_f (by omega)), sel_pos (ilt_t h4), if_neg (show ¬ (-54000 ≤ t ∧ t ≤ 54000 ∧ -2000000000000 ≤ n ∧ n ≤ 2000000000000) by omega)]; rfl
        · rw [sel_pos (ile_t h1), ile_t h2, sel_neg (show bnot true = false from rfl), sel_neg (ilt_f (by omega)), sel_neg (ilt_f (by omega)), if_pos (show -54000 ≤ t ∧ t ≤ 54000 ∧ -2000000000000 ≤ n ∧ n ≤ 2000000000000 by omega)]
          by_cases h5 : b < 0
          · rw [sel_pos (ilt_t h5), if_neg (show ¬ (0 ≤ b ∧ b ≤ 2) by omega)]; rfl
          · by_cases h6 : 2 < b
            · rw [sel_neg (ilt_f (by omega)), sel_pos (ilt_t h6), if_neg (show ¬ (0 ≤ b ∧ b ≤ 2) by omega)]; rfl
            · rw [sel_neg (ilt_f (by omega)), sel_neg (ilt_f (by omega)), if_pos (show 0 ≤ b ∧ b ≤ 2 by omega), if_pos rfl, hc]
              by_cases k0 : b = 0
              · rw [sel_pos (ieq_t k0), sel_pos rfl, if_pos k0, iadd64 (by omega), isub64 (by omega)]
              · rw [sel_neg (ieq_f k0), if_neg k0]
                by_cases k1 : b = 1
                · rw [sel_pos (ieq_t k1), if_pos k1, isub64 (by omega)]
                · rw [sel_neg (ieq_f k1), if_neg k1, isub64 (by omega)]
    · rw [sel_pos (ile_t h1), ile_f (by omega), sel_pos (show bnot false = true from rfl), if_neg (show ¬ (-54000 ≤ t ∧ t ≤ 54000 ∧ -2000000000000 ≤ n ∧ n ≤ 2000000000000) by omega)]; rfl
  · rw [sel_neg (ile_f (by omega)), if_neg (show ¬ (-54000 ≤ t ∧ t ≤ 54000 ∧ -2000000000000 ≤ n ∧ n ≤ 2000000000000) by omega)]; rfl
theorem uClS_ok (e : Nat) (o1 : Option Nat) (xs : List V) (s : List UInt8) (t n b : Int) (hc : rsOk xs = true) : Contract fE 101 [.sl e [.str, .int .i64, .int .i64, .int .i64, .int .i64, .int .i64, .int .i64, .int .i64, .int .i64, .int .i64, .str] o1 xs, .str s, .int .i64 t, .int .i64 n, .int .i64 b] (.tup [.int .i64 (clkI xs s t n b), .int .i64 (clE t n b)]) := by
  intro G w vs hG hg hp
  refine clock_ev xs s t n b hc G w vs hG hg ?_
  obtain ⟨x, us, rfl, hx, ht⟩ := PW.cons_inv hp
  refine .cons ?_ ht
  unfold rep at hx ⊢
  exact hx
theorem uS3_ok : SOk fE uS3 := by
  unfold uS3
  refine SOk.cons (fun args r h => ?_) (uS2_ok)
  · unfold uClS at h
    split at h
    · simp only [Option.some.injEq, Prod.mk.injEq] at h
      obtain ⟨hc, rfl⟩ := h
      exact uClS_ok _ _ _ _ _ _ _ hc
    · cases h
theorem en_ft {y m ok ow od c b : Int} (h : enP true y m ok ow od c b = true) : -32767 < y ∧ y < 32767 ∧ ftP ok ow od m = true ∧ (0 ≤ c ∧ c ≤ 172800) ∧ 0 ≤ b ∧ b ≤ 2 := by
  unfold enP rightC at h
  rw [sel_pos rfl] at h
  simp only [Bool.and_eq_true, ilt_iff, decide_eq_true_eq] at h
  obtain ⟨h1, h2, h3, h4⟩ := h
  exact ⟨h1, h2, h3, by omega, by omega⟩
theorem days_lim2 {y m : Int} (hy : -32767 ≤ y ∧ y ≤ 32767) (hm : 1 ≤ m ∧ m ≤ 12) : -13000000 ≤ daysI y m 1 ∧ daysI y m 1 ≤ 13000000 := by
  have hl := len_pos y m hm.1 hm.2
  have hb := yd_bounds (y := y) (m := m) (d := 1) ⟨by omega, by omega⟩
  have ha : -12900000 ≤ aheadI y ∧ aheadI y ≤ 12900000 := by unfold aheadI leapsI; omega
  have hz : (if leapB y = true then (1 : Int) else 0) ≤ 1 := by split <;> omega
  unfold daysI
  omega
theorem nom_lim2 {k w d m y : Int} (h : ftP k w d m = true) (hy : -32767 ≤ y ∧ y ≤ 32767) : -13001000 ≤ oyI k w d y m ∧ oyI k w d y m ≤ 13001000 := by
  unfold oyI
  rw [if_pos (show ftP k w d m = true ∧ -39999 ≤ y ∧ y ≤ 39999 from ⟨h, by omega, by omega⟩)]
  have hk := ft_k h
  have hD := days_lim2 (y := y) (m := m) hy (by omega)
  have hl := len_pos y m (by omega) (by omega)
  have b1 := bk_in (daysI y m 1 + lenI y m - 1) w
  have b2 := bk_in (daysI y m 1 + d + 5) w
  have b3 := bk_in (daysI y m 1 + d - 1) w
  repeat' split
  all_goals omega
theorem dyE_ok {k w d m y : Int} (h : ftP k w d m = true) (hy : -32767 ≤ y ∧ y ≤ 32767) : oyE k w d y m = 0 := by
  unfold oyE
  rw [if_pos h, if_pos (show -39999 ≤ y ∧ y ≤ 39999 by omega)]
theorem ck_X : ckW [88] = 0 := by decide
theorem er_X (h : Bool) (y m ok ow od c b : Int) : erP 0 0 0 [] [88] h y m ok ow od c b = enP h y m ok ow od c b := by
  unfold erP
  rw [ck_X]
  cases enP h y m ok ow od c b <;> rfl
theorem uNomS_ok (h : Bool) (y m ok ow od c b : Int) (hc : true = true) : Contract fE 100 [.agg [.bool h, .int .i64 y, .int .i64 m, .int .i64 ok, .int .i64 ow, .int .i64 od, .int .i64 c, .int .i64 b]] (.tup [.int .i64 (unI h y m ok ow od c b), .int .i64 (unE h y m ok ow od c b)]) := by
  refine contract_of_body fE_ok uS3_ok 5 2 ?_
  rw [uNom_top, er_X]
  unfold unI unE
  cases h with
  | false => rfl
  | true =>
    rw [sel_neg (show bnot true = false from rfl)]
    cases he : enP true y m ok ow od c b with
    | false => rfl
    | true =>
      obtain ⟨h1, h2, h3, h4, h5⟩ := en_ft he
      have hn := nom_lim2 (y := y) h3 (by omega)
      rw [sel_neg (show bnot true = false from rfl), imul64 (by omega), iadd64 (by omega), dyE_ok h3 (by omega)]
      rfl
theorem uS4_ok : SOk fE uS4 := by
  unfold uS4
  refine SOk.cons (fun args r h => ?_) (uS3_ok)
  · unfold uNomS at h
    split at h
    · simp only [Option.some.injEq, Prod.mk.injEq] at h
      obtain ⟨hc, rfl⟩ := h
      exact uNomS_ok _ _ _ _ _ _ _ _ rfl
    · cases h
theorem er_en {o k v : Int} {r q : List UInt8} {h : Bool} {y m ok ow od c b : Int} (he : erP o k v r q h y m ok ow od c b = true) : (-54000 ≤ o ∧ o ≤ 54000) ∧ enP h y m ok ow od c b = true ∧ (k = 0 ∨ k = 1 ∨ k = 2) ∧ -10800 ≤ v ∧ v ≤ 10800 := by
  unfold erP at he
  simp only [Bool.and_eq_true, ile_iff] at he
  obtain ⟨h1, h2, _, h4, h5⟩ := he
  refine ⟨⟨h1, h2⟩, h4, ?_⟩
  by_cases k0 : k = 0
  · rw [sel_pos (ieq_t k0), Bool.and_eq_true, ieq_iff] at h5; omega
  · rw [sel_neg (ieq_f k0)] at h5
    by_cases k1 : k = 1
    · rw [sel_pos (ieq_t k1), Bool.and_eq_true, Bool.and_eq_true, ile_iff, ile_iff] at h5; omega
    · rw [sel_neg (ieq_f k1)] at h5
      by_cases k2 : k = 2
      · rw [sel_pos (ieq_t k2), Bool.and_eq_true, ieq_iff] at h5; omega
      · rw [sel_neg (ieq_f k2)] at h5; cases h5
theorem inst_ev (xs : List V) (o k v : Int) (r q : List UInt8) (h : Bool) (y m ok ow od c b : Int) (hc : rsOk xs = true) : Contract fE 75 [.sl 49 [.str, .int .i64, .int .i64, .int .i64, .int .i64, .int .i64, .int .i64, .int .i64, .int .i64, .int .i64, .str] none xs, .agg [.int .i64 o, .int .i64 k, .int .i64 v, .str r, .str q, .bool h, .int .i64 y, .int .i64 m, .int .i64 ok, .int .i64 ow, .int .i64 od, .int .i64 c, .int .i64 b]] (.tup [.int .i64 (inI xs o k v r q h y m ok ow od c b), .int .i64 (inE xs o k v r q h y m ok ow od c b)]) := by
  refine contract_of_body fE_ok uS4_ok 5 2 ?_
  rw [uIn_top]
  unfold inI inE
  cases he : erP o k v r q h y m ok ow od c b with
  | false => rfl
  | true =>
    obtain ⟨h1, h2, h3, h4⟩ := er_en he
    rw [sel_neg (show bnot true = false from rfl)]
    unfold unE unI
    cases h with
    | false => rfl
    | true =>
      obtain ⟨g1, g2, g3, g4, g5⟩ := en_ft h2
      have hn := nom_lim2 (y := y) g3 (by omega)
      have hN : -2000000000000 ≤ nomI m ok ow od c y ∧ nomI m ok ow od c y ≤ 2000000000000 := by unfold nomI; omega
      rw [h2]
      simp only [if_true, and_self]
      generalize nomI m ok ow od c y = N at *
      rw [sel_neg (by rfl), hc, sel_pos (a := some _) rfl]
      by_cases k2 : k = 2
      · have e : clE o N b = 0 := by
          unfold clE
          rw [if_pos (show -54000 ≤ o ∧ o ≤ 54000 ∧ -2000000000000 ≤ N ∧ N ≤ 2000000000000 by omega), if_pos (show 0 ≤ b ∧ b ≤ 2 by omega)]
        rw [sel_pos (ieq_t k2), if_pos k2, e]
      · rw [sel_neg (ieq_f k2), if_neg k2]
        by_cases b0 : b = 0
        · rw [sel_pos (ieq_t b0), if_pos b0, isub64 (a := N) (by omega), isub64 (by omega)]
        · rw [sel_neg (ieq_f b0), if_neg b0]
          by_cases b1 : b = 1
          · rw [sel_pos (ieq_t b1), if_pos b1, isub64 (by omega)]
          · rw [sel_neg (ieq_f b1), if_neg b1]
theorem uInS_ok (e : Nat) (o1 : Option Nat) (xs : List V) (o k v : Int) (r q : List UInt8) (h : Bool) (y m ok ow od c b : Int) (hc : rsOk xs = true) : Contract fE 75 [.sl e [.str, .int .i64, .int .i64, .int .i64, .int .i64, .int .i64, .int .i64, .int .i64, .int .i64, .int .i64, .str] o1 xs, .agg [.int .i64 o, .int .i64 k, .int .i64 v, .str r, .str q, .bool h, .int .i64 y, .int .i64 m, .int .i64 ok, .int .i64 ow, .int .i64 od, .int .i64 c, .int .i64 b]] (.tup [.int .i64 (inI xs o k v r q h y m ok ow od c b), .int .i64 (inE xs o k v r q h y m ok ow od c b)]) := by
  intro G w vs hG hg hp
  refine inst_ev xs o k v r q h y m ok ow od c b hc G w vs hG hg ?_
  obtain ⟨x, us, rfl, hx, ht⟩ := PW.cons_inv hp
  refine .cons ?_ ht
  unfold rep at hx ⊢
  exact hx
end Nt.Ev.YtjkfndcpiihniaaGreatDoor.Un
