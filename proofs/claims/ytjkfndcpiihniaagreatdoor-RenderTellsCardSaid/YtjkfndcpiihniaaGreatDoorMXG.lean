/-
  Render: equations of functions, as the evaluator prints them. Tables as sources: the ends of a zone's eras. What is written of amounts and times of day, in the environment of tables' sources. Rtx: equations of functions, as the evaluator prints them. Rules and eras as fields, in the environment of tables' sources; both sides. Rw: equations of functions, as the evaluator prints them. A table's source: the writer's lines and zones. A table's source: what the lines of right rules, eras and links are; a zone's lines.
-/
import Derived.Test.YtjkfndcpiihniaaGreatDoorMXE
import Derived.Test.YtjkfndcpiihniaaGreatDoorMXA
import Derived.Test.YtjkfndcpiihniaaGreatDoorMR
set_option linter.unusedVariables false
set_option linter.unusedSimpArgs false
set_option linter.unusedSectionVars false
namespace Nt.Ev.YtjkfndcpiihniaaGreatDoor.Rd
set_option maxRecDepth 100000
open Go Nt.Num Go.Proofs.YtjkfndcpiihniaaGreatDoor
variable [MLen]
open Nt.Ev.YtjkfndcpiihniaaGreatDoor
open Nt.Civil
open Nt.Ev.YtjkfndcpiihniaaGreatDoor.Rl
open Nt.Ev.YtjkfndcpiihniaaGreatDoor.Oc
open Nt.Ev.YtjkfndcpiihniaaGreatDoor.Un
noncomputable def dS0 : List (Nat × FSpec) := (74, uErS) :: (75, uInS) :: []
noncomputable def dEn_L0 (F : Nat) (ns : List Nat) (n : Nat) (x0 : List V) (x1_0 : List UInt8) (x1_1 : List V) (x4 : List V) (x5 : Int) (x6 : List V) (x7 : Int) (x17 : List V) (x18 : Int) (x19 : Int) (b3_0 : List UInt8) (b3_1 : List V) (K : V → Option V) : Option V :=
 loopAt fE dS0 F 3 45 [1, 1, 1, 0, 1, 0] ns K n (mkSt 52 [(0, V.sl 49 [(Kd.str), (Kd.int .i64), (Kd.int .i64), (Kd.int .i64), (Kd.int .i64), (Kd.int .i64), (Kd.int .i64), (Kd.int .i64), (Kd.int .i64), (Kd.int .i64), (Kd.str)] none x0), (1, V.agg [V.str x1_0, V.sl 47 [(Kd.int .i64), (Kd.int .i64), (Kd.int .i64), (Kd.str), (Kd.str), (Kd.bool), (Kd.int .i64), (Kd.int .i64), (Kd.int .i64), (Kd.int .i64), (Kd.int .i64), (Kd.int .i64), (Kd.int .i64)] none x1_1]), (3, (V.box 3 0)), (4, V.sl 2 [(Kd.int .i64)] (some 4) x4), (5, V.int .i64 x5), (6, V.sl 2 [(Kd.int .i64)] (some 6) x6), (7, V.int .i64 x7), (17, V.sl 47 [(Kd.int .i64), (Kd.int .i64), (Kd.int .i64), (Kd.str), (Kd.str), (Kd.bool), (Kd.int .i64), (Kd.int .i64), (Kd.int .i64), (Kd.int .i64), (Kd.int .i64), (Kd.int .i64), (Kd.int .i64)] none x17), (18, V.int .i64 x18), (19, V.int .i64 x19)] [(3, [V.str b3_0, V.sl 47 [(Kd.int .i64), (Kd.int .i64), (Kd.int .i64), (Kd.str), (Kd.str), (Kd.bool), (Kd.int .i64), (Kd.int .i64), (Kd.int .i64), (Kd.int .i64), (Kd.int .i64), (Kd.int .i64), (Kd.int .i64)] none b3_1])])
theorem dEn_top (F : Nat) (xs : List V) (es : List V) (n : List UInt8) (K : V → Option V) :
 evBd fE (evFn fE dS0 F 3) F 45 [(V.sl 49 [(Kd.str), (Kd.int .i64), (Kd.int .i64), (Kd.int .i64), (Kd.int .i64), (Kd.int .i64), (Kd.int .i64), (Kd.int .i64), (Kd.int .i64), (Kd.int .i64), (Kd.str)] none xs), (V.agg [(V.str n), (V.sl 47 [(Kd.int .i64), (Kd.int .i64), (Kd.int .i64), (Kd.str), (Kd.str), (Kd.bool), (Kd.int .i64), (Kd.int .i64), (Kd.int .i64), (Kd.int .i64), (Kd.int .i64), (Kd.int .i64), (Kd.int .i64)] none es)])] K =
 dEn_L0 F [] F xs n es [] 0 [] (isub .i64 (llen es) 1) es (llen es) 0 n es K := by kernel_rfl
theorem dEn_L0_succ (F : Nat) (n : Nat) (x0 : List V) (x1_0 : List UInt8) (x1_1 : List V) (x4 : List V) (x5 : Int) (x6 : List V) (x7 : Int) (x17 : List V) (x18 : Int) (x19 : Int) (b3_0 : List UInt8) (b3_1 : List V) (K : V → Option V) :
 dEn_L0 F [] (n + 1) x0 x1_0 x1_1 x4 x5 x6 x7 x17 x18 x19 b3_0 b3_1 K =
 sel (ilt x19 x18)
 (sel (band (ile 0 x19) (ilt x19 (llen x17)))
 (sel (bnot (erP (asInt (acell (lget x17 x19) 0)) (asInt (acell (lget x17 x19) 1)) (asInt (acell (lget x17 x19) 2)) (asStr (acell (lget x17 x19) 3)) (asStr (acell (lget x17 x19) 4)) (asBool (acell (lget x17 x19) 5)) (asInt (acell (lget x17 x19) 6)) (asInt (acell (lget x17 x19) 7)) (asInt (acell (lget x17 x19) 8)) (asInt (acell (lget x17 x19) 9)) (asInt (acell (lget x17 x19) 10)) (asInt (acell (lget x17 x19) 11)) (asInt (acell (lget x17 x19) 12))))
 (K (V.tup [(V.sl 2 [(Kd.int .i64)] (some 0) []), (V.int .i64 4)]))
 (sel (bnot (beq (asBool (acell (lget x17 x19) 5)) (ilt x19 x7)))
 (K (V.tup [(V.sl 2 [(Kd.int .i64)] (some 0) []), (V.int .i64 4)]))
 (sel (rsOk x0)
 (sel (ieq (inE x0 (asInt (acell (lget x17 x19) 0)) (asInt (acell (lget x17 x19) 1)) (asInt (acell (lget x17 x19) 2)) (asStr (acell (lget x17 x19) 3)) (asStr (acell (lget x17 x19) 4)) (asBool (acell (lget x17 x19) 5)) (asInt (acell (lget x17 x19) 6)) (asInt (acell (lget x17 x19) 7)) (asInt (acell (lget x17 x19) 8)) (asInt (acell (lget x17 x19) 9)) (asInt (acell (lget x17 x19) 10)) (asInt (acell (lget x17 x19) 11)) (asInt (acell (lget x17 x19) 12))) 0)
 (sel (okApp x6 [(V.int .i64 (inI x0 (asInt (acell (lget x17 x19) 0)) (asInt (acell (lget x17 x19) 1)) (asInt (acell (lget x17 x19) 2)) (asStr (acell (lget x17 x19) 3)) (asStr (acell (lget x17 x19) 4)) (asBool (acell (lget x17 x19) 5)) (asInt (acell (lget x17 x19) 6)) (asInt (acell (lget x17 x19) 7)) (asInt (acell (lget x17 x19) 8)) (asInt (acell (lget x17 x19) 9)) (asInt (acell (lget x17 x19) 10)) (asInt (acell (lget x17 x19) 11)) (asInt (acell (lget x17 x19) 12))))])
 (dEn_L0 F [] n x0 x1_0 x1_1 x4 x5 (lcat x6 [(V.int .i64 (inI x0 (asInt (acell (lget x17 x19) 0)) (asInt (acell (lget x17 x19) 1)) (asInt (acell (lget x17 x19) 2)) (asStr (acell (lget x17 x19) 3)) (asStr (acell (lget x17 x19) 4)) (asBool (acell (lget x17 x19) 5)) (asInt (acell (lget x17 x19) 6)) (asInt (acell (lget x17 x19) 7)) (asInt (acell (lget x17 x19) 8)) (asInt (acell (lget x17 x19) 9)) (asInt (acell (lget x17 x19) 10)) (asInt (acell (lget x17 x19) 11)) (asInt (acell (lget x17 x19) 12))))]) x7 x17 x18 (iadd .i64 x19 1) b3_0 b3_1 K)
 (none))
 (dEn_L0 F [] n x0 x1_0 x1_1 x4 x5 x6 x7 x17 x18 (iadd .i64 x19 1) b3_0 b3_1 K))
 (none))))
 (none))
 (sel (ilt x7 0)
 (K (V.tup [(V.sl 2 [(Kd.int .i64)] (some 0) []), (V.int .i64 4)]))
 (K (V.tup [(V.sl 2 [(Kd.int .i64)] (some 0) x6), (V.int .i64 0)]))) := by kernel_rfl
end Nt.Ev.YtjkfndcpiihniaaGreatDoor.Rd

namespace Nt.Ev.YtjkfndcpiihniaaGreatDoor.Rd
set_option maxRecDepth 100000
open Go Go.RowKit Nt Nt.Num Go.Proofs.YtjkfndcpiihniaaGreatDoor Nt.Ev.YtjkfndcpiihniaaGreatDoor Nt.Civil Nt.Ev.YtjkfndcpiihniaaGreatDoor.Rl Nt.Ev.YtjkfndcpiihniaaGreatDoor.Oc Nt.Ev.YtjkfndcpiihniaaGreatDoor.Un
variable [MLen]
theorem dS0_ok : SOk fE dS0 := by
  unfold dS0
  refine SOk.cons (fun args r h => ?_) (SOk.cons (fun args r h => ?_) (SOk.nil))
  · unfold uErS at h
    split at h
    · simp only [Option.some.injEq, Prod.mk.injEq] at h
      obtain ⟨hc, rfl⟩ := h
      exact uErS_ok _ _ _ _ _ _ _ _ _ _ _ _ _ rfl
    · cases h
  · unfold uInS at h
    split at h
    · simp only [Option.some.injEq, Prod.mk.injEq] at h
      obtain ⟨hc, rfl⟩ := h
      exact uInS_ok _ _ _ _ _ _ _ _ _ _ _ _ _ _ _ _ hc
    · cases h
def eV (e : V) : Bool := erP (asInt (acell e 0)) (asInt (acell e 1)) (asInt (acell e 2)) (asStr (acell e 3)) (asStr (acell e 4)) (asBool (acell e 5)) (asInt (acell e 6)) (asInt (acell e 7)) (asInt (acell e 8)) (asInt (acell e 9)) (asInt (acell e 10)) (asInt (acell e 11)) (asInt (acell e 12))
noncomputable def inV (xs : List V) (e : V) : Int := inI xs (asInt (acell e 0)) (asInt (acell e 1)) (asInt (acell e 2)) (asStr (acell e 3)) (asStr (acell e 4)) (asBool (acell e 5)) (asInt (acell e 6)) (asInt (acell e 7)) (asInt (acell e 8)) (asInt (acell e 9)) (asInt (acell e 10)) (asInt (acell e 11)) (asInt (acell e 12))
noncomputable def ieV (xs : List V) (e : V) : Int := inE xs (asInt (acell e 0)) (asInt (acell e 1)) (asInt (acell e 2)) (asStr (acell e 3)) (asStr (acell e 4)) (asBool (acell e 5)) (asInt (acell e 6)) (asInt (acell e 7)) (asInt (acell e 8)) (asInt (acell e 9)) (asInt (acell e 10)) (asInt (acell e 11)) (asInt (acell e 12))
def okE (last i : Int) (e : V) : Bool := eV e && beq (asBool (acell e 5)) (ilt i last)
noncomputable def enF (xs es : List V) (last : Int) : Nat → Int → List V → List V × Int
  | 0, _, acc => if last < 0 then ([], 4) else (acc, 0)
  | k + 1, i, acc => if okE last i (lget es i) = true then enF xs es last k (i + 1) (if ieq (ieV xs (lget es i)) 0 = true then lcat acc [.int .i64 (inV xs (lget es i))] else acc) else ([], 4)
theorem en_loop (F : Nat) (xs es : List V) (y : List UInt8) (x1 x4 : List V) (x5 : Int) (b0 : List UInt8) (b1 : List V) (last : Int) (hx : rsOk xs = true) (hn : es.length ≤ 1000) (K : V → Option V) : ∀ (k : Nat) (i : Nat) (acc : List V) (G : Nat), i + k = es.length → acc.length ≤ i → k < G →
    dEn_L0 F [] G xs y x1 x4 x5 acc last es (llen es) i b0 b1 K = K (.tup [.sl 2 [.int .i64] (some 0) (enF xs es last k i acc).1, .int .i64 (enF xs es last k i acc).2]) := by
  intro k
  induction k with
  | zero =>
    intro i acc G h1 h2 h3
    obtain ⟨G, rfl⟩ := Nat.exists_eq_succ_of_ne_zero (show G ≠ 0 by omega)
    rw [dEn_L0_succ, sel_neg (ilt_f (by rw [llen_nat]; omega))]
    unfold enF
    by_cases h : last < 0
    · rw [sel_pos (ilt_t h), if_pos h]
    · rw [sel_neg (ilt_f (by omega)), if_neg h]
  | succ k ih =>
    intro i acc G h1 h2 h3
    obtain ⟨G, rfl⟩ := Nat.exists_eq_succ_of_ne_zero (show G ≠ 0 by omega)
    rw [dEn_L0_succ, sel_pos (ilt_t (by rw [llen_nat]; omega)), sel_pos (by rw [band_iff, ile_iff, ilt_iff, llen_nat]; omega), iadd64 (by omega), show ((i : Int) + 1) = ((i + 1 : Nat) : Int) by omega]
    show sel (bnot (eV (lget es i))) _ (sel _ _ (sel _ (sel (ieq (ieV xs (lget es i)) 0) (sel (okApp acc [.int .i64 (inV xs (lget es i))]) (dEn_L0 F [] G xs y x1 x4 x5 (lcat acc [.int .i64 (inV xs (lget es i))]) last es (llen es) ((i + 1 : Nat) : Int) b0 b1 K) _) _) _)) = _
    unfold enF okE
    cases h4 : eV (lget es i) with
    | false => rfl
    | true =>
      cases h5 : beq (asBool (acell (lget es i) 5)) (ilt i last) with
      | false => rfl
      | true =>
        rw [sel_neg (show bnot true = false from rfl), sel_neg (show bnot true = false from rfl), sel_pos hx, if_pos (show (true && true) = true from rfl)]
        cases h6 : ieq (ieV xs (lget es i)) 0 with
        | false => rw [sel_neg rfl, ih (i + 1) acc G (by omega) (by omega) (by omega)]; rfl
        | true =>
          rw [sel_pos rfl, sel_pos (by rw [okApp_iff]; simp; omega), ih (i + 1) _ G (by omega) (by unfold lcat; simp; omega) (by omega)]
          rfl
theorem ends_ev (xs es : List V) (n : List UInt8) (hx : rsOk xs = true) (hn : es.length ≤ 1000) : Contract fE 45 [.sl 49 [.str, .int .i64, .int .i64, .int .i64, .int .i64, .int .i64, .int .i64, .int .i64, .int .i64, .int .i64, .str] none xs, .agg [.str n, .sl 47 [.int .i64, .int .i64, .int .i64, .str, .str, .bool, .int .i64, .int .i64, .int .i64, .int .i64, .int .i64, .int .i64, .int .i64] none es]] (.tup [.sl 2 [.int .i64] (some 0) (enF xs es ((es.length : Int) - 1) es.length 0 []).1, .int .i64 (enF xs es ((es.length : Int) - 1) es.length 0 []).2]) := by
  refine contract_of_body fE_ok dS0_ok 1010 3 ?_
  rw [dEn_top, isub64 (by rw [llen_nat]; omega), llen_nat]
  exact en_loop 1010 xs es n es [] 0 n es _ hx hn some es.length 0 [] 1010 (by omega) (by simp) (by omega)
end Nt.Ev.YtjkfndcpiihniaaGreatDoor.Rd

namespace Nt.Ev.YtjkfndcpiihniaaGreatDoor.Rx
set_option maxRecDepth 100000
open Go Go.RowKit Nt Nt.Num Nt.Civil Go.Proofs.YtjkfndcpiihniaaGreatDoor Nt.Ev.YtjkfndcpiihniaaGreatDoor
variable [MLen]
noncomputable def rE : Env := ⟨Go.Proofs.Tryz.prog, fun g => bif g == 1 then some firstV else bif g == 2 then some weekdaysV else bif g == 0 then some monthsV else bif g == 3 then some (.rptr [.int .i64] (.int .i64 MLen.val) 0) else none⟩
theorem rE_ok : EOk rE := ⟨by kernel_rfl, by kernel_rfl⟩
theorem rN {f : Nat} {args : List V} {r : V} (h : Contract nE f args r) : Contract rE f args r := Contract.env (E := nE) rfl (fun n v h => by cases h) h
theorem rO {f : Nat} {args : List V} {r : V} (h : Contract oE f args r) : Contract rE f args r := Contract.env (E := oE) rfl (fun n v h => by cases h) h
theorem rH {f : Nat} {args : List V} {r : V} (h : Contract hE f args r) : Contract rE f args r := Contract.env (E := hE) rfl (fun n v h => by cases h) h
theorem rY {f : Nat} {args : List V} {r : V} (h : Contract yE f args r) : Contract rE f args r := Contract.env (E := yE) rfl (fun n v h => by cases h) h
theorem rW {f : Nat} {args : List V} {r : V} (h : Contract wE f args r) : Contract rE f args r := Contract.env (E := wE) rfl (fun n v h => by
  unfold wE at h
  simp only at h
  cases e : n == 2 with
  | true => obtain rfl : n = 2 := by simpa using e
            exact h
  | false => rw [e] at h; cases h) h
theorem rM {f : Nat} {args : List V} {r : V} (h : Contract mE f args r) : Contract rE f args r := Contract.env (E := mE) rfl (fun n v h => by
  unfold mE at h
  simp only at h
  cases e : n == 0 with
  | true => obtain rfl : n = 0 := by simpa using e
            exact h
  | false => rw [e] at h; cases h) h
theorem rF {f : Nat} {args : List V} {r : V} (h : Contract fE f args r) : Contract rE f args r := Contract.env (E := fE) rfl (fun n v h => by
  unfold fE at h
  simp only at h
  cases e : n == 3 with
  | true => obtain rfl : n = 3 := by simpa using e
            exact h
  | false => rw [e] at h; cases h) h
noncomputable def aS : List (Nat × FSpec) := (65, textS) :: (58, textS) :: []
noncomputable def tS : List (Nat × FSpec) := (68, twoA) :: (81, twoR) :: aS
noncomputable def uS (b : Bool) : List (Nat × FSpec) := (39, posS b) :: tS
set_option maxRecDepth 100000 in
theorem atwo_top (F : Nat) (n : Int) (K : V → Option V) :
    evBd rE (evFn rE aS F 2) F 68 [(V.int .i64 n)] K =
    sel (band (ile (-9223372036854775808) (iquo .i64 n 10)) (ile (iquo .i64 n 10) 9223372036854775807))
      (sel (okCat [58] (text (iquo .i64 n 10)))
        (sel (band (ile (-9223372036854775808) (irem n 10)) (ile (irem n 10) 9223372036854775807))
          (sel (okCat (scat [58] (text (iquo .i64 n 10))) (text (irem n 10)))
            (K (V.str (scat (scat [58] (text (iquo .i64 n 10))) (text (irem n 10)))))
            (none))
          (none))
        (none))
      (none) := by kernel_rfl
set_option maxRecDepth 100000 in
theorem rtwo_top (F : Nat) (n : Int) (K : V → Option V) :
    evBd rE (evFn rE aS F 2) F 81 [(V.int .i64 n)] K =
    sel (ilt n 10)
      (sel (band (ile (-9223372036854775808) n) (ile n 9223372036854775807))
        (sel (okCat [48] (text n))
          (K (V.str (scat [48] (text n))))
          (none))
        (none))
      (sel (band (ile (-9223372036854775808) n) (ile n 9223372036854775807))
        (K (V.str (text n)))
        (none)) := by kernel_rfl
set_option maxRecDepth 100000 in
theorem atext_top (bb : Bool) (F : Nat) (m : Int) (K : V → Option V) :
    evBd rE (evFn rE (uS bb) F 2) F 39 [(V.int .i64 m)] K =
    sel (ile m (-604800))
      (K (V.tup [(V.str []), (V.int .i64 1)]))
      (sel (ile 604800 m)
        (K (V.tup [(V.str []), (V.int .i64 1)]))
        (sel (ieq m 0)
          (sel (band (ile (-9223372036854775808) m) (ile m 9223372036854775807))
            (K (V.tup [(V.str (text m)), (V.int .i64 0)]))
            (none))
          (sel (ilt m 0)
            (sel (band (bb) (band (ile 1 (isub .i64 0 m)) (ile (isub .i64 0 m) 604799)))
              (sel (okCat [45] (posI (isub .i64 0 m)))
                (K (V.tup [(V.str (scat [45] (posI (isub .i64 0 m)))), (V.int .i64 0)]))
                (none))
              (none))
            (sel (band (ile (-9223372036854775808) (iquo .i64 m 3600)) (ile (iquo .i64 m 3600) 9223372036854775807))
              (sel (band (ile 0 (iquo .i64 (irem m 3600) 60)) (ile (iquo .i64 (irem m 3600) 60) 59))
                (sel (okCat (text (iquo .i64 m 3600)) (scat [58] (twoI (iquo .i64 (irem m 3600) 60))))
                  (sel (ilt 0 (irem m 60))
                    (sel (band (ile 0 (irem m 60)) (ile (irem m 60) 59))
                      (sel (okCat (scat (text (iquo .i64 m 3600)) (scat [58] (twoI (iquo .i64 (irem m 3600) 60)))) (scat [58] (twoI (irem m 60))))
                        (K (V.tup [(V.str (scat (scat (text (iquo .i64 m 3600)) (scat [58] (twoI (iquo .i64 (irem m 3600) 60)))) (scat [58] (twoI (irem m 60))))), (V.int .i64 0)]))
                        (none))
                      (none))
                    (K (V.tup [(V.str (scat (text (iquo .i64 m 3600)) (scat [58] (twoI (iquo .i64 (irem m 3600) 60))))), (V.int .i64 0)])))
                  (none))
                (none))
              (none))))) := by kernel_rfl
set_option maxRecDepth 100000 in
theorem rtext_top (F : Nat) (m : Int) (K : V → Option V) :
    evBd rE (evFn rE tS F 2) F 53 [(V.int .i64 m)] K =
    sel (ile m (-604800))
      (K (V.tup [(V.str []), (V.int .i64 1)]))
      (sel (ile 604800 m)
        (K (V.tup [(V.str []), (V.int .i64 1)]))
        (sel (ieq m 0)
          (K (V.tup [(V.str [48]), (V.int .i64 0)]))
          (sel (ilt m 0)
            (sel (band (ile (-9223372036854775808) (iquo .i64 (isub .i64 0 m) 3600)) (ile (iquo .i64 (isub .i64 0 m) 3600) 9223372036854775807))
              (sel (okCat [45] (text (iquo .i64 (isub .i64 0 m) 3600)))
                (sel (okCat (scat [45] (text (iquo .i64 (isub .i64 0 m) 3600))) [58])
                  (sel (band (ile 0 (irem (iquo .i64 (isub .i64 0 m) 60) 60)) (ile (irem (iquo .i64 (isub .i64 0 m) 60) 60) 59))
                    (sel (okCat (scat (scat [45] (text (iquo .i64 (isub .i64 0 m) 3600))) [58]) (twoI (irem (iquo .i64 (isub .i64 0 m) 60) 60)))
                      (sel (ilt 0 (irem (isub .i64 0 m) 60))
                        (sel (band (ile 0 (irem (isub .i64 0 m) 60)) (ile (irem (isub .i64 0 m) 60) 59))
                          (sel (okCat [58] (twoI (irem (isub .i64 0 m) 60)))
                            (sel (okCat (scat (scat (scat [45] (text (iquo .i64 (isub .i64 0 m) 3600))) [58]) (twoI (irem (iquo .i64 (isub .i64 0 m) 60) 60))) (scat [58] (twoI (irem (isub .i64 0 m) 60))))
                              (K (V.tup [(V.str (scat (scat (scat (scat [45] (text (iquo .i64 (isub .i64 0 m) 3600))) [58]) (twoI (irem (iquo .i64 (isub .i64 0 m) 60) 60))) (scat [58] (twoI (irem (isub .i64 0 m) 60))))), (V.int .i64 0)]))
                              (none))
                            (none))
                          (none))
                        (K (V.tup [(V.str (scat (scat (scat [45] (text (iquo .i64 (isub .i64 0 m) 3600))) [58]) (twoI (irem (iquo .i64 (isub .i64 0 m) 60) 60)))), (V.int .i64 0)])))
                      (none))
                    (none))
                  (none))
                (none))
              (none))
            (sel (band (ile (-9223372036854775808) (iquo .i64 m 3600)) (ile (iquo .i64 m 3600) 9223372036854775807))
              (sel (okCat [] (text (iquo .i64 m 3600)))
                (sel (okCat (scat [] (text (iquo .i64 m 3600))) [58])
                  (sel (band (ile 0 (irem (iquo .i64 m 60) 60)) (ile (irem (iquo .i64 m 60) 60) 59))
                    (sel (okCat (scat (scat [] (text (iquo .i64 m 3600))) [58]) (twoI (irem (iquo .i64 m 60) 60)))
                      (sel (ilt 0 (irem m 60))
                        (sel (band (ile 0 (irem m 60)) (ile (irem m 60) 59))
                          (sel (okCat [58] (twoI (irem m 60)))
                            (sel (okCat (scat (scat (scat [] (text (iquo .i64 m 3600))) [58]) (twoI (irem (iquo .i64 m 60) 60))) (scat [58] (twoI (irem m 60))))
                              (K (V.tup [(V.str (scat (scat (scat (scat [] (text (iquo .i64 m 3600))) [58]) (twoI (irem (iquo .i64 m 60) 60))) (scat [58] (twoI (irem m 60))))), (V.int .i64 0)]))
                              (none))
                            (none))
                          (none))
                        (K (V.tup [(V.str (scat (scat (scat [] (text (iquo .i64 m 3600))) [58]) (twoI (irem (iquo .i64 m 60) 60)))), (V.int .i64 0)])))
                      (none))
                    (none))
                  (none))
                (none))
              (none))))) := by kernel_rfl
theorem textS_ok (m : Int) (hc : fitsI m = true) : Contract rE 65 [.int .i64 m] (.str (text m)) := rN (nText_ev m (fitsI_iff hc))
theorem textS_ok_noontideref01_Text (m : Int) (hc : fitsI m = true) : Contract rE 58 [.int .i64 m] (.str (text m)) := rN (rText_ev m (fitsI_iff hc))
theorem aS_ok : SOk rE aS := by
  unfold aS
  refine SOk.cons (fun args r h => ?_) ?_
  · unfold textS at h
    split at h
    · simp only [Option.some.injEq, Prod.mk.injEq] at h
      obtain ⟨hc, rfl⟩ := h
      exact textS_ok _ hc
    · cases h
  refine SOk.cons (fun args r h => ?_) ?_
  · unfold textS at h
    split at h
    · simp only [Option.some.injEq, Prod.mk.injEq] at h
      obtain ⟨hc, rfl⟩ := h
      exact textS_ok_noontideref01_Text _ hc
    · cases h
  exact SOk.nil
theorem atwo_ev (k : Nat) (h : k ≤ 59) : Contract rE 68 [.int .i64 (k : Int)] (.str (scat [58] (twoI (k : Int)))) := by
  refine contract_of_body rE_ok aS_ok 5 2 ?_
  rw [atwo_top]
  simp only [sel_if, ile_iff, band_iff, okCat_iff]
  have e1 : iquo .i64 (k : Int) 10 = ((k / 10 : Nat) : Int) := by rw [iquo64 (by omega) (by omega) (by omega)]; rfl
  have e2 : irem (k : Int) 10 = ((k % 10 : Nat) : Int) := by rw [irem_pos (by omega)]; rfl
  rw [e1, e2, text_digit _ (by omega), text_digit _ (by omega), if_pos (by omega), if_pos (by simp), if_pos (by omega), if_pos (by simp [scat])]
  rfl
theorem rtwo_ev (k : Nat) (h : k ≤ 59) : Contract rE 81 [.int .i64 (k : Int)] (.str (twoI (k : Int))) := by
  refine contract_of_body rE_ok aS_ok 5 2 ?_
  rw [rtwo_top]
  simp only [sel_if, ile_iff, ilt_iff, band_iff, okCat_iff]
  have e0 : twoI (k : Int) = Amount.two k := rfl
  by_cases h10 : k < 10
  · rw [if_pos (by omega), if_pos (by omega), text_digit k h10, if_pos (by simp), e0]
    unfold Amount.two
    rw [show k / 10 = 0 by omega, show k % 10 = k by omega]
    rfl
  · rw [if_neg (by omega), if_pos (by omega), text_two k (by omega) (by omega), e0]
theorem twoA_ok (n : Int) (hc : band (ile 0 n) (ile n 59) = true) : Contract rE 68 [.int .i64 n] (.str (scat [58] (twoI n))) := by
  rw [band_iff, ile_iff, ile_iff] at hc
  obtain ⟨k, rfl⟩ : ∃ k : Nat, n = k := ⟨n.toNat, by omega⟩
  exact atwo_ev k (by omega)
theorem twoR_ok (n : Int) (hc : band (ile 0 n) (ile n 59) = true) : Contract rE 81 [.int .i64 n] (.str (twoI n)) := by
  rw [band_iff, ile_iff, ile_iff] at hc
  obtain ⟨k, rfl⟩ : ∃ k : Nat, n = k := ⟨n.toNat, by omega⟩
  exact rtwo_ev k (by omega)
theorem tS_ok : SOk rE tS := by
  unfold tS
  refine SOk.cons (fun args r h => ?_) ?_
  · unfold twoA at h
    split at h
    · simp only [Option.some.injEq, Prod.mk.injEq] at h
      obtain ⟨hc, rfl⟩ := h
      exact twoA_ok _ hc
    · cases h
  refine SOk.cons (fun args r h => ?_) ?_
  · unfold twoR at h
    split at h
    · simp only [Option.some.injEq, Prod.mk.injEq] at h
      obtain ⟨hc, rfl⟩ := h
      exact twoR_ok _ hc
    · cases h
  exact aS_ok
theorem uF_ok : SOk rE (uS false) := by -- of 39
  unfold uS
  refine SOk.cons (fun args r h => ?_) tS_ok
  unfold posS at h
  split at h
  · simp only [Option.some.injEq, Prod.mk.injEq] at h
    obtain ⟨hc, rfl⟩ := h
    cases hc
  · cases h
theorem atext_pos (k : Nat) (h1 : 1 ≤ k) (h2 : k ≤ 604799) : Contract rE 39 [.int .i64 (k : Int)] (.tup [.str (posI (k : Int)), .int .i64 0]) := by
  refine contract_of_body rE_ok uF_ok 5 2 ?_
  rw [atext_top, posI_nat k h1 h2]
  obtain ⟨e1, e2, e3, e4⟩ := parts_nat k h2
  have hh := hour_len k h2
  simp only [sel_if, ile_iff, ilt_iff, ieq_iff, band_iff, okCat_iff, e1, e2, e3, twoI_nat, hour_eq]
  rw [if_neg (by omega), if_neg (by omega), if_neg (by omega), if_neg (by omega), if_pos (by omega), if_pos (by omega), if_pos (by simp [scat, two_len]; omega)]
  unfold posL
  by_cases h : 0 < k % 60
  · rw [if_pos (by omega), if_pos (by omega), if_pos (by simp [scat, two_len]; omega), if_pos h]
    rfl
  · rw [if_neg (by omega), if_neg h, List.append_nil]
    rfl
theorem uT_ok : SOk rE (uS true) := by -- of 39
  unfold uS
  refine SOk.cons (fun args r h => ?_) tS_ok
  unfold posS at h
  split at h
  · simp only [Option.some.injEq, Prod.mk.injEq] at h
    obtain ⟨hc, rfl⟩ := h
    rw [band_iff, band_iff, ile_iff, ile_iff] at hc
    rename_i n
    obtain ⟨k, rfl⟩ : ∃ k : Nat, n = k := ⟨n.toNat, by omega⟩
    exact atext_pos k (by omega) (by omega)
  · cases h
theorem atext_ev (n : Int) (h1 : -9223372036854775808 ≤ n) (h2 : n ≤ 9223372036854775807) : Contract rE 39 [.int .i64 n] (amtV n) := by
  by_cases hp : 1 ≤ n ∧ n ≤ 604799
  · obtain ⟨k, rfl⟩ : ∃ k : Nat, n = k := ⟨n.toNat, by omega⟩
    have := atext_pos k (by omega) (by omega)
    unfold amtV
    rw [amt_pos k (by omega) (by omega)]
    rw [posI_nat k (by omega) (by omega)] at this
    exact this
  refine contract_of_body rE_ok uT_ok 5 2 ?_
  rw [atext_top]
  simp only [sel_if, ile_iff, ilt_iff, ieq_iff, band_iff, okCat_iff]
  unfold amtV
  by_cases ha : n ≤ -604800
  · rw [if_pos ha, amt_far n (.inl ha)]
  · rw [if_neg ha]
    by_cases hb : 604800 ≤ n
    · rw [if_pos hb, amt_far n (.inr hb)]
    · rw [if_neg hb]
      by_cases hc : n = 0
      · subst hc
        rw [if_pos rfl, if_pos (by omega), amt_nil]
        rfl
      · rw [if_neg hc, if_pos (by omega)]
        obtain ⟨k, rfl⟩ : ∃ k : Nat, n = -(k : Int) := ⟨(-n).toNat, by omega⟩
        have e : isub .i64 0 (-(k : Int)) = (k : Int) := by rw [isub64 (by omega)]; omega
        rw [e, if_pos ⟨trivial, by omega, by omega⟩, posI_nat k (by omega) (by omega), if_pos (by have := posL_len k (by omega); simp; omega), amt_neg k (by omega) (by omega)]
        rfl
theorem rtext_ev (n : Int) (h1 : -9223372036854775808 ≤ n) (h2 : n ≤ 9223372036854775807) : Contract rE 53 [.int .i64 n] (amtV n) := by
  refine contract_of_body rE_ok tS_ok 5 2 ?_
  rw [rtext_top]
  unfold amtV
  by_cases ha : n ≤ -604800
  · rw [sel_pos (ile_t ha), amt_far n (.inl ha)]
  · rw [sel_neg (ile_f (by omega))]
    by_cases hb : 604800 ≤ n
    · rw [sel_pos (ile_t hb), amt_far n (.inr hb)]
    · rw [sel_neg (ile_f (by omega))]
      by_cases hc : n = 0
      · subst hc
        rw [sel_pos (ieq_t rfl), amt_nil]
      · rw [sel_neg (ieq_f hc)]
        by_cases hd : n < 0
        · rw [sel_pos (ilt_t hd)]
          obtain ⟨k, rfl⟩ : ∃ k : Nat, n = -(k : Int) := ⟨(-n).toNat, by omega⟩
          have e : isub .i64 0 (-(k : Int)) = (k : Int) := by rw [isub64 (by omega)]; omega
          obtain ⟨e1, e2, e3, e4⟩ := parts_nat k (by omega)
          have hh := hour_len k (by omega)
          simp only [sel_if, ile_iff, ilt_iff, ieq_iff, band_iff, okCat_iff, e, e1, e3, e4, twoI_nat, hour_eq]
          rw [if_pos (by omega), if_pos (by simp; omega), if_pos (by simp [scat]; omega), if_pos (by omega), if_pos (by simp [scat, two_len]; omega), amt_neg k (by omega) (by omega)]
          unfold posL
          by_cases h : 0 < k % 60
          · rw [if_pos (by omega), if_pos (by omega), if_pos (by simp [two_len]), if_pos (by simp [scat, two_len]; omega), if_pos h]
            simp [scat]
          · rw [if_neg (by omega), if_neg h]
            simp [scat]
        · rw [sel_neg (ilt_f (by omega))]
          obtain ⟨k, rfl⟩ : ∃ k : Nat, n = (k : Int) := ⟨n.toNat, by omega⟩
          obtain ⟨e1, e2, e3, e4⟩ := parts_nat k (by omega)
          have hh := hour_len k (by omega)
          simp only [sel_if, ile_iff, ilt_iff, ieq_iff, band_iff, okCat_iff, e1, e3, e4, twoI_nat, hour_eq]
          rw [if_pos (by omega), if_pos (by simp; omega), if_pos (by simp [scat]; omega), if_pos (by omega), if_pos (by simp [scat, two_len]; omega), amt_pos k (by omega) (by omega)]
          unfold posL
          by_cases h : 0 < k % 60
          · rw [if_pos (by omega), if_pos (by omega), if_pos (by simp [two_len]), if_pos (by simp [scat, two_len]; omega), if_pos h]
            simp [scat]
          · rw [if_neg (by omega), if_neg h]
            simp [scat]
noncomputable def xCS : List (Nat × FSpec) := (39, cTextS) :: (53, cTextS) :: []
theorem cTextS_ok (n : Int) (hc : band (ile (-9223372036854775808) n) (ile n 9223372036854775807) = true) : Contract rE 39 [.int .i64 n] (.tup [.str (txL n), .int .i64 (txW n)]) := atext_ev n (fitsA hc).1 (fitsA hc).2
theorem cTextS_ok_noontideref16_Text (n : Int) (hc : band (ile (-9223372036854775808) n) (ile n 9223372036854775807) = true) : Contract rE 53 [.int .i64 n] (.tup [.str (txL n), .int .i64 (txW n)]) := rtext_ev n (fitsA hc).1 (fitsA hc).2
theorem xCS_ok : SOk rE xCS := by
  unfold xCS
  refine SOk.cons (fun args r h => ?_) ?_
  · unfold cTextS at h
    split at h
    · simp only [Option.some.injEq, Prod.mk.injEq] at h
      obtain ⟨hc, rfl⟩ := h
      exact cTextS_ok _ hc
    · cases h
  refine SOk.cons (fun args r h => ?_) ?_
  · unfold cTextS at h
    split at h
    · simp only [Option.some.injEq, Prod.mk.injEq] at h
      obtain ⟨hc, rfl⟩ := h
      exact cTextS_ok_noontideref16_Text _ hc
    · cases h
  exact SOk.nil
set_option maxRecDepth 100000 in
theorem cText19_top (F : Nat) (n : Int) (b : Int) (K : V → Option V) :
    evBd rE (evFn rE xCS F 2) F 38 [(V.agg [(V.int .i64 n), (V.int .i64 b)])] K =
    sel (ieq b 0)
      (sel (ieq b 0)
        (sel (ile 0 n)
          (sel (bnot (ile n 172800))
            (K (V.tup [(V.str []), (V.int .i64 4)]))
            (sel (band (ile (-9223372036854775808) n) (ile n 9223372036854775807))
              (sel (ieq b 0)
                (sel (okCat (txL n) [])
                  (K (V.tup [(V.str (scat (txL n) [])), (V.int .i64 (txW n))]))
                  (none))
                (sel (ieq b 1)
                  (sel (okCat (txL n) [115])
                    (K (V.tup [(V.str (scat (txL n) [115])), (V.int .i64 (txW n))]))
                    (none))
                  (sel (ieq b 2)
                    (sel (okCat (txL n) [117])
                      (K (V.tup [(V.str (scat (txL n) [117])), (V.int .i64 (txW n))]))
                      (none))
                    (none))))
              (none)))
          (K (V.tup [(V.str []), (V.int .i64 4)])))
        (K (V.tup [(V.str []), (V.int .i64 4)])))
      (sel (ieq b 1)
        (sel (ieq b 1)
          (sel (ile 0 n)
            (sel (bnot (ile n 172800))
              (K (V.tup [(V.str []), (V.int .i64 4)]))
              (sel (band (ile (-9223372036854775808) n) (ile n 9223372036854775807))
                (sel (ieq b 0)
                  (sel (okCat (txL n) [])
                    (K (V.tup [(V.str (scat (txL n) [])), (V.int .i64 (txW n))]))
                    (none))
                  (sel (ieq b 1)
                    (sel (okCat (txL n) [115])
                      (K (V.tup [(V.str (scat (txL n) [115])), (V.int .i64 (txW n))]))
                      (none))
                    (sel (ieq b 2)
                      (sel (okCat (txL n) [117])
                        (K (V.tup [(V.str (scat (txL n) [117])), (V.int .i64 (txW n))]))
                        (none))
                      (none))))
                (none)))
            (K (V.tup [(V.str []), (V.int .i64 4)])))
          (K (V.tup [(V.str []), (V.int .i64 4)])))
        (sel (ieq b 2)
          (sel (ile 0 n)
            (sel (bnot (ile n 172800))
              (K (V.tup [(V.str []), (V.int .i64 4)]))
              (sel (band (ile (-9223372036854775808) n) (ile n 9223372036854775807))
                (sel (ieq b 0)
                  (sel (okCat (txL n) [])
                    (K (V.tup [(V.str (scat (txL n) [])), (V.int .i64 (txW n))]))
                    (none))
                  (sel (ieq b 1)
                    (sel (okCat (txL n) [115])
                      (K (V.tup [(V.str (scat (txL n) [115])), (V.int .i64 (txW n))]))
                      (none))
                    (sel (ieq b 2)
                      (sel (okCat (txL n) [117])
                        (K (V.tup [(V.str (scat (txL n) [117])), (V.int .i64 (txW n))]))
                        (none))
                      (none))))
                (none)))
            (K (V.tup [(V.str []), (V.int .i64 4)])))
          (K (V.tup [(V.str []), (V.int .i64 4)])))) := by kernel_rfl
set_option maxRecDepth 100000 in
theorem rText19_top (F : Nat) (n : Int) (b : Int) (K : V → Option V) :
    evBd rE (evFn rE xCS F 2) F 52 [(V.agg [(V.int .i64 n), (V.int .i64 b)])] K =
    sel (ile 0 n)
      (sel (ile n 172800)
        (sel (ile 0 b)
          (sel (bnot (ile b 2))
            (K (V.tup [(V.str []), (V.int .i64 4)]))
            (sel (band (ile (-9223372036854775808) n) (ile n 9223372036854775807))
              (sel (band (ile 0 b) (ilt b (llen [(V.str []), (V.str [115]), (V.str [117])])))
                (sel (okCat (txL n) (asStr (acell (lget [(V.str []), (V.str [115]), (V.str [117])] b) 0)))
                  (K (V.tup [(V.str (scat (txL n) (asStr (acell (lget [(V.str []), (V.str [115]), (V.str [117])] b) 0)))), (V.int .i64 0)]))
                  (none))
                (none))
              (none)))
          (K (V.tup [(V.str []), (V.int .i64 4)])))
        (K (V.tup [(V.str []), (V.int .i64 4)])))
      (K (V.tup [(V.str []), (V.int .i64 4)])) := by kernel_rfl
theorem cText19_ev (n b : Int) : Contract rE 38 [.agg [.int .i64 n, .int .i64 b]] (.tup [.str (textC n b).1, .int .i64 (textC n b).2]) := by
  refine contract_of_body rE_ok xCS_ok 5 2 ?_
  rw [cText19_top]
  unfold textC
  by_cases hr : rightC n b = true
  · rw [if_pos hr]
    unfold rightC at hr
    have hr := of_decide_eq_true hr
    obtain ⟨h1, h2⟩ := tx_week n (by omega)
    have f1 : ile 0 n = true := ile_t (by omega)
    have f2 : ile n 172800 = true := ile_t (by omega)
    have f3 : band (ile (-9223372036854775808) n) (ile n 9223372036854775807) = true := by rw [band_iff, ile_iff, ile_iff]; omega
    have f4 : ∀ p : List UInt8, p.length ≤ 10 → okCat (txL n) p = true := fun p hp => by rw [okCat_iff]; omega
    have g0 := f4 [] (by decide)
    have g1 := f4 [115] (by decide)
    have g2 := f4 [117] (by decide)
    have hb : b = 0 ∨ b = 1 ∨ b = 2 := by omega
    rcases hb with rfl | rfl | rfl
    · simp only [f1, f2, f3, g0, g1, g2, h1]; rfl
    · simp only [f1, f2, f3, g0, g1, g2, h1]; rfl
    · simp only [f1, f2, f3, g0, g1, g2, h1]; rfl
  · rw [if_neg hr]
    unfold rightC at hr
    have hr : ¬ (0 ≤ n ∧ n ≤ 172800 ∧ 0 ≤ b ∧ b ≤ 2) := fun h => hr (decide_eq_true h)
    simp only [sel_if, ile_iff, ieq_iff, bnot_iff]
    repeat' split
    all_goals first | rfl | (exfalso; omega)
theorem rText19_ev (n b : Int) : Contract rE 52 [.agg [.int .i64 n, .int .i64 b]] (.tup [.str (textC n b).1, .int .i64 (textC n b).2]) := by
  refine contract_of_body rE_ok xCS_ok 5 2 ?_
  rw [rText19_top]
  unfold textC
  by_cases hr : rightC n b = true
  · rw [if_pos hr]
    unfold rightC at hr
    have hr := of_decide_eq_true hr
    obtain ⟨h1, h2⟩ := tx_week n (by omega)
    have f1 : ile 0 n = true := ile_t (by omega)
    have f2 : ile n 172800 = true := ile_t (by omega)
    have f3 : band (ile (-9223372036854775808) n) (ile n 9223372036854775807) = true := by rw [band_iff, ile_iff, ile_iff]; omega
    have f4 : ∀ p : List UInt8, p.length ≤ 10 → okCat (txL n) p = true := fun p hp => by rw [okCat_iff]; omega
    have g0 := f4 [] (by decide)
    have g1 := f4 [115] (by decide)
    have g2 := f4 [117] (by decide)
    have hb : b = 0 ∨ b = 1 ∨ b = 2 := by omega
    rcases hb with rfl | rfl | rfl
    · rw [show asStr (acell (lget [(V.str []), (V.str [115]), (V.str [117])] 0) 0) = [] from rfl]
      simp only [f1, f2, f3, g0, g1, g2, h1]; rfl
    · rw [show asStr (acell (lget [(V.str []), (V.str [115]), (V.str [117])] 1) 0) = [115] from rfl]
      simp only [f1, f2, f3, g0, g1, g2, h1]; rfl
    · rw [show asStr (acell (lget [(V.str []), (V.str [115]), (V.str [117])] 2) 0) = [117] from rfl]
      simp only [f1, f2, f3, g0, g1, g2, h1]; rfl
  · rw [if_neg hr]
    unfold rightC at hr
    have hr : ¬ (0 ≤ n ∧ n ≤ 172800 ∧ 0 ≤ b ∧ b ≤ 2) := fun h => hr (decide_eq_true h)
    simp only [sel_if, ile_iff, ieq_iff, bnot_iff]
    repeat' split
    all_goals first | rfl | (exfalso; omega)
end Nt.Ev.YtjkfndcpiihniaaGreatDoor.Rx

namespace Nt.Ev.YtjkfndcpiihniaaGreatDoor.Rx
set_option maxRecDepth 100000
open Go Nt.Num Go.Proofs.YtjkfndcpiihniaaGreatDoor
variable [MLen]
open Nt.Ev.YtjkfndcpiihniaaGreatDoor
open Nt.Civil
open Nt.Fld
noncomputable def yErS : FSpec := fun a => match a with | [.agg [.int .i64 o, .int .i64 k, .int .i64 v, .str r, .str q, .bool h, .int .i64 y, .int .i64 m, .int .i64 ok, .int .i64 ow, .int .i64 od, .int .i64 c, .int .i64 b]] => some (band (ile (slen r) 900) (ile (slen q) 900), .bool (erR o k v r q h y m ok ow od c b)) | _ => none
noncomputable def yLtS : FSpec := fun a => match a with | [.str s] => some (ile (slen s) 900, .tup [.str (ltT s), .int .i64 (ltW s)]) | _ => none
noncomputable def yFxS : FSpec := fun a => match a with | [.int .i64 n] => some (true, .tup [.str (fxT n), .int .i64 (fxW n)]) | _ => none
noncomputable def yTxS : FSpec := fun a => match a with | [.int .i64 m, .int .i64 n] => some (true, .tup [.str (txTy m n), .int .i64 (txWy m n)]) | _ => none
noncomputable def yDtS : FSpec := fun a => match a with | [.agg [.int .i64 k, .int .i64 w, .int .i64 d]] => some (true, .tup [.str (dsTx k w d), .int .i64 (dsTe k w d)]) | _ => none
noncomputable def yCtS : FSpec := fun a => match a with | [.agg [.int .i64 n, .int .i64 b]] => some (true, .tup [.str (tcT n b), .int .i64 (tcW n b)]) | _ => none
noncomputable def yAtS : FSpec := fun a => match a with | [.int .i64 n] => some (band (ile (-9223372036854775808) n) (ile n 9223372036854775807), .tup [.str (amT n), .int .i64 (amE n)]) | _ => none
noncomputable def yMtS : FSpec := fun a => match a with | [.int .i64 n] => some (band (ile (-9223372036854775808) n) (ile n 9223372036854775807), .str (moT n)) | _ => none
noncomputable def yNtS : FSpec := fun a => match a with | [.int .i64 n] => some (band (ile (-9223372036854775808) n) (ile n 9223372036854775807), .str (text n)) | _ => none
noncomputable def yRrS : FSpec := fun a => match a with | [.agg [.str n, .int .i64 f, .int .i64 t, .int .i64 m, .int .i64 k, .int .i64 w, .int .i64 d, .int .i64 c, .int .i64 b, .int .i64 v, .str l]] => some (ile (slen l) 900, .bool (ruR n f t m k w d c b v l)) | _ => none
noncomputable def yS0 : List (Nat × FSpec) := (74, yErS) :: (57, yErS) :: (34, yRrS) :: (24, yRrS) :: (40, yLtS) :: (54, yLtS) :: (35, yFxS) :: (49, yFxS) :: (36, yTxS) :: (50, yTxS) :: (37, yDtS) :: (51, yDtS) :: (38, yCtS) :: (52, yCtS) :: (39, yAtS) :: (53, yAtS) :: (41, yMtS) :: (55, yMtS) :: (65, yNtS) :: (58, yNtS) :: []
noncomputable def yChS : FSpec := fun a => match a with | [.str s] => some (ile (slen s) 900, .int .i64 (ckW s)) | _ => none
noncomputable def yNmS : FSpec := fun a => match a with | [.str s] => some (true, .int .i64 (nmI s)) | _ => none
noncomputable def yFtS : FSpec := fun a => match a with | [.agg [.int .i64 k, .int .i64 w, .int .i64 d], .int .i64 m] => some (true, .bool (ftB k w d m)) | _ => none
noncomputable def yCrS : FSpec := fun a => match a with | [.agg [.int .i64 n, .int .i64 b]] => some (true, .bool (rightC n b)) | _ => none
noncomputable def yS9 : List (Nat × FSpec) := (85, yChS) :: (46, yNmS) :: (25, yNmS) :: (61, yFtS) :: (59, yFtS) :: (62, yCrS) :: (60, yCrS) :: []
theorem yER22_top (F : Nat) (o : Int) (k : Int) (v : Int) (r : List UInt8) (q : List UInt8) (h : Bool) (y : Int) (m : Int) (ok : Int) (ow : Int) (od : Int) (c : Int) (b : Int) (K : V → Option V) :
 evBd rE (evFn rE yS9 F 3) F 57 [(V.agg [(V.int .i64 o), (V.int .i64 k), (V.int .i64 v), (V.str r), (V.str q), (V.bool h), (V.int .i64 y), (V.int .i64 m), (V.int .i64 ok), (V.int .i64 ow), (V.int .i64 od), (V.int .i64 c), (V.int .i64 b)])] K =
 sel (ilt o (-54000))
 (K (V.bool false))
 (sel (ilt 54000 o)
 (K (V.bool false))
 (sel (ile (slen q) 900)
 (sel (bnot (ieq (ckW q) 0))
 (K (V.bool false))
 (sel (bnot h)
 (sel (bnot (band (beq h false) (band (ieq y 0) (band (ieq m 0) (band (band (ieq ok 0) (band (ieq ow 0) (ieq od 0))) (band (ieq c 0) (ieq b 0)))))))
 (K (V.bool false))
 (sel (ieq k 0)
 (sel (ieq v 0)
 (K (V.bool (seq r [])))
 (K (V.bool false)))
 (sel (ieq k 1)
 (sel (ile (-10800) v)
 (sel (ile v 10800)
 (K (V.bool (seq r [])))
 (K (V.bool false)))
 (K (V.bool false)))
 (sel (ieq k 2)
 (sel (ieq v 0)
 (K (V.bool (ieq (nmI r) 0)))
 (K (V.bool false)))
 (K (V.bool false))))))
 (sel (ilt (-32767) y)
 (sel (ilt y 32767)
 (sel (ftB ok ow od m)
 (sel (bnot (rightC c b))
 (K (V.bool false))
 (sel (ieq k 0)
 (sel (ieq v 0)
 (K (V.bool (seq r [])))
 (K (V.bool false)))
 (sel (ieq k 1)
 (sel (ile (-10800) v)
 (sel (ile v 10800)
 (K (V.bool (seq r [])))
 (K (V.bool false)))
 (K (V.bool false)))
 (sel (ieq k 2)
 (sel (ieq v 0)
 (K (V.bool (ieq (nmI r) 0)))
 (K (V.bool false)))
 (K (V.bool false))))))
 (K (V.bool false)))
 (K (V.bool false)))
 (K (V.bool false)))))
 (none))) := by kernel_rfl
theorem yRF_top (F : Nat) (n : List UInt8) (f : Int) (t : Int) (m : Int) (k : Int) (w : Int) (d : Int) (c : Int) (b : Int) (v : Int) (l : List UInt8) (K : V → Option V) :
 evBd rE (evFn rE yS0 F 2) F 15 [(V.agg [(V.str n), (V.int .i64 f), (V.int .i64 t), (V.int .i64 m), (V.int .i64 k), (V.int .i64 w), (V.int .i64 d), (V.int .i64 c), (V.int .i64 b), (V.int .i64 v), (V.str l)])] K =
 sel (ile (slen l) 900)
 (sel (bnot (ruR n f t m k w d c b v l))
 (K (V.tup [(V.sl 9 [(Kd.str)] (some 0) []), (V.int .i64 4)]))
 (sel (band (ile (-9223372036854775808) v) (ile v 9223372036854775807))
 (sel (ile (slen l) 900)
 (sel (band (ile (-9223372036854775808) m) (ile m 9223372036854775807))
 (K (V.tup [(V.sl 9 [(Kd.str)] (some 0) [(V.str n), (V.str (fxT f)), (V.str (txTy f t)), (V.str [45]), (V.str (moT m)), (V.str (dsTx k w d)), (V.str (tcT c b)), (V.str (amT v)), (V.str (ltT l))]), (V.int .i64 0)]))
 (none))
 (none))
 (none)))
 (none) := by kernel_rfl
theorem yRF21_top (F : Nat) (n : List UInt8) (f : Int) (t : Int) (m : Int) (k : Int) (w : Int) (d : Int) (c : Int) (b : Int) (v : Int) (l : List UInt8) (K : V → Option V) :
 evBd rE (evFn rE yS0 F 2) F 20 [(V.agg [(V.str n), (V.int .i64 f), (V.int .i64 t), (V.int .i64 m), (V.int .i64 k), (V.int .i64 w), (V.int .i64 d), (V.int .i64 c), (V.int .i64 b), (V.int .i64 v), (V.str l)])] K =
 sel (ile (slen l) 900)
 (sel (bnot (ruR n f t m k w d c b v l))
 (K (V.tup [(V.sl 9 [(Kd.str)] (some 0) []), (V.int .i64 4)]))
 (sel (band (ile (-9223372036854775808) v) (ile v 9223372036854775807))
 (sel (ile (slen l) 900)
 (sel (band (ile (-9223372036854775808) m) (ile m 9223372036854775807))
 (K (V.tup [(V.sl 9 [(Kd.str)] (some 0) [(V.str n), (V.str (fxT f)), (V.str (txTy f t)), (V.str [45]), (V.str (moT m)), (V.str (dsTx k w d)), (V.str (tcT c b)), (V.str (amT v)), (V.str (ltT l))]), (V.int .i64 0)]))
 (none))
 (none))
 (none)))
 (none) := by kernel_rfl
theorem yEF_u9_top (o : Int) (k : Int) (v : Int) (r : List UInt8) (q : List UInt8) (h : Bool) (y : Int) (m : Int) (ok : Int) (ow : Int) (od : Int) (c : Int) (b : Int) (K : V → Option V) :
 evBd rE (evFn rE yS0 9 2) 9 47 [(V.agg [(V.int .i64 o), (V.int .i64 k), (V.int .i64 v), (V.str r), (V.str q), (V.bool h), (V.int .i64 y), (V.int .i64 m), (V.int .i64 ok), (V.int .i64 ow), (V.int .i64 od), (V.int .i64 c), (V.int .i64 b)])] K =
 sel (band (ile (slen r) 900) (ile (slen q) 900))
 (sel (bnot (erR o k v r q h y m ok ow od c b))
 (K (V.tup [(V.sl 9 [(Kd.str)] (some 0) []), (V.int .i64 4)]))
 (sel (band (ile (-9223372036854775808) o) (ile o 9223372036854775807))
 (sel (band (ile (-9223372036854775808) v) (ile v 9223372036854775807))
 (sel (ieq k 0)
 (sel (bnot h)
 (K (V.tup [(V.sl 9 [(Kd.str)] (some 0) [(V.str (amT o)), (V.str [45]), (V.str q)]), (V.int .i64 0)]))
 (sel (band (ile (-9223372036854775808) y) (ile y 9223372036854775807))
 (sel (band (ile (-9223372036854775808) m) (ile m 9223372036854775807))
 (sel (okApp [(V.str (amT o)), (V.str [45]), (V.str q)] [(V.str (text y)), (V.str (moT m)), (V.str (dsTx ok ow od)), (V.str (tcT c b))])
 (sel (bnot (band (ieq c 0) (ieq b 0)))
 (K (V.tup [(V.sl 9 [(Kd.str)] (some 0) [(V.str (amT o)), (V.str [45]), (V.str q), (V.str (text y)), (V.str (moT m)), (V.str (dsTx ok ow od)), (V.str (tcT c b))]), (V.int .i64 0)]))
 (sel (bnot (band (ieq ok 0) (band (ieq ow 0) (ieq od 1))))
 (K (V.tup [(V.sl 9 [(Kd.str)] none [(V.str (amT o)), (V.str [45]), (V.str q), (V.str (text y)), (V.str (moT m)), (V.str (dsTx ok ow od))]), (V.int .i64 0)]))
 (sel (bnot (ieq m 1))
 (K (V.tup [(V.sl 9 [(Kd.str)] none [(V.str (amT o)), (V.str [45]), (V.str q), (V.str (text y)), (V.str (moT m))]), (V.int .i64 0)]))
 (K (V.tup [(V.sl 9 [(Kd.str)] none [(V.str (amT o)), (V.str [45]), (V.str q), (V.str (text y))]), (V.int .i64 0)])))))
 (none))
 (none))
 (none)))
 (sel (ieq k 1)
 (sel (bnot h)
 (K (V.tup [(V.sl 9 [(Kd.str)] (some 0) [(V.str (amT o)), (V.str (amT v)), (V.str q)]), (V.int .i64 0)]))
 (sel (band (ile (-9223372036854775808) y) (ile y 9223372036854775807))
 (sel (band (ile (-9223372036854775808) m) (ile m 9223372036854775807))
 (sel (okApp [(V.str (amT o)), (V.str (amT v)), (V.str q)] [(V.str (text y)), (V.str (moT m)), (V.str (dsTx ok ow od)), (V.str (tcT c b))])
 (sel (bnot (band (ieq c 0) (ieq b 0)))
 (K (V.tup [(V.sl 9 [(Kd.str)] (some 0) [(V.str (amT o)), (V.str (amT v)), (V.str q), (V.str (text y)), (V.str (moT m)), (V.str (dsTx ok ow od)), (V.str (tcT c b))]), (V.int .i64 0)]))
 (sel (bnot (band (ieq ok 0) (band (ieq ow 0) (ieq od 1))))
 (K (V.tup [(V.sl 9 [(Kd.str)] none [(V.str (amT o)), (V.str (amT v)), (V.str q), (V.str (text y)), (V.str (moT m)), (V.str (dsTx ok ow od))]), (V.int .i64 0)]))
 (sel (bnot (ieq m 1))
 (K (V.tup [(V.sl 9 [(Kd.str)] none [(V.str (amT o)), (V.str (amT v)), (V.str q), (V.str (text y)), (V.str (moT m))]), (V.int .i64 0)]))
 (K (V.tup [(V.sl 9 [(Kd.str)] none [(V.str (amT o)), (V.str (amT v)), (V.str q), (V.str (text y))]), (V.int .i64 0)])))))
 (none))
 (none))
 (none)))
 (sel (ieq k 2)
 (sel (bnot h)
 (K (V.tup [(V.sl 9 [(Kd.str)] (some 0) [(V.str (amT o)), (V.str r), (V.str q)]), (V.int .i64 0)]))
 (sel (band (ile (-9223372036854775808) y) (ile y 9223372036854775807))
 (sel (band (ile (-9223372036854775808) m) (ile m 9223372036854775807))
 (sel (okApp [(V.str (amT o)), (V.str r), (V.str q)] [(V.str (text y)), (V.str (moT m)), (V.str (dsTx ok ow od)), (V.str (tcT c b))])
 (sel (bnot (band (ieq c 0) (ieq b 0)))
 (K (V.tup [(V.sl 9 [(Kd.str)] (some 0) [(V.str (amT o)), (V.str r), (V.str q), (V.str (text y)), (V.str (moT m)), (V.str (dsTx ok ow od)), (V.str (tcT c b))]), (V.int .i64 0)]))
 (sel (bnot (band (ieq ok 0) (band (ieq ow 0) (ieq od 1))))
 (K (V.tup [(V.sl 9 [(Kd.str)] none [(V.str (amT o)), (V.str r), (V.str q), (V.str (text y)), (V.str (moT m)), (V.str (dsTx ok ow od))]), (V.int .i64 0)]))
 (sel (bnot (ieq m 1))
 (K (V.tup [(V.sl 9 [(Kd.str)] none [(V.str (amT o)), (V.str r), (V.str q), (V.str (text y)), (V.str (moT m))]), (V.int .i64 0)]))
 (K (V.tup [(V.sl 9 [(Kd.str)] none [(V.str (amT o)), (V.str r), (V.str q), (V.str (text y))]), (V.int .i64 0)])))))
 (none))
 (none))
 (none)))
 (none))))
 (none))
 (none)))
 (none) := by kernel_rfl
theorem yEF22_u8_top (o : Int) (k : Int) (v : Int) (r : List UInt8) (q : List UInt8) (h : Bool) (y : Int) (m : Int) (ok : Int) (ow : Int) (od : Int) (c : Int) (b : Int) (K : V → Option V) :
 evBd rE (evFn rE yS0 8 2) 8 22 [(V.agg [(V.int .i64 o), (V.int .i64 k), (V.int .i64 v), (V.str r), (V.str q), (V.bool h), (V.int .i64 y), (V.int .i64 m), (V.int .i64 ok), (V.int .i64 ow), (V.int .i64 od), (V.int .i64 c), (V.int .i64 b)])] K =
 sel (band (ile (slen r) 900) (ile (slen q) 900))
 (sel (bnot (erR o k v r q h y m ok ow od c b))
 (K (V.tup [(V.sl 9 [(Kd.str)] (some 0) []), (V.int .i64 4)]))
 (sel (band (ile (-9223372036854775808) o) (ile o 9223372036854775807))
 (sel (band (ile (-9223372036854775808) v) (ile v 9223372036854775807))
 (sel (band (ile 0 k) (ilt k 3))
 (sel (bnot h)
 (K (V.tup [(V.sl 9 [(Kd.str)] (some 0) [(V.str (amT o)), (V.str (asStr (acell (lget [(V.str [45]), (V.str (amT v)), (V.str r)] k) 0))), (V.str q)]), (V.int .i64 0)]))
 (sel (band (ile (-9223372036854775808) y) (ile y 9223372036854775807))
 (sel (okApp [(V.str (amT o)), (V.str (asStr (acell (lget [(V.str [45]), (V.str (amT v)), (V.str r)] k) 0))), (V.str q)] [(V.str (text y))])
 (sel (bnot (ieq m 1))
 (sel (band (ile (-9223372036854775808) m) (ile m 9223372036854775807))
 (sel (okApp [(V.str (amT o)), (V.str (asStr (acell (lget [(V.str [45]), (V.str (amT v)), (V.str r)] k) 0))), (V.str q), (V.str (text y))] [(V.str (moT m))])
 (sel (bnot (band (ieq ok 0) (band (ieq ow 0) (ieq od 1))))
 (sel (okApp [(V.str (amT o)), (V.str (asStr (acell (lget [(V.str [45]), (V.str (amT v)), (V.str r)] k) 0))), (V.str q), (V.str (text y)), (V.str (moT m))] [(V.str (dsTx ok ow od))])
 (sel (bnot (band (ieq c 0) (ieq b 0)))
 (sel (okApp [(V.str (amT o)), (V.str (asStr (acell (lget [(V.str [45]), (V.str (amT v)), (V.str r)] k) 0))), (V.str q), (V.str (text y)), (V.str (moT m)), (V.str (dsTx ok ow od))] [(V.str (tcT c b))])
 (K (V.tup [(V.sl 9 [(Kd.str)] (some 0) [(V.str (amT o)), (V.str (asStr (acell (lget [(V.str [45]), (V.str (amT v)), (V.str r)] k) 0))), (V.str q), (V.str (text y)), (V.str (moT m)), (V.str (dsTx ok ow od)), (V.str (tcT c b))]), (V.int .i64 0)]))
 (none))
 (K (V.tup [(V.sl 9 [(Kd.str)] (some 0) [(V.str (amT o)), (V.str (asStr (acell (lget [(V.str [45]), (V.str (amT v)), (V.str r)] k) 0))), (V.str q), (V.str (text y)), (V.str (moT m)), (V.str (dsTx ok ow od))]), (V.int .i64 0)])))
 (none))
 (sel (bnot (band (ieq c 0) (ieq b 0)))
 (sel (okApp [(V.str (amT o)), (V.str (asStr (acell (lget [(V.str [45]), (V.str (amT v)), (V.str r)] k) 0))), (V.str q), (V.str (text y)), (V.str (moT m))] [(V.str (dsTx ok ow od))])
 (sel (bnot (band (ieq c 0) (ieq b 0)))
 (sel (okApp [(V.str (amT o)), (V.str (asStr (acell (lget [(V.str [45]), (V.str (amT v)), (V.str r)] k) 0))), (V.str q), (V.str (text y)), (V.str (moT m)), (V.str (dsTx ok ow od))] [(V.str (tcT c b))])
 (K (V.tup [(V.sl 9 [(Kd.str)] (some 0) [(V.str (amT o)), (V.str (asStr (acell (lget [(V.str [45]), (V.str (amT v)), (V.str r)] k) 0))), (V.str q), (V.str (text y)), (V.str (moT m)), (V.str (dsTx ok ow od)), (V.str (tcT c b))]), (V.int .i64 0)]))
 (none))
 (K (V.tup [(V.sl 9 [(Kd.str)] (some 0) [(V.str (amT o)), (V.str (asStr (acell (lget [(V.str [45]), (V.str (amT v)), (V.str r)] k) 0))), (V.str q), (V.str (text y)), (V.str (moT m)), (V.str (dsTx ok ow od))]), (V.int .i64 0)])))
 (none))
 (sel (bnot (band (ieq c 0) (ieq b 0)))
 (sel (okApp [(V.str (amT o)), (V.str (asStr (acell (lget [(V.str [45]), (V.str (amT v)), (V.str r)] k) 0))), (V.str q), (V.str (text y)), (V.str (moT m))] [(V.str (tcT c b))])
 (K (V.tup [(V.sl 9 [(Kd.str)] (some 0) [(V.str (amT o)), (V.str (asStr (acell (lget [(V.str [45]), (V.str (amT v)), (V.str r)] k) 0))), (V.str q), (V.str (text y)), (V.str (moT m)), (V.str (tcT c b))]), (V.int .i64 0)]))
 (none))
 (K (V.tup [(V.sl 9 [(Kd.str)] (some 0) [(V.str (amT o)), (V.str (asStr (acell (lget [(V.str [45]), (V.str (amT v)), (V.str r)] k) 0))), (V.str q), (V.str (text y)), (V.str (moT m))]), (V.int .i64 0)])))))
 (none))
 (none))
 (sel (bnot (band (ieq ok 0) (band (ieq ow 0) (ieq od 1))))
 (sel (band (ile (-9223372036854775808) m) (ile m 9223372036854775807))
 (sel (okApp [(V.str (amT o)), (V.str (asStr (acell (lget [(V.str [45]), (V.str (amT v)), (V.str r)] k) 0))), (V.str q), (V.str (text y))] [(V.str (moT m))])
 (sel (bnot (band (ieq ok 0) (band (ieq ow 0) (ieq od 1))))
 (sel (okApp [(V.str (amT o)), (V.str (asStr (acell (lget [(V.str [45]), (V.str (amT v)), (V.str r)] k) 0))), (V.str q), (V.str (text y)), (V.str (moT m))] [(V.str (dsTx ok ow od))])
 (sel (bnot (band (ieq c 0) (ieq b 0)))
 (sel (okApp [(V.str (amT o)), (V.str (asStr (acell (lget [(V.str [45]), (V.str (amT v)), (V.str r)] k) 0))), (V.str q), (V.str (text y)), (V.str (moT m)), (V.str (dsTx ok ow od))] [(V.str (tcT c b))])
 (K (V.tup [(V.sl 9 [(Kd.str)] (some 0) [(V.str (amT o)), (V.str (asStr (acell (lget [(V.str [45]), (V.str (amT v)), (V.str r)] k) 0))), (V.str q), (V.str (text y)), (V.str (moT m)), (V.str (dsTx ok ow od)), (V.str (tcT c b))]), (V.int .i64 0)]))
 (none))
 (K (V.tup [(V.sl 9 [(Kd.str)] (some 0) [(V.str (amT o)), (V.str (asStr (acell (lget [(V.str [45]), (V.str (amT v)), (V.str r)] k) 0))), (V.str q), (V.str (text y)), (V.str (moT m)), (V.str (dsTx ok ow od))]), (V.int .i64 0)])))
 (none))
 (sel (bnot (band (ieq c 0) (ieq b 0)))
 (sel (okApp [(V.str (amT o)), (V.str (asStr (acell (lget [(V.str [45]), (V.str (amT v)), (V.str r)] k) 0))), (V.str q), (V.str (text y)), (V.str (moT m))] [(V.str (dsTx ok ow od))])
 (sel (bnot (band (ieq c 0) (ieq b 0)))
 (sel (okApp [(V.str (amT o)), (V.str (asStr (acell (lget [(V.str [45]), (V.str (amT v)), (V.str r)] k) 0))), (V.str q), (V.str (text y)), (V.str (moT m)), (V.str (dsTx ok ow od))] [(V.str (tcT c b))])
 (K (V.tup [(V.sl 9 [(Kd.str)] (some 0) [(V.str (amT o)), (V.str (asStr (acell (lget [(V.str [45]), (V.str (amT v)), (V.str r)] k) 0))), (V.str q), (V.str (text y)), (V.str (moT m)), (V.str (dsTx ok ow od)), (V.str (tcT c b))]), (V.int .i64 0)]))
 (none))
 (K (V.tup [(V.sl 9 [(Kd.str)] (some 0) [(V.str (amT o)), (V.str (asStr (acell (lget [(V.str [45]), (V.str (amT v)), (V.str r)] k) 0))), (V.str q), (V.str (text y)), (V.str (moT m)), (V.str (dsTx ok ow od))]), (V.int .i64 0)])))
 (none))
 (sel (bnot (band (ieq c 0) (ieq b 0)))
 (sel (okApp [(V.str (amT o)), (V.str (asStr (acell (lget [(V.str [45]), (V.str (amT v)), (V.str r)] k) 0))), (V.str q), (V.str (text y)), (V.str (moT m))] [(V.str (tcT c b))])
 (K (V.tup [(V.sl 9 [(Kd.str)] (some 0) [(V.str (amT o)), (V.str (asStr (acell (lget [(V.str [45]), (V.str (amT v)), (V.str r)] k) 0))), (V.str q), (V.str (text y)), (V.str (moT m)), (V.str (tcT c b))]), (V.int .i64 0)]))
 (none))
 (K (V.tup [(V.sl 9 [(Kd.str)] (some 0) [(V.str (amT o)), (V.str (asStr (acell (lget [(V.str [45]), (V.str (amT v)), (V.str r)] k) 0))), (V.str q), (V.str (text y)), (V.str (moT m))]), (V.int .i64 0)])))))
 (none))
 (none))
 (sel (bnot (band (ieq c 0) (ieq b 0)))
 (sel (band (ile (-9223372036854775808) m) (ile m 9223372036854775807))
 (sel (okApp [(V.str (amT o)), (V.str (asStr (acell (lget [(V.str [45]), (V.str (amT v)), (V.str r)] k) 0))), (V.str q), (V.str (text y))] [(V.str (moT m))])
 (sel (bnot (band (ieq ok 0) (band (ieq ow 0) (ieq od 1))))
 (sel (okApp [(V.str (amT o)), (V.str (asStr (acell (lget [(V.str [45]), (V.str (amT v)), (V.str r)] k) 0))), (V.str q), (V.str (text y)), (V.str (moT m))] [(V.str (dsTx ok ow od))])
 (sel (bnot (band (ieq c 0) (ieq b 0)))
 (sel (okApp [(V.str (amT o)), (V.str (asStr (acell (lget [(V.str [45]), (V.str (amT v)), (V.str r)] k) 0))), (V.str q), (V.str (text y)), (V.str (moT m)), (V.str (dsTx ok ow od))] [(V.str (tcT c b))])
 (K (V.tup [(V.sl 9 [(Kd.str)] (some 0) [(V.str (amT o)), (V.str (asStr (acell (lget [(V.str [45]), (V.str (amT v)), (V.str r)] k) 0))), (V.str q), (V.str (text y)), (V.str (moT m)), (V.str (dsTx ok ow od)), (V.str (tcT c b))]), (V.int .i64 0)]))
 (none))
 (K (V.tup [(V.sl 9 [(Kd.str)] (some 0) [(V.str (amT o)), (V.str (asStr (acell (lget [(V.str [45]), (V.str (amT v)), (V.str r)] k) 0))), (V.str q), (V.str (text y)), (V.str (moT m)), (V.str (dsTx ok ow od))]), (V.int .i64 0)])))
 (none))
 (sel (bnot (band (ieq c 0) (ieq b 0)))
 (sel (okApp [(V.str (amT o)), (V.str (asStr (acell (lget [(V.str [45]), (V.str (amT v)), (V.str r)] k) 0))), (V.str q), (V.str (text y)), (V.str (moT m))] [(V.str (dsTx ok ow od))])
 (sel (bnot (band (ieq c 0) (ieq b 0)))
 (sel (okApp [(V.str (amT o)), (V.str (asStr (acell (lget [(V.str [45]), (V.str (amT v)), (V.str r)] k) 0))), (V.str q), (V.str (text y)), (V.str (moT m)), (V.str (dsTx ok ow od))] [(V.str (tcT c b))])
 (K (V.tup [(V.sl 9 [(Kd.str)] (some 0) [(V.str (amT o)), (V.str (asStr (acell (lget [(V.str [45]), (V.str (amT v)), (V.str r)] k) 0))), (V.str q), (V.str (text y)), (V.str (moT m)), (V.str (dsTx ok ow od)), (V.str (tcT c b))]), (V.int .i64 0)]))
 (none))
 (K (V.tup [(V.sl 9 [(Kd.str)] (some 0) [(V.str (amT o)), (V.str (asStr (acell (lget [(V.str [45]), (V.str (amT v)), (V.str r)] k) 0))), (V.str q), (V.str (text y)), (V.str (moT m)), (V.str (dsTx ok ow od))]), (V.int .i64 0)])))
 (none))
 (sel (bnot (band (ieq c 0) (ieq b 0)))
 (sel (okApp [(V.str (amT o)), (V.str (asStr (acell (lget [(V.str [45]), (V.str (amT v)), (V.str r)] k) 0))), (V.str q), (V.str (text y)), (V.str (moT m))] [(V.str (tcT c b))])
 (K (V.tup [(V.sl 9 [(Kd.str)] (some 0) [(V.str (amT o)), (V.str (asStr (acell (lget [(V.str [45]), (V.str (amT v)), (V.str r)] k) 0))), (V.str q), (V.str (text y)), (V.str (moT m)), (V.str (tcT c b))]), (V.int .i64 0)]))
 (none))
 (K (V.tup [(V.sl 9 [(Kd.str)] (some 0) [(V.str (amT o)), (V.str (asStr (acell (lget [(V.str [45]), (V.str (amT v)), (V.str r)] k) 0))), (V.str q), (V.str (text y)), (V.str (moT m))]), (V.int .i64 0)])))))
 (none))
 (none))
 (sel (bnot (band (ieq ok 0) (band (ieq ow 0) (ieq od 1))))
 (sel (okApp [(V.str (amT o)), (V.str (asStr (acell (lget [(V.str [45]), (V.str (amT v)), (V.str r)] k) 0))), (V.str q), (V.str (text y))] [(V.str (dsTx ok ow od))])
 (sel (bnot (band (ieq c 0) (ieq b 0)))
 (sel (okApp [(V.str (amT o)), (V.str (asStr (acell (lget [(V.str [45]), (V.str (amT v)), (V.str r)] k) 0))), (V.str q), (V.str (text y)), (V.str (dsTx ok ow od))] [(V.str (tcT c b))])
 (K (V.tup [(V.sl 9 [(Kd.str)] (some 0) [(V.str (amT o)), (V.str (asStr (acell (lget [(V.str [45]), (V.str (amT v)), (V.str r)] k) 0))), (V.str q), (V.str (text y)), (V.str (dsTx ok ow od)), (V.str (tcT c b))]), (V.int .i64 0)]))
 (none))
 (K (V.tup [(V.sl 9 [(Kd.str)] (some 0) [(V.str (amT o)), (V.str (asStr (acell (lget [(V.str [45]), (V.str (amT v)), (V.str r)] k) 0))), (V.str q), (V.str (text y)), (V.str (dsTx ok ow od))]), (V.int .i64 0)])))
 (none))
 (sel (bnot (band (ieq c 0) (ieq b 0)))
 (sel (okApp [(V.str (amT o)), (V.str (asStr (acell (lget [(V.str [45]), (V.str (amT v)), (V.str r)] k) 0))), (V.str q), (V.str (text y))] [(V.str (dsTx ok ow od))])
 (sel (bnot (band (ieq c 0) (ieq b 0)))
 (sel (okApp [(V.str (amT o)), (V.str (asStr (acell (lget [(V.str [45]), (V.str (amT v)), (V.str r)] k) 0))), (V.str q), (V.str (text y)), (V.str (dsTx ok ow od))] [(V.str (tcT c b))])
 (K (V.tup [(V.sl 9 [(Kd.str)] (some 0) [(V.str (amT o)), (V.str (asStr (acell (lget [(V.str [45]), (V.str (amT v)), (V.str r)] k) 0))), (V.str q), (V.str (text y)), (V.str (dsTx ok ow od)), (V.str (tcT c b))]), (V.int .i64 0)]))
 (none))
 (K (V.tup [(V.sl 9 [(Kd.str)] (some 0) [(V.str (amT o)), (V.str (asStr (acell (lget [(V.str [45]), (V.str (amT v)), (V.str r)] k) 0))), (V.str q), (V.str (text y)), (V.str (dsTx ok ow od))]), (V.int .i64 0)])))
 (none))
 (sel (bnot (band (ieq c 0) (ieq b 0)))
 (sel (okApp [(V.str (amT o)), (V.str (asStr (acell (lget [(V.str [45]), (V.str (amT v)), (V.str r)] k) 0))), (V.str q), (V.str (text y))] [(V.str (tcT c b))])
 (K (V.tup [(V.sl 9 [(Kd.str)] (some 0) [(V.str (amT o)), (V.str (asStr (acell (lget [(V.str [45]), (V.str (amT v)), (V.str r)] k) 0))), (V.str q), (V.str (text y)), (V.str (tcT c b))]), (V.int .i64 0)]))
 (none))
 (K (V.tup [(V.sl 9 [(Kd.str)] (some 0) [(V.str (amT o)), (V.str (asStr (acell (lget [(V.str [45]), (V.str (amT v)), (V.str r)] k) 0))), (V.str q), (V.str (text y))]), (V.int .i64 0)]))))))))
 (none))
 (none)))
 (none))
 (none))
 (none)))
 (none) := by kernel_rfl
end Nt.Ev.YtjkfndcpiihniaaGreatDoor.Rx

namespace Nt.Ev.YtjkfndcpiihniaaGreatDoor.Rx
set_option maxRecDepth 100000
open Go Go.RowKit Nt Nt.Num Nt.Civil Go.Proofs.YtjkfndcpiihniaaGreatDoor Nt.Ev.YtjkfndcpiihniaaGreatDoor
variable [MLen]
theorem nmF_eq : ∀ (s : List UInt8) (k : Nat), Nm.nmF k s = Nt.Ev.YtjkfndcpiihniaaGreatDoor.nmF k s
  | [], _ => rfl
  | c :: t, k => by
    show (Nm.nmC k c && Nm.nmF (k + 1) t) = (Nt.Ev.YtjkfndcpiihniaaGreatDoor.nmC k c && Nt.Ev.YtjkfndcpiihniaaGreatDoor.nmF (k + 1) t)
    rw [nmF_eq t (k + 1)]; rfl
theorem nm_eq (s : List UInt8) : Nm.nmI s = Nt.Ev.YtjkfndcpiihniaaGreatDoor.nmI s := by
  unfold Nm.nmI Nt.Ev.YtjkfndcpiihniaaGreatDoor.nmI
  rw [nmF_eq]
theorem ru_eq (n : List UInt8) (f t m k w d c b v : Int) (l : List UInt8) : Rl.ruP n f t m k w d c b v l = ruR n f t m k w d c b v l := by
  show (ieq (Nm.nmI n) 0 && _) = (ieq (Nt.Ev.YtjkfndcpiihniaaGreatDoor.nmI n) 0 && _)
  rw [nm_eq]; rfl
theorem er_eq (o k v : Int) (r q : List UInt8) (h : Bool) (y m ok ow od c b : Int) : Un.erP o k v r q h y m ok ow od c b = erR o k v r q h y m ok ow od c b := by
  unfold Un.erP erR
  show (ile (-54000) o && (ile o 54000 && (ieq (ckW q) 0 && (Un.enP h y m ok ow od c b && sel (ieq k 0) (ieq v 0 && seq r []) (sel (ieq k 1) (ile (-10800) v && (ile v 10800 && seq r [])) (sel (ieq k 2) (ieq v 0 && ieq (Nm.nmI r) 0) false)))))) = _
  rw [nm_eq]; rfl
theorem l9 {s : List UInt8} (h : ile (slen s) 900 = true) : s.length ≤ 900 := by rw [ile_iff, slen_nat] at h; omega
theorem l10 {s : List UInt8} (h : ile (slen s) 900 = true) : ile (slen s) 1000 = true := by have := l9 h; rw [ile_iff, slen_nat]; omega
theorem fz {m : Int} (h : band (ile (-9223372036854775808) m) (ile m 9223372036854775807) = true) : Fits m := by rw [band_iff, ile_iff, ile_iff] at h; exact h
theorem yChS_ok_noontideref20_Check (s : List UInt8) (hc : ile (slen s) 900 = true) : Contract rE 85 [.str s] (.int .i64 (ckW s)) := rF (checkS_ok_noontideref20_Check s (l10 hc))
theorem yNmS_ok (s : List UInt8) (hc : true = true) : Contract rE 46 [.str s] (.int .i64 (nmI s)) := by rw [← nm_eq]; exact rO (Nm.nName_ev s)
theorem yNmS_ok_noontideref21_Name (s : List UInt8) (hc : true = true) : Contract rE 25 [.str s] (.int .i64 (nmI s)) := by rw [← nm_eq]; exact rO (Nm.rName_ev s)
theorem yFtS_ok (k w d m : Int) (hc : true = true) : Contract rE 61 [.agg [.int .i64 k, .int .i64 w, .int .i64 d], .int .i64 m] (.bool (ftB k w d m)) := rF (Rl.kFtS_ok k w d m rfl)
theorem yFtS_ok_noontideref05_Fits (k w d m : Int) (hc : true = true) : Contract rE 59 [.agg [.int .i64 k, .int .i64 w, .int .i64 d], .int .i64 m] (.bool (ftB k w d m)) := rF (Rl.kFtS_ok_noontideref05_Fits k w d m rfl)
theorem yCrS_ok (n b : Int) (hc : true = true) : Contract rE 62 [.agg [.int .i64 n, .int .i64 b]] (.bool (rightC n b)) := rF (Rl.kCrS_ok n b rfl)
theorem yCrS_ok_noontideref19_Right (n b : Int) (hc : true = true) : Contract rE 60 [.agg [.int .i64 n, .int .i64 b]] (.bool (rightC n b)) := rF (Rl.kCrS_ok_noontideref19_Right n b rfl)
theorem yS9_ok : SOk rE yS9 := by
  unfold yS9
  refine SOk.cons (fun args r h => ?_) (SOk.cons (fun args r h => ?_) (SOk.cons (fun args r h => ?_) (SOk.cons (fun args r h => ?_) (SOk.cons (fun args r h => ?_) (SOk.cons (fun args r h => ?_) (SOk.cons (fun args r h => ?_) (SOk.nil)))))))
  · unfold yChS at h
    split at h
    · simp only [Option.some.injEq, Prod.mk.injEq] at h
      obtain ⟨hc, rfl⟩ := h
      exact yChS_ok_noontideref20_Check _ hc
    · cases h
  · unfold yNmS at h
    split at h
    · simp only [Option.some.injEq, Prod.mk.injEq] at h
      obtain ⟨hc, rfl⟩ := h
      exact yNmS_ok _ rfl
    · cases h
  · unfold yNmS at h
    split at h
    · simp only [Option.some.injEq, Prod.mk.injEq] at h
      obtain ⟨hc, rfl⟩ := h
      exact yNmS_ok_noontideref21_Name _ rfl
    · cases h
  · unfold yFtS at h
    split at h
    · simp only [Option.some.injEq, Prod.mk.injEq] at h
      obtain ⟨hc, rfl⟩ := h
      exact yFtS_ok _ _ _ _ rfl
    · cases h
  · unfold yFtS at h
    split at h
    · simp only [Option.some.injEq, Prod.mk.injEq] at h
      obtain ⟨hc, rfl⟩ := h
      exact yFtS_ok_noontideref05_Fits _ _ _ _ rfl
    · cases h
  · unfold yCrS at h
    split at h
    · simp only [Option.some.injEq, Prod.mk.injEq] at h
      obtain ⟨hc, rfl⟩ := h
      exact yCrS_ok _ _ rfl
    · cases h
  · unfold yCrS at h
    split at h
    · simp only [Option.some.injEq, Prod.mk.injEq] at h
      obtain ⟨hc, rfl⟩ := h
      exact yCrS_ok_noontideref19_Right _ _ rfl
    · cases h
theorem yErS_ok (o k v : Int) (r q : List UInt8) (h : Bool) (y m ok ow od c b : Int) (hc : band (ile (slen r) 900) (ile (slen q) 900) = true) : Contract rE 74 [.agg [.int .i64 o, .int .i64 k, .int .i64 v, .str r, .str q, .bool h, .int .i64 y, .int .i64 m, .int .i64 ok, .int .i64 ow, .int .i64 od, .int .i64 c, .int .i64 b]] (.bool (erR o k v r q h y m ok ow od c b)) := by
  rw [← er_eq]; exact rF (Un.uErS_ok o k v r q h y m ok ow od c b rfl)
theorem yErS_ok_noontideref22_Right (o k v : Int) (r q : List UInt8) (h : Bool) (y m ok ow od c b : Int) (hc : band (ile (slen r) 900) (ile (slen q) 900) = true) : Contract rE 57 [.agg [.int .i64 o, .int .i64 k, .int .i64 v, .str r, .str q, .bool h, .int .i64 y, .int .i64 m, .int .i64 ok, .int .i64 ow, .int .i64 od, .int .i64 c, .int .i64 b]] (.bool (erR o k v r q h y m ok ow od c b)) := by
  rw [band_iff] at hc
  refine contract_of_body rE_ok yS9_ok 5 3 ?_
  rw [yER22_top, hc.2, ilt_bn o, ilt_bn 54000]
  unfold erR enR
  cases ile (-54000) o with
  | false => rfl
  | true =>
  cases ile o 54000 with
  | false => rfl
  | true =>
  cases ieq (ckW q) 0 with
  | false => rfl
  | true =>
  cases h with
  | false =>
    have e : band (beq false false) (band (ieq y 0) (band (ieq m 0) (band (band (ieq ok 0) (band (ieq ow 0) (ieq od 0))) (band (ieq c 0) (ieq b 0))))) = (band (ieq y 0) (band (ieq m 0) (band (band (ieq ok 0) (band (ieq ow 0) (ieq od 0))) (band (ieq c 0) (ieq b 0))))) := rfl
    rw [e]
    generalize band (ieq y 0) (band (ieq m 0) (band (band (ieq ok 0) (band (ieq ow 0) (ieq od 0))) (band (ieq c 0) (ieq b 0)))) = z
    cases z with
    | false => rfl
    | true =>
    cases ieq k 0 with
    | true => cases ieq v 0 <;> rfl
    | false =>
    cases ieq k 1 with
    | true => cases ile (-10800) v <;> cases ile v 10800 <;> rfl
    | false => cases ieq k 2 <;> cases ieq v 0 <;> rfl
  | true =>
    cases ilt (-32767) y with
    | false => rfl
    | true =>
    cases ilt y 32767 with
    | false => rfl
    | true =>
    cases ftB ok ow od m with
    | false => rfl
    | true =>
    cases rightC c b with
    | false => rfl
    | true =>
    cases ieq k 0 with
    | true => cases ieq v 0 <;> rfl
    | false =>
    cases ieq k 1 with
    | true => cases ile (-10800) v <;> cases ile v 10800 <;> rfl
    | false => cases ieq k 2 <;> cases ieq v 0 <;> rfl
theorem yRrS_ok (n : List UInt8) (f t m k w d c b v : Int) (l : List UInt8) (hc : ile (slen l) 900 = true) : Contract rE 34 [.agg [.str n, .int .i64 f, .int .i64 t, .int .i64 m, .int .i64 k, .int .i64 w, .int .i64 d, .int .i64 c, .int .i64 b, .int .i64 v, .str l]] (.bool (ruR n f t m k w d c b v l)) := by
  rw [← ru_eq]; exact rF (Rl.kRrS_ok n f t m k w d c b v l hc)
theorem yRrS_ok_noontideref21_Right (n : List UInt8) (f t m k w d c b v : Int) (l : List UInt8) (hc : ile (slen l) 900 = true) : Contract rE 24 [.agg [.str n, .int .i64 f, .int .i64 t, .int .i64 m, .int .i64 k, .int .i64 w, .int .i64 d, .int .i64 c, .int .i64 b, .int .i64 v, .str l]] (.bool (ruR n f t m k w d c b v l)) := by
  rw [← ru_eq]; exact rF (Rl.kRrS_ok_noontideref21_Right n f t m k w d c b v l hc)
theorem yLtS_ok (s : List UInt8) (hc : ile (slen s) 900 = true) : Contract rE 40 [.str s] (.tup [.str (ltT s), .int .i64 (ltW s)]) := rF (fLText_ev s (by have := l9 hc; omega))
theorem yFxS_ok (n : Int) (hc : true = true) : Contract rE 35 [.int .i64 n] (.tup [.str (fxT n), .int .i64 (fxW n)]) := rY (yFromText_ev n)
theorem yTxS_ok (m n : Int) (hc : true = true) : Contract rE 36 [.int .i64 m, .int .i64 n] (.tup [.str (txTy m n), .int .i64 (txWy m n)]) := rY (yToText_ev m n)
theorem yDtS_ok (k w d : Int) (hc : true = true) : Contract rE 37 [.agg [.int .i64 k, .int .i64 w, .int .i64 d]] (.tup [.str (dsTx k w d), .int .i64 (dsTe k w d)]) := rW (dText_ev k w d)
theorem yCtS_ok (n b : Int) (hc : true = true) : Contract rE 38 [.agg [.int .i64 n, .int .i64 b]] (.tup [.str (tcT n b), .int .i64 (tcW n b)]) := cText19_ev n b
theorem yAtS_ok (n : Int) (hc : band (ile (-9223372036854775808) n) (ile n 9223372036854775807) = true) : Contract rE 39 [.int .i64 n] (.tup [.str (amT n), .int .i64 (amE n)]) := atext_ev n (fz hc).1 (fz hc).2
theorem yMtS_ok (n : Int) (hc : band (ile (-9223372036854775808) n) (ile n 9223372036854775807) = true) : Contract rE 41 [.int .i64 n] (.str (moT n)) := rM (mMText_ev n (fz hc))
theorem yNtS_ok (n : Int) (hc : band (ile (-9223372036854775808) n) (ile n 9223372036854775807) = true) : Contract rE 65 [.int .i64 n] (.str (text n)) := rN (nText_ev n (fz hc))
theorem yLtS_ok_noontideref20_LetterText (s : List UInt8) (hc : ile (slen s) 900 = true) : Contract rE 54 [.str s] (.tup [.str (ltT s), .int .i64 (ltW s)]) := rF (rLText_ev s (by have := l9 hc; omega))
theorem yFxS_ok_noontideref17_FromText (n : Int) (hc : true = true) : Contract rE 49 [.int .i64 n] (.tup [.str (fxT n), .int .i64 (fxW n)]) := rY (rFromText_ev n)
theorem yTxS_ok_noontideref17_ToText (m n : Int) (hc : true = true) : Contract rE 50 [.int .i64 m, .int .i64 n] (.tup [.str (txTy m n), .int .i64 (txWy m n)]) := rY (rToText_ev m n)
theorem yDtS_ok_noontideref18_Text (k w d : Int) (hc : true = true) : Contract rE 51 [.agg [.int .i64 k, .int .i64 w, .int .i64 d]] (.tup [.str (dsTx k w d), .int .i64 (dsTe k w d)]) := rW (rText18_ev k w d)
theorem yCtS_ok_noontideref19_Text (n b : Int) (hc : true = true) : Contract rE 52 [.agg [.int .i64 n, .int .i64 b]] (.tup [.str (tcT n b), .int .i64 (tcW n b)]) := rText19_ev n b
theorem yAtS_ok_noontideref16_Text (n : Int) (hc : band (ile (-9223372036854775808) n) (ile n 9223372036854775807) = true) : Contract rE 53 [.int .i64 n] (.tup [.str (amT n), .int .i64 (amE n)]) := rtext_ev n (fz hc).1 (fz hc).2
theorem yMtS_ok_noontideref15_MonthText (n : Int) (hc : band (ile (-9223372036854775808) n) (ile n 9223372036854775807) = true) : Contract rE 55 [.int .i64 n] (.str (moT n)) := rM (rMText_ev n (fz hc))
theorem yNtS_ok_noontideref01_Text (n : Int) (hc : band (ile (-9223372036854775808) n) (ile n 9223372036854775807) = true) : Contract rE 58 [.int .i64 n] (.str (text n)) := rN (rText_ev n (fz hc))
theorem yS0_ok : SOk rE yS0 := by
  unfold yS0
  refine SOk.cons (fun args r h => ?_) (SOk.cons (fun args r h => ?_) (SOk.cons (fun args r h => ?_) (SOk.cons (fun args r h => ?_) (SOk.cons (fun args r h => ?_) (SOk.cons (fun args r h => ?_) (SOk.cons (fun args r h => ?_) (SOk.cons (fun args r h => ?_) (SOk.cons (fun args r h => ?_) (SOk.cons (fun args r h => ?_) (SOk.cons (fun args r h => ?_) (SOk.cons (fun args r h => ?_) (SOk.cons (fun args r h => ?_) (SOk.cons (fun args r h => ?_) (SOk.cons (fun args r h => ?_) (SOk.cons (fun args r h => ?_) (SOk.cons (fun args r h => ?_) (SOk.cons (fun args r h => ?_) (SOk.cons (fun args r h => ?_) (SOk.cons (fun args r h => ?_) (SOk.nil))))))))))))))))))))
  · unfold yErS at h
    split at h
    · simp only [Option.some.injEq, Prod.mk.injEq] at h
      obtain ⟨hc, rfl⟩ := h
      exact yErS_ok _ _ _ _ _ _ _ _ _ _ _ _ _ hc
    · cases h
  · unfold yErS at h
    split at h
    · simp only [Option.some.injEq, Prod.mk.injEq] at h
      obtain ⟨hc, rfl⟩ := h
      exact yErS_ok_noontideref22_Right _ _ _ _ _ _ _ _ _ _ _ _ _ hc
    · cases h
  · unfold yRrS at h
    split at h
    · simp only [Option.some.injEq, Prod.mk.injEq] at h
      obtain ⟨hc, rfl⟩ := h
      exact yRrS_ok _ _ _ _ _ _ _ _ _ _ _ hc
    · cases h
  · unfold yRrS at h
    split at h
    · simp only [Option.some.injEq, Prod.mk.injEq] at h
      obtain ⟨hc, rfl⟩ := h
      exact yRrS_ok_noontideref21_Right _ _ _ _ _ _ _ _ _ _ _ hc
    · cases h
  · unfold yLtS at h
    split at h
    · simp only [Option.some.injEq, Prod.mk.injEq] at h
      obtain ⟨hc, rfl⟩ := h
      exact yLtS_ok _ hc
    · cases h
  · unfold yLtS at h
    split at h
    · simp only [Option.some.injEq, Prod.mk.injEq] at h
      obtain ⟨hc, rfl⟩ := h
      exact yLtS_ok_noontideref20_LetterText _ hc
    · cases h
  · unfold yFxS at h
    split at h
    · simp only [Option.some.injEq, Prod.mk.injEq] at h
      obtain ⟨hc, rfl⟩ := h
      exact yFxS_ok _ rfl
    · cases h
  · unfold yFxS at h
    split at h
    · simp only [Option.some.injEq, Prod.mk.injEq] at h
      obtain ⟨hc, rfl⟩ := h
      exact yFxS_ok_noontideref17_FromText _ rfl
    · cases h
  · unfold yTxS at h
    split at h
    · simp only [Option.some.injEq, Prod.mk.injEq] at h
      obtain ⟨hc, rfl⟩ := h
      exact yTxS_ok _ _ rfl
    · cases h
  · unfold yTxS at h
    split at h
    · simp only [Option.some.injEq, Prod.mk.injEq] at h
      obtain ⟨hc, rfl⟩ := h
      exact yTxS_ok_noontideref17_ToText _ _ rfl
    · cases h
  · unfold yDtS at h
    split at h
    · simp only [Option.some.injEq, Prod.mk.injEq] at h
      obtain ⟨hc, rfl⟩ := h
      exact yDtS_ok _ _ _ rfl
    · cases h
  · unfold yDtS at h
    split at h
    · simp only [Option.some.injEq, Prod.mk.injEq] at h
      obtain ⟨hc, rfl⟩ := h
      exact yDtS_ok_noontideref18_Text _ _ _ rfl
    · cases h
  · unfold yCtS at h
    split at h
    · simp only [Option.some.injEq, Prod.mk.injEq] at h
      obtain ⟨hc, rfl⟩ := h
      exact yCtS_ok _ _ rfl
    · cases h
  · unfold yCtS at h
    split at h
    · simp only [Option.some.injEq, Prod.mk.injEq] at h
      obtain ⟨hc, rfl⟩ := h
      exact yCtS_ok_noontideref19_Text _ _ rfl
    · cases h
  · unfold yAtS at h
    split at h
    · simp only [Option.some.injEq, Prod.mk.injEq] at h
      obtain ⟨hc, rfl⟩ := h
      exact yAtS_ok _ hc
    · cases h
  · unfold yAtS at h
    split at h
    · simp only [Option.some.injEq, Prod.mk.injEq] at h
      obtain ⟨hc, rfl⟩ := h
      exact yAtS_ok_noontideref16_Text _ hc
    · cases h
  · unfold yMtS at h
    split at h
    · simp only [Option.some.injEq, Prod.mk.injEq] at h
      obtain ⟨hc, rfl⟩ := h
      exact yMtS_ok _ hc
    · cases h
  · unfold yMtS at h
    split at h
    · simp only [Option.some.injEq, Prod.mk.injEq] at h
      obtain ⟨hc, rfl⟩ := h
      exact yMtS_ok_noontideref15_MonthText _ hc
    · cases h
  · unfold yNtS at h
    split at h
    · simp only [Option.some.injEq, Prod.mk.injEq] at h
      obtain ⟨hc, rfl⟩ := h
      exact yNtS_ok _ hc
    · cases h
  · unfold yNtS at h
    split at h
    · simp only [Option.some.injEq, Prod.mk.injEq] at h
      obtain ⟨hc, rfl⟩ := h
      exact yNtS_ok_noontideref01_Text _ hc
    · cases h
theorem wRfS_ok (n : List UInt8) (f t m k w d c b v : Int) (l : List UInt8) (hc : band (band (ile (slen n) 900) (ile (slen l) 900)) (band (band (ile (-9223372036854775808) v) (ile v 9223372036854775807)) (band (ile (-9223372036854775808) m) (ile m 9223372036854775807))) = true) : Contract rE 15 [.agg [.str n, .int .i64 f, .int .i64 t, .int .i64 m, .int .i64 k, .int .i64 w, .int .i64 d, .int .i64 c, .int .i64 b, .int .i64 v, .str l]] (.tup [.sl 9 [.str] none (rfV n f t m k w d c b v l), .int .i64 (rfE n f t m k w d c b v l)]) := by
  obtain ⟨h1, h2⟩ := band_true hc
  obtain ⟨h3, h4⟩ := band_true h2
  have h5 := (band_true h1).2
  refine contract_lab (L := 0) rE_ok yS0_ok 5 2 ?_
  rw [yRF_top, sel_pos h5]
  unfold rfV rfE
  cases ruR n f t m k w d c b v l with
  | false => first | exact .inl rfl | exact .inr rfl
  | true =>
    rw [sel_neg (show bnot true = false from rfl), h3, h4, h5]
    first | exact .inl rfl | exact .inr rfl
theorem wRfS_ok_noontideref21_Fields (n : List UInt8) (f t m k w d c b v : Int) (l : List UInt8) (hc : band (band (ile (slen n) 900) (ile (slen l) 900)) (band (band (ile (-9223372036854775808) v) (ile v 9223372036854775807)) (band (ile (-9223372036854775808) m) (ile m 9223372036854775807))) = true) : Contract rE 20 [.agg [.str n, .int .i64 f, .int .i64 t, .int .i64 m, .int .i64 k, .int .i64 w, .int .i64 d, .int .i64 c, .int .i64 b, .int .i64 v, .str l]] (.tup [.sl 9 [.str] none (rfV n f t m k w d c b v l), .int .i64 (rfE n f t m k w d c b v l)]) := by
  obtain ⟨h1, h2⟩ := band_true hc
  obtain ⟨h3, h4⟩ := band_true h2
  have h5 := (band_true h1).2
  refine contract_lab (L := 0) rE_ok yS0_ok 5 2 ?_
  rw [yRF21_top, sel_pos h5]
  unfold rfV rfE
  cases ruR n f t m k w d c b v l with
  | false => first | exact .inl rfl | exact .inr rfl
  | true =>
    rw [sel_neg (show bnot true = false from rfl), h3, h4, h5]
    first | exact .inl rfl | exact .inr rfl
theorem wEfS_ok (o k v : Int) (r q : List UInt8) (h : Bool) (y m ok ow od c b : Int) (hc : band (band (ile (slen r) 900) (ile (slen q) 900)) (band (band (band (ile (-9223372036854775808) o) (ile o 9223372036854775807)) (band (ile (-9223372036854775808) v) (ile v 9223372036854775807))) (band (band (ile (-9223372036854775808) y) (ile y 9223372036854775807)) (band (ile (-9223372036854775808) m) (ile m 9223372036854775807)))) = true) : Contract rE 47 [.agg [.int .i64 o, .int .i64 k, .int .i64 v, .str r, .str q, .bool h, .int .i64 y, .int .i64 m, .int .i64 ok, .int .i64 ow, .int .i64 od, .int .i64 c, .int .i64 b]] (.tup [.sl 9 [.str] none (efV o k v r q h y m ok ow od c b), .int .i64 (efE o k v r q h y m ok ow od c b)]) := by
  obtain ⟨h1, h2⟩ := band_true hc
  obtain ⟨h3, h4⟩ := band_true h2
  obtain ⟨h5, h6⟩ := band_true h3
  obtain ⟨h7, h8⟩ := band_true h4
  refine contract_lab (L := 0) rE_ok yS0_ok 9 2 ?_
  rw [yEF_u9_top, sel_pos h1]
  unfold efV efE
  cases hR : erR o k v r q h y m ok ow od c b with
  | false => exact .inl rfl
  | true =>
    have hk := erR_k o k v r q h y m ok ow od c b hR
    rw [sel_neg (show bnot true = false from rfl), sel_pos h5, sel_pos h6, h7, h8]
    unfold efL efM efT
    rcases hk with rfl | rfl | rfl
    all_goals
      cases h
      · first | exact .inl rfl | exact .inr rfl
      · cases band (ieq c 0) (ieq b 0) <;> cases band (ieq ok 0) (band (ieq ow 0) (ieq od 1)) <;> cases ieq m 1 <;> first | exact .inl rfl | exact .inr rfl
theorem wEfS_ok_noontideref22_Fields (o k v : Int) (r q : List UInt8) (h : Bool) (y m ok ow od c b : Int) (hc : band (band (ile (slen r) 900) (ile (slen q) 900)) (band (band (band (ile (-9223372036854775808) o) (ile o 9223372036854775807)) (band (ile (-9223372036854775808) v) (ile v 9223372036854775807))) (band (band (ile (-9223372036854775808) y) (ile y 9223372036854775807)) (band (ile (-9223372036854775808) m) (ile m 9223372036854775807)))) = true) : Contract rE 22 [.agg [.int .i64 o, .int .i64 k, .int .i64 v, .str r, .str q, .bool h, .int .i64 y, .int .i64 m, .int .i64 ok, .int .i64 ow, .int .i64 od, .int .i64 c, .int .i64 b]] (.tup [.sl 9 [.str] none (efV o k v r q h y m ok ow od c b), .int .i64 (efE o k v r q h y m ok ow od c b)]) := by
  obtain ⟨h1, h2⟩ := band_true hc
  obtain ⟨h3, h4⟩ := band_true h2
  obtain ⟨h5, h6⟩ := band_true h3
  obtain ⟨h7, h8⟩ := band_true h4
  refine contract_lab (L := 0) rE_ok yS0_ok 8 2 ?_
  rw [yEF22_u8_top, sel_pos h1]
  unfold efV efE
  cases hR : erR o k v r q h y m ok ow od c b with
  | false => exact .inl rfl
  | true =>
    have hk := erR_k o k v r q h y m ok ow od c b hR
    rw [sel_neg (show bnot true = false from rfl), sel_pos h5, sel_pos h6, h7, h8]
    unfold efL efM efT
    rcases hk with rfl | rfl | rfl
    all_goals
      cases h
      · first | exact .inl rfl | exact .inr rfl
      · cases band (ieq c 0) (ieq b 0) <;> cases band (ieq ok 0) (band (ieq ow 0) (ieq od 1)) <;> cases ieq m 1 <;> first | exact .inl rfl | exact .inr rfl
end Nt.Ev.YtjkfndcpiihniaaGreatDoor.Rx

namespace Nt.Ev.YtjkfndcpiihniaaGreatDoor.Rx
set_option maxRecDepth 100000
open Go Nt.Num Go.Proofs.YtjkfndcpiihniaaGreatDoor
variable [MLen]
open Nt.Ev.YtjkfndcpiihniaaGreatDoor
open Nt.Civil
open Nt.Fld
open Nt.Ev.YtjkfndcpiihniaaGreatDoor.Lk
abbrev kE : List Kd := [(Kd.int .i64), (Kd.int .i64), (Kd.int .i64), (Kd.str), (Kd.str), (Kd.bool), (Kd.int .i64), (Kd.int .i64), (Kd.int .i64), (Kd.int .i64), (Kd.int .i64), (Kd.int .i64), (Kd.int .i64)]
abbrev kR : List Kd := [(Kd.str), (Kd.int .i64), (Kd.int .i64), (Kd.int .i64), (Kd.int .i64), (Kd.int .i64), (Kd.int .i64), (Kd.int .i64), (Kd.int .i64), (Kd.int .i64), (Kd.str)]
abbrev kZ : List Kd := [(Kd.str), (Kd.sl 47 kE)]
noncomputable abbrev rsOk (xs : List V) : Bool := Un.rsOk xs
def or3 (a b c : Int) : Int := sel (bnot (ieq a 0)) a (sel (bnot (ieq b 0)) b c)
noncomputable def ndE (xs es : List V) : Int := (Rd.enF xs es ((es.length : Int) - 1) es.length 0 []).2
noncomputable def ndL (xs es : List V) : List V := (Rd.enF xs es ((es.length : Int) - 1) es.length 0 []).1
def jnK (xs : List V) : Bool := jnC xs
noncomputable def wRfS : FSpec := fun a => match a with | [.agg [.str n, .int .i64 f, .int .i64 t, .int .i64 m, .int .i64 k, .int .i64 w, .int .i64 d, .int .i64 c, .int .i64 b, .int .i64 v, .str l]] => some (band (band (ile (slen n) 900) (ile (slen l) 900)) (band (band (ile (-9223372036854775808) v) (ile v 9223372036854775807)) (band (ile (-9223372036854775808) m) (ile m 9223372036854775807))), .tup [.sl 9 [.str] none (rfV n f t m k w d c b v l), .int .i64 (rfE n f t m k w d c b v l)]) | _ => none
noncomputable def wEfS : FSpec := fun a => match a with | [.agg [.int .i64 o, .int .i64 k, .int .i64 v, .str r, .str q, .bool h, .int .i64 y, .int .i64 m, .int .i64 ok, .int .i64 ow, .int .i64 od, .int .i64 c, .int .i64 b]] => some (band (band (ile (slen r) 900) (ile (slen q) 900)) (band (band (band (ile (-9223372036854775808) o) (ile o 9223372036854775807)) (band (ile (-9223372036854775808) v) (ile v 9223372036854775807))) (band (band (ile (-9223372036854775808) y) (ile y 9223372036854775807)) (band (ile (-9223372036854775808) m) (ile m 9223372036854775807)))), .tup [.sl 9 [.str] none (efV o k v r q h y m ok ow od c b), .int .i64 (efE o k v r q h y m ok ow od c b)]) | _ => none
noncomputable def wLkS : FSpec := fun a => match a with | [.agg [.str t, .str n]] => some (true, .tup [.sl 9 [.str] none (fdL t n), .int .i64 (fdE t n)]) | _ => none
noncomputable def wLrS : FSpec := fun a => match a with | [.agg [.str t, .str n]] => some (true, .bool (rgB t n)) | _ => none
noncomputable def wJnS : FSpec := fun a => match a with | [.sl 9 [.str] none xs] => some (jnK xs, .tup [.str (jnT xs), .int .i64 (jnW xs)]) | _ => none
noncomputable def wOrS : FSpec := fun a => match a with | [.sl e [.int .i64] o [.int .i64 a, .int .i64 b, .int .i64 c]] => some (true, .int .i64 (or3 a b c)) | _ => none
noncomputable def wEnS : FSpec := fun a => match a with | [.sl 49 [.str, .int .i64, .int .i64, .int .i64, .int .i64, .int .i64, .int .i64, .int .i64, .int .i64, .int .i64, .str] none xs, .agg [.str n, .sl 47 [.int .i64, .int .i64, .int .i64, .str, .str, .bool, .int .i64, .int .i64, .int .i64, .int .i64, .int .i64, .int .i64, .int .i64] none es]] => some (band (rsOk xs) (ile (llen es) 1000), .tup [.sl 2 [.int .i64] (some 0) (ndL xs es), .int .i64 (ndE xs es)]) | _ => none
noncomputable def bxOk (x b : V) : Bool := match x, b with | .nilp, .nilsl => true | .box k off, .sl e sh (some L) xs => (k == HL && off == 0) && (e == 5 && (Kd.eqL [.int .u8] sh && L == 1000001002)) | _, _ => false
noncomputable def bxN (b : V) (t : List UInt8) : V := match b with | .sl e sh o xs => .sl e sh o (lcat xs (bytesV t)) | _ => .sl 5 [.int .u8] (some 1002) (bytesV t)
noncomputable def bwL : V → List V | .sl _ _ _ xs => xs | _ => []
noncomputable def bcOk : V → Bool | .nilp => true | .box k off => k == HL && off == 0 | _ => false
noncomputable def bbOk : V → Bool | .nilsl => true | .sl e sh (some L) xs => e == 5 && Kd.eqL [.int .u8] sh && L == 1000001002 | _ => false
noncomputable def bbS : V → List UInt8 | .sl _ _ _ xs => vbytes xs | _ => []
noncomputable def bbN : V → V | .sl e sh _ xs => .sl e sh none xs | v => v
noncomputable def wCpS : FSpec := fun a => match a with | [.bxa 0 [x, b, .int .i64 w]] => some (bcOk x, .out false (.tup []) [[.box HL 0, b, .int .i64 w]]) | _ => none
noncomputable def wStS : FSpec := fun a => match a with | [.bxa 0 [x, b, .int .i64 w]] => some (band (bcOk x) (bbOk b), .out false (.str (bbS b)) [[x, bbN b, .int .i64 w]]) | _ => none
noncomputable def wS0 : List (Nat × FSpec) := (15, wRfS) :: (20, wRfS) :: (47, wEfS) :: (22, wEfS) :: (18, wLkS) :: (23, wLkS) :: (27, wLrS) :: (42, wJnS) :: (56, wJnS) :: (43, wOrS) :: (45, wEnS) :: (GX + 73, wCpS) :: (GX + 19, wStS) :: (46, yNmS) :: (25, yNmS) :: (57, yErS) :: (24, yRrS) :: []
def lnT (a : List UInt8) (fs : List V) : List UInt8 := scat (scat (scat a [32]) (jnT fs)) [10]
def lnK (a : List UInt8) (fs : List V) : Bool := band (jnK fs) (band (ile (slen a) 1000) (ile (slen (jnT fs)) 10000))
def gR (e : V) : Bool := band (band (ile (slen (asStr (acell e 0))) 900) (ile (slen (asStr (acell e 10))) 900)) (band (band (ile (-9223372036854775808) (asInt (acell e 9))) (ile (asInt (acell e 9)) 9223372036854775807)) (band (ile (-9223372036854775808) (asInt (acell e 3))) (ile (asInt (acell e 3)) 9223372036854775807)))
def gE (e : V) : Bool := band (band (ile (slen (asStr (acell e 3))) 900) (ile (slen (asStr (acell e 4))) 900)) (band (band (band (ile (-9223372036854775808) (asInt (acell e 0))) (ile (asInt (acell e 0)) 9223372036854775807)) (band (ile (-9223372036854775808) (asInt (acell e 2))) (ile (asInt (acell e 2)) 9223372036854775807))) (band (band (ile (-9223372036854775808) (asInt (acell e 6))) (ile (asInt (acell e 6)) 9223372036854775807)) (band (ile (-9223372036854775808) (asInt (acell e 7))) (ile (asInt (acell e 7)) 9223372036854775807))))
noncomputable def fvR (e : V) : List V := rfV (asStr (acell e 0)) (asInt (acell e 1)) (asInt (acell e 2)) (asInt (acell e 3)) (asInt (acell e 4)) (asInt (acell e 5)) (asInt (acell e 6)) (asInt (acell e 7)) (asInt (acell e 8)) (asInt (acell e 9)) (asStr (acell e 10))
noncomputable def feR (e : V) : Int := rfE (asStr (acell e 0)) (asInt (acell e 1)) (asInt (acell e 2)) (asInt (acell e 3)) (asInt (acell e 4)) (asInt (acell e 5)) (asInt (acell e 6)) (asInt (acell e 7)) (asInt (acell e 8)) (asInt (acell e 9)) (asStr (acell e 10))
noncomputable def rrR (e : V) : Bool := ruR (asStr (acell e 0)) (asInt (acell e 1)) (asInt (acell e 2)) (asInt (acell e 3)) (asInt (acell e 4)) (asInt (acell e 5)) (asInt (acell e 6)) (asInt (acell e 7)) (asInt (acell e 8)) (asInt (acell e 9)) (asStr (acell e 10))
noncomputable def fvE (e : V) : List V := efV (asInt (acell e 0)) (asInt (acell e 1)) (asInt (acell e 2)) (asStr (acell e 3)) (asStr (acell e 4)) (asBool (acell e 5)) (asInt (acell e 6)) (asInt (acell e 7)) (asInt (acell e 8)) (asInt (acell e 9)) (asInt (acell e 10)) (asInt (acell e 11)) (asInt (acell e 12))
noncomputable def feE (e : V) : Int := efE (asInt (acell e 0)) (asInt (acell e 1)) (asInt (acell e 2)) (asStr (acell e 3)) (asStr (acell e 4)) (asBool (acell e 5)) (asInt (acell e 6)) (asInt (acell e 7)) (asInt (acell e 8)) (asInt (acell e 9)) (asInt (acell e 10)) (asInt (acell e 11)) (asInt (acell e 12))
noncomputable def rrE (e : V) : Bool := erR (asInt (acell e 0)) (asInt (acell e 1)) (asInt (acell e 2)) (asStr (acell e 3)) (asStr (acell e 4)) (asBool (acell e 5)) (asInt (acell e 6)) (asInt (acell e 7)) (asInt (acell e 8)) (asInt (acell e 9)) (asInt (acell e 10)) (asInt (acell e 11)) (asInt (acell e 12))
noncomputable def fvL (e : V) : List V := fdL (asStr (acell e 0)) (asStr (acell e 1))
noncomputable def feL (e : V) : Int := fdE (asStr (acell e 0)) (asStr (acell e 1))
noncomputable def rrL (e : V) : Bool := rgB (asStr (acell e 0)) (asStr (acell e 1))
def zN (e : V) : List UInt8 := asStr (acell e 0)
def zE1 (e : V) : List V := asL (acell e 1)
def allI (p : V → Bool) (l : List V) : Nat → Nat → Bool | 0, _ => true | k + 1, i => p (lget l i) && allI p l k (i + 1)
noncomputable def zB (es : List V) (last : Int) : Nat → Nat → Bool | 0, _ => true | k + 1, i => (rrE (lget es i) && beq (asBool (acell (lget es i) 5)) (ilt i last)) && zB es last k (i + 1)
noncomputable def zoB (es : List V) : Bool := zB es ((es.length : Int) - 1) es.length 0 && ilt 0 (llen es)
def zoK (es : List V) : Bool := band (ile (llen es) 12) (es.all gE)
def gZ (e : V) : Bool := band (ile (slen (zN e)) 900) (zoK (zE1 e))
noncomputable def zP (e : V) : Bool := ieq (nmI (zN e)) 0 && zoB (zE1 e)
def rgK (xs zs ls : List V) : Bool := band (ile (llen xs) 50) (band (ile (llen zs) 20) (band (ile (llen ls) 100) (band (xs.all gR) (zs.all gZ))))
noncomputable def rgT (xs zs ls : List V) : Bool := allI rrR xs xs.length 0 && (allI zP zs zs.length 0 && allI rrL ls ls.length 0)
noncomputable def ahd (n : List UInt8) (i : Nat) : List UInt8 := if i = 0 then scat [90, 111, 110, 101, 32] n else []
noncomputable def eT (n : List UInt8) (es : List V) : Nat → Nat → List UInt8 | 0, _ => [] | k + 1, i => lnT (ahd n i) (fvE (lget es i)) ++ eT n es k (i + 1)
noncomputable def eW (es : List V) : Nat → Nat → Int → Int | 0, _, w => w | k + 1, i, w => eW es k (i + 1) (or3 w (feE (lget es i)) (jnW (fvE (lget es i))))
noncomputable def znT (n : List UInt8) (es : List V) : List UInt8 := eT n es es.length 0
noncomputable def znW (w : Int) (xs : List V) (n : List UInt8) (es : List V) : Int := eW es es.length 0 (or3 w (ndE xs es) (nmI n))
noncomputable def znK (xs : List V) (n : List UInt8) (es : List V) : Bool := band (rsOk xs) (band (ile (slen n) 900) (zoK es))
noncomputable def wLnS : FSpec := fun a => match a with | [.bxa 0 [x, b, .int .i64 w], .str a, .sl 9 [.str] none fs, .int .i64 y] => some (band (bxOk x b) (band (lnK a fs) (ile (llen (bwL b)) 1000000)), .out false (.tup []) [[.box HL 0, bxN b (lnT a fs), .int .i64 (or3 w y (jnW fs))]]) | _ => none
noncomputable def wS1 : List (Nat × FSpec) := (GX + 16, wLnS) :: wS0
noncomputable def nilB : V → Bool | .nilp => true | _ => false
noncomputable def wZnS : FSpec := fun a => match a with | [.bxa 0 [x, b, .int .i64 w], .agg [.sl 49 [.str, .int .i64, .int .i64, .int .i64, .int .i64, .int .i64, .int .i64, .int .i64, .int .i64, .int .i64, .str] none xs, .sl 36 [.str, .sl 47 [.int .i64, .int .i64, .int .i64, .str, .str, .bool, .int .i64, .int .i64, .int .i64, .int .i64, .int .i64, .int .i64, .int .i64]] none zs, .sl 39 [.str, .str] none ls], .agg [.str n, .sl 47 [.int .i64, .int .i64, .int .i64, .str, .str, .bool, .int .i64, .int .i64, .int .i64, .int .i64, .int .i64, .int .i64, .int .i64] none es]] => some (band (bxOk x b) (band (znK xs n es) (ile (llen (bwL b)) 500000)), .cho (band (nilB x) (ieq (llen es) 0)) (.out false (.tup []) [[x, b, .int .i64 (znW w xs n es)]]) (.out false (.tup []) [[.box HL 0, bxN b (znT n es), .int .i64 (znW w xs n es)]])) | _ => none
noncomputable def wS2 : List (Nat × FSpec) := (GX + 17, wZnS) :: wS1
noncomputable def wL31S : FSpec := fun a => match a with | [.str a, .sl 9 [.str] none fs] => some (lnK a fs, .str (lnT a fs)) | _ => none
noncomputable def wZoS : FSpec := fun a => match a with | [.agg [.str n, .sl 47 [.int .i64, .int .i64, .int .i64, .str, .str, .bool, .int .i64, .int .i64, .int .i64, .int .i64, .int .i64, .int .i64, .int .i64] none es]] => some (zoK es, .bool (zoB es)) | _ => none
noncomputable def wS3 : List (Nat × FSpec) := (21, wL31S) :: (26, wZoS) :: wS0
noncomputable def wRgS : FSpec := fun a => match a with | [.agg [.sl 49 [.str, .int .i64, .int .i64, .int .i64, .int .i64, .int .i64, .int .i64, .int .i64, .int .i64, .int .i64, .str] none xs, .sl 36 [.str, .sl 47 [.int .i64, .int .i64, .int .i64, .str, .str, .bool, .int .i64, .int .i64, .int .i64, .int .i64, .int .i64, .int .i64, .int .i64]] none zs, .sl 39 [.str, .str] none ls]] => some (rgK xs zs ls, .bool (rgT xs zs ls)) | _ => none
noncomputable def wS4 : List (Nat × FSpec) := (9, wRgS) :: wS3
theorem wOr_u5_top (a : Int) (b : Int) (c : Int) (K : V → Option V) :
 evBd rE (evFn rE yS9 5 2) 5 43 [(V.sl 29 [(Kd.int .i64)] none [(V.int .i64 a), (V.int .i64 b), (V.int .i64 c)])] K =
 sel (bnot (ieq a 0))
 (K (V.int .i64 a))
 (sel (bnot (ieq b 0))
 (K (V.int .i64 b))
 (sel (bnot (ieq c 0))
 (K (V.int .i64 c))
 (K (V.int .i64 0)))) := by kernel_rfl
theorem wLnN_top (F : Nat) (w : Int) (a : List UInt8) (fs : List V) (y : Int) (K : V → Option V) :
 evBd rE (evFn rE wS0 F 4) F 16 [(V.bxa 0 [(V.nilp), (V.nilsl), (V.int .i64 w)]), (V.str a), (V.sl 9 [(Kd.str)] none fs), (V.int .i64 y)] K =
 sel (jnK fs)
 (sel (okCat a [32])
 (sel (okCat (scat a [32]) (jnT fs))
 (sel (okCat (scat (scat a [32]) (jnT fs)) [10])
 (sel (okNew (bytesV (scat (scat (scat a [32]) (jnT fs)) [10])))
 (K (V.out false (V.tup []) [[(V.box 1000000000 0), (V.sl 5 [(Kd.int .u8)] (some 1002) (bytesV (scat (scat (scat a [32]) (jnT fs)) [10]))), (V.int .i64 (or3 w y (jnW fs)))]]))
 (none))
 (none))
 (none))
 (none))
 (none) := by kernel_rfl
theorem wLnB_top (F : Nat) (bs : List V) (w : Int) (a : List UInt8) (fs : List V) (y : Int) (K : V → Option V) :
 evBd rE (evFn rE wS0 F 4) F 16 [(V.bxa 0 [(V.box 1000000000 0), (V.sl 5 [(Kd.int .u8)] (some 1000001002) bs), (V.int .i64 w)]), (V.str a), (V.sl 9 [(Kd.str)] none fs), (V.int .i64 y)] K =
 sel (jnK fs)
 (sel (okCat a [32])
 (sel (okCat (scat a [32]) (jnT fs))
 (sel (okCat (scat (scat a [32]) (jnT fs)) [10])
 (sel (okApp bs (bytesV (scat (scat (scat a [32]) (jnT fs)) [10])))
 (K (V.out false (V.tup []) [[(V.box 1000000000 0), (V.sl 5 [(Kd.int .u8)] (some 1000001002) (lcat bs (bytesV (scat (scat (scat a [32]) (jnT fs)) [10])))), (V.int .i64 (or3 w y (jnW fs)))]]))
 (none))
 (none))
 (none))
 (none))
 (none) := by kernel_rfl
noncomputable def wZnN_L0 (F : Nat) (ns : List Nat) (n : Nat) (x1_0 : List V) (x1_1 : List V) (x1_2 : List V) (x2_0 : List UInt8) (x2_1 : List V) (x7 : Int) (x34 : List V) (x35 : Int) (x36 : Int) (b5_0 : List UInt8) (b5_1 : List V) (b4_0 : List V) (b4_1 : List V) (b4_2 : List V) (bh_2 : Int) (K : V → Option V) : Option V :=
 loopAtA rE wS1 F 4 17 [(V.bxa 0 []), (V.nilsl), (V.nilsl)] [1, 1, 1, 1, 0] ns K n (mkSt 57 [(0, (V.box 1000000000 0)), (1, V.agg [V.sl 49 kR none x1_0, V.sl 36 kZ none x1_1, V.sl 39 [(Kd.str), (Kd.str)] none x1_2]), (2, V.agg [V.str x2_0, V.sl 47 kE none x2_1]), (4, (V.box 4 0)), (5, (V.box 5 0)), (7, V.int .i64 x7), (34, V.sl 47 kE none x34), (35, V.int .i64 x35), (36, V.int .i64 x36)] [(5, [V.str b5_0, V.sl 47 kE none b5_1]), (4, [V.sl 49 kR none b4_0, V.sl 36 kZ none b4_1, V.sl 39 [(Kd.str), (Kd.str)] none b4_2]), (1000000000, [(V.nilp), (V.nilsl), V.int .i64 bh_2])])
noncomputable def wZnN_L1 (F : Nat) (ns : List Nat) (n : Nat) (x1_0 : List V) (x1_1 : List V) (x1_2 : List V) (x2_0 : List UInt8) (x2_1 : List V) (x7 : Int) (x34 : List V) (x35 : Int) (x36 : Int) (b5_0 : List UInt8) (b5_1 : List V) (b4_0 : List V) (b4_1 : List V) (b4_2 : List V) (bh_1 : List V) (bh_2 : Int) (K : V → Option V) : Option V :=
 loopAtA rE wS1 F 4 17 [(V.bxa 0 []), (V.nilsl), (V.nilsl)] [1, 1, 1, 1, 0] ns K n (mkSt 57 [(0, (V.box 1000000000 0)), (1, V.agg [V.sl 49 kR none x1_0, V.sl 36 kZ none x1_1, V.sl 39 [(Kd.str), (Kd.str)] none x1_2]), (2, V.agg [V.str x2_0, V.sl 47 kE none x2_1]), (4, (V.box 4 0)), (5, (V.box 5 0)), (7, V.int .i64 x7), (34, V.sl 47 kE none x34), (35, V.int .i64 x35), (36, V.int .i64 x36)] [(5, [V.str b5_0, V.sl 47 kE none b5_1]), (4, [V.sl 49 kR none b4_0, V.sl 36 kZ none b4_1, V.sl 39 [(Kd.str), (Kd.str)] none b4_2]), (1000000000, [(V.box 1000000000 0), V.sl 5 [(Kd.int .u8)] (some 10001) bh_1, V.int .i64 bh_2])])
theorem wZnN_top (F : Nat) (w : Int) (xs : List V) (zs : List V) (ls : List V) (n : List UInt8) (es : List V) (K : V → Option V) :
 evBd rE (evFn rE wS1 F 4) F 17 [(V.bxa 0 [(V.nilp), (V.nilsl), (V.int .i64 w)]), (V.agg [(V.sl 49 kR none xs), (V.sl 36 kZ none zs), (V.sl 39 [(Kd.str), (Kd.str)] none ls)]), (V.agg [(V.str n), (V.sl 47 kE none es)])] K =
 sel (band (rsOk xs) (ile (llen es) 1000))
 (wZnN_L0 F [] F xs zs ls n es (ndE xs es) es (llen es) 0 n es xs zs ls (or3 w (ndE xs es) (nmI n)) K)
 (none) := by kernel_rfl
theorem wZnN_L0_succ (F : Nat) (n : Nat) (x1_0 : List V) (x1_1 : List V) (x1_2 : List V) (x2_0 : List UInt8) (x2_1 : List V) (x7 : Int) (x34 : List V) (x35 : Int) (x36 : Int) (b5_0 : List UInt8) (b5_1 : List V) (b4_0 : List V) (b4_1 : List V) (b4_2 : List V) (bh_2 : Int) (K : V → Option V) :
 wZnN_L0 F [] (n + 1) x1_0 x1_1 x1_2 x2_0 x2_1 x7 x34 x35 x36 b5_0 b5_1 b4_0 b4_1 b4_2 bh_2 K =
 sel (ilt x36 x35)
 (sel (band (ile 0 x36) (ilt x36 (llen x34)))
 (sel (ieq x36 0)
 (sel (okCat [90, 111, 110, 101, 32] b5_0)
 (sel (gE (lget x34 x36))
 (sel (band true (band (lnK (scat [90, 111, 110, 101, 32] b5_0) (fvE (lget x34 x36))) (ile (llen []) 1000000)))
 (wZnN_L1 F [] n x1_0 x1_1 x1_2 x2_0 x2_1 x7 x34 x35 (iadd .i64 x36 1) b5_0 b5_1 b4_0 b4_1 b4_2 (bytesV (lnT (scat [90, 111, 110, 101, 32] b5_0) (fvE (lget x34 x36)))) (or3 bh_2 (feE (lget x34 x36)) (jnW (fvE (lget x34 x36)))) K)
 (none))
 (none))
 (none))
 (sel (gE (lget x34 x36))
 (sel (band true (band (lnK [] (fvE (lget x34 x36))) (ile (llen []) 1000000)))
 (wZnN_L1 F [] n x1_0 x1_1 x1_2 x2_0 x2_1 x7 x34 x35 (iadd .i64 x36 1) b5_0 b5_1 b4_0 b4_1 b4_2 (bytesV (lnT [] (fvE (lget x34 x36)))) (or3 bh_2 (feE (lget x34 x36)) (jnW (fvE (lget x34 x36)))) K)
 (none))
 (none)))
 (none))
 (K (V.out false (V.tup []) [[(V.nilp), (V.nilsl), (V.int .i64 bh_2)]])) := by kernel_rfl
theorem wZnN_L1_succ (F : Nat) (n : Nat) (x1_0 : List V) (x1_1 : List V) (x1_2 : List V) (x2_0 : List UInt8) (x2_1 : List V) (x7 : Int) (x34 : List V) (x35 : Int) (x36 : Int) (b5_0 : List UInt8) (b5_1 : List V) (b4_0 : List V) (b4_1 : List V) (b4_2 : List V) (bh_1 : List V) (bh_2 : Int) (K : V → Option V) :
 wZnN_L1 F [] (n + 1) x1_0 x1_1 x1_2 x2_0 x2_1 x7 x34 x35 x36 b5_0 b5_1 b4_0 b4_1 b4_2 bh_1 bh_2 K =
 sel (ilt x36 x35)
 (sel (band (ile 0 x36) (ilt x36 (llen x34)))
 (sel (ieq x36 0)
 (sel (okCat [90, 111, 110, 101, 32] b5_0)
 (sel (gE (lget x34 x36))
 (sel (band true (band (lnK (scat [90, 111, 110, 101, 32] b5_0) (fvE (lget x34 x36))) (ile (llen bh_1) 1000000)))
 (wZnN_L1 F [] n x1_0 x1_1 x1_2 x2_0 x2_1 x7 x34 x35 (iadd .i64 x36 1) b5_0 b5_1 b4_0 b4_1 b4_2 (lcat bh_1 (bytesV (lnT (scat [90, 111, 110, 101, 32] b5_0) (fvE (lget x34 x36))))) (or3 bh_2 (feE (lget x34 x36)) (jnW (fvE (lget x34 x36)))) K)
 (none))
 (none))
 (none))
 (sel (gE (lget x34 x36))
 (sel (band true (band (lnK [] (fvE (lget x34 x36))) (ile (llen bh_1) 1000000)))
 (wZnN_L1 F [] n x1_0 x1_1 x1_2 x2_0 x2_1 x7 x34 x35 (iadd .i64 x36 1) b5_0 b5_1 b4_0 b4_1 b4_2 (lcat bh_1 (bytesV (lnT [] (fvE (lget x34 x36))))) (or3 bh_2 (feE (lget x34 x36)) (jnW (fvE (lget x34 x36)))) K)
 (none))
 (none)))
 (none))
 (K (V.out false (V.tup []) [[(V.box 1000000000 0), (V.sl 5 [(Kd.int .u8)] (some 1002) bh_1), (V.int .i64 bh_2)]])) := by kernel_rfl
noncomputable def wZnB_L0 (F : Nat) (ns : List Nat) (n : Nat) (x1_0 : List V) (x1_1 : List V) (x1_2 : List V) (x2_0 : List UInt8) (x2_1 : List V) (x7 : Int) (x34 : List V) (x35 : Int) (x36 : Int) (b5_0 : List UInt8) (b5_1 : List V) (b4_0 : List V) (b4_1 : List V) (b4_2 : List V) (bh_1 : List V) (bh_2 : Int) (K : V → Option V) : Option V :=
 loopAtA rE wS1 F 4 17 [(V.bxa 0 []), (V.nilsl), (V.nilsl)] [1, 1, 1, 1, 0] ns K n (mkSt 57 [(0, (V.box 1000000000 0)), (1, V.agg [V.sl 49 kR none x1_0, V.sl 36 kZ none x1_1, V.sl 39 [(Kd.str), (Kd.str)] none x1_2]), (2, V.agg [V.str x2_0, V.sl 47 kE none x2_1]), (4, (V.box 4 0)), (5, (V.box 5 0)), (7, V.int .i64 x7), (34, V.sl 47 kE none x34), (35, V.int .i64 x35), (36, V.int .i64 x36)] [(5, [V.str b5_0, V.sl 47 kE none b5_1]), (4, [V.sl 49 kR none b4_0, V.sl 36 kZ none b4_1, V.sl 39 [(Kd.str), (Kd.str)] none b4_2]), (1000000000, [(V.box 1000000000 0), V.sl 5 [(Kd.int .u8)] (some 1000010001) bh_1, V.int .i64 bh_2])])
theorem wZnB_top (F : Nat) (bs : List V) (w : Int) (xs : List V) (zs : List V) (ls : List V) (n : List UInt8) (es : List V) (K : V → Option V) :
 evBd rE (evFn rE wS1 F 4) F 17 [(V.bxa 0 [(V.box 1000000000 0), (V.sl 5 [(Kd.int .u8)] (some 1000001002) bs), (V.int .i64 w)]), (V.agg [(V.sl 49 kR none xs), (V.sl 36 kZ none zs), (V.sl 39 [(Kd.str), (Kd.str)] none ls)]), (V.agg [(V.str n), (V.sl 47 kE none es)])] K =
 sel (band (rsOk xs) (ile (llen es) 1000))
 (wZnB_L0 F [] F xs zs ls n es (ndE xs es) es (llen es) 0 n es xs zs ls bs (or3 w (ndE xs es) (nmI n)) K)
 (none) := by kernel_rfl
theorem wZnB_L0_succ (F : Nat) (n : Nat) (x1_0 : List V) (x1_1 : List V) (x1_2 : List V) (x2_0 : List UInt8) (x2_1 : List V) (x7 : Int) (x34 : List V) (x35 : Int) (x36 : Int) (b5_0 : List UInt8) (b5_1 : List V) (b4_0 : List V) (b4_1 : List V) (b4_2 : List V) (bh_1 : List V) (bh_2 : Int) (K : V → Option V) :
 wZnB_L0 F [] (n + 1) x1_0 x1_1 x1_2 x2_0 x2_1 x7 x34 x35 x36 b5_0 b5_1 b4_0 b4_1 b4_2 bh_1 bh_2 K =
 sel (ilt x36 x35)
 (sel (band (ile 0 x36) (ilt x36 (llen x34)))
 (sel (ieq x36 0)
 (sel (okCat [90, 111, 110, 101, 32] b5_0)
 (sel (gE (lget x34 x36))
 (sel (band true (band (lnK (scat [90, 111, 110, 101, 32] b5_0) (fvE (lget x34 x36))) (ile (llen bh_1) 1000000)))
 (wZnB_L0 F [] n x1_0 x1_1 x1_2 x2_0 x2_1 x7 x34 x35 (iadd .i64 x36 1) b5_0 b5_1 b4_0 b4_1 b4_2 (lcat bh_1 (bytesV (lnT (scat [90, 111, 110, 101, 32] b5_0) (fvE (lget x34 x36))))) (or3 bh_2 (feE (lget x34 x36)) (jnW (fvE (lget x34 x36)))) K)
 (none))
 (none))
 (none))
 (sel (gE (lget x34 x36))
 (sel (band true (band (lnK [] (fvE (lget x34 x36))) (ile (llen bh_1) 1000000)))
 (wZnB_L0 F [] n x1_0 x1_1 x1_2 x2_0 x2_1 x7 x34 x35 (iadd .i64 x36 1) b5_0 b5_1 b4_0 b4_1 b4_2 (lcat bh_1 (bytesV (lnT [] (fvE (lget x34 x36))))) (or3 bh_2 (feE (lget x34 x36)) (jnW (fvE (lget x34 x36)))) K)
 (none))
 (none)))
 (none))
 (K (V.out false (V.tup []) [[(V.box 1000000000 0), (V.sl 5 [(Kd.int .u8)] (some 1000001002) bh_1), (V.int .i64 bh_2)]])) := by kernel_rfl
noncomputable def wTx_L0 (F : Nat) (ns : List Nat) (n : Nat) (x0_0 : List V) (x0_1 : List V) (x0_2 : List V) (x16 : List V) (x17 : Int) (x18 : Int) (b4_2 : Int) (b1_0 : List V) (b1_1 : List V) (b1_2 : List V) (K : V → Option V) : Option V :=
 loopAt rE wS2 F 4 6 [1, 1, 0, 1, 0] ns K n (mkSt 63 [(0, V.agg [V.sl 49 kR none x0_0, V.sl 36 kZ none x0_1, V.sl 39 [(Kd.str), (Kd.str)] none x0_2]), (1, (V.box 1 0)), (2, V.str []), (3, V.int .i64 0), (4, (V.box 4 0)), (10, V.tup []), (12, V.tup []), (13, V.tup []), (14, V.tup []), (16, V.sl 49 kR none x16), (17, V.int .i64 x17), (18, V.int .i64 x18), (32, V.tup []), (33, V.tup []), (34, V.tup []), (43, V.tup []), (44, V.tup []), (45, V.tup [])] [(4, [(V.nilp), (V.nilsl), V.int .i64 b4_2]), (1, [V.sl 49 kR none b1_0, V.sl 36 kZ none b1_1, V.sl 39 [(Kd.str), (Kd.str)] none b1_2])])
noncomputable def wTx_L1 (F : Nat) (ns : List Nat) (n : Nat) (x0_0 : List V) (x0_1 : List V) (x0_2 : List V) (x16 : List V) (x17 : Int) (x18 : Int) (b4_1 : List V) (b4_2 : Int) (b1_0 : List V) (b1_1 : List V) (b1_2 : List V) (K : V → Option V) : Option V :=
 loopAt rE wS2 F 4 6 [1, 1, 0, 1, 0] ns K n (mkSt 63 [(0, V.agg [V.sl 49 kR none x0_0, V.sl 36 kZ none x0_1, V.sl 39 [(Kd.str), (Kd.str)] none x0_2]), (1, (V.box 1 0)), (2, V.str []), (3, V.int .i64 0), (4, (V.box 4 0)), (10, V.tup []), (12, V.tup []), (13, V.tup []), (14, V.tup []), (16, V.sl 49 kR none x16), (17, V.int .i64 x17), (18, V.int .i64 x18), (32, V.tup []), (33, V.tup []), (34, V.tup []), (43, V.tup []), (44, V.tup []), (45, V.tup [])] [(4, [(V.box 4 0), V.sl 5 [(Kd.int .u8)] (some 50001) b4_1, V.int .i64 b4_2]), (1, [V.sl 49 kR none b1_0, V.sl 36 kZ none b1_1, V.sl 39 [(Kd.str), (Kd.str)] none b1_2])])
noncomputable def wTx_L2 (F : Nat) (ns : List Nat) (n : Nat) (x0_0 : List V) (x0_1 : List V) (x0_2 : List V) (x16 : List V) (x17 : Int) (x18 : Int) (x32 : List V) (x33 : Int) (x34 : Int) (b4_2 : Int) (b1_0 : List V) (b1_1 : List V) (b1_2 : List V) (K : V → Option V) : Option V :=
 loopAt rE wS2 F 4 6 [1, 1, 1, 0, 1, 0] ns K n (mkSt 63 [(0, V.agg [V.sl 49 kR none x0_0, V.sl 36 kZ none x0_1, V.sl 39 [(Kd.str), (Kd.str)] none x0_2]), (1, (V.box 1 0)), (2, V.str []), (3, V.int .i64 0), (4, (V.box 4 0)), (12, V.tup []), (13, V.tup []), (14, V.tup []), (16, V.sl 49 kR none x16), (17, V.int .i64 x17), (18, V.int .i64 x18), (32, V.sl 36 kZ none x32), (33, V.int .i64 x33), (34, V.int .i64 x34), (43, V.tup []), (44, V.tup []), (45, V.tup [])] [(4, [(V.nilp), (V.nilsl), V.int .i64 b4_2]), (1, [V.sl 49 kR none b1_0, V.sl 36 kZ none b1_1, V.sl 39 [(Kd.str), (Kd.str)] none b1_2])])
noncomputable def wTx_L3 (F : Nat) (ns : List Nat) (n : Nat) (x0_0 : List V) (x0_1 : List V) (x0_2 : List V) (x16 : List V) (x17 : Int) (x18 : Int) (x32 : List V) (x33 : Int) (x34 : Int) (b4_1 : List V) (b4_2 : Int) (b1_0 : List V) (b1_1 : List V) (b1_2 : List V) (K : V → Option V) : Option V :=
 loopAt rE wS2 F 4 6 [1, 1, 1, 0, 1, 0] ns K n (mkSt 63 [(0, V.agg [V.sl 49 kR none x0_0, V.sl 36 kZ none x0_1, V.sl 39 [(Kd.str), (Kd.str)] none x0_2]), (1, (V.box 1 0)), (2, V.str []), (3, V.int .i64 0), (4, (V.box 4 0)), (12, V.tup []), (13, V.tup []), (14, V.tup []), (16, V.sl 49 kR none x16), (17, V.int .i64 x17), (18, V.int .i64 x18), (32, V.sl 36 kZ none x32), (33, V.int .i64 x33), (34, V.int .i64 x34), (43, V.tup []), (44, V.tup []), (45, V.tup [])] [(4, [(V.box 4 0), V.sl 5 [(Kd.int .u8)] (some 50001) b4_1, V.int .i64 b4_2]), (1, [V.sl 49 kR none b1_0, V.sl 36 kZ none b1_1, V.sl 39 [(Kd.str), (Kd.str)] none b1_2])])
noncomputable def wTx_L4 (F : Nat) (ns : List Nat) (n : Nat) (x0_0 : List V) (x0_1 : List V) (x0_2 : List V) (x16 : List V) (x17 : Int) (x18 : Int) (x32 : List V) (x33 : Int) (x34 : Int) (x43 : List V) (x44 : Int) (x45 : Int) (b4_2 : Int) (b1_0 : List V) (b1_1 : List V) (b1_2 : List V) (K : V → Option V) : Option V :=
 loopAt rE wS2 F 4 6 [1, 1, 1, 1, 0, 1, 0] ns K n (mkSt 63 [(0, V.agg [V.sl 49 kR none x0_0, V.sl 36 kZ none x0_1, V.sl 39 [(Kd.str), (Kd.str)] none x0_2]), (1, (V.box 1 0)), (2, V.str []), (3, V.int .i64 0), (4, (V.box 4 0)), (16, V.sl 49 kR none x16), (17, V.int .i64 x17), (18, V.int .i64 x18), (32, V.sl 36 kZ none x32), (33, V.int .i64 x33), (34, V.int .i64 x34), (43, V.sl 39 [(Kd.str), (Kd.str)] none x43), (44, V.int .i64 x44), (45, V.int .i64 x45)] [(4, [(V.nilp), (V.nilsl), V.int .i64 b4_2]), (1, [V.sl 49 kR none b1_0, V.sl 36 kZ none b1_1, V.sl 39 [(Kd.str), (Kd.str)] none b1_2])])
noncomputable def wTx_L5 (F : Nat) (ns : List Nat) (n : Nat) (x0_0 : List V) (x0_1 : List V) (x0_2 : List V) (x16 : List V) (x17 : Int) (x18 : Int) (x32 : List V) (x33 : Int) (x34 : Int) (x43 : List V) (x44 : Int) (x45 : Int) (b4_1 : List V) (b4_2 : Int) (b1_0 : List V) (b1_1 : List V) (b1_2 : List V) (K : V → Option V) : Option V :=
 loopAt rE wS2 F 4 6 [1, 1, 1, 1, 0, 1, 0] ns K n (mkSt 63 [(0, V.agg [V.sl 49 kR none x0_0, V.sl 36 kZ none x0_1, V.sl 39 [(Kd.str), (Kd.str)] none x0_2]), (1, (V.box 1 0)), (2, V.str []), (3, V.int .i64 0), (4, (V.box 4 0)), (16, V.sl 49 kR none x16), (17, V.int .i64 x17), (18, V.int .i64 x18), (32, V.sl 36 kZ none x32), (33, V.int .i64 x33), (34, V.int .i64 x34), (43, V.sl 39 [(Kd.str), (Kd.str)] none x43), (44, V.int .i64 x44), (45, V.int .i64 x45)] [(4, [(V.box 4 0), V.sl 5 [(Kd.int .u8)] (some 50001) b4_1, V.int .i64 b4_2]), (1, [V.sl 49 kR none b1_0, V.sl 36 kZ none b1_1, V.sl 39 [(Kd.str), (Kd.str)] none b1_2])])
theorem wTx_top (F : Nat) (xs : List V) (zs : List V) (ls : List V) (K : V → Option V) :
 evBd rE (evFn rE wS2 F 4) F 6 [(V.agg [(V.sl 49 kR none xs), (V.sl 36 kZ none zs), (V.sl 39 [(Kd.str), (Kd.str)] none ls)])] K =
 wTx_L0 F [] F xs zs ls xs (llen xs) 0 0 xs zs ls K := by kernel_rfl
theorem wTx_L0_succ (F : Nat) (n : Nat) (x0_0 : List V) (x0_1 : List V) (x0_2 : List V) (x16 : List V) (x17 : Int) (x18 : Int) (b4_2 : Int) (b1_0 : List V) (b1_1 : List V) (b1_2 : List V) (K : V → Option V) :
 wTx_L0 F [] (n + 1) x0_0 x0_1 x0_2 x16 x17 x18 b4_2 b1_0 b1_1 b1_2 K =
 sel (ilt x18 x17)
 (sel (band (ile 0 x18) (ilt x18 (llen x16)))
 (sel (gR (lget x16 x18))
 (sel (band true (band (lnK [82, 117, 108, 101] (fvR (lget x16 x18))) (ile (llen []) 1000000)))
 (wTx_L1 F [] n x0_0 x0_1 x0_2 x16 x17 (iadd .i64 x18 1) (bytesV (lnT [82, 117, 108, 101] (fvR (lget x16 x18)))) (or3 b4_2 (feR (lget x16 x18)) (jnW (fvR (lget x16 x18)))) b1_0 b1_1 b1_2 K)
 (none))
 (none))
 (none))
 (wTx_L2 F [] F x0_0 x0_1 x0_2 x16 x17 x18 b1_1 (llen b1_1) 0 b4_2 b1_0 b1_1 b1_2 K) := by kernel_rfl
theorem wTx_L1_succ (F : Nat) (n : Nat) (x0_0 : List V) (x0_1 : List V) (x0_2 : List V) (x16 : List V) (x17 : Int) (x18 : Int) (b4_1 : List V) (b4_2 : Int) (b1_0 : List V) (b1_1 : List V) (b1_2 : List V) (K : V → Option V) :
 wTx_L1 F [] (n + 1) x0_0 x0_1 x0_2 x16 x17 x18 b4_1 b4_2 b1_0 b1_1 b1_2 K =
 sel (ilt x18 x17)
 (sel (band (ile 0 x18) (ilt x18 (llen x16)))
 (sel (gR (lget x16 x18))
 (sel (band true (band (lnK [82, 117, 108, 101] (fvR (lget x16 x18))) (ile (llen b4_1) 1000000)))
 (wTx_L1 F [] n x0_0 x0_1 x0_2 x16 x17 (iadd .i64 x18 1) (lcat b4_1 (bytesV (lnT [82, 117, 108, 101] (fvR (lget x16 x18))))) (or3 b4_2 (feR (lget x16 x18)) (jnW (fvR (lget x16 x18)))) b1_0 b1_1 b1_2 K)
 (none))
 (none))
 (none))
 (wTx_L3 F [] F x0_0 x0_1 x0_2 x16 x17 x18 b1_1 (llen b1_1) 0 b4_1 b4_2 b1_0 b1_1 b1_2 K) := by kernel_rfl
theorem wTx_L2_succ (F : Nat) (n : Nat) (x0_0 : List V) (x0_1 : List V) (x0_2 : List V) (x16 : List V) (x17 : Int) (x18 : Int) (x32 : List V) (x33 : Int) (x34 : Int) (b4_2 : Int) (b1_0 : List V) (b1_1 : List V) (b1_2 : List V) (K : V → Option V) :
 wTx_L2 F [] (n + 1) x0_0 x0_1 x0_2 x16 x17 x18 x32 x33 x34 b4_2 b1_0 b1_1 b1_2 K =
 sel (ilt x34 x33)
 (sel (band (ile 0 x34) (ilt x34 (llen x32)))
 (sel (band true (band (znK b1_0 (asStr (acell (lget x32 x34) 0)) (asL (acell (lget x32 x34) 1))) (ile (llen []) 500000)))
 (sel (band true (ieq (llen (asL (acell (lget x32 x34) 1))) 0))
 (wTx_L2 F [] n x0_0 x0_1 x0_2 x16 x17 x18 x32 x33 (iadd .i64 x34 1) (znW b4_2 b1_0 (asStr (acell (lget x32 x34) 0)) (asL (acell (lget x32 x34) 1))) b1_0 b1_1 b1_2 K)
 (wTx_L3 F [] n x0_0 x0_1 x0_2 x16 x17 x18 x32 x33 (iadd .i64 x34 1) (bytesV (znT (asStr (acell (lget x32 x34) 0)) (asL (acell (lget x32 x34) 1)))) (znW b4_2 b1_0 (asStr (acell (lget x32 x34) 0)) (asL (acell (lget x32 x34) 1))) b1_0 b1_1 b1_2 K))
 (none))
 (none))
 (wTx_L4 F [] F x0_0 x0_1 x0_2 x16 x17 x18 x32 x33 x34 b1_2 (llen b1_2) 0 b4_2 b1_0 b1_1 b1_2 K) := by kernel_rfl
theorem wTx_L3_succ (F : Nat) (n : Nat) (x0_0 : List V) (x0_1 : List V) (x0_2 : List V) (x16 : List V) (x17 : Int) (x18 : Int) (x32 : List V) (x33 : Int) (x34 : Int) (b4_1 : List V) (b4_2 : Int) (b1_0 : List V) (b1_1 : List V) (b1_2 : List V) (K : V → Option V) :
 wTx_L3 F [] (n + 1) x0_0 x0_1 x0_2 x16 x17 x18 x32 x33 x34 b4_1 b4_2 b1_0 b1_1 b1_2 K =
 sel (ilt x34 x33)
 (sel (band (ile 0 x34) (ilt x34 (llen x32)))
 (sel (band true (band (znK b1_0 (asStr (acell (lget x32 x34) 0)) (asL (acell (lget x32 x34) 1))) (ile (llen b4_1) 500000)))
 (wTx_L3 F [] n x0_0 x0_1 x0_2 x16 x17 x18 x32 x33 (iadd .i64 x34 1) (lcat b4_1 (bytesV (znT (asStr (acell (lget x32 x34) 0)) (asL (acell (lget x32 x34) 1))))) (znW b4_2 b1_0 (asStr (acell (lget x32 x34) 0)) (asL (acell (lget x32 x34) 1))) b1_0 b1_1 b1_2 K)
 (none))
 (none))
 (wTx_L5 F [] F x0_0 x0_1 x0_2 x16 x17 x18 x32 x33 x34 b1_2 (llen b1_2) 0 b4_1 b4_2 b1_0 b1_1 b1_2 K) := by kernel_rfl
theorem wTx_L4_succ (F : Nat) (n : Nat) (x0_0 : List V) (x0_1 : List V) (x0_2 : List V) (x16 : List V) (x17 : Int) (x18 : Int) (x32 : List V) (x33 : Int) (x34 : Int) (x43 : List V) (x44 : Int) (x45 : Int) (b4_2 : Int) (b1_0 : List V) (b1_1 : List V) (b1_2 : List V) (K : V → Option V) :
 wTx_L4 F [] (n + 1) x0_0 x0_1 x0_2 x16 x17 x18 x32 x33 x34 x43 x44 x45 b4_2 b1_0 b1_1 b1_2 K =
 sel (ilt x45 x44)
 (sel (band (ile 0 x45) (ilt x45 (llen x43)))
 (sel (band true (band (lnK [76, 105, 110, 107] (fdL (asStr (acell (lget x43 x45) 0)) (asStr (acell (lget x43 x45) 1)))) (ile (llen []) 1000000)))
 (wTx_L5 F [] n x0_0 x0_1 x0_2 x16 x17 x18 x32 x33 x34 x43 x44 (iadd .i64 x45 1) (bytesV (lnT [76, 105, 110, 107] (fdL (asStr (acell (lget x43 x45) 0)) (asStr (acell (lget x43 x45) 1))))) (or3 b4_2 (fdE (asStr (acell (lget x43 x45) 0)) (asStr (acell (lget x43 x45) 1))) (jnW (fdL (asStr (acell (lget x43 x45) 0)) (asStr (acell (lget x43 x45) 1))))) b1_0 b1_1 b1_2 K)
 (none))
 (none))
 (sel (bnot (ieq b4_2 0))
 (K (V.tup [(V.str []), (V.int .i64 4)]))
 (K (V.tup [(V.str []), (V.int .i64 0)]))) := by kernel_rfl
theorem wTx_L5_succ (F : Nat) (n : Nat) (x0_0 : List V) (x0_1 : List V) (x0_2 : List V) (x16 : List V) (x17 : Int) (x18 : Int) (x32 : List V) (x33 : Int) (x34 : Int) (x43 : List V) (x44 : Int) (x45 : Int) (b4_1 : List V) (b4_2 : Int) (b1_0 : List V) (b1_1 : List V) (b1_2 : List V) (K : V → Option V) :
 wTx_L5 F [] (n + 1) x0_0 x0_1 x0_2 x16 x17 x18 x32 x33 x34 x43 x44 x45 b4_1 b4_2 b1_0 b1_1 b1_2 K =
 sel (ilt x45 x44)
 (sel (band (ile 0 x45) (ilt x45 (llen x43)))
 (sel (band true (band (lnK [76, 105, 110, 107] (fdL (asStr (acell (lget x43 x45) 0)) (asStr (acell (lget x43 x45) 1)))) (ile (llen b4_1) 1000000)))
 (wTx_L5 F [] n x0_0 x0_1 x0_2 x16 x17 x18 x32 x33 x34 x43 x44 (iadd .i64 x45 1) (lcat b4_1 (bytesV (lnT [76, 105, 110, 107] (fdL (asStr (acell (lget x43 x45) 0)) (asStr (acell (lget x43 x45) 1)))))) (or3 b4_2 (fdE (asStr (acell (lget x43 x45) 0)) (asStr (acell (lget x43 x45) 1))) (jnW (fdL (asStr (acell (lget x43 x45) 0)) (asStr (acell (lget x43 x45) 1))))) b1_0 b1_1 b1_2 K)
 (none))
 (none))
 (sel (bnot (ieq b4_2 0))
 (K (V.tup [(V.str []), (V.int .i64 4)]))
 (K (V.tup [(V.str (vbytes b4_1)), (V.int .i64 0)]))) := by kernel_rfl
theorem wLn31_top (F : Nat) (a : List UInt8) (fs : List V) (K : V → Option V) :
 evBd rE (evFn rE wS0 F 3) F 21 [(V.str a), (V.sl 9 [(Kd.str)] none fs)] K =
 sel (jnK fs)
 (sel (okCat a [32])
 (sel (okCat (scat a [32]) (jnT fs))
 (sel (okCat (scat (scat a [32]) (jnT fs)) [10])
 (K (V.str (scat (scat (scat a [32]) (jnT fs)) [10])))
 (none))
 (none))
 (none))
 (none) := by kernel_rfl
noncomputable def wZo28_L0 (F : Nat) (ns : List Nat) (n : Nat) (x0_0 : List UInt8) (x0_1 : List V) (x2 : Bool) (x6 : List V) (x7 : Int) (x8 : Int) (b1_0 : List UInt8) (b1_1 : List V) (K : V → Option V) : Option V :=
 loopAt rE wS0 F 3 26 [1, 0, 1, 0] ns K n (mkSt 33 [(0, V.agg [V.str x0_0, V.sl 47 kE none x0_1]), (1, (V.box 1 0)), (2, V.bool x2), (6, V.sl 47 kE none x6), (7, V.int .i64 x7), (8, V.int .i64 x8)] [(1, [V.str b1_0, V.sl 47 kE none b1_1])])
theorem wZo28_top (F : Nat) (n : List UInt8) (es : List V) (K : V → Option V) :
 evBd rE (evFn rE wS0 F 3) F 26 [(V.agg [(V.str n), (V.sl 47 kE none es)])] K =
 wZo28_L0 F [] F n es false es (llen es) 0 n es K := by kernel_rfl
theorem wZo28_L0_succ (F : Nat) (n : Nat) (x0_0 : List UInt8) (x0_1 : List V) (x2 : Bool) (x6 : List V) (x7 : Int) (x8 : Int) (b1_0 : List UInt8) (b1_1 : List V) (K : V → Option V) :
 wZo28_L0 F [] (n + 1) x0_0 x0_1 x2 x6 x7 x8 b1_0 b1_1 K =
 sel (ilt x8 x7)
 (sel (band (ile 0 x8) (ilt x8 (llen x6)))
 (sel (band (ile (slen (asStr (acell (lget x6 x8) 3))) 900) (ile (slen (asStr (acell (lget x6 x8) 4))) 900))
 (sel (bnot (rrE (lget x6 x8)))
 (K (V.bool false))
 (sel (bnot (beq (asBool (acell (lget x6 x8) 5)) (ilt x8 (isub .i64 (llen b1_1) 1))))
 (K (V.bool false))
 (wZo28_L0 F [] n x0_0 x0_1 x2 x6 x7 (iadd .i64 x8 1) b1_0 b1_1 K)))
 (none))
 (none))
 (K (V.bool (ilt 0 (llen b1_1)))) := by kernel_rfl
noncomputable def wRg31_L0 (F : Nat) (ns : List Nat) (n : Nat) (x0_0 : List V) (x0_1 : List V) (x0_2 : List V) (x2 : Bool) (x10 : List V) (x11 : Int) (x12 : Int) (b1_0 : List V) (b1_1 : List V) (b1_2 : List V) (K : V → Option V) : Option V :=
 loopAt rE wS3 F 3 9 [1, 0, 1, 0] ns K n (mkSt 48 [(0, V.agg [V.sl 49 kR none x0_0, V.sl 36 kZ none x0_1, V.sl 39 [(Kd.str), (Kd.str)] none x0_2]), (1, (V.box 1 0)), (2, V.bool x2), (6, V.tup []), (8, V.tup []), (10, V.sl 49 kR none x10), (11, V.int .i64 x11), (12, V.int .i64 x12), (21, V.tup []), (22, V.tup []), (23, V.tup []), (38, V.tup []), (39, V.tup []), (40, V.tup [])] [(1, [V.sl 49 kR none b1_0, V.sl 36 kZ none b1_1, V.sl 39 [(Kd.str), (Kd.str)] none b1_2])])
noncomputable def wRg31_L1 (F : Nat) (ns : List Nat) (n : Nat) (x0_0 : List V) (x0_1 : List V) (x0_2 : List V) (x2 : Bool) (x10 : List V) (x11 : Int) (x12 : Int) (x21 : List V) (x22 : Int) (x23 : Int) (b1_0 : List V) (b1_1 : List V) (b1_2 : List V) (K : V → Option V) : Option V :=
 loopAt rE wS3 F 3 9 [1, 1, 0, 1, 0] ns K n (mkSt 48 [(0, V.agg [V.sl 49 kR none x0_0, V.sl 36 kZ none x0_1, V.sl 39 [(Kd.str), (Kd.str)] none x0_2]), (1, (V.box 1 0)), (2, V.bool x2), (8, V.tup []), (10, V.sl 49 kR none x10), (11, V.int .i64 x11), (12, V.int .i64 x12), (21, V.sl 36 kZ none x21), (22, V.int .i64 x22), (23, V.int .i64 x23), (38, V.tup []), (39, V.tup []), (40, V.tup [])] [(1, [V.sl 49 kR none b1_0, V.sl 36 kZ none b1_1, V.sl 39 [(Kd.str), (Kd.str)] none b1_2])])
noncomputable def wRg31_L2 (F : Nat) (ns : List Nat) (n : Nat) (x0_0 : List V) (x0_1 : List V) (x0_2 : List V) (x2 : Bool) (x10 : List V) (x11 : Int) (x12 : Int) (x21 : List V) (x22 : Int) (x23 : Int) (x38 : List V) (x39 : Int) (x40 : Int) (b1_0 : List V) (b1_1 : List V) (b1_2 : List V) (K : V → Option V) : Option V :=
 loopAt rE wS3 F 3 9 [1, 1, 1, 0, 1, 0] ns K n (mkSt 48 [(0, V.agg [V.sl 49 kR none x0_0, V.sl 36 kZ none x0_1, V.sl 39 [(Kd.str), (Kd.str)] none x0_2]), (1, (V.box 1 0)), (2, V.bool x2), (10, V.sl 49 kR none x10), (11, V.int .i64 x11), (12, V.int .i64 x12), (21, V.sl 36 kZ none x21), (22, V.int .i64 x22), (23, V.int .i64 x23), (38, V.sl 39 [(Kd.str), (Kd.str)] none x38), (39, V.int .i64 x39), (40, V.int .i64 x40)] [(1, [V.sl 49 kR none b1_0, V.sl 36 kZ none b1_1, V.sl 39 [(Kd.str), (Kd.str)] none b1_2])])
theorem wRg31_top (F : Nat) (xs : List V) (zs : List V) (ls : List V) (K : V → Option V) :
 evBd rE (evFn rE wS3 F 3) F 9 [(V.agg [(V.sl 49 kR none xs), (V.sl 36 kZ none zs), (V.sl 39 [(Kd.str), (Kd.str)] none ls)])] K =
 wRg31_L0 F [] F xs zs ls false xs (llen xs) 0 xs zs ls K := by kernel_rfl
theorem wRg31_L0_succ (F : Nat) (n : Nat) (x0_0 : List V) (x0_1 : List V) (x0_2 : List V) (x2 : Bool) (x10 : List V) (x11 : Int) (x12 : Int) (b1_0 : List V) (b1_1 : List V) (b1_2 : List V) (K : V → Option V) :
 wRg31_L0 F [] (n + 1) x0_0 x0_1 x0_2 x2 x10 x11 x12 b1_0 b1_1 b1_2 K =
 sel (ilt x12 x11)
 (sel (band (ile 0 x12) (ilt x12 (llen x10)))
 (sel (ile (slen (asStr (acell (lget x10 x12) 10))) 900)
 (sel (bnot (rrR (lget x10 x12)))
 (K (V.bool false))
 (wRg31_L0 F [] n x0_0 x0_1 x0_2 x2 x10 x11 (iadd .i64 x12 1) b1_0 b1_1 b1_2 K))
 (none))
 (none))
 (wRg31_L1 F [] F x0_0 x0_1 x0_2 x2 x10 x11 x12 b1_1 (llen b1_1) 0 b1_0 b1_1 b1_2 K) := by kernel_rfl
theorem wRg31_L1_succ (F : Nat) (n : Nat) (x0_0 : List V) (x0_1 : List V) (x0_2 : List V) (x2 : Bool) (x10 : List V) (x11 : Int) (x12 : Int) (x21 : List V) (x22 : Int) (x23 : Int) (b1_0 : List V) (b1_1 : List V) (b1_2 : List V) (K : V → Option V) :
 wRg31_L1 F [] (n + 1) x0_0 x0_1 x0_2 x2 x10 x11 x12 x21 x22 x23 b1_0 b1_1 b1_2 K =
 sel (ilt x23 x22)
 (sel (band (ile 0 x23) (ilt x23 (llen x21)))
 (sel (bnot (ieq (nmI (asStr (acell (lget x21 x23) 0))) 0))
 (K (V.bool false))
 (sel (zoK (asL (acell (lget x21 x23) 1)))
 (sel (bnot (zoB (asL (acell (lget x21 x23) 1))))
 (K (V.bool false))
 (wRg31_L1 F [] n x0_0 x0_1 x0_2 x2 x10 x11 x12 x21 x22 (iadd .i64 x23 1) b1_0 b1_1 b1_2 K))
 (none)))
 (none))
 (wRg31_L2 F [] F x0_0 x0_1 x0_2 x2 x10 x11 x12 x21 x22 x23 b1_2 (llen b1_2) 0 b1_0 b1_1 b1_2 K) := by kernel_rfl
theorem wRg31_L2_succ (F : Nat) (n : Nat) (x0_0 : List V) (x0_1 : List V) (x0_2 : List V) (x2 : Bool) (x10 : List V) (x11 : Int) (x12 : Int) (x21 : List V) (x22 : Int) (x23 : Int) (x38 : List V) (x39 : Int) (x40 : Int) (b1_0 : List V) (b1_1 : List V) (b1_2 : List V) (K : V → Option V) :
 wRg31_L2 F [] (n + 1) x0_0 x0_1 x0_2 x2 x10 x11 x12 x21 x22 x23 x38 x39 x40 b1_0 b1_1 b1_2 K =
 sel (ilt x40 x39)
 (sel (band (ile 0 x40) (ilt x40 (llen x38)))
 (sel (bnot (rgB (asStr (acell (lget x38 x40) 0)) (asStr (acell (lget x38 x40) 1))))
 (K (V.bool false))
 (wRg31_L2 F [] n x0_0 x0_1 x0_2 x2 x10 x11 x12 x21 x22 x23 x38 x39 (iadd .i64 x40 1) b1_0 b1_1 b1_2 K))
 (none))
 (K (V.bool true)) := by kernel_rfl
noncomputable def wTx31_L0 (F : Nat) (ns : List Nat) (n : Nat) (x0_0 : List V) (x0_1 : List V) (x0_2 : List V) (x4 : List UInt8) (x23 : List V) (x24 : Int) (x25 : Int) (b1_0 : List V) (b1_1 : List V) (b1_2 : List V) (K : V → Option V) : Option V :=
 loopAt rE wS4 F 3 7 [1, 1, 1, 0, 1, 0] ns K n (mkSt 92 [(0, V.agg [V.sl 49 kR none x0_0, V.sl 36 kZ none x0_1, V.sl 39 [(Kd.str), (Kd.str)] none x0_2]), (1, (V.box 1 0)), (2, V.str []), (3, V.int .i64 0), (4, V.str x4), (10, V.tup []), (11, V.tup []), (12, V.tup []), (13, V.tup []), (16, V.tup []), (17, V.tup []), (23, V.sl 49 kR none x23), (24, V.int .i64 x24), (25, V.int .i64 x25), (40, V.tup []), (41, V.tup []), (42, V.tup []), (47, V.tup []), (48, V.tup []), (49, V.tup []), (75, V.tup []), (76, V.tup []), (77, V.tup [])] [(1, [V.sl 49 kR none b1_0, V.sl 36 kZ none b1_1, V.sl 39 [(Kd.str), (Kd.str)] none b1_2])])
noncomputable def wTx31_L1 (F : Nat) (ns : List Nat) (n : Nat) (x0_0 : List V) (x0_1 : List V) (x0_2 : List V) (x4 : List UInt8) (x23 : List V) (x24 : Int) (x25 : Int) (x40 : List V) (x41 : Int) (x42 : Int) (b1_0 : List V) (b1_1 : List V) (b1_2 : List V) (K : V → Option V) : Option V :=
 loopAt rE wS4 F 3 7 [1, 1, 1, 1, 0, 1, 0] ns K n (mkSt 92 [(0, V.agg [V.sl 49 kR none x0_0, V.sl 36 kZ none x0_1, V.sl 39 [(Kd.str), (Kd.str)] none x0_2]), (1, (V.box 1 0)), (2, V.str []), (3, V.int .i64 0), (4, V.str x4), (16, V.tup []), (17, V.tup []), (23, V.sl 49 kR none x23), (24, V.int .i64 x24), (25, V.int .i64 x25), (40, V.sl 36 kZ none x40), (41, V.int .i64 x41), (42, V.int .i64 x42), (75, V.tup []), (76, V.tup []), (77, V.tup [])] [(1, [V.sl 49 kR none b1_0, V.sl 36 kZ none b1_1, V.sl 39 [(Kd.str), (Kd.str)] none b1_2])])
noncomputable def wTx31_L2 (F : Nat) (ns : List Nat) (n : Nat) (x0_0 : List V) (x0_1 : List V) (x0_2 : List V) (x4 : List UInt8) (x23 : List V) (x24 : Int) (x25 : Int) (x40 : List V) (x41 : Int) (x42 : Int) (x47 : List V) (x48 : Int) (x49 : Int) (b10_0 : List UInt8) (b10_1 : List V) (b1_0 : List V) (b1_1 : List V) (b1_2 : List V) (K : V → Option V) : Option V :=
 loopAt rE wS4 F 3 7 [1, 1, 1, 1, 0, 1, 0, 0, 1, 1, 0, 0, 1, 1, 0] ns K n (mkSt 92 [(0, V.agg [V.sl 49 kR none x0_0, V.sl 36 kZ none x0_1, V.sl 39 [(Kd.str), (Kd.str)] none x0_2]), (1, (V.box 1 0)), (2, V.str []), (3, V.int .i64 0), (4, V.str x4), (10, (V.box 10 0)), (16, V.tup []), (17, V.tup []), (23, V.sl 49 kR none x23), (24, V.int .i64 x24), (25, V.int .i64 x25), (40, V.sl 36 kZ none x40), (41, V.int .i64 x41), (42, V.int .i64 x42), (47, V.sl 47 kE none x47), (48, V.int .i64 x48), (49, V.int .i64 x49), (75, V.tup []), (76, V.tup []), (77, V.tup [])] [(10, [V.str b10_0, V.sl 47 kE none b10_1]), (1, [V.sl 49 kR none b1_0, V.sl 36 kZ none b1_1, V.sl 39 [(Kd.str), (Kd.str)] none b1_2])])
noncomputable def wTx31_L3 (F : Nat) (ns : List Nat) (n : Nat) (x0_0 : List V) (x0_1 : List V) (x0_2 : List V) (x4 : List UInt8) (x23 : List V) (x24 : Int) (x25 : Int) (x40 : List V) (x41 : Int) (x42 : Int) (x75 : List V) (x76 : Int) (x77 : Int) (b1_0 : List V) (b1_1 : List V) (b1_2 : List V) (K : V → Option V) : Option V :=
 loopAt rE wS4 F 3 7 [1, 1, 1, 1, 1, 0, 1, 0] ns K n (mkSt 92 [(0, V.agg [V.sl 49 kR none x0_0, V.sl 36 kZ none x0_1, V.sl 39 [(Kd.str), (Kd.str)] none x0_2]), (1, (V.box 1 0)), (2, V.str []), (3, V.int .i64 0), (4, V.str x4), (23, V.sl 49 kR none x23), (24, V.int .i64 x24), (25, V.int .i64 x25), (40, V.sl 36 kZ none x40), (41, V.int .i64 x41), (42, V.int .i64 x42), (75, V.sl 39 [(Kd.str), (Kd.str)] none x75), (76, V.int .i64 x76), (77, V.int .i64 x77)] [(1, [V.sl 49 kR none b1_0, V.sl 36 kZ none b1_1, V.sl 39 [(Kd.str), (Kd.str)] none b1_2])])
theorem wTx31_top (F : Nat) (xs : List V) (zs : List V) (ls : List V) (K : V → Option V) :
 evBd rE (evFn rE wS4 F 3) F 7 [(V.agg [(V.sl 49 kR none xs), (V.sl 36 kZ none zs), (V.sl 39 [(Kd.str), (Kd.str)] none ls)])] K =
 sel (rgK xs zs ls)
 (sel (bnot (rgT xs zs ls))
 (K (V.tup [(V.str []), (V.int .i64 4)]))
 (wTx31_L0 F [] F xs zs ls [] xs (llen xs) 0 xs zs ls K))
 (none) := by kernel_rfl
theorem wTx31_L0_succ (F : Nat) (n : Nat) (x0_0 : List V) (x0_1 : List V) (x0_2 : List V) (x4 : List UInt8) (x23 : List V) (x24 : Int) (x25 : Int) (b1_0 : List V) (b1_1 : List V) (b1_2 : List V) (K : V → Option V) :
 wTx31_L0 F [] (n + 1) x0_0 x0_1 x0_2 x4 x23 x24 x25 b1_0 b1_1 b1_2 K =
 sel (ilt x25 x24)
 (sel (band (ile 0 x25) (ilt x25 (llen x23)))
 (sel (gR (lget x23 x25))
 (sel (lnK [82, 117, 108, 101] (fvR (lget x23 x25)))
 (sel (okCat x4 (lnT [82, 117, 108, 101] (fvR (lget x23 x25))))
 (wTx31_L0 F [] n x0_0 x0_1 x0_2 (scat x4 (lnT [82, 117, 108, 101] (fvR (lget x23 x25)))) x23 x24 (iadd .i64 x25 1) b1_0 b1_1 b1_2 K)
 (none))
 (none))
 (none))
 (none))
 (wTx31_L1 F [] F x0_0 x0_1 x0_2 x4 x23 x24 x25 b1_1 (llen b1_1) 0 b1_0 b1_1 b1_2 K) := by kernel_rfl
theorem wTx31_L1_succ (F : Nat) (n : Nat) (x0_0 : List V) (x0_1 : List V) (x0_2 : List V) (x4 : List UInt8) (x23 : List V) (x24 : Int) (x25 : Int) (x40 : List V) (x41 : Int) (x42 : Int) (b1_0 : List V) (b1_1 : List V) (b1_2 : List V) (K : V → Option V) :
 wTx31_L1 F [] (n + 1) x0_0 x0_1 x0_2 x4 x23 x24 x25 x40 x41 x42 b1_0 b1_1 b1_2 K =
 sel (ilt x42 x41)
 (sel (band (ile 0 x42) (ilt x42 (llen x40)))
 (wTx31_L2 F [n] F x0_0 x0_1 x0_2 x4 x23 x24 x25 x40 x41 x42 (asL (acell (lget x40 x42) 1)) (llen (asL (acell (lget x40 x42) 1))) 0 (asStr (acell (lget x40 x42) 0)) (asL (acell (lget x40 x42) 1)) b1_0 b1_1 b1_2 K)
 (none))
 (wTx31_L3 F [] F x0_0 x0_1 x0_2 x4 x23 x24 x25 x40 x41 x42 b1_2 (llen b1_2) 0 b1_0 b1_1 b1_2 K) := by kernel_rfl
theorem wTx31_L2_succ (F : Nat) (m0 : Nat) (n : Nat) (x0_0 : List V) (x0_1 : List V) (x0_2 : List V) (x4 : List UInt8) (x23 : List V) (x24 : Int) (x25 : Int) (x40 : List V) (x41 : Int) (x42 : Int) (x47 : List V) (x48 : Int) (x49 : Int) (b10_0 : List UInt8) (b10_1 : List V) (b1_0 : List V) (b1_1 : List V) (b1_2 : List V) (K : V → Option V) :
 wTx31_L2 F [m0] (n + 1) x0_0 x0_1 x0_2 x4 x23 x24 x25 x40 x41 x42 x47 x48 x49 b10_0 b10_1 b1_0 b1_1 b1_2 K =
 sel (ilt x49 x48)
 (sel (band (ile 0 x49) (ilt x49 (llen x47)))
 (sel (gE (lget x47 x49))
 (sel (ieq x49 0)
 (sel (okCat [90, 111, 110, 101, 32] b10_0)
 (sel (lnK (scat [90, 111, 110, 101, 32] b10_0) (fvE (lget x47 x49)))
 (sel (okCat x4 (lnT (scat [90, 111, 110, 101, 32] b10_0) (fvE (lget x47 x49))))
 (wTx31_L2 F [m0] n x0_0 x0_1 x0_2 (scat x4 (lnT (scat [90, 111, 110, 101, 32] b10_0) (fvE (lget x47 x49)))) x23 x24 x25 x40 x41 x42 x47 x48 (iadd .i64 x49 1) b10_0 b10_1 b1_0 b1_1 b1_2 K)
 (none))
 (none))
 (none))
 (sel (lnK [] (fvE (lget x47 x49)))
 (sel (okCat x4 (lnT [] (fvE (lget x47 x49))))
 (wTx31_L2 F [m0] n x0_0 x0_1 x0_2 (scat x4 (lnT [] (fvE (lget x47 x49)))) x23 x24 x25 x40 x41 x42 x47 x48 (iadd .i64 x49 1) b10_0 b10_1 b1_0 b1_1 b1_2 K)
 (none))
 (none)))
 (none))
 (none))
 (wTx31_L1 F [] m0 x0_0 x0_1 x0_2 x4 x23 x24 x25 x40 x41 (iadd .i64 x42 1) b1_0 b1_1 b1_2 K) := by kernel_rfl
theorem wTx31_L3_succ (F : Nat) (n : Nat) (x0_0 : List V) (x0_1 : List V) (x0_2 : List V) (x4 : List UInt8) (x23 : List V) (x24 : Int) (x25 : Int) (x40 : List V) (x41 : Int) (x42 : Int) (x75 : List V) (x76 : Int) (x77 : Int) (b1_0 : List V) (b1_1 : List V) (b1_2 : List V) (K : V → Option V) :
 wTx31_L3 F [] (n + 1) x0_0 x0_1 x0_2 x4 x23 x24 x25 x40 x41 x42 x75 x76 x77 b1_0 b1_1 b1_2 K =
 sel (ilt x77 x76)
 (sel (band (ile 0 x77) (ilt x77 (llen x75)))
 (sel (lnK [76, 105, 110, 107] (fdL (asStr (acell (lget x75 x77) 0)) (asStr (acell (lget x75 x77) 1))))
 (sel (okCat x4 (lnT [76, 105, 110, 107] (fdL (asStr (acell (lget x75 x77) 0)) (asStr (acell (lget x75 x77) 1)))))
 (wTx31_L3 F [] n x0_0 x0_1 x0_2 (scat x4 (lnT [76, 105, 110, 107] (fdL (asStr (acell (lget x75 x77) 0)) (asStr (acell (lget x75 x77) 1))))) x23 x24 x25 x40 x41 x42 x75 x76 (iadd .i64 x77 1) b1_0 b1_1 b1_2 K)
 (none))
 (none))
 (none))
 (K (V.tup [(V.str x4), (V.int .i64 0)])) := by kernel_rfl
end Nt.Ev.YtjkfndcpiihniaaGreatDoor.Rx

namespace Nt.Ev.YtjkfndcpiihniaaGreatDoor.Rx
set_option maxRecDepth 100000
open Go Go.RowKit Nt Nt.Num Nt.Civil Nt.Fld Go.Proofs.YtjkfndcpiihniaaGreatDoor Nt.Ev.YtjkfndcpiihniaaGreatDoor Nt.Ev.YtjkfndcpiihniaaGreatDoor.Lk
variable [MLen]
theorem wLkS_ok (t n : List UInt8) (hc : true = true) : Contract rE 18 [.agg [.str t, .str n]] (.tup [.sl 9 [.str] none (fdL t n), .int .i64 (fdE t n)]) := contract_dropE (rO (Lk.kFields_ev t n))
theorem wLkS_ok_noontideref23_Fields (t n : List UInt8) (hc : true = true) : Contract rE 23 [.agg [.str t, .str n]] (.tup [.sl 9 [.str] none (fdL t n), .int .i64 (fdE t n)]) := contract_dropE (rO (Lk.kFields23_ev t n))
theorem wLrS_ok (t n : List UInt8) (hc : true = true) : Contract rE 27 [.agg [.str t, .str n]] (.bool (rgB t n)) := rO (Lk.kRight23_ev t n)
theorem wJnS_ok (xs : List V) (hc : jnK xs = true) : Contract rE 42 [.sl 9 [.str] none xs] (.tup [.str (jnT xs), .int .i64 (jnW xs)]) := rH (hJnS_ok xs hc)
theorem wJnS_ok_noontideref14_Join (xs : List V) (hc : jnK xs = true) : Contract rE 56 [.sl 9 [.str] none xs] (.tup [.str (jnT xs), .int .i64 (jnW xs)]) := rH (hJnS_ok_noontideref14_Join xs hc)
theorem wOr_ev (a b c : Int) : Contract rE 43 [.sl 29 [.int .i64] none [.int .i64 a, .int .i64 b, .int .i64 c]] (.int .i64 (or3 a b c)) := by
  refine contract_of_body rE_ok yS9_ok 5 2 ?_
  rw [wOr_u5_top]
  unfold or3
  cases h1 : ieq a 0 <;> cases h2 : ieq b 0 <;> cases h3 : ieq c 0 <;> first | rfl | (rw [ieq_iff] at h3; subst h3; rfl)
theorem wOrS_ok (e : Nat) (o : Option Nat) (a b c : Int) (hc : true = true) : Contract rE 43 [.sl e [.int .i64] o [.int .i64 a, .int .i64 b, .int .i64 c]] (.int .i64 (or3 a b c)) := by
  intro G w vs hG hg hp
  refine wOr_ev a b c G w vs hG hg ?_
  obtain ⟨x, rfl, hx⟩ := PW_one hp
  refine .cons ?_ .nil
  unfold rep at hx ⊢
  exact hx
theorem ll1 {xs : List V} {k : Nat} (h : ile (llen xs) k = true) : xs.length ≤ k := by rw [ile_iff, llen_nat] at h; omega
theorem wEnS_ok (xs : List V) (n : List UInt8) (es : List V) (hc : band (rsOk xs) (ile (llen es) 1000) = true) : Contract rE 45 [.sl 49 [.str, .int .i64, .int .i64, .int .i64, .int .i64, .int .i64, .int .i64, .int .i64, .int .i64, .int .i64, .str] none xs, .agg [.str n, .sl 47 [.int .i64, .int .i64, .int .i64, .str, .str, .bool, .int .i64, .int .i64, .int .i64, .int .i64, .int .i64, .int .i64, .int .i64] none es]] (.tup [.sl 2 [.int .i64] (some 0) (ndL xs es), .int .i64 (ndE xs es)]) := by
  obtain ⟨h1, h2⟩ := band_true hc
  exact rF (Rd.ends_ev xs es n h1 (ll1 (k := 1000) h2))
theorem bc_cases {x : V} (h : bcOk x = true) : x = .nilp ∨ x = .box HL 0 := by
  unfold bcOk at h
  split at h
  · exact .inl rfl
  · rename_i k off
    rw [Bool.and_eq_true, beq_iff_eq, beq_iff_eq] at h
    rw [h.1, h.2]; exact .inr rfl
  · cases h
theorem wCpS_ok (x b : V) (w : Int) (hc : bcOk x = true) : XOk rE 73 [.bxa 0 [x, b, .int .i64 w]] (.out false (.tup []) [[.box HL 0, b, .int .i64 w]]) :=
  XOk.out (copy_xc rfl x b [.int .i64 w] (bc_cases hc))
theorem wStS_ok (x b : V) (w : Int) (hc : band (bcOk x) (bbOk b) = true) : XOk rE 19 [.bxa 0 [x, b, .int .i64 w]] (.out false (.str (bbS b)) [[x, bbN b, .int .i64 w]]) := by
  obtain ⟨h1, h2⟩ := band_true hc
  refine XOk.out ?_
  unfold bbOk at h2
  split at h2
  · exact string_nil_xc rfl x [.int .i64 w]
  · rename_i e sh L xs
    rw [Bool.and_eq_true, Bool.and_eq_true, beq_iff_eq, beq_iff_eq] at h2
    obtain ⟨⟨rfl, h3⟩, rfl⟩ := h2
    have h3 := Kd.eqL_sound _ _ h3
    subst h3
    exact string_xc rfl x [.int .i64 w] (by rcases bc_cases h1 with rfl | rfl <;> rfl) rfl xs
  · cases h2
theorem wS0_ok : SOk rE wS0 := by
  unfold wS0
  refine SOk.cons (fun args r h => ?_) (SOk.cons (fun args r h => ?_) (SOk.cons (fun args r h => ?_) (SOk.cons (fun args r h => ?_) (SOk.cons (fun args r h => ?_) (SOk.cons (fun args r h => ?_) (SOk.cons (fun args r h => ?_) (SOk.cons (fun args r h => ?_) (SOk.cons (fun args r h => ?_) (SOk.cons (fun args r h => ?_) (SOk.cons (fun args r h => ?_) (SOk.consX (fun args r h => ?_) (SOk.consX (fun args r h => ?_) (SOk.cons (fun args r h => ?_) (SOk.cons (fun args r h => ?_) (SOk.cons (fun args r h => ?_) (SOk.cons (fun args r h => ?_) (SOk.nil)))))))))))))))))
  · unfold wRfS at h
    split at h
    · simp only [Option.some.injEq, Prod.mk.injEq] at h
      obtain ⟨hc, rfl⟩ := h
      exact wRfS_ok _ _ _ _ _ _ _ _ _ _ _ hc
    · cases h
  · unfold wRfS at h
    split at h
    · simp only [Option.some.injEq, Prod.mk.injEq] at h
      obtain ⟨hc, rfl⟩ := h
      exact wRfS_ok_noontideref21_Fields _ _ _ _ _ _ _ _ _ _ _ hc
    · cases h
  · unfold wEfS at h
    split at h
    · simp only [Option.some.injEq, Prod.mk.injEq] at h
      obtain ⟨hc, rfl⟩ := h
      exact wEfS_ok _ _ _ _ _ _ _ _ _ _ _ _ _ hc
    · cases h
  · unfold wEfS at h
    split at h
    · simp only [Option.some.injEq, Prod.mk.injEq] at h
      obtain ⟨hc, rfl⟩ := h
      exact wEfS_ok_noontideref22_Fields _ _ _ _ _ _ _ _ _ _ _ _ _ hc
    · cases h
  · unfold wLkS at h
    split at h
    · simp only [Option.some.injEq, Prod.mk.injEq] at h
      obtain ⟨hc, rfl⟩ := h
      exact wLkS_ok _ _ rfl
    · cases h
  · unfold wLkS at h
    split at h
    · simp only [Option.some.injEq, Prod.mk.injEq] at h
      obtain ⟨hc, rfl⟩ := h
      exact wLkS_ok_noontideref23_Fields _ _ rfl
    · cases h
  · unfold wLrS at h
    split at h
    · simp only [Option.some.injEq, Prod.mk.injEq] at h
      obtain ⟨hc, rfl⟩ := h
      exact wLrS_ok _ _ rfl
    · cases h
  · unfold wJnS at h
    split at h
    · simp only [Option.some.injEq, Prod.mk.injEq] at h
      obtain ⟨hc, rfl⟩ := h
      exact wJnS_ok _ hc
    · cases h
  · unfold wJnS at h
    split at h
    · simp only [Option.some.injEq, Prod.mk.injEq] at h
      obtain ⟨hc, rfl⟩ := h
      exact wJnS_ok_noontideref14_Join _ hc
    · cases h
  · unfold wOrS at h
    split at h
    · simp only [Option.some.injEq, Prod.mk.injEq] at h
      obtain ⟨hc, rfl⟩ := h
      exact wOrS_ok _ _ _ _ _ rfl
    · cases h
  · unfold wEnS at h
    split at h
    · simp only [Option.some.injEq, Prod.mk.injEq] at h
      obtain ⟨hc, rfl⟩ := h
      exact wEnS_ok _ _ _ hc
    · cases h
  · unfold wCpS at h
    split at h
    · simp only [Option.some.injEq, Prod.mk.injEq] at h
      obtain ⟨hc, rfl⟩ := h
      exact wCpS_ok _ _ _ hc
    · cases h
  · unfold wStS at h
    split at h
    · simp only [Option.some.injEq, Prod.mk.injEq] at h
      obtain ⟨hc, rfl⟩ := h
      exact wStS_ok _ _ _ hc
    · cases h
  · unfold yNmS at h
    split at h
    · simp only [Option.some.injEq, Prod.mk.injEq] at h
      obtain ⟨hc, rfl⟩ := h
      exact yNmS_ok _ rfl
    · cases h
  · unfold yNmS at h
    split at h
    · simp only [Option.some.injEq, Prod.mk.injEq] at h
      obtain ⟨hc, rfl⟩ := h
      exact yNmS_ok_noontideref21_Name _ rfl
    · cases h
  · unfold yErS at h
    split at h
    · simp only [Option.some.injEq, Prod.mk.injEq] at h
      obtain ⟨hc, rfl⟩ := h
      exact yErS_ok_noontideref22_Right _ _ _ _ _ _ _ _ _ _ _ _ _ hc
    · cases h
  · unfold yRrS at h
    split at h
    · simp only [Option.some.injEq, Prod.mk.injEq] at h
      obtain ⟨hc, rfl⟩ := h
      exact yRrS_ok_noontideref21_Right _ _ _ _ _ _ _ _ _ _ _ hc
    · cases h
theorem bx_cases {x b : V} (h : bxOk x b = true) : (x = .nilp ∧ b = .nilsl) ∨ ∃ xs, x = .box HL 0 ∧ b = .sl 5 [.int .u8] (some 1000001002) xs := by
  unfold bxOk at h
  split at h
  · exact .inl ⟨rfl, rfl⟩
  · rename_i k off e sh L xs
    simp only [Bool.and_eq_true, beq_iff_eq] at h
    obtain ⟨⟨rfl, rfl⟩, rfl, h3, rfl⟩ := h
    have h3 := Kd.eqL_sound _ _ h3
    subst h3
    exact .inr ⟨xs, rfl, rfl⟩
  · cases h
theorem app_ok {xs : List V} {t : List UInt8} (h : xs.length + t.length ≤ 16777216) : okApp xs (bytesV t) = true := by
  rw [okApp_iff]; unfold bytesV; rw [List.length_map]; exact h
theorem new_ok {t : List UInt8} (h : t.length ≤ 16777216) : okNew (bytesV t) = true := by
  unfold okNew nle bytesV; rw [List.length_map]; exact decide_eq_true h
theorem cat_ok {a b : List UInt8} (h : a.length + b.length ≤ 1152921504606846976) : okCat a b = true := by rw [okCat_iff]; exact h
theorem sc (a b : List UInt8) : scat a b = a ++ b := rfl
theorem lnK_iff {a : List UInt8} {fs : List V} (h : lnK a fs = true) : jnK fs = true ∧ a.length ≤ 1000 ∧ (jnT fs).length ≤ 10000 := by
  unfold lnK at h
  obtain ⟨h1, h2⟩ := band_true h
  obtain ⟨h3, h4⟩ := band_true h2
  rw [ile_iff, slen_nat] at h3 h4
  exact ⟨h1, by omega, by omega⟩
theorem ln_cats {a : List UInt8} {fs : List V} (h : lnK a fs = true) : okCat a [32] = true ∧ okCat (scat a [32]) (jnT fs) = true ∧ okCat (scat (scat a [32]) (jnT fs)) [10] = true ∧ (lnT a fs).length ≤ 11002 := by
  obtain ⟨h1, h2, h3⟩ := lnK_iff h
  unfold lnT
  refine ⟨cat_ok ?_, cat_ok ?_, cat_ok ?_, ?_⟩ <;> (simp only [sc, List.length_append, List.length_cons, List.length_nil]; omega)
theorem wLnS_ok (x b : V) (w : Int) (a : List UInt8) (fs : List V) (y : Int) (hc : band (bxOk x b) (band (lnK a fs) (ile (llen (bwL b)) 1000000)) = true) :
    XOk rE 16 [.bxa 0 [x, b, .int .i64 w], .str a, .sl 9 [.str] none fs, .int .i64 y] (.out false (.tup []) [[.box HL 0, bxN b (lnT a fs), .int .i64 (or3 w y (jnW fs))]]) := by
  obtain ⟨h1, h2⟩ := band_true hc
  obtain ⟨h3, h4⟩ := band_true h2
  obtain ⟨k1, k2, k3⟩ := lnK_iff h3
  obtain ⟨c1, c2, c3, c4⟩ := ln_cats h3
  rcases bx_cases h1 with ⟨rfl, rfl⟩ | ⟨bs, rfl, rfl⟩
  · refine XOk.out (xc_of_body rE_ok wS0_ok 5 4 ?_)
    rw [wLnN_top, sel_pos k1, sel_pos c1, sel_pos c2, sel_pos c3, sel_pos (new_ok (by show (lnT a fs).length ≤ _; omega))]
    rfl
  · refine XOk.out (xc_of_body rE_ok wS0_ok 5 4 ?_)
    have h4 : bs.length ≤ 1000000 := ll1 (k := 1000000) h4
    have e := wLnB_top 5 bs w a fs y some
    refine e.trans ?_
    rw [sel_pos k1, sel_pos c1, sel_pos c2, sel_pos c3, sel_pos (app_ok (by show bs.length + (lnT a fs).length ≤ _; omega))]
    rfl
theorem wS1_ok : SOk rE wS1 := by
  unfold wS1
  refine SOk.consX (fun args r h => ?_) (wS0_ok)
  · unfold wLnS at h
    split at h
    · simp only [Option.some.injEq, Prod.mk.injEq] at h
      obtain ⟨hc, rfl⟩ := h
      exact wLnS_ok _ _ _ _ _ _ hc
    · cases h
theorem wL31S_ok (a : List UInt8) (fs : List V) (hc : lnK a fs = true) : Contract rE 21 [.str a, .sl 9 [.str] none fs] (.str (lnT a fs)) := by
  obtain ⟨k1, k2, k3⟩ := lnK_iff hc
  obtain ⟨c1, c2, c3, c4⟩ := ln_cats hc
  refine contract_of_body rE_ok wS0_ok 5 3 ?_
  rw [wLn31_top, sel_pos k1, sel_pos c1, sel_pos c2, sel_pos c3]
  rfl
end Nt.Ev.YtjkfndcpiihniaaGreatDoor.Rx

namespace Nt.Ev.YtjkfndcpiihniaaGreatDoor.Rx
set_option maxRecDepth 100000
open Go Go.RowKit Nt Nt.Num Nt.Civil Nt.Fld Go.Proofs.YtjkfndcpiihniaaGreatDoor Nt.Ev.YtjkfndcpiihniaaGreatDoor Nt.Ev.YtjkfndcpiihniaaGreatDoor.Lk
variable [MLen]
theorem jn_strs (l : List (List UInt8)) : jnT (strsV l) = (joinP l).1 ∧ jnW (strsV l) = (joinP l).2 ∧ jnK (strsV l) = decide (totL l ≤ 3000000) := by
  unfold jnT jnW jnK jnC
  rw [str_strs]
  exact ⟨rfl, rfl, rfl⟩
theorem good_line (l : List (List UInt8)) (h : ∀ x ∈ l, Gd x) (hl : l.length ≤ 16) (ht : totL l ≤ 400) : jnK (strsV l) = true ∧ jnW (strsV l) = 0 ∧ (jnT (strsV l)).length ≤ 448 := by
  obtain ⟨h1, h2, h3, h4⟩ := line_ok l h hl ht
  obtain ⟨e1, e2, e3⟩ := jn_strs l
  rw [e1, e2, e3, h1]
  exact ⟨decide_eq_true (by omega), rfl, by omega⟩
theorem nil_line : jnK [] = true ∧ jnW [] = 0 ∧ (jnT []).length ≤ 448 := good_line [] (fun _ h => by cases h) (by decide) (by decide)
theorem fR_good (e : V) : jnK (fvR e) = true ∧ jnW (fvR e) = 0 ∧ (jnT (fvR e)).length ≤ 448 := by
  unfold fvR rfV
  cases h : ruR (asStr (acell e 0)) (asInt (acell e 1)) (asInt (acell e 2)) (asInt (acell e 3)) (asInt (acell e 4)) (asInt (acell e 5)) (asInt (acell e 6)) (asInt (acell e 7)) (asInt (acell e 8)) (asInt (acell e 9)) (asStr (acell e 10)) with
  | false => exact nil_line
  | true =>
    obtain ⟨g1, g2⟩ := rf_good _ _ _ _ _ _ _ _ _ _ _ h
    exact good_line _ g1 (by show 9 ≤ 16; omega) g2
theorem fE_good (e : V) : jnK (fvE e) = true ∧ jnW (fvE e) = 0 ∧ (jnT (fvE e)).length ≤ 448 := by
  unfold fvE efV
  cases h : erR (asInt (acell e 0)) (asInt (acell e 1)) (asInt (acell e 2)) (asStr (acell e 3)) (asStr (acell e 4)) (asBool (acell e 5)) (asInt (acell e 6)) (asInt (acell e 7)) (asInt (acell e 8)) (asInt (acell e 9)) (asInt (acell e 10)) (asInt (acell e 11)) (asInt (acell e 12)) with
  | false => exact nil_line
  | true =>
    obtain ⟨g1, g2, g3⟩ := ef_good _ _ _ _ _ _ _ _ _ _ _ _ _ h
    show jnK (efL _ _ _ _ _ _ _ _ _ _ _ _ _) = true ∧ jnW (efL _ _ _ _ _ _ _ _ _ _ _ _ _) = 0 ∧ (jnT (efL _ _ _ _ _ _ _ _ _ _ _ _ _)).length ≤ 448
    rw [ef_strs]
    exact good_line _ g1 (by omega) g2
theorem fL_good (e : V) : jnK (fvL e) = true ∧ jnW (fvL e) = 0 ∧ (jnT (fvL e)).length ≤ 448 := by
  unfold fvL fdL
  split
  next h =>
    unfold rgB at h
    rw [decide_eq_true_eq, nm_eq, nm_eq] at h
    obtain ⟨h1, h2, h3⟩ := h
    have l1 := Nt.Ev.YtjkfndcpiihniaaGreatDoor.nm_len _ h1
    have l2 := Nt.Ev.YtjkfndcpiihniaaGreatDoor.nm_len _ h2
    refine good_line [asStr (acell e 0), asStr (acell e 1)] ?_ (by show 2 ≤ 16; omega) ?_
    · intro x hx
      simp only [List.mem_cons, List.not_mem_nil, or_false] at hx
      rcases hx with rfl | rfl
      · exact gd_nm _ h1
      · exact gd_nm _ h2
    · show (asStr (acell e 0)).length + ((asStr (acell e 1)).length + 0) ≤ 400
      omega
  next => exact nil_line
theorem lnK_of {a : List UInt8} {fs : List V} (h : jnK fs = true ∧ jnW fs = 0 ∧ (jnT fs).length ≤ 448) (ha : a.length ≤ 1000) : lnK a fs = true := by
  unfold lnK
  rw [h.1, ile_t (show slen a ≤ 1000 by rw [slen_nat]; omega), ile_t (show slen (jnT fs) ≤ 10000 by rw [slen_nat]; omega)]
  rfl
theorem lnT_len {a : List UInt8} {fs : List V} (h : jnK fs = true ∧ jnW fs = 0 ∧ (jnT fs).length ≤ 448) (ha : a.length ≤ 950) : (lnT a fs).length ≤ 1500 := by
  unfold lnT
  simp only [sc, List.length_append, List.length_cons, List.length_nil]
  omega
theorem or3_zero (a b c : Int) : or3 a b c = 0 ↔ a = 0 ∧ b = 0 ∧ c = 0 := by
  unfold or3
  simp only [sel_if, bnot_iff, ieq_iff]
  split
  · omega
  · split <;> omega
theorem bn_app {bs : List V} {a b : List UInt8} : lcat (lcat bs (bytesV a)) (bytesV b) = lcat bs (bytesV (a ++ b)) := by unfold lcat bytesV; simp
theorem lc_len {bs : List V} {a : List UInt8} : (lcat bs (bytesV a)).length = bs.length + a.length := by unfold lcat bytesV; simp
theorem lc_nil {bs : List V} : lcat bs (bytesV []) = bs := by unfold lcat bytesV; simp
theorem bv_len {a : List UInt8} : (bytesV a).length = a.length := by unfold bytesV; simp
theorem all_get {p : V → Bool} {l : List V} (h : l.all p = true) {i : Nat} (hi : i < l.length) : p (lget l (i : Int)) = true := by
  rw [lget_nat, List.getD_eq_getElem?_getD, List.getElem?_eq_getElem hi]
  exact List.all_eq_true.1 h _ (List.getElem_mem hi)
theorem zoK_iff {es : List V} (h : zoK es = true) : es.length ≤ 100 ∧ es.all gE = true := by
  unfold zoK at h
  obtain ⟨h1, h2⟩ := band_true h
  exact ⟨by have := ll1 (k := 12) h1; omega, h2⟩
theorem zoK_12 {es : List V} (h : zoK es = true) : es.length ≤ 12 := ll1 (k := 12) (band_true h).1
theorem ahd_len (n : List UInt8) (hn : n.length ≤ 900) (i : Nat) : (ahd n i).length ≤ 905 := by
  unfold ahd
  split
  · rw [sc]; simp; omega
  · simp
theorem eT_len (n : List UInt8) (es : List V) (hn : n.length ≤ 900) : ∀ (k i : Nat), (eT n es k i).length ≤ k * 1500
  | 0, _ => Nat.zero_le _
  | k + 1, i => by
    unfold eT
    have h1 := lnT_len (a := ahd n i) (fE_good (lget es i)) (by have := ahd_len n hn i; omega)
    have h2 := eT_len n es hn k (i + 1)
    rw [List.length_append]; omega
theorem bttt : band true (band true true) = true := rfl
theorem idx_in {xs : List V} {i : Nat} (h : i < xs.length) : ilt (i : Int) (llen xs) = true ∧ band (ile 0 (i : Int)) (ilt (i : Int) (llen xs)) = true ∧ iadd .i64 (i : Int) 1 = ((i + 1 : Nat) : Int) ∨ 1000000 < xs.length := by
  by_cases hb : xs.length ≤ 1000000
  · refine .inl ⟨ilt_t (by rw [llen_nat]; omega), ?_, ?_⟩
    · rw [band_iff, ile_iff, ilt_iff, llen_nat]; omega
    · rw [iadd64 (by omega)]; omega
  · exact .inr (by omega)
theorem idx_ok {xs : List V} {i : Nat} (h : i < xs.length) (hb : xs.length ≤ 1000000) : ilt (i : Int) (llen xs) = true ∧ band (ile 0 (i : Int)) (ilt (i : Int) (llen xs)) = true ∧ iadd .i64 (i : Int) 1 = ((i + 1 : Nat) : Int) := (idx_in h).elim id (fun h => by omega)
theorem idx_end {xs : List V} {i : Nat} (h : i = xs.length) : ilt (i : Int) (llen xs) = false := ilt_f (by rw [llen_nat]; omega)
theorem znB_loop (F : Nat) (a b c : List V) (m n : List UInt8) (d es : List V) (x : Int) (q : List V) (a2 b2 c2 : List V) (hn : n.length ≤ 900) (hz : zoK es = true) (K : V → Option V) : ∀ (k i : Nat) (bs : List V) (w : Int) (G : Nat), i + k = es.length → k < G → bs.length + k * 1500 ≤ 900000 →
    wZnB_L0 F [] G a b c m d x es (llen es) i n q a2 b2 c2 bs w K = K (.out false (.tup []) [[.box 1000000000 0, .sl 5 [.int .u8] (some 1000001002) (lcat bs (bytesV (eT n es k i))), .int .i64 (eW es k i w)]]) := by
  obtain ⟨z1, z2⟩ := zoK_iff hz
  intro k
  induction k with
  | zero =>
    intro i bs w G h1 h2 h3
    obtain ⟨G, rfl⟩ := Nat.exists_eq_succ_of_ne_zero (show G ≠ 0 by omega)
    rw [wZnB_L0_succ, sel_neg (idx_end (by omega))]
    unfold eT eW
    rw [lc_nil]
  | succ k ih =>
    intro i bs w G h1 h2 h3
    obtain ⟨G, rfl⟩ := Nat.exists_eq_succ_of_ne_zero (show G ≠ 0 by omega)
    obtain ⟨i1, i2, i3⟩ := idx_ok (xs := es) (i := i) (by omega) (by omega)
    have hg := all_get z2 (i := i) (by omega)
    have hf := fE_good (lget es i)
    rw [wZnB_L0_succ, sel_pos i1, sel_pos i2, i3]
    show sel (ieq (i : Int) 0) (sel (okCat [90, 111, 110, 101, 32] n) (sel (gE (lget es i)) (sel (band true (band (lnK (scat [90, 111, 110, 101, 32] n) (fvE (lget es i))) (ile (llen bs) 1000000))) (wZnB_L0 F [] G a b c m d x es (llen es) ((i + 1 : Nat) : Int) n q a2 b2 c2 (lcat bs (bytesV (lnT (scat [90, 111, 110, 101, 32] n) (fvE (lget es i))))) (or3 w (feE (lget es i)) (jnW (fvE (lget es i)))) K) none) none) none)
      (sel (gE (lget es i)) (sel (band true (band (lnK [] (fvE (lget es i))) (ile (llen bs) 1000000))) (wZnB_L0 F [] G a b c m d x es (llen es) ((i + 1 : Nat) : Int) n q a2 b2 c2 (lcat bs (bytesV (lnT [] (fvE (lget es i))))) (or3 w (feE (lget es i)) (jnW (fvE (lget es i)))) K) none) none) = _
    have hb : ile (llen bs) 1000000 = true := ile_t (by rw [llen_nat]; omega)
    have ha := ahd_len n hn i
    have hl := lnT_len (a := ahd n i) hf (by omega)
    have hk := lnK_of (a := ahd n i) hf (by omega)
    have e : ∀ a', a' = ahd n i → wZnB_L0 F [] G a b c m d x es (llen es) ((i + 1 : Nat) : Int) n q a2 b2 c2 (lcat bs (bytesV (lnT a' (fvE (lget es i))))) (or3 w (feE (lget es i)) (jnW (fvE (lget es i)))) K = K (.out false (.tup []) [[.box 1000000000 0, .sl 5 [.int .u8] (some 1000001002) (lcat bs (bytesV (eT n es (k + 1) i))), .int .i64 (eW es (k + 1) i w)]]) := by
      rintro _ rfl
      rw [ih (i + 1) _ _ G (by omega) (by omega) (by rw [lc_len]; omega), bn_app]
      rfl
    by_cases h0 : i = 0
    · have ea : scat [90, 111, 110, 101, 32] n = ahd n i := by unfold ahd; rw [if_pos h0]
      rw [sel_pos (ieq_t (by omega)), sel_pos (cat_ok (by simp; omega)), sel_pos hg, ea, hk, hb, sel_pos bttt, e _ rfl]
    · have ea : ([] : List UInt8) = ahd n i := by unfold ahd; rw [if_neg h0]
      rw [sel_neg (ieq_f (by omega)), sel_pos hg, e _ ea]
      rw [show lnK [] (fvE (lget es i)) = true by rw [ea]; exact hk, hb, sel_pos bttt]
theorem znL_loop (F : Nat) (a b c : List V) (m n : List UInt8) (d es : List V) (x : Int) (q : List V) (a2 b2 c2 : List V) (hn : n.length ≤ 900) (hz : zoK es = true) (K : V → Option V) : ∀ (k i : Nat) (bs : List V) (w : Int) (G : Nat), i + k = es.length → k < G → bs.length + k * 1500 ≤ 900000 →
    wZnN_L1 F [] G a b c m d x es (llen es) i n q a2 b2 c2 bs w K = K (.out false (.tup []) [[.box 1000000000 0, .sl 5 [.int .u8] (some 1002) (lcat bs (bytesV (eT n es k i))), .int .i64 (eW es k i w)]]) := by
  obtain ⟨z1, z2⟩ := zoK_iff hz
  intro k
  induction k with
  | zero =>
    intro i bs w G h1 h2 h3
    obtain ⟨G, rfl⟩ := Nat.exists_eq_succ_of_ne_zero (show G ≠ 0 by omega)
    rw [wZnN_L1_succ, sel_neg (idx_end (by omega))]
    unfold eT eW
    rw [lc_nil]
  | succ k ih =>
    intro i bs w G h1 h2 h3
    obtain ⟨G, rfl⟩ := Nat.exists_eq_succ_of_ne_zero (show G ≠ 0 by omega)
    obtain ⟨i1, i2, i3⟩ := idx_ok (xs := es) (i := i) (by omega) (by omega)
    have hg := all_get z2 (i := i) (by omega)
    have hf := fE_good (lget es i)
    rw [wZnN_L1_succ, sel_pos i1, sel_pos i2, i3]
    show sel (ieq (i : Int) 0) (sel (okCat [90, 111, 110, 101, 32] n) (sel (gE (lget es i)) (sel (band true (band (lnK (scat [90, 111, 110, 101, 32] n) (fvE (lget es i))) (ile (llen bs) 1000000))) (wZnN_L1 F [] G a b c m d x es (llen es) ((i + 1 : Nat) : Int) n q a2 b2 c2 (lcat bs (bytesV (lnT (scat [90, 111, 110, 101, 32] n) (fvE (lget es i))))) (or3 w (feE (lget es i)) (jnW (fvE (lget es i)))) K) none) none) none)
      (sel (gE (lget es i)) (sel (band true (band (lnK [] (fvE (lget es i))) (ile (llen bs) 1000000))) (wZnN_L1 F [] G a b c m d x es (llen es) ((i + 1 : Nat) : Int) n q a2 b2 c2 (lcat bs (bytesV (lnT [] (fvE (lget es i))))) (or3 w (feE (lget es i)) (jnW (fvE (lget es i)))) K) none) none) = _
    have hb : ile (llen bs) 1000000 = true := ile_t (by rw [llen_nat]; omega)
    have ha := ahd_len n hn i
    have hl := lnT_len (a := ahd n i) hf (by omega)
    have hk := lnK_of (a := ahd n i) hf (by omega)
    have e : ∀ a', a' = ahd n i → wZnN_L1 F [] G a b c m d x es (llen es) ((i + 1 : Nat) : Int) n q a2 b2 c2 (lcat bs (bytesV (lnT a' (fvE (lget es i))))) (or3 w (feE (lget es i)) (jnW (fvE (lget es i)))) K = K (.out false (.tup []) [[.box 1000000000 0, .sl 5 [.int .u8] (some 1002) (lcat bs (bytesV (eT n es (k + 1) i))), .int .i64 (eW es (k + 1) i w)]]) := by
      rintro _ rfl
      rw [ih (i + 1) _ _ G (by omega) (by omega) (by rw [lc_len]; omega), bn_app]
      rfl
    by_cases h0 : i = 0
    · have ea : scat [90, 111, 110, 101, 32] n = ahd n i := by unfold ahd; rw [if_pos h0]
      rw [sel_pos (ieq_t (by omega)), sel_pos (cat_ok (by simp; omega)), sel_pos hg, ea, hk, hb, sel_pos bttt, e _ rfl]
    · have ea : ([] : List UInt8) = ahd n i := by unfold ahd; rw [if_neg h0]
      rw [sel_neg (ieq_f (by omega)), sel_pos hg, e _ ea]
      rw [show lnK [] (fvE (lget es i)) = true by rw [ea]; exact hk, hb, sel_pos bttt]
theorem znN_loop (F : Nat) (hF : 101 ≤ F) (a b c : List V) (m n : List UInt8) (d es : List V) (x : Int) (q : List V) (a2 b2 c2 : List V) (hn : n.length ≤ 900) (hz : zoK es = true) (w : Int) (K : V → Option V) (h0 : es ≠ []) :
    wZnN_L0 F [] F a b c m d x es (llen es) 0 n q a2 b2 c2 w K = K (.out false (.tup []) [[.box 1000000000 0, .sl 5 [.int .u8] (some 1002) (bytesV (znT n es)), .int .i64 (eW es es.length 0 w)]]) := by
  obtain ⟨z1, z2⟩ := zoK_iff hz
  obtain ⟨k, hk⟩ : ∃ k, es.length = k + 1 := ⟨es.length - 1, by have := List.length_pos_iff.2 h0; omega⟩
  obtain ⟨G, rfl⟩ := Nat.exists_eq_succ_of_ne_zero (show F ≠ 0 by omega)
  obtain ⟨i1, i2, i3⟩ := idx_ok (xs := es) (i := 0) (by omega) (by omega)
  have i1 : ilt 0 (llen es) = true := i1
  have i2 : band (ile 0 0) (ilt 0 (llen es)) = true := i2
  have hg : gE (lget es 0) = true := all_get z2 (i := 0) (by omega)
  have hf := fE_good (lget es 0)
  rw [wZnN_L0_succ, sel_pos i1, sel_pos i2, sel_pos (ieq_t rfl), sel_pos (cat_ok (by simp; omega)), show iadd .i64 (0 : Int) 1 = ((1 : Nat) : Int) from rfl]
  have ha := ahd_len n hn 0
  have hl := lnT_len (a := ahd n 0) hf (by omega)
  have hk' := lnK_of (a := ahd n 0) hf (by omega)
  show sel (gE (lget es 0)) (sel (band true (band (lnK (ahd n 0) (fvE (lget es 0))) (ile (llen []) 1000000))) (wZnN_L1 (G + 1) [] G a b c m d x es (llen es) ((1 : Nat) : Int) n q a2 b2 c2 (bytesV (lnT (ahd n 0) (fvE (lget es 0)))) (or3 w (feE (lget es 0)) (jnW (fvE (lget es 0)))) K) none) none = _
  rw [sel_pos hg, hk', show ile (llen []) 1000000 = true from rfl, sel_pos bttt, znL_loop (G + 1) a b c m n d es x q a2 b2 c2 hn hz K k 1 _ _ G (by omega) (by omega) (by rw [bv_len]; omega)]
  unfold znT
  rw [hk]
  have e : lcat (bytesV (lnT (ahd n 0) (fvE (lget es 0)))) (bytesV (eT n es k 1)) = bytesV (eT n es (k + 1) 0) := by
    show bytesV _ ++ bytesV _ = bytesV (lnT (ahd n 0) (fvE (lget es 0)) ++ eT n es k 1)
    unfold bytesV; rw [List.map_append]
  rw [e]
  rfl
theorem wZnS_ok (x b : V) (w : Int) (xs zs ls : List V) (n : List UInt8) (es : List V) (hc : band (bxOk x b) (band (znK xs n es) (ile (llen (bwL b)) 500000)) = true) :
    XOk rE 17 [.bxa 0 [x, b, .int .i64 w], .agg [.sl 49 [.str, .int .i64, .int .i64, .int .i64, .int .i64, .int .i64, .int .i64, .int .i64, .int .i64, .int .i64, .str] none xs, .sl 36 [.str, .sl 47 [.int .i64, .int .i64, .int .i64, .str, .str, .bool, .int .i64, .int .i64, .int .i64, .int .i64, .int .i64, .int .i64, .int .i64]] none zs, .sl 39 [.str, .str] none ls], .agg [.str n, .sl 47 [.int .i64, .int .i64, .int .i64, .str, .str, .bool, .int .i64, .int .i64, .int .i64, .int .i64, .int .i64, .int .i64, .int .i64] none es]]
      (.cho (band (nilB x) (ieq (llen es) 0)) (.out false (.tup []) [[x, b, .int .i64 (znW w xs n es)]]) (.out false (.tup []) [[.box HL 0, bxN b (znT n es), .int .i64 (znW w xs n es)]])) := by
  obtain ⟨h1, h2⟩ := band_true hc
  obtain ⟨h3, h4⟩ := band_true h2
  unfold znK at h3
  obtain ⟨k1, k2⟩ := band_true h3
  obtain ⟨k3, k4⟩ := band_true k2
  obtain ⟨z1, z2⟩ := zoK_iff k4
  have hn := l9 k3
  have hc0 : band (rsOk xs) (ile (llen es) 1000) = true := by rw [k1, ile_t (show llen es ≤ 1000 by rw [llen_nat]; omega)]; rfl
  rcases bx_cases h1 with ⟨rfl, rfl⟩ | ⟨bs, rfl, rfl⟩
  · refine XOk.cho (fun h => ?_) (fun h => ?_)
    · have h0 : es = [] := by
        have := (band_true h).2
        rw [ieq_iff, llen_nat] at this
        exact List.length_eq_zero_iff.1 (by omega)
      subst h0
      refine XOk.out (xc_of_body rE_ok wS1_ok 200 4 ?_)
      rw [wZnN_top, sel_pos hc0, wZnN_L0_succ, sel_neg (by rfl)]
      rfl
    · have h0 : es ≠ [] := fun e => by subst e; cases h
      refine XOk.out (xc_of_body rE_ok wS1_ok 200 4 ?_)
      rw [wZnN_top, sel_pos hc0, znN_loop 200 (by omega) xs zs ls n n es es _ es xs zs ls hn k4 _ some h0]
      rfl
  · refine XOk.cho (fun h => by cases h) (fun h => ?_)
    have h4 : bs.length ≤ 500000 := ll1 (k := 500000) h4
    refine XOk.out (xc_of_body rE_ok wS1_ok 200 4 ?_)
    have e := wZnB_top 200 bs w xs zs ls n es some
    refine e.trans ?_
    rw [sel_pos hc0]
    exact znB_loop 200 xs zs ls n n es es _ es xs zs ls hn k4 some es.length 0 bs _ 200 (by omega) (by omega) (by omega)
theorem wS2_ok : SOk rE wS2 := by
  unfold wS2
  refine SOk.consX (fun args r h => ?_) (wS1_ok)
  · unfold wZnS at h
    split at h
    · simp only [Option.some.injEq, Prod.mk.injEq] at h
      obtain ⟨hc, rfl⟩ := h
      exact wZnS_ok _ _ _ _ _ _ _ _ hc
    · cases h
end Nt.Ev.YtjkfndcpiihniaaGreatDoor.Rx
