/-
  Stamp: equations of functions, as the evaluator prints them. Stamps: Right, Secs, Of, Split, both sides. Stamp2: equations of functions, as the evaluator prints them. Stamps: Text and Read, both sides. StampLaw: equations of functions, as the evaluator prints them. Stamps: the statements StampTells and StampBack. Stamps: numbers with noughts ahead, there and back. Stamps: the statement StampBack. StampOrd: equations of functions, as the evaluator prints them. Stamps: the order of dates, of days, and of texts. Stamps: the statement StampOrder.
-/
import Derived.Test.YtmemhdilefmceaaDoorMI
import Derived.Test.YtmemhdilefmceaaDoorME
set_option linter.unusedVariables false
set_option linter.unusedSimpArgs false
set_option linter.unusedSectionVars false
namespace Nt.Ev.YtmemhdilefmceaaDoor
open Go Nt.Num Go.Proofs.YtmemhdilefmceaaDoor
open Nt.Civil
def dyI (y m d : Int) : Int := (daysP y m d).1
def dyW (y m d : Int) : Int := (daysP y m d).2
def daY (n : Int) : Int := (dateP n).1
def daM (n : Int) : Int := (dateP n).2.1
def daD (n : Int) : Int := (dateP n).2.2.1
def daW (n : Int) : Int := (dateP n).2.2.2
noncomputable def sdivS : FSpec := fun a => match a with | [.int .i64 a, .int .i64 b] => some (band (band (ile (-9223372036854775808) a) (ile a 9223372036854775807)) (band (ilt 0 b) (ile b 1000000)), .tup [.int .i64 (fq a b), .int .i64 (fr a b), .int .i64 0]) | _ => none
noncomputable def sdivR : FSpec := fun a => match a with | [.int .i64 a, .int .i64 b] => some (band (band (ile (-9223372036854775808) a) (ile a 9223372036854775807)) (band (ilt 0 b) (ile b 1000000)), .tup [.int .i64 (fq a b), .int .i64 (fr a b), .int .i64 0]) | _ => none
noncomputable def srightS : FSpec := fun a => match a with | [.agg [.int .i64 y, .int .i64 m, .int .i64 d]] => some (true, .bool (validB y m d)) | _ => none
noncomputable def sdaysS : FSpec := fun a => match a with | [.agg [.int .i64 y, .int .i64 m, .int .i64 d]] => some (true, .tup [.int .i64 (dyI y m d), .int .i64 (dyW y m d)]) | _ => none
noncomputable def sdateS : FSpec := fun a => match a with | [.int .i64 n] => some (band (ile (-9223372036854775808) n) (ile n 9223372036854775807), .tup [.agg [.int .i64 (daY n), .int .i64 (daM n), .int .i64 (daD n)], .int .i64 (daW n)]) | _ => none
noncomputable def stS : List (Nat × FSpec) := (57, sdivS) :: (51, srightS) :: (31, sdaysS) :: (54, sdateS) :: []
def stB (y m d h i s : Int) : Bool := validB y m d && decide (0 ≤ h ∧ h ≤ 23 ∧ 0 ≤ i ∧ i ≤ 59 ∧ 0 ≤ s ∧ s ≤ 59)
noncomputable def stRightS : FSpec := fun a => match a with | [.agg [.int .i64 y, .int .i64 m, .int .i64 d, .int .i64 h, .int .i64 i, .int .i64 s]] => some (true, .bool (stB y m d h i s)) | _ => none
noncomputable def stS2 : List (Nat × FSpec) := (26, stRightS) :: stS
def wideT (n k : Int) : List UInt8 := List.replicate (k.toNat - (Num.text n).length) 48 ++ Num.text n
noncomputable def sTextS : FSpec := fun a => match a with | [.int .i64 n] => some (band (ile (-9223372036854775808) n) (ile n 9223372036854775807), .str (text n)) | _ => none
noncomputable def wideS : FSpec := fun a => match a with | [.int .i64 n, .int .i64 k] => some (band (band (ile (-1000000) n) (ile n 1000000)) (band (ile 0 k) (ile k 10)), .str (wideT n k)) | _ => none
noncomputable def stS3 : List (Nat × FSpec) := (46, sTextS) :: (49, sTextS) :: stS2
noncomputable def stS4 : List (Nat × FSpec) := stS3
def digB (s : List UInt8) : Bool := digitsB s
noncomputable def sDigS : FSpec := fun a => match a with | [.str s] => some (ile (slen s) 1000, .bool (digB s)) | _ => none
noncomputable def stS5 : List (Nat × FSpec) := (104, sDigS) :: stS4

set_option maxRecDepth 100000 in
theorem stRight_top (F : Nat) (y : Int) (m : Int) (d : Int) (h : Int) (i : Int) (s : Int) (K : V → Option V) :
    evBd vE (evFn vE stS F 2) F 26 [(V.agg [(V.int .i64 y), (V.int .i64 m), (V.int .i64 d), (V.int .i64 h), (V.int .i64 i), (V.int .i64 s)])] K =
    sel (validB y m d)
      (sel (ile 0 h)
        (sel (ilt h 24)
          (sel (ile 0 i)
            (sel (ilt i 60)
              (sel (ile 0 s)
                (K (V.bool (ilt s 60)))
                (K (V.bool false)))
              (K (V.bool false)))
            (K (V.bool false)))
          (K (V.bool false)))
        (K (V.bool false)))
      (K (V.bool false)) := by kernel_rfl



set_option maxRecDepth 100000 in
theorem stSecs_top (F : Nat) (y : Int) (m : Int) (d : Int) (h : Int) (i : Int) (s : Int) (K : V → Option V) :
    evBd vE (evFn vE stS2 F 2) F 25 [(V.agg [(V.int .i64 y), (V.int .i64 m), (V.int .i64 d), (V.int .i64 h), (V.int .i64 i), (V.int .i64 s)])] K =
    sel (bnot (stB y m d h i s))
      (K (V.tup [(V.int .i64 0), (V.int .i64 1)]))
      (K (V.tup [(V.int .i64 (iadd .i64 (imul .i64 (dyI y m d) 86400) (iadd .i64 (iadd .i64 (imul .i64 h 3600) (imul .i64 i 60)) s))), (V.int .i64 (dyW y m d))])) := by kernel_rfl



set_option maxRecDepth 100000 in
theorem stSplit_top (F : Nat) (t : Int) (K : V → Option V) :
    evBd vE (evFn vE stS2 F 2) F 30 [(V.int .i64 t)] K =
    sel (band (band (ile (-9223372036854775808) t) (ile t 9223372036854775807)) (band (ilt 0 86400) (ile 86400 1000000)))
      (K (V.tup [(V.int .i64 (fq t 86400)), (V.int .i64 (fr t 86400))]))
      (none) := by kernel_rfl



set_option maxRecDepth 100000 in
theorem stOf_top (F : Nat) (t : Int) (K : V → Option V) :
    evBd vE (evFn vE stS2 F 3) F 28 [(V.int .i64 t)] K =
    sel (band (band (ile (-9223372036854775808) t) (ile t 9223372036854775807)) (band (ilt 0 86400) (ile 86400 1000000)))
      (sel (band (ile (-9223372036854775808) (fq t 86400)) (ile (fq t 86400) 9223372036854775807))
        (sel (bnot (ieq (daW (fq t 86400)) 0))
          (K (V.tup [(V.agg [(V.int .i64 0), (V.int .i64 0), (V.int .i64 0), (V.int .i64 0), (V.int .i64 0), (V.int .i64 0)]), (V.int .i64 (daW (fq t 86400)))]))
          (K (V.tup [(V.agg [(V.int .i64 (daY (fq t 86400))), (V.int .i64 (daM (fq t 86400))), (V.int .i64 (daD (fq t 86400))), (V.int .i64 (iquo .i64 (fr t 86400) 3600)), (V.int .i64 (iquo .i64 (irem (fr t 86400) 3600) 60)), (V.int .i64 (irem (fr t 86400) 60))]), (V.int .i64 0)])))
        (none))
      (none) := by kernel_rfl



noncomputable def srDig_L0 (F : Nat) (ns : List Nat) (n : Nat) (x0 : List UInt8) (x2 : Bool) (x3 : Int) (K : V → Option V) : Option V :=
  loopAt vE stS4 F 2 104 [1, 0, 1, 0] ns K n (mkSt 22 [(0, V.str x0), (2, V.bool x2), (3, V.int .i64 x3)] [])

set_option maxRecDepth 100000 in
theorem srDig_top (F : Nat) (s : List UInt8) (K : V → Option V) :
    evBd vE (evFn vE stS4 F 2) F 104 [(V.str s)] K =
    srDig_L0 F [] F s false 0 K := by kernel_rfl

set_option maxRecDepth 100000 in
theorem srDig_L0_zero (F : Nat) (ns : List Nat) (x0 : List UInt8) (x2 : Bool) (x3 : Int) (K : V → Option V) : srDig_L0 F ns 0 x0 x2 x3 K = none := by kernel_rfl
set_option maxRecDepth 100000 in
theorem srDig_L0_succ (F : Nat) (n : Nat) (x0 : List UInt8) (x2 : Bool) (x3 : Int) (K : V → Option V) :
    srDig_L0 F [] (n + 1) x0 x2 x3 K =
    sel (ilt x3 (slen x0))
      (sel (band (ile 0 x3) (ilt x3 (slen x0)))
        (sel (ilt (sat x0 x3) 48)
          (K (V.bool false))
          (sel (band (ile 0 x3) (ilt x3 (slen x0)))
            (sel (ilt 57 (sat x0 x3))
              (K (V.bool false))
              (srDig_L0 F [] n x0 x2 (iadd .i64 x3 1) K))
            (none)))
        (none))
      (K (V.bool (bnot (seq x0 [])))) := by kernel_rfl


end Nt.Ev.YtmemhdilefmceaaDoor

set_option linter.unusedVariables false
set_option linter.unusedSimpArgs false
namespace Nt.Ev.YtmemhdilefmceaaDoor
open Go Go.RowKit Nt Nt.Num Nt.Civil Go.Proofs.YtmemhdilefmceaaDoor

theorem sdivS_ok (a b : Int) (hc : band (band (ile (-9223372036854775808) a) (ile a 9223372036854775807)) (band (ilt 0 b) (ile b 1000000)) = true) : Contract vE 57 [.int .i64 a, .int .i64 b] (.tup [.int .i64 (fq a b), .int .i64 (fr a b), .int .i64 0]) := divS_ok a b hc
theorem srightS_ok (y m d : Int) (hc : true = true) : Contract vE 51 [.agg [.int .i64 y, .int .i64 m, .int .i64 d]] (.bool (validB y m d)) := rightS_ok y m d hc
theorem sdaysS_ok (y m d : Int) (hc : true = true) : Contract vE 31 [.agg [.int .i64 y, .int .i64 m, .int .i64 d]] (.tup [.int .i64 (dyI y m d), .int .i64 (dyW y m d)]) := vDays_ev y m d
theorem sdateS_ok (n : Int) (hc : band (ile (-9223372036854775808) n) (ile n 9223372036854775807) = true) : Contract vE 54 [.int .i64 n] (.tup [.agg [.int .i64 (daY n), .int .i64 (daM n), .int .i64 (daD n)], .int .i64 (daW n)]) := vDate_ev n
theorem stS_ok : SOk vE stS := by
  unfold stS
  refine SOk.cons (fun args r h => ?_) (SOk.cons (fun args r h => ?_) (SOk.cons (fun args r h => ?_) (SOk.cons (fun args r h => ?_) (SOk.nil))))
  · unfold sdivS at h
    split at h
    · simp only [Option.some.injEq, Prod.mk.injEq] at h
      obtain ⟨hc, rfl⟩ := h
      exact sdivS_ok _ _ hc
    · cases h
  · unfold srightS at h
    split at h
    · simp only [Option.some.injEq, Prod.mk.injEq] at h
      obtain ⟨hc, rfl⟩ := h
      exact srightS_ok _ _ _ rfl
    · cases h
  · unfold sdaysS at h
    split at h
    · simp only [Option.some.injEq, Prod.mk.injEq] at h
      obtain ⟨hc, rfl⟩ := h
      exact sdaysS_ok _ _ _ rfl
    · cases h
  · unfold sdateS at h
    split at h
    · simp only [Option.some.injEq, Prod.mk.injEq] at h
      obtain ⟨hc, rfl⟩ := h
      exact sdateS_ok _ hc
    · cases h


theorem stRight_ev (y m d h i s : Int) : Contract vE 26 [.agg [.int .i64 y, .int .i64 m, .int .i64 d, .int .i64 h, .int .i64 i, .int .i64 s]] (.bool (stB y m d h i s)) := by
  refine contract_of_body vE_ok stS_ok 5 2 ?_
  rw [stRight_top]
  unfold stB
  cases validB y m d
  · rfl
  · simp only [st', sel_if, ile_iff, ilt_iff, Bool.true_and]
    repeat' split
    all_goals first | contradiction | (exfalso; simp_all; done) | (rw [decide_eq_false (by omega)]; done) | (congr 2; rw [Bool.eq_iff_iff, decide_eq_true_iff]; simp only [ile_iff, ilt_iff]; omega)
theorem stRightS_ok (y m d h i s : Int) (hc : true = true) : Contract vE 26 [.agg [.int .i64 y, .int .i64 m, .int .i64 d, .int .i64 h, .int .i64 i, .int .i64 s]] (.bool (stB y m d h i s)) := stRight_ev y m d h i s
theorem stS2_ok : SOk vE stS2 := by
  unfold stS2
  refine SOk.cons (fun args r h => ?_) (stS_ok)
  · unfold stRightS at h
    split at h
    · simp only [Option.some.injEq, Prod.mk.injEq] at h
      obtain ⟨hc, rfl⟩ := h
      exact stRightS_ok _ _ _ _ _ _ rfl
    · cases h


/-- A stamp's number. -/
def secsI (y m d h i s : Int) : Int := daysI y m d * 86400 + h * 3600 + i * 60 + s
def secsP (y m d h i s : Int) : Int × Int := if stB y m d h i s = true then (secsI y m d h i s, 0) else (0, 1)
theorem stB_iff {y m d h i s : Int} : stB y m d h i s = true ↔ validB y m d = true ∧ 0 ≤ h ∧ h ≤ 23 ∧ 0 ≤ i ∧ i ≤ 59 ∧ 0 ≤ s ∧ s ≤ 59 := by
  unfold stB; rw [Bool.and_eq_true, decide_eq_true_iff]
theorem days_bd {y m d : Int} (h : validB y m d = true) : -20000000 ≤ daysI y m d ∧ daysI y m d ≤ 20000000 := by
  obtain ⟨y1, y2, hv⟩ := validB_iff.1 h
  have hb := yd_bounds hv
  have hz : (0 : Int) ≤ (if leapB y = true then 1 else 0) ∧ (if leapB y = true then (1 : Int) else 0) ≤ 1 := by split <;> omega
  have ha : -19000000 ≤ aheadI y ∧ aheadI y ≤ 19000000 := by unfold aheadI leapsI; omega
  unfold daysI
  omega
theorem dy_valid {y m d : Int} (h : validB y m d = true) : dyI y m d = daysI y m d ∧ dyW y m d = 0 := by
  unfold dyI dyW daysP; rw [if_pos h]; exact ⟨rfl, rfl⟩
theorem stSecs_ev (y m d h i s : Int) : Contract vE 25 [.agg [.int .i64 y, .int .i64 m, .int .i64 d, .int .i64 h, .int .i64 i, .int .i64 s]] (.tup [.int .i64 (secsP y m d h i s).1, .int .i64 (secsP y m d h i s).2]) := by
  refine contract_of_body vE_ok stS2_ok 5 2 ?_
  rw [stSecs_top]
  unfold secsP
  cases hb : stB y m d h i s with
  | false => rfl
  | true =>
    obtain ⟨hv, h1⟩ := stB_iff.1 hb
    obtain ⟨e1, e2⟩ := dy_valid hv
    have hd := days_bd hv
    rw [sel_neg (by rfl), e1, e2, if_pos rfl]
    simp (disch := omega) only [iadd64, imul64]
    unfold secsI
    rw [show daysI y m d * 86400 + (h * 3600 + i * 60 + s) = daysI y m d * 86400 + h * 3600 + i * 60 + s by omega]
theorem stSplit_ev (t : Int) (ht : Fits t) : Contract vE 30 [.int .i64 t] (.tup [.int .i64 (t / 86400), .int .i64 (t % 86400)]) := by
  refine contract_of_body vE_ok stS2_ok 5 2 ?_
  rw [stSplit_top, sel_pos (by unfold Fits at ht; simp only [band_iff, ile_iff, ilt_iff]; omega)]
  rfl
/-- A number's stamp. -/
def ofP (t : Int) : List Int × Int := if inRange (t / 86400) = true then ([dY (t / 86400), dM (t / 86400), dD (t / 86400), t % 86400 / 3600, t % 86400 / 60 % 60, t % 86400 % 60], 0) else ([0, 0, 0, 0, 0, 0], 1)
def resO (p : List Int × Int) : V := .tup [.agg (p.1.map (V.int .i64)), .int .i64 p.2]
theorem da_in {n : Int} (h : inRange n = true) : daY n = dY n ∧ daM n = dM n ∧ daD n = dD n ∧ daW n = 0 := by
  unfold daY daM daD daW dateP; rw [if_pos h]; exact ⟨rfl, rfl, rfl, rfl⟩
theorem da_out {n : Int} (h : ¬ inRange n = true) : daW n = 1 := by
  unfold daW dateP; rw [if_neg h]
theorem stOf_ev (t : Int) (ht : Fits t) : Contract vE 28 [.int .i64 t] (resO (ofP t)) := by
  refine contract_of_body vE_ok stS2_ok 5 3 ?_
  unfold Fits at ht
  have e1 : fq t 86400 = t / 86400 := rfl
  have e2 : fr t 86400 = t % 86400 := rfl
  rw [stOf_top, sel_pos (by simp only [band_iff, ile_iff, ilt_iff]; omega), e1, e2, sel_pos (by simp only [band_iff, ile_iff]; omega)]
  unfold ofP
  by_cases hr : inRange (t / 86400) = true
  · obtain ⟨a1, a2, a3, a4⟩ := da_in hr
    rw [a1, a2, a3, a4, sel_neg (by rfl), if_pos hr]
    have hm : 0 ≤ t % 86400 ∧ t % 86400 < 86400 := by omega
    generalize t % 86400 = r at *
    have hd : r % 3600 / 60 = r / 60 % 60 := by omega
    simp (disch := omega) only [iquo64, irem_pos]
    rw [hd]; rfl
  · rw [da_out hr, sel_pos (by rfl), if_neg hr]; rfl
theorem toSt {f : Nat} {args : List V} {r : V} (h : Contract nE f args r) : Contract vE f args r := Contract.env (E := nE) rfl (fun n v h => by cases h) h
theorem st_fits {m : Int} (h : band (ile (-9223372036854775808) m) (ile m 9223372036854775807) = true) : Fits m := by rw [band_iff, ile_iff, ile_iff] at h; exact h
theorem sTextS_ok (m : Int) (hc : band (ile (-9223372036854775808) m) (ile m 9223372036854775807) = true) : Contract vE 46 [.int .i64 m] (.str (text m)) := toSt (nText_ev m (st_fits hc))
theorem sTextS_ok_noontideref01_Text (m : Int) (hc : band (ile (-9223372036854775808) m) (ile m 9223372036854775807) = true) : Contract vE 49 [.int .i64 m] (.str (text m)) := toSt (rText_ev m (st_fits hc))
theorem stS3_ok : SOk vE stS3 := by
  unfold stS3
  refine SOk.cons (fun args r h => ?_) (SOk.cons (fun args r h => ?_) (stS2_ok))
  · unfold sTextS at h
    split at h
    · simp only [Option.some.injEq, Prod.mk.injEq] at h
      obtain ⟨hc, rfl⟩ := h
      exact sTextS_ok _ hc
    · cases h
  · unfold sTextS at h
    split at h
    · simp only [Option.some.injEq, Prod.mk.injEq] at h
      obtain ⟨hc, rfl⟩ := h
      exact sTextS_ok_noontideref01_Text _ hc
    · cases h

theorem stS4_ok : SOk vE stS4 := by
  unfold stS4
  refine stS3_ok


/-- A stamp's text. -/
def stTxt (y m d h i s : Int) : List UInt8 :=
  if stB y m d h i s = true then (if y < 0 then 45 :: wideT (-y) 4 else wideT y 4) ++ 45 :: wideT m 2 ++ 45 :: wideT d 2 ++ 84 :: wideT h 2 ++ 58 :: wideT i 2 ++ 58 :: wideT s 2 else []
theorem wide_len (n k : Int) (hn : -1000000 ≤ n ∧ n ≤ 1000000) (hk : 0 ≤ k ∧ k ≤ 10) : (wideT n k).length ≤ 40 := by
  have := (text_len n (by unfold Fits; omega)).1
  unfold wideT
  rw [List.length_append, List.length_replicate]
  omega
theorem sDigS_ok (s : List UInt8) (hc : ile (slen s) 1000 = true) : Contract vE 104 [.str s] (.bool (digB s)) := toSt (rDigits_ev s (by rw [ile_iff, slen_nat] at hc; omega))
theorem stS5_ok : SOk vE stS5 := by
  unfold stS5
  refine SOk.cons (fun args r h => ?_) (stS4_ok)
  · unfold sDigS at h
    split at h
    · simp only [Option.some.injEq, Prod.mk.injEq] at h
      obtain ⟨hc, rfl⟩ := h
      exact sDigS_ok _ hc
    · cases h

end Nt.Ev.YtmemhdilefmceaaDoor

set_option linter.unusedVariables false
set_option linter.unusedSimpArgs false
set_option linter.unusedSectionVars false
namespace Nt.Ev.YtmemhdilefmceaaDoor
open Go Nt.Num Go.Proofs.YtmemhdilefmceaaDoor
open Nt.Civil
noncomputable def signsV : V := .rptr [.int .u8, .int .u8, .int .u8, .int .u8, .int .u8] (.agg [.int .u8 45, .int .u8 45, .int .u8 84, .int .u8 58, .int .u8 58]) 0
noncomputable def uE : Env := ⟨Go.Proofs.Tryd.prog, fun g => bif g == 0 then some signsV else none⟩
def trimC (s c : List UInt8) : List UInt8 := Lib.trimS s c
noncomputable def asciiB (l : List UInt8) : Bool := l.all fun c => decide (c.toNat < 128)
def cpB (s p : List UInt8) : Bool := Lib.hasPrefix s p
def cpT (s p : List UInt8) : List UInt8 := Lib.trimPrefix s p
noncomputable def uCutS : FSpec := fun a => match a with | [.str s, .str p] => some (ile (slen s) 1000, .tup [.str (cpT s p), .bool (cpB s p)]) | _ => none
noncomputable def uTextS : FSpec := fun a => match a with | [.int .i64 n] => some (band (ile (-9223372036854775808) n) (ile n 9223372036854775807), .str (text n)) | _ => none
noncomputable def uRightS : FSpec := fun a => match a with | [.agg [.int .i64 y, .int .i64 m, .int .i64 d, .int .i64 h, .int .i64 i, .int .i64 s]] => some (true, .bool (stB y m d h i s)) | _ => none
noncomputable def uTrimS : FSpec := fun a => match a with | [.str s, .str c] => some (band (ile (slen s) 1000) (band (ile (slen c) 1000) (asciiB c)), .str (trimC s c)) | _ => none
noncomputable def uReadS : FSpec := fun a => match a with | [.str s] => some (ile (slen s) 1000, .tup [.int .i64 (nrI s), .int .i64 (nrW s)]) | _ => none
noncomputable def uS : List (Nat × FSpec) := (85, uCutS) :: (46, uTextS) :: (26, uRightS) :: (84, uTrimS) :: (86, uReadS) :: []
noncomputable def uPadS : FSpec := fun a => match a with | [.sl 5 [.int .u8] (some 1000001000) xs, .int .i64 n, .int .i64 k] => some (band (band (ile (-1000000) n) (ile n 1000000)) (band (band (ile 0 k) (ile k 10)) (ile (llen xs) 1000)), .out false (.sl 5 [.int .u8] (some 1000000000) (lcat xs (bytesV (wideT n k)))) []) | _ => none
def dgB (s : List UInt8) (n : Int) : Bool := decide (n ≤ (s.length : Int)) && s.all isDigit
noncomputable def uDigS : FSpec := fun a => match a with | [.str s, .int .i64 n] => some (ile (slen s) 1000, .bool (dgB s n)) | _ => none
noncomputable def uS2 : List (Nat × FSpec) := (GX + 53, uPadS) :: (55, uDigS) :: uS
def yrP (s : List UInt8) : Int × Int := if (bare s).length < 4 ∨ (bare s).all isDigit = false ∨ (4 < (bare s).length ∧ (bare s).getD 0 0 = 48) ∨ s = [45, 48, 48, 48, 48] then (0, 4) else if 5 < (bare s).length then (0, 1) else (if minus s = true then -(val (bare s) : Int) else (val (bare s) : Int), 0)
def yrI (s : List UInt8) : Int := (yrP s).1
def yrW (s : List UInt8) : Int := (yrP s).2
def twoI (s : List UInt8) : Int := iadd .i64 (imul .i64 (icnv .i64 (isub .u8 (sat s 0) 48)) 10) (icnv .i64 (isub .u8 (sat s 1) 48))
noncomputable def uYearS : FSpec := fun a => match a with | [.str s] => some (ile (slen s) 1000, .tup [.int .i64 (yrI s), .int .i64 (yrW s)]) | _ => none
noncomputable def uRDigS : FSpec := fun a => match a with | [.str s] => some (ile (slen s) 1000, .bool (digB s)) | _ => none
noncomputable def uTwoS : FSpec := fun a => match a with | [.str s] => some (band (ile 2 (slen s)) (ile (slen s) 1000), .int .i64 (twoI s)) | _ => none
noncomputable def uS3 : List (Nat × FSpec) := (56, uYearS) :: (104, uRDigS) :: uS2
noncomputable def uPad_L0 (F : Nat) (ns : List Nat) (n : Nat) (x0 : List V) (x1 : Int) (x2 : Int) (x7 : List UInt8) (x13 : Int) (x14 : Int) (K : V → Option V) : Option V :=
  loopAtA uE uS F 2 53 [(V.sl 5 [(Kd.int .u8)] (some 1000001000) []), (V.nilsl), (V.nilsl)] [1, 1, 0, 1, 0] ns K n (mkSt 23 [(0, V.sl 5 [(Kd.int .u8)] (some 1000000000) x0), (1, V.int .i64 x1), (2, V.int .i64 x2), (6, V.sl 5 [(Kd.int .u8)] (some 6) []), (7, V.str x7), (13, V.int .i64 x13), (14, V.int .i64 x14)] [])

set_option maxRecDepth 100000 in
theorem uPad_top (F : Nat) (L : List V) (n : Int) (k : Int) (K : V → Option V) :
    evBd uE (evFn uE uS F 2) F 53 [(V.sl 5 [(Kd.int .u8)] (some 1000001000) L), (V.int .i64 n), (V.int .i64 k)] K =
    sel (band (ile (-9223372036854775808) n) (ile n 9223372036854775807))
      (uPad_L0 F [] F L n k (text n) (isub .i64 k (slen (text n))) 0 K)
      (none) := by kernel_rfl

set_option maxRecDepth 100000 in
theorem uPad_L0_zero (F : Nat) (ns : List Nat) (x0 : List V) (x1 : Int) (x2 : Int) (x7 : List UInt8) (x13 : Int) (x14 : Int) (K : V → Option V) : uPad_L0 F ns 0 x0 x1 x2 x7 x13 x14 K = none := by kernel_rfl
set_option maxRecDepth 100000 in
theorem uPad_L0_succ (F : Nat) (n : Nat) (x0 : List V) (x1 : Int) (x2 : Int) (x7 : List UInt8) (x13 : Int) (x14 : Int) (K : V → Option V) :
    uPad_L0 F [] (n + 1) x0 x1 x2 x7 x13 x14 K =
    sel (ilt x14 x13)
      (sel (okApp x0 [(V.int .u8 48)])
        (uPad_L0 F [] n (lcat x0 [(V.int .u8 48)]) x1 x2 x7 x13 (iadd .i64 x14 1) K)
        (none))
      (sel (okApp x0 (bytesV x7))
        (K (V.out false (V.sl 5 [(Kd.int .u8)] (some 1000000000) (lcat x0 (bytesV x7))) []))
        (none)) := by kernel_rfl


set_option maxRecDepth 100000 in
theorem uDigits_top (F : Nat) (s : List UInt8) (n : Int) (K : V → Option V) :
    evBd uE (evFn uE uS F 2) F 55 [(V.str s), (V.int .i64 n)] K =
    sel (ile n (slen s))
      (sel (band (ile (slen s) 1000) (band (ile (slen [48, 49, 50, 51, 52, 53, 54, 55, 56, 57]) 1000) true))
        (K (V.bool (seq (trimC s [48, 49, 50, 51, 52, 53, 54, 55, 56, 57]) [])))
        (none))
      (K (V.bool false)) := by kernel_rfl


noncomputable def uText_L0 (F : Nat) (ns : List Nat) (n : Nat) (x0_0 : Int) (x0_1 : Int) (x0_2 : Int) (x0_3 : Int) (x0_4 : Int) (x0_5 : Int) (x3 : List V) (x4 : Int) (x35_0 : Int) (x35_1 : Int) (x35_2 : Int) (x35_3 : Int) (x35_4 : Int) (x36 : Int) (b1_0 : Int) (b1_1 : Int) (b1_2 : Int) (b1_3 : Int) (b1_4 : Int) (b1_5 : Int) (K : V → Option V) : Option V :=
  loopAt uE uS2 F 2 27 [1, 1, 1, 1, 1, 1, 0, 1, 0] ns K n (mkSt 51 [(0, V.agg [V.int .i64 x0_0, V.int .i64 x0_1, V.int .i64 x0_2, V.int .i64 x0_3, V.int .i64 x0_4, V.int .i64 x0_5]), (1, (V.box 1 0)), (2, V.str []), (3, V.sl 5 [(Kd.int .u8)] (some 3) x3), (4, V.int .i64 x4), (35, V.agg [V.int .i64 x35_0, V.int .i64 x35_1, V.int .i64 x35_2, V.int .i64 x35_3, V.int .i64 x35_4]), (36, V.int .i64 x36)] [(1, [V.int .i64 b1_0, V.int .i64 b1_1, V.int .i64 b1_2, V.int .i64 b1_3, V.int .i64 b1_4, V.int .i64 b1_5])])

set_option maxRecDepth 100000 in
theorem uText_top (F : Nat) (y : Int) (m : Int) (d : Int) (h : Int) (i : Int) (s : Int) (K : V → Option V) :
    evBd uE (evFn uE uS2 F 2) F 27 [(V.agg [(V.int .i64 y), (V.int .i64 m), (V.int .i64 d), (V.int .i64 h), (V.int .i64 i), (V.int .i64 s)])] K =
    sel (bnot (stB y m d h i s))
      (K (V.str []))
      (sel (ilt y 0)
        (sel (okApp [] [(V.int .u8 45)])
          (sel (band (band (ile (-1000000) (isub .i64 0 y)) (ile (isub .i64 0 y) 1000000)) (band (band (ile 0 4) (ile 4 10)) (ile (llen (lcat [] [(V.int .u8 45)])) 1000)))
            (uText_L0 F [] F y m d h i s (lcat (lcat [] [(V.int .u8 45)]) (bytesV (wideT (isub .i64 0 y) 4))) (isub .i64 0 y) m d h i s 0 y m d h i s K)
            (none))
          (none))
        (sel (band (band (ile (-1000000) y) (ile y 1000000)) (band (band (ile 0 4) (ile 4 10)) (ile (llen []) 1000)))
          (uText_L0 F [] F y m d h i s (lcat [] (bytesV (wideT y 4))) y m d h i s 0 y m d h i s K)
          (none))) := by kernel_rfl

set_option maxRecDepth 100000 in
theorem uText_L0_zero (F : Nat) (ns : List Nat) (x0_0 : Int) (x0_1 : Int) (x0_2 : Int) (x0_3 : Int) (x0_4 : Int) (x0_5 : Int) (x3 : List V) (x4 : Int) (x35_0 : Int) (x35_1 : Int) (x35_2 : Int) (x35_3 : Int) (x35_4 : Int) (x36 : Int) (b1_0 : Int) (b1_1 : Int) (b1_2 : Int) (b1_3 : Int) (b1_4 : Int) (b1_5 : Int) (K : V → Option V) : uText_L0 F ns 0 x0_0 x0_1 x0_2 x0_3 x0_4 x0_5 x3 x4 x35_0 x35_1 x35_2 x35_3 x35_4 x36 b1_0 b1_1 b1_2 b1_3 b1_4 b1_5 K = none := by kernel_rfl
set_option maxRecDepth 100000 in
theorem uText_L0_succ (F : Nat) (n : Nat) (x0_0 : Int) (x0_1 : Int) (x0_2 : Int) (x0_3 : Int) (x0_4 : Int) (x0_5 : Int) (x3 : List V) (x4 : Int) (x35_0 : Int) (x35_1 : Int) (x35_2 : Int) (x35_3 : Int) (x35_4 : Int) (x36 : Int) (b1_0 : Int) (b1_1 : Int) (b1_2 : Int) (b1_3 : Int) (b1_4 : Int) (b1_5 : Int) (K : V → Option V) :
    uText_L0 F [] (n + 1) x0_0 x0_1 x0_2 x0_3 x0_4 x0_5 x3 x4 x35_0 x35_1 x35_2 x35_3 x35_4 x36 b1_0 b1_1 b1_2 b1_3 b1_4 b1_5 K =
    sel (ilt x36 5)
      (sel (ieq x36 0)
        (sel (band (ile 0 x36) (ilt x36 5))
          (sel (okApp x3 [(V.int .u8 (asInt (acell (lget [(V.int .u8 45), (V.int .u8 45), (V.int .u8 84), (V.int .u8 58), (V.int .u8 58)] x36) 0)))])
            (sel (band (band (ile (-1000000) x35_0) (ile x35_0 1000000)) (band (band (ile 0 2) (ile 2 10)) (ile (llen (lcat x3 [(V.int .u8 (asInt (acell (lget [(V.int .u8 45), (V.int .u8 45), (V.int .u8 84), (V.int .u8 58), (V.int .u8 58)] x36) 0)))])) 1000)))
              (uText_L0 F [] n x0_0 x0_1 x0_2 x0_3 x0_4 x0_5 (lcat (lcat x3 [(V.int .u8 (asInt (acell (lget [(V.int .u8 45), (V.int .u8 45), (V.int .u8 84), (V.int .u8 58), (V.int .u8 58)] x36) 0)))]) (bytesV (wideT x35_0 2))) x4 x35_0 x35_1 x35_2 x35_3 x35_4 (iadd .i64 x36 1) b1_0 b1_1 b1_2 b1_3 b1_4 b1_5 K)
              (none))
            (none))
          (none))
        (sel (ieq x36 1)
          (sel (band (ile 0 x36) (ilt x36 5))
            (sel (okApp x3 [(V.int .u8 (asInt (acell (lget [(V.int .u8 45), (V.int .u8 45), (V.int .u8 84), (V.int .u8 58), (V.int .u8 58)] x36) 0)))])
              (sel (band (band (ile (-1000000) x35_1) (ile x35_1 1000000)) (band (band (ile 0 2) (ile 2 10)) (ile (llen (lcat x3 [(V.int .u8 (asInt (acell (lget [(V.int .u8 45), (V.int .u8 45), (V.int .u8 84), (V.int .u8 58), (V.int .u8 58)] x36) 0)))])) 1000)))
                (uText_L0 F [] n x0_0 x0_1 x0_2 x0_3 x0_4 x0_5 (lcat (lcat x3 [(V.int .u8 (asInt (acell (lget [(V.int .u8 45), (V.int .u8 45), (V.int .u8 84), (V.int .u8 58), (V.int .u8 58)] x36) 0)))]) (bytesV (wideT x35_1 2))) x4 x35_0 x35_1 x35_2 x35_3 x35_4 (iadd .i64 x36 1) b1_0 b1_1 b1_2 b1_3 b1_4 b1_5 K)
                (none))
              (none))
            (none))
          (sel (ieq x36 2)
            (sel (band (ile 0 x36) (ilt x36 5))
              (sel (okApp x3 [(V.int .u8 (asInt (acell (lget [(V.int .u8 45), (V.int .u8 45), (V.int .u8 84), (V.int .u8 58), (V.int .u8 58)] x36) 0)))])
                (sel (band (band (ile (-1000000) x35_2) (ile x35_2 1000000)) (band (band (ile 0 2) (ile 2 10)) (ile (llen (lcat x3 [(V.int .u8 (asInt (acell (lget [(V.int .u8 45), (V.int .u8 45), (V.int .u8 84), (V.int .u8 58), (V.int .u8 58)] x36) 0)))])) 1000)))
                  (uText_L0 F [] n x0_0 x0_1 x0_2 x0_3 x0_4 x0_5 (lcat (lcat x3 [(V.int .u8 (asInt (acell (lget [(V.int .u8 45), (V.int .u8 45), (V.int .u8 84), (V.int .u8 58), (V.int .u8 58)] x36) 0)))]) (bytesV (wideT x35_2 2))) x4 x35_0 x35_1 x35_2 x35_3 x35_4 (iadd .i64 x36 1) b1_0 b1_1 b1_2 b1_3 b1_4 b1_5 K)
                  (none))
                (none))
              (none))
            (sel (ieq x36 3)
              (sel (band (ile 0 x36) (ilt x36 5))
                (sel (okApp x3 [(V.int .u8 (asInt (acell (lget [(V.int .u8 45), (V.int .u8 45), (V.int .u8 84), (V.int .u8 58), (V.int .u8 58)] x36) 0)))])
                  (sel (band (band (ile (-1000000) x35_3) (ile x35_3 1000000)) (band (band (ile 0 2) (ile 2 10)) (ile (llen (lcat x3 [(V.int .u8 (asInt (acell (lget [(V.int .u8 45), (V.int .u8 45), (V.int .u8 84), (V.int .u8 58), (V.int .u8 58)] x36) 0)))])) 1000)))
                    (uText_L0 F [] n x0_0 x0_1 x0_2 x0_3 x0_4 x0_5 (lcat (lcat x3 [(V.int .u8 (asInt (acell (lget [(V.int .u8 45), (V.int .u8 45), (V.int .u8 84), (V.int .u8 58), (V.int .u8 58)] x36) 0)))]) (bytesV (wideT x35_3 2))) x4 x35_0 x35_1 x35_2 x35_3 x35_4 (iadd .i64 x36 1) b1_0 b1_1 b1_2 b1_3 b1_4 b1_5 K)
                    (none))
                  (none))
                (none))
              (sel (ieq x36 4)
                (sel (band (ile 0 x36) (ilt x36 5))
                  (sel (okApp x3 [(V.int .u8 (asInt (acell (lget [(V.int .u8 45), (V.int .u8 45), (V.int .u8 84), (V.int .u8 58), (V.int .u8 58)] x36) 0)))])
                    (sel (band (band (ile (-1000000) x35_4) (ile x35_4 1000000)) (band (band (ile 0 2) (ile 2 10)) (ile (llen (lcat x3 [(V.int .u8 (asInt (acell (lget [(V.int .u8 45), (V.int .u8 45), (V.int .u8 84), (V.int .u8 58), (V.int .u8 58)] x36) 0)))])) 1000)))
                      (uText_L0 F [] n x0_0 x0_1 x0_2 x0_3 x0_4 x0_5 (lcat (lcat x3 [(V.int .u8 (asInt (acell (lget [(V.int .u8 45), (V.int .u8 45), (V.int .u8 84), (V.int .u8 58), (V.int .u8 58)] x36) 0)))]) (bytesV (wideT x35_4 2))) x4 x35_0 x35_1 x35_2 x35_3 x35_4 (iadd .i64 x36 1) b1_0 b1_1 b1_2 b1_3 b1_4 b1_5 K)
                      (none))
                    (none))
                  (none))
                (none))))))
      (K (V.str (vbytes x3))) := by kernel_rfl

noncomputable def uYear_L0 (F : Nat) (ns : List Nat) (n : Nat) (x0 : List UInt8) (x4 : List UInt8) (x5 : Bool) (x6 : Int) (x7 : Int) (x8 : Int) (x9 : Int) (K : V → Option V) : Option V :=
  loopAt uE uS2 F 4 56 [1, 1, 1, 1, 1, 1, 0, 1, 0] ns K n (mkSt 64 [(0, V.str x0), (2, V.int .i64 0), (3, V.int .i64 0), (4, V.str x4), (5, V.bool x5), (6, V.int .i64 x6), (7, V.int .i64 x7), (8, V.int .i64 x8), (9, V.int .i64 x9)] [])

set_option maxRecDepth 100000 in
theorem uYear_top (F : Nat) (s : List UInt8) (K : V → Option V) :
    evBd uE (evFn uE uS2 F 4) F 56 [(V.str s)] K =
    sel (ile (slen s) 1000)
      (sel (ile (slen (cpT s [45])) 1000)
        (sel (bnot (dgB (cpT s [45]) 4))
          (K (V.tup [(V.int .i64 0), (V.int .i64 4)]))
          (sel (ilt 4 (slen (cpT s [45])))
            (sel (band (ile 0 0) (ilt 0 (slen (cpT s [45]))))
              (sel (ieq (sat (cpT s [45]) 0) 48)
                (K (V.tup [(V.int .i64 0), (V.int .i64 4)]))
                (sel (seq s [45, 48, 48, 48, 48])
                  (K (V.tup [(V.int .i64 0), (V.int .i64 4)]))
                  (sel (band (ile 0 (imax (isub .i64 (slen (cpT s [45])) 5) 0)) (ile (imax (isub .i64 (slen (cpT s [45])) 5) 0) (slen (cpT s [45]))))
                    (sel (okCat [49] (ssub (cpT s [45]) (imax (isub .i64 (slen (cpT s [45])) 5) 0) (slen (cpT s [45]))))
                      (sel (ile (slen (scat [49] (ssub (cpT s [45]) (imax (isub .i64 (slen (cpT s [45])) 5) 0) (slen (cpT s [45]))))) 1000)
                        (sel (bnot (ieq (nrW (scat [49] (ssub (cpT s [45]) (imax (isub .i64 (slen (cpT s [45])) 5) 0) (slen (cpT s [45]))))) 0))
                          (K (V.tup [(V.int .i64 0), (V.int .i64 1)]))
                          (sel (ilt 5 (slen (cpT s [45])))
                            (K (V.tup [(V.int .i64 0), (V.int .i64 1)]))
                            (uYear_L0 F [] F s (cpT s [45]) (cpB s [45]) (nrI (scat [49] (ssub (cpT s [45]) (imax (isub .i64 (slen (cpT s [45])) 5) 0) (slen (cpT s [45]))))) (nrW (scat [49] (ssub (cpT s [45]) (imax (isub .i64 (slen (cpT s [45])) 5) 0) (slen (cpT s [45]))))) (nrI (scat [49] (ssub (cpT s [45]) (imax (isub .i64 (slen (cpT s [45])) 5) 0) (slen (cpT s [45]))))) 1 K)))
                        (none))
                      (none))
                    (none))))
              (none))
            (sel (seq s [45, 48, 48, 48, 48])
              (K (V.tup [(V.int .i64 0), (V.int .i64 4)]))
              (sel (band (ile 0 (imax (isub .i64 (slen (cpT s [45])) 5) 0)) (ile (imax (isub .i64 (slen (cpT s [45])) 5) 0) (slen (cpT s [45]))))
                (sel (okCat [49] (ssub (cpT s [45]) (imax (isub .i64 (slen (cpT s [45])) 5) 0) (slen (cpT s [45]))))
                  (sel (ile (slen (scat [49] (ssub (cpT s [45]) (imax (isub .i64 (slen (cpT s [45])) 5) 0) (slen (cpT s [45]))))) 1000)
                    (sel (bnot (ieq (nrW (scat [49] (ssub (cpT s [45]) (imax (isub .i64 (slen (cpT s [45])) 5) 0) (slen (cpT s [45]))))) 0))
                      (K (V.tup [(V.int .i64 0), (V.int .i64 1)]))
                      (sel (ilt 5 (slen (cpT s [45])))
                        (K (V.tup [(V.int .i64 0), (V.int .i64 1)]))
                        (uYear_L0 F [] F s (cpT s [45]) (cpB s [45]) (nrI (scat [49] (ssub (cpT s [45]) (imax (isub .i64 (slen (cpT s [45])) 5) 0) (slen (cpT s [45]))))) (nrW (scat [49] (ssub (cpT s [45]) (imax (isub .i64 (slen (cpT s [45])) 5) 0) (slen (cpT s [45]))))) (nrI (scat [49] (ssub (cpT s [45]) (imax (isub .i64 (slen (cpT s [45])) 5) 0) (slen (cpT s [45]))))) 1 K)))
                    (none))
                  (none))
                (none)))))
        (none))
      (none) := by kernel_rfl

set_option maxRecDepth 100000 in
theorem uYear_L0_zero (F : Nat) (ns : List Nat) (x0 : List UInt8) (x4 : List UInt8) (x5 : Bool) (x6 : Int) (x7 : Int) (x8 : Int) (x9 : Int) (K : V → Option V) : uYear_L0 F ns 0 x0 x4 x5 x6 x7 x8 x9 K = none := by kernel_rfl
set_option maxRecDepth 100000 in
theorem uYear_L0_succ (F : Nat) (n : Nat) (x0 : List UInt8) (x4 : List UInt8) (x5 : Bool) (x6 : Int) (x7 : Int) (x8 : Int) (x9 : Int) (K : V → Option V) :
    uYear_L0 F [] (n + 1) x0 x4 x5 x6 x7 x8 x9 K =
    sel (ilt x8 (imul .i64 x9 10))
      (sel x5
        (K (V.tup [(V.int .i64 (isub .i64 0 (isub .i64 x8 x9))), (V.int .i64 0)]))
        (K (V.tup [(V.int .i64 (isub .i64 x8 x9)), (V.int .i64 0)])))
      (uYear_L0 F [] n x0 x4 x5 x6 x7 x8 (imul .i64 x9 10) K) := by kernel_rfl

noncomputable def uRead_L0 (F : Nat) (ns : List Nat) (n : Nat) (x0 : List UInt8) (x3 : Int) (x4 : Int) (x6 : List UInt8) (x22 : Int) (b5_0 : Int) (b5_1 : Int) (b5_2 : Int) (b5_3 : Int) (b5_4 : Int) (b2_0 : Int) (b2_1 : Int) (b2_2 : Int) (b2_3 : Int) (b2_4 : Int) (b2_5 : Int) (K : V → Option V) : Option V :=
  loopAt uE uS3 F 2 29 [1, 1, 1, 1, 1, 0, 1, 0] ns K n (mkSt 81 [(0, V.str x0), (2, (V.box 2 0)), (3, V.int .i64 x3), (4, V.int .i64 x4), (5, (V.box 5 0)), (6, V.str x6), (9, V.tup []), (10, V.tup []), (11, V.tup []), (21, V.agg [V.int .u8 45, V.int .u8 45, V.int .u8 84, V.int .u8 58, V.int .u8 58]), (22, V.int .i64 x22)] [(5, [V.int .i64 b5_0, V.int .i64 b5_1, V.int .i64 b5_2, V.int .i64 b5_3, V.int .i64 b5_4]), (2, [V.int .i64 b2_0, V.int .i64 b2_1, V.int .i64 b2_2, V.int .i64 b2_3, V.int .i64 b2_4, V.int .i64 b2_5])])

set_option maxRecDepth 100000 in
theorem uRead_top (F : Nat) (s : List UInt8) (K : V → Option V) :
    evBd uE (evFn uE uS3 F 2) F 29 [(V.str s)] K =
    sel (ilt (isub .i64 (slen s) 15) 0)
      (K (V.tup [(V.agg [(V.int .i64 0), (V.int .i64 0), (V.int .i64 0), (V.int .i64 0), (V.int .i64 0), (V.int .i64 0)]), (V.int .i64 4)]))
      (sel (band (ile 0 (isub .i64 (slen s) 15)) (ile (isub .i64 (slen s) 15) (slen s)))
        (uRead_L0 F [] F s 0 (isub .i64 (slen s) 15) (ssub s (isub .i64 (slen s) 15) (slen s)) 0 0 0 0 0 0 0 0 0 0 0 0 K)
        (none)) := by kernel_rfl

set_option maxRecDepth 100000 in
theorem uRead_L0_zero (F : Nat) (ns : List Nat) (x0 : List UInt8) (x3 : Int) (x4 : Int) (x6 : List UInt8) (x22 : Int) (b5_0 : Int) (b5_1 : Int) (b5_2 : Int) (b5_3 : Int) (b5_4 : Int) (b2_0 : Int) (b2_1 : Int) (b2_2 : Int) (b2_3 : Int) (b2_4 : Int) (b2_5 : Int) (K : V → Option V) : uRead_L0 F ns 0 x0 x3 x4 x6 x22 b5_0 b5_1 b5_2 b5_3 b5_4 b2_0 b2_1 b2_2 b2_3 b2_4 b2_5 K = none := by kernel_rfl
set_option maxRecDepth 100000 in
theorem uRead_L0_succ (F : Nat) (n : Nat) (x0 : List UInt8) (x3 : Int) (x4 : Int) (x6 : List UInt8) (x22 : Int) (b5_0 : Int) (b5_1 : Int) (b5_2 : Int) (b5_3 : Int) (b5_4 : Int) (b2_0 : Int) (b2_1 : Int) (b2_2 : Int) (b2_3 : Int) (b2_4 : Int) (b2_5 : Int) (K : V → Option V) :
    uRead_L0 F [] (n + 1) x0 x3 x4 x6 x22 b5_0 b5_1 b5_2 b5_3 b5_4 b2_0 b2_1 b2_2 b2_3 b2_4 b2_5 K =
    sel (ilt x22 5)
      (sel (ieq x22 0)
        (sel (band (ile 0 0) (ilt 0 (slen x6)))
          (sel (bnot (ieq (sat x6 0) 45))
            (K (V.tup [(V.agg [(V.int .i64 0), (V.int .i64 0), (V.int .i64 0), (V.int .i64 0), (V.int .i64 0), (V.int .i64 0)]), (V.int .i64 4)]))
            (sel (band (band (ile 0 3) (ile 3 (slen x6))) (band (ile 0 1) (ile 1 3)))
              (sel (ile (slen (ssub x6 1 3)) 1000)
                (sel (bnot (dgB (ssub x6 1 3) 2))
                  (K (V.tup [(V.agg [(V.int .i64 0), (V.int .i64 0), (V.int .i64 0), (V.int .i64 0), (V.int .i64 0), (V.int .i64 0)]), (V.int .i64 4)]))
                  (sel (band (ile 0 1) (ilt 1 (slen x6)))
                    (sel (band (ile 0 2) (ilt 2 (slen x6)))
                      (sel (ieq x22 0)
                        (sel (band (ile 0 3) (ile 3 (slen x6)))
                          (uRead_L0 F [] n x0 x3 x4 (ssub x6 3 (slen x6)) (iadd .i64 x22 1) (iadd .i64 (imul .i64 (icnv .i64 (isub .u8 (sat x6 1) 48)) 10) (icnv .i64 (isub .u8 (sat x6 2) 48))) b5_1 b5_2 b5_3 b5_4 b2_0 b2_1 b2_2 b2_3 b2_4 b2_5 K)
                          (none))
                        (sel (ieq x22 1)
                          (sel (band (ile 0 3) (ile 3 (slen x6)))
                            (uRead_L0 F [] n x0 x3 x4 (ssub x6 3 (slen x6)) (iadd .i64 x22 1) b5_0 (iadd .i64 (imul .i64 (icnv .i64 (isub .u8 (sat x6 1) 48)) 10) (icnv .i64 (isub .u8 (sat x6 2) 48))) b5_2 b5_3 b5_4 b2_0 b2_1 b2_2 b2_3 b2_4 b2_5 K)
                            (none))
                          (sel (ieq x22 2)
                            (sel (band (ile 0 3) (ile 3 (slen x6)))
                              (uRead_L0 F [] n x0 x3 x4 (ssub x6 3 (slen x6)) (iadd .i64 x22 1) b5_0 b5_1 (iadd .i64 (imul .i64 (icnv .i64 (isub .u8 (sat x6 1) 48)) 10) (icnv .i64 (isub .u8 (sat x6 2) 48))) b5_3 b5_4 b2_0 b2_1 b2_2 b2_3 b2_4 b2_5 K)
                              (none))
                            (sel (ieq x22 3)
                              (sel (band (ile 0 3) (ile 3 (slen x6)))
                                (uRead_L0 F [] n x0 x3 x4 (ssub x6 3 (slen x6)) (iadd .i64 x22 1) b5_0 b5_1 b5_2 (iadd .i64 (imul .i64 (icnv .i64 (isub .u8 (sat x6 1) 48)) 10) (icnv .i64 (isub .u8 (sat x6 2) 48))) b5_4 b2_0 b2_1 b2_2 b2_3 b2_4 b2_5 K)
                                (none))
                              (sel (ieq x22 4)
                                (sel (band (ile 0 3) (ile 3 (slen x6)))
                                  (uRead_L0 F [] n x0 x3 x4 (ssub x6 3 (slen x6)) (iadd .i64 x22 1) b5_0 b5_1 b5_2 b5_3 (iadd .i64 (imul .i64 (icnv .i64 (isub .u8 (sat x6 1) 48)) 10) (icnv .i64 (isub .u8 (sat x6 2) 48))) b2_0 b2_1 b2_2 b2_3 b2_4 b2_5 K)
                                  (none))
                                (none))))))
                      (none))
                    (none)))
                (none))
              (none)))
          (none))
        (sel (ieq x22 1)
          (sel (band (ile 0 0) (ilt 0 (slen x6)))
            (sel (bnot (ieq (sat x6 0) 45))
              (K (V.tup [(V.agg [(V.int .i64 0), (V.int .i64 0), (V.int .i64 0), (V.int .i64 0), (V.int .i64 0), (V.int .i64 0)]), (V.int .i64 4)]))
              (sel (band (band (ile 0 3) (ile 3 (slen x6))) (band (ile 0 1) (ile 1 3)))
                (sel (ile (slen (ssub x6 1 3)) 1000)
                  (sel (bnot (dgB (ssub x6 1 3) 2))
                    (K (V.tup [(V.agg [(V.int .i64 0), (V.int .i64 0), (V.int .i64 0), (V.int .i64 0), (V.int .i64 0), (V.int .i64 0)]), (V.int .i64 4)]))
                    (sel (band (ile 0 1) (ilt 1 (slen x6)))
                      (sel (band (ile 0 2) (ilt 2 (slen x6)))
                        (sel (ieq x22 0)
                          (sel (band (ile 0 3) (ile 3 (slen x6)))
                            (uRead_L0 F [] n x0 x3 x4 (ssub x6 3 (slen x6)) (iadd .i64 x22 1) (iadd .i64 (imul .i64 (icnv .i64 (isub .u8 (sat x6 1) 48)) 10) (icnv .i64 (isub .u8 (sat x6 2) 48))) b5_1 b5_2 b5_3 b5_4 b2_0 b2_1 b2_2 b2_3 b2_4 b2_5 K)
                            (none))
                          (sel (ieq x22 1)
                            (sel (band (ile 0 3) (ile 3 (slen x6)))
                              (uRead_L0 F [] n x0 x3 x4 (ssub x6 3 (slen x6)) (iadd .i64 x22 1) b5_0 (iadd .i64 (imul .i64 (icnv .i64 (isub .u8 (sat x6 1) 48)) 10) (icnv .i64 (isub .u8 (sat x6 2) 48))) b5_2 b5_3 b5_4 b2_0 b2_1 b2_2 b2_3 b2_4 b2_5 K)
                              (none))
                            (sel (ieq x22 2)
                              (sel (band (ile 0 3) (ile 3 (slen x6)))
                                (uRead_L0 F [] n x0 x3 x4 (ssub x6 3 (slen x6)) (iadd .i64 x22 1) b5_0 b5_1 (iadd .i64 (imul .i64 (icnv .i64 (isub .u8 (sat x6 1) 48)) 10) (icnv .i64 (isub .u8 (sat x6 2) 48))) b5_3 b5_4 b2_0 b2_1 b2_2 b2_3 b2_4 b2_5 K)
                                (none))
                              (sel (ieq x22 3)
                                (sel (band (ile 0 3) (ile 3 (slen x6)))
                                  (uRead_L0 F [] n x0 x3 x4 (ssub x6 3 (slen x6)) (iadd .i64 x22 1) b5_0 b5_1 b5_2 (iadd .i64 (imul .i64 (icnv .i64 (isub .u8 (sat x6 1) 48)) 10) (icnv .i64 (isub .u8 (sat x6 2) 48))) b5_4 b2_0 b2_1 b2_2 b2_3 b2_4 b2_5 K)
                                  (none))
                                (sel (ieq x22 4)
                                  (sel (band (ile 0 3) (ile 3 (slen x6)))
                                    (uRead_L0 F [] n x0 x3 x4 (ssub x6 3 (slen x6)) (iadd .i64 x22 1) b5_0 b5_1 b5_2 b5_3 (iadd .i64 (imul .i64 (icnv .i64 (isub .u8 (sat x6 1) 48)) 10) (icnv .i64 (isub .u8 (sat x6 2) 48))) b2_0 b2_1 b2_2 b2_3 b2_4 b2_5 K)
                                    (none))
                                  (none))))))
                        (none))
                      (none)))
                  (none))
                (none)))
            (none))
          (sel (ieq x22 2)
            (sel (band (ile 0 0) (ilt 0 (slen x6)))
              (sel (bnot (ieq (sat x6 0) 84))
                (K (V.tup [(V.agg [(V.int .i64 0), (V.int .i64 0), (V.int .i64 0), (V.int .i64 0), (V.int .i64 0), (V.int .i64 0)]), (V.int .i64 4)]))
                (sel (band (band (ile 0 3) (ile 3 (slen x6))) (band (ile 0 1) (ile 1 3)))
                  (sel (ile (slen (ssub x6 1 3)) 1000)
                    (sel (bnot (dgB (ssub x6 1 3) 2))
                      (K (V.tup [(V.agg [(V.int .i64 0), (V.int .i64 0), (V.int .i64 0), (V.int .i64 0), (V.int .i64 0), (V.int .i64 0)]), (V.int .i64 4)]))
                      (sel (band (ile 0 1) (ilt 1 (slen x6)))
                        (sel (band (ile 0 2) (ilt 2 (slen x6)))
                          (sel (ieq x22 0)
                            (sel (band (ile 0 3) (ile 3 (slen x6)))
                              (uRead_L0 F [] n x0 x3 x4 (ssub x6 3 (slen x6)) (iadd .i64 x22 1) (iadd .i64 (imul .i64 (icnv .i64 (isub .u8 (sat x6 1) 48)) 10) (icnv .i64 (isub .u8 (sat x6 2) 48))) b5_1 b5_2 b5_3 b5_4 b2_0 b2_1 b2_2 b2_3 b2_4 b2_5 K)
                              (none))
                            (sel (ieq x22 1)
                              (sel (band (ile 0 3) (ile 3 (slen x6)))
                                (uRead_L0 F [] n x0 x3 x4 (ssub x6 3 (slen x6)) (iadd .i64 x22 1) b5_0 (iadd .i64 (imul .i64 (icnv .i64 (isub .u8 (sat x6 1) 48)) 10) (icnv .i64 (isub .u8 (sat x6 2) 48))) b5_2 b5_3 b5_4 b2_0 b2_1 b2_2 b2_3 b2_4 b2_5 K)
                                (none))
                              (sel (ieq x22 2)
                                (sel (band (ile 0 3) (ile 3 (slen x6)))
                                  (uRead_L0 F [] n x0 x3 x4 (ssub x6 3 (slen x6)) (iadd .i64 x22 1) b5_0 b5_1 (iadd .i64 (imul .i64 (icnv .i64 (isub .u8 (sat x6 1) 48)) 10) (icnv .i64 (isub .u8 (sat x6 2) 48))) b5_3 b5_4 b2_0 b2_1 b2_2 b2_3 b2_4 b2_5 K)
                                  (none))
                                (sel (ieq x22 3)
                                  (sel (band (ile 0 3) (ile 3 (slen x6)))
                                    (uRead_L0 F [] n x0 x3 x4 (ssub x6 3 (slen x6)) (iadd .i64 x22 1) b5_0 b5_1 b5_2 (iadd .i64 (imul .i64 (icnv .i64 (isub .u8 (sat x6 1) 48)) 10) (icnv .i64 (isub .u8 (sat x6 2) 48))) b5_4 b2_0 b2_1 b2_2 b2_3 b2_4 b2_5 K)
                                    (none))
                                  (sel (ieq x22 4)
                                    (sel (band (ile 0 3) (ile 3 (slen x6)))
                                      (uRead_L0 F [] n x0 x3 x4 (ssub x6 3 (slen x6)) (iadd .i64 x22 1) b5_0 b5_1 b5_2 b5_3 (iadd .i64 (imul .i64 (icnv .i64 (isub .u8 (sat x6 1) 48)) 10) (icnv .i64 (isub .u8 (sat x6 2) 48))) b2_0 b2_1 b2_2 b2_3 b2_4 b2_5 K)
                                      (none))
                                    (none))))))
                          (none))
                        (none)))
                    (none))
                  (none)))
              (none))
            (sel (ieq x22 3)
              (sel (band (ile 0 0) (ilt 0 (slen x6)))
                (sel (bnot (ieq (sat x6 0) 58))
                  (K (V.tup [(V.agg [(V.int .i64 0), (V.int .i64 0), (V.int .i64 0), (V.int .i64 0), (V.int .i64 0), (V.int .i64 0)]), (V.int .i64 4)]))
                  (sel (band (band (ile 0 3) (ile 3 (slen x6))) (band (ile 0 1) (ile 1 3)))
                    (sel (ile (slen (ssub x6 1 3)) 1000)
                      (sel (bnot (dgB (ssub x6 1 3) 2))
                        (K (V.tup [(V.agg [(V.int .i64 0), (V.int .i64 0), (V.int .i64 0), (V.int .i64 0), (V.int .i64 0), (V.int .i64 0)]), (V.int .i64 4)]))
                        (sel (band (ile 0 1) (ilt 1 (slen x6)))
                          (sel (band (ile 0 2) (ilt 2 (slen x6)))
                            (sel (ieq x22 0)
                              (sel (band (ile 0 3) (ile 3 (slen x6)))
                                (uRead_L0 F [] n x0 x3 x4 (ssub x6 3 (slen x6)) (iadd .i64 x22 1) (iadd .i64 (imul .i64 (icnv .i64 (isub .u8 (sat x6 1) 48)) 10) (icnv .i64 (isub .u8 (sat x6 2) 48))) b5_1 b5_2 b5_3 b5_4 b2_0 b2_1 b2_2 b2_3 b2_4 b2_5 K)
                                (none))
                              (sel (ieq x22 1)
                                (sel (band (ile 0 3) (ile 3 (slen x6)))
                                  (uRead_L0 F [] n x0 x3 x4 (ssub x6 3 (slen x6)) (iadd .i64 x22 1) b5_0 (iadd .i64 (imul .i64 (icnv .i64 (isub .u8 (sat x6 1) 48)) 10) (icnv .i64 (isub .u8 (sat x6 2) 48))) b5_2 b5_3 b5_4 b2_0 b2_1 b2_2 b2_3 b2_4 b2_5 K)
                                  (none))
                                (sel (ieq x22 2)
                                  (sel (band (ile 0 3) (ile 3 (slen x6)))
                                    (uRead_L0 F [] n x0 x3 x4 (ssub x6 3 (slen x6)) (iadd .i64 x22 1) b5_0 b5_1 (iadd .i64 (imul .i64 (icnv .i64 (isub .u8 (sat x6 1) 48)) 10) (icnv .i64 (isub .u8 (sat x6 2) 48))) b5_3 b5_4 b2_0 b2_1 b2_2 b2_3 b2_4 b2_5 K)
                                    (none))
                                  (sel (ieq x22 3)
                                    (sel (band (ile 0 3) (ile 3 (slen x6)))
                                      (uRead_L0 F [] n x0 x3 x4 (ssub x6 3 (slen x6)) (iadd .i64 x22 1) b5_0 b5_1 b5_2 (iadd .i64 (imul .i64 (icnv .i64 (isub .u8 (sat x6 1) 48)) 10) (icnv .i64 (isub .u8 (sat x6 2) 48))) b5_4 b2_0 b2_1 b2_2 b2_3 b2_4 b2_5 K)
                                      (none))
                                    (sel (ieq x22 4)
                                      (sel (band (ile 0 3) (ile 3 (slen x6)))
                                        (uRead_L0 F [] n x0 x3 x4 (ssub x6 3 (slen x6)) (iadd .i64 x22 1) b5_0 b5_1 b5_2 b5_3 (iadd .i64 (imul .i64 (icnv .i64 (isub .u8 (sat x6 1) 48)) 10) (icnv .i64 (isub .u8 (sat x6 2) 48))) b2_0 b2_1 b2_2 b2_3 b2_4 b2_5 K)
                                        (none))
                                      (none))))))
                            (none))
                          (none)))
                      (none))
                    (none)))
                (none))
              (sel (ieq x22 4)
                (sel (band (ile 0 0) (ilt 0 (slen x6)))
                  (sel (bnot (ieq (sat x6 0) 58))
                    (K (V.tup [(V.agg [(V.int .i64 0), (V.int .i64 0), (V.int .i64 0), (V.int .i64 0), (V.int .i64 0), (V.int .i64 0)]), (V.int .i64 4)]))
                    (sel (band (band (ile 0 3) (ile 3 (slen x6))) (band (ile 0 1) (ile 1 3)))
                      (sel (ile (slen (ssub x6 1 3)) 1000)
                        (sel (bnot (dgB (ssub x6 1 3) 2))
                          (K (V.tup [(V.agg [(V.int .i64 0), (V.int .i64 0), (V.int .i64 0), (V.int .i64 0), (V.int .i64 0), (V.int .i64 0)]), (V.int .i64 4)]))
                          (sel (band (ile 0 1) (ilt 1 (slen x6)))
                            (sel (band (ile 0 2) (ilt 2 (slen x6)))
                              (sel (ieq x22 0)
                                (sel (band (ile 0 3) (ile 3 (slen x6)))
                                  (uRead_L0 F [] n x0 x3 x4 (ssub x6 3 (slen x6)) (iadd .i64 x22 1) (iadd .i64 (imul .i64 (icnv .i64 (isub .u8 (sat x6 1) 48)) 10) (icnv .i64 (isub .u8 (sat x6 2) 48))) b5_1 b5_2 b5_3 b5_4 b2_0 b2_1 b2_2 b2_3 b2_4 b2_5 K)
                                  (none))
                                (sel (ieq x22 1)
                                  (sel (band (ile 0 3) (ile 3 (slen x6)))
                                    (uRead_L0 F [] n x0 x3 x4 (ssub x6 3 (slen x6)) (iadd .i64 x22 1) b5_0 (iadd .i64 (imul .i64 (icnv .i64 (isub .u8 (sat x6 1) 48)) 10) (icnv .i64 (isub .u8 (sat x6 2) 48))) b5_2 b5_3 b5_4 b2_0 b2_1 b2_2 b2_3 b2_4 b2_5 K)
                                    (none))
                                  (sel (ieq x22 2)
                                    (sel (band (ile 0 3) (ile 3 (slen x6)))
                                      (uRead_L0 F [] n x0 x3 x4 (ssub x6 3 (slen x6)) (iadd .i64 x22 1) b5_0 b5_1 (iadd .i64 (imul .i64 (icnv .i64 (isub .u8 (sat x6 1) 48)) 10) (icnv .i64 (isub .u8 (sat x6 2) 48))) b5_3 b5_4 b2_0 b2_1 b2_2 b2_3 b2_4 b2_5 K)
                                      (none))
                                    (sel (ieq x22 3)
                                      (sel (band (ile 0 3) (ile 3 (slen x6)))
                                        (uRead_L0 F [] n x0 x3 x4 (ssub x6 3 (slen x6)) (iadd .i64 x22 1) b5_0 b5_1 b5_2 (iadd .i64 (imul .i64 (icnv .i64 (isub .u8 (sat x6 1) 48)) 10) (icnv .i64 (isub .u8 (sat x6 2) 48))) b5_4 b2_0 b2_1 b2_2 b2_3 b2_4 b2_5 K)
                                        (none))
                                      (sel (ieq x22 4)
                                        (sel (band (ile 0 3) (ile 3 (slen x6)))
                                          (uRead_L0 F [] n x0 x3 x4 (ssub x6 3 (slen x6)) (iadd .i64 x22 1) b5_0 b5_1 b5_2 b5_3 (iadd .i64 (imul .i64 (icnv .i64 (isub .u8 (sat x6 1) 48)) 10) (icnv .i64 (isub .u8 (sat x6 2) 48))) b2_0 b2_1 b2_2 b2_3 b2_4 b2_5 K)
                                          (none))
                                        (none))))))
                              (none))
                            (none)))
                        (none))
                      (none)))
                  (none))
                (none))))))
      (sel (band (ile 0 x4) (ile x4 (slen x0)))
        (sel (ile (slen (ssub x0 0 x4)) 1000)
          (sel (bnot (ieq (yrW (ssub x0 0 x4)) 0))
            (K (V.tup [(V.agg [(V.int .i64 0), (V.int .i64 0), (V.int .i64 0), (V.int .i64 0), (V.int .i64 0), (V.int .i64 0)]), (V.int .i64 (yrW (ssub x0 0 x4)))]))
            (sel (bnot (stB (yrI (ssub x0 0 x4)) b5_0 b5_1 b5_2 b5_3 b5_4))
              (K (V.tup [(V.agg [(V.int .i64 0), (V.int .i64 0), (V.int .i64 0), (V.int .i64 0), (V.int .i64 0), (V.int .i64 0)]), (V.int .i64 1)]))
              (K (V.tup [(V.agg [(V.int .i64 (yrI (ssub x0 0 x4))), (V.int .i64 b5_0), (V.int .i64 b5_1), (V.int .i64 b5_2), (V.int .i64 b5_3), (V.int .i64 b5_4)]), (V.int .i64 0)]))))
          (none))
        (none)) := by kernel_rfl

end Nt.Ev.YtmemhdilefmceaaDoor

set_option linter.unusedVariables false
set_option linter.unusedSimpArgs false
namespace Nt.Ev.YtmemhdilefmceaaDoor
open Go Go.RowKit Nt Nt.Num Nt.Civil Go.Proofs.YtmemhdilefmceaaDoor

theorem uE_ok : EOk uE := ⟨by kernel_rfl, by kernel_rfl⟩
theorem toU {f : Nat} {args : List V} {r : V} (h : Contract vE f args r) : Contract uE f args r := Contract.env (E := vE) rfl (fun n v h => by cases h) h
theorem toU' {f : Nat} {args : List V} {r : V} (h : Contract nE f args r) : Contract uE f args r := Contract.env (E := nE) rfl (fun n v h => by cases h) h
theorem len_u {s : List UInt8} (h : ile (slen s) 1000 = true) : s.length ≤ 1000 := by rw [ile_iff, slen_nat] at h; omega
theorem uCutS_ok (s p : List UInt8) (hc : ile (slen s) 1000 = true) : Contract uE 85 [.str s, .str p] (.tup [.str (cpT s p), .bool (cpB s p)]) := by
  refine contract_old fun G w vs hG hg hp => ?_
  obtain ⟨x, y, rfl, hx, hy⟩ := PW_two hp
  unfold rep at hx hy
  subst hx; subst hy
  refine (Go.Proofs.Tryd.strings_CutPrefix ⟨s.toArray⟩ ⟨p.toArray⟩ w).mono ?_
  rintro e w' ⟨rfl, rfl⟩
  exact ⟨_, rfl, Below.refl _ _, res_two (same_str _) (same_bool _)⟩
theorem uTextS_ok (m : Int) (hc : band (ile (-9223372036854775808) m) (ile m 9223372036854775807) = true) : Contract uE 46 [.int .i64 m] (.str (text m)) := toU' (nText_ev m (st_fits hc))
theorem uRightS_ok (y m d h i s : Int) (hc : true = true) : Contract uE 26 [.agg [.int .i64 y, .int .i64 m, .int .i64 d, .int .i64 h, .int .i64 i, .int .i64 s]] (.bool (stB y m d h i s)) := toU (stRight_ev y m d h i s)
theorem uTrimS_ok (s c : List UInt8) (hc : band (ile (slen s) 1000) (band (ile (slen c) 1000) (asciiB c)) = true) : Contract uE 84 [.str s, .str c] (.str (trimC s c)) := by
  obtain ⟨h1, h3⟩ := band_true hc
  obtain ⟨h2, h3⟩ := band_true h3
  have h1 := len_u h1
  have h2 := len_u h2
  refine contract_old fun G w vs hG hg hp => ?_
  obtain ⟨x, y, rfl, hx, hy⟩ := PW_two hp
  unfold rep at hx hy
  subst hx; subst hy
  refine (Go.Proofs.Tryd.strings_Trim ⟨s.toArray⟩ ⟨c.toArray⟩ w (show s.toArray.size ≤ _ by simp; omega) (show c.toArray.size < _ by simp; omega) (fun j b hb => ?_)).mono ?_
  · have h3 : (c.all fun c => decide (c.toNat < 128)) = true := h3
    have := List.all_eq_true.1 h3 b (List.mem_of_getElem? hb)
    exact of_decide_eq_true this
  · rintro e w' ⟨rfl, hb⟩
    exact ⟨_, rfl, hb, res_str _⟩
theorem uReadS_ok (s : List UInt8) (hc : ile (slen s) 1000 = true) : Contract uE 86 [.str s] (.tup [.int .i64 (nrI s), .int .i64 (nrW s)]) := toU' (nRead_c s (len_u hc))
theorem uS_ok : SOk uE uS := by
  unfold uS
  refine SOk.cons (fun args r h => ?_) (SOk.cons (fun args r h => ?_) (SOk.cons (fun args r h => ?_) (SOk.cons (fun args r h => ?_) (SOk.cons (fun args r h => ?_) (SOk.nil)))))
  · unfold uCutS at h
    split at h
    · simp only [Option.some.injEq, Prod.mk.injEq] at h
      obtain ⟨hc, rfl⟩ := h
      exact uCutS_ok _ _ hc
    · cases h
  · unfold uTextS at h
    split at h
    · simp only [Option.some.injEq, Prod.mk.injEq] at h
      obtain ⟨hc, rfl⟩ := h
      exact uTextS_ok _ hc
    · cases h
  · unfold uRightS at h
    split at h
    · simp only [Option.some.injEq, Prod.mk.injEq] at h
      obtain ⟨hc, rfl⟩ := h
      exact uRightS_ok _ _ _ _ _ _ rfl
    · cases h
  · unfold uTrimS at h
    split at h
    · simp only [Option.some.injEq, Prod.mk.injEq] at h
      obtain ⟨hc, rfl⟩ := h
      exact uTrimS_ok _ _ hc
    · cases h
  · unfold uReadS at h
    split at h
    · simp only [Option.some.injEq, Prod.mk.injEq] at h
      obtain ⟨hc, rfl⟩ := h
      exact uReadS_ok _ hc
    · cases h

theorem bytes_len (l : List UInt8) : (bytesV l).length = l.length := by unfold bytesV; rw [List.length_map]
theorem bytes_cat (a b : List UInt8) : lcat (bytesV a) (bytesV b) = bytesV (a ++ b) := by unfold lcat bytesV; rw [List.map_append]
theorem pad_loop (F : Nat) (x k p : Int) (t : List UInt8) (hp : p ≤ 10) (ht : t.length ≤ 30) : ∀ (n : Nat) (i : Int) (L : List V), 0 ≤ i → p ≤ i + n → L.length + (p - i).toNat ≤ 2000 →
    uPad_L0 F [] (n + 1) L x k t p i some = some (.out false (.sl 5 [.int .u8] (some 1000000000) (lcat L (bytesV (List.replicate (p - i).toNat 48 ++ t)))) []) := by
  intro n
  induction n with
  | zero =>
    intro i L h0 h1 h2
    rw [uPad_L0_succ, sel_neg (ilt_f (by omega)), sel_pos (by rw [okApp_iff, bytes_len]; omega), show (p - i).toNat = 0 by omega]
    rfl
  | succ n ih =>
    intro i L h0 h1 h2
    rw [uPad_L0_succ]
    by_cases h : i < p
    · rw [sel_pos (ilt_t h), sel_pos (by rw [okApp_iff]; simp only [List.length_cons, List.length_nil]; omega), iadd64 (by omega)]
      rw [ih (i + 1) _ (by omega) (by omega) (by unfold lcat; rw [List.length_append]; simp only [List.length_cons, List.length_nil]; omega)]
      rw [show (p - i).toNat = (p - (i + 1)).toNat + 1 by omega, List.replicate_succ]
      unfold lcat bytesV
      simp
    · rw [sel_neg (ilt_f (by omega)), sel_pos (by rw [okApp_iff, bytes_len]; omega), show (p - i).toNat = 0 by omega]
      rfl
theorem uPadS_ok (L : List V) (n k : Int) (hc : band (band (ile (-1000000) n) (ile n 1000000)) (band (band (ile 0 k) (ile k 10)) (ile (llen L) 1000)) = true) : XOk uE 53 [.sl 5 [.int .u8] (some 1000001000) L, .int .i64 n, .int .i64 k] (.out false (.sl 5 [.int .u8] (some 1000000000) (lcat L (bytesV (wideT n k)))) []) := by
  simp only [band_iff, ile_iff, llen_nat] at hc
  refine XOk.out (xc_of_body uE_ok uS_ok 12 2 ?_)
  have ht := (text_len n (by unfold Fits; omega)).1
  rw [uPad_top, sel_pos (by rw [band_iff, ile_iff, ile_iff]; omega), slen_nat, isub64 (by omega)]
  rw [pad_loop 12 n k (k - (text n).length) (text n) (by omega) (by omega) 11 0 L (by omega) (by omega) (by omega)]
  unfold wideT
  rw [show (k - ((text n).length : Int) - 0).toNat = k.toNat - (text n).length by omega]
theorem uDigS_ok (s : List UInt8) (n : Int) (hc : ile (slen s) 1000 = true) : Contract uE 55 [.str s, .int .i64 n] (.bool (dgB s n)) := by
  refine contract_of_body uE_ok uS_ok 5 2 ?_
  rw [uDigits_top, hc]
  unfold dgB
  by_cases h : n ≤ (s.length : Int)
  · rw [sel_pos (ile_t (by rw [slen_nat]; exact h)), sel_pos (by decide), decide_eq_true h]
    congr 2
    rw [Bool.true_and, Bool.eq_iff_iff, seq_iff]
    exact trim_digits s
  · rw [sel_neg (ile_f (by rw [slen_nat]; omega)), decide_eq_false h]; rfl
theorem uS2_ok : SOk uE uS2 := by
  unfold uS2
  refine SOk.consX (fun args r h => ?_) (SOk.cons (fun args r h => ?_) (uS_ok))
  · unfold uPadS at h
    split at h
    · simp only [Option.some.injEq, Prod.mk.injEq] at h
      obtain ⟨hc, rfl⟩ := h
      exact uPadS_ok _ _ _ hc
    · cases h
  · unfold uDigS at h
    split at h
    · simp only [Option.some.injEq, Prod.mk.injEq] at h
      obtain ⟨hc, rfl⟩ := h
      exact uDigS_ok _ _ hc
    · cases h


theorem cat_sign (l w : List UInt8) (c : UInt8) : lcat (lcat (bytesV l) [V.int .u8 (c.toNat : Int)]) (bytesV w) = bytesV (l ++ c :: w) := by
  unfold lcat bytesV; simp
theorem vbytes_bytes (l : List UInt8) : vbytes (bytesV l) = l := by
  unfold vbytes bytesV
  rw [List.map_map]
  conv => rhs; rw [← List.map_id l]
  refine List.map_congr_left fun c _ => ?_
  show UInt8.ofNat ((c.toNat : Int).toNat) = c
  rw [Int.toNat_natCast]; simp
theorem uText_r0 (F n : Nat) (a0 a1 a2 a3 a4 a5 x m d h i s b0 b1 b2 b3 b4 b5 : Int) (l : List UInt8) (K : V → Option V) (hl : l.length ≤ 900) (hx : 0 ≤ m ∧ m ≤ 1000) :
    uText_L0 F [] (n + 1) a0 a1 a2 a3 a4 a5 (bytesV l) x m d h i s 0 b0 b1 b2 b3 b4 b5 K = uText_L0 F [] n a0 a1 a2 a3 a4 a5 (bytesV (l ++ 45 :: wideT m 2)) x m d h i s 1 b0 b1 b2 b3 b4 b5 K := by
  have e : asInt (acell (lget [(V.int .u8 45), (V.int .u8 45), (V.int .u8 84), (V.int .u8 58), (V.int .u8 58)] 0) 0) = ((45 : UInt8).toNat : Int) := rfl
  have hw := wide_len m 2 (by omega) (by omega)
  rw [uText_L0_succ, sel_pos (ilt_t (by decide)), sel_pos (ieq_t rfl), e, cat_sign]
  rw [sel_pos (by rw [band_iff, ile_iff, ilt_iff]; decide), sel_pos (by rw [okApp_iff, bytes_len]; simp only [List.length_cons, List.length_nil]; omega)]
  rw [sel_pos (by simp only [band_iff, ile_iff, llen_nat]; unfold lcat; rw [List.length_append, bytes_len]; simp only [List.length_cons, List.length_nil]; omega)]
  rfl
theorem uText_r1 (F n : Nat) (a0 a1 a2 a3 a4 a5 x m d h i s b0 b1 b2 b3 b4 b5 : Int) (l : List UInt8) (K : V → Option V) (hl : l.length ≤ 900) (hx : 0 ≤ d ∧ d ≤ 1000) :
    uText_L0 F [] (n + 1) a0 a1 a2 a3 a4 a5 (bytesV l) x m d h i s 1 b0 b1 b2 b3 b4 b5 K = uText_L0 F [] n a0 a1 a2 a3 a4 a5 (bytesV (l ++ 45 :: wideT d 2)) x m d h i s 2 b0 b1 b2 b3 b4 b5 K := by
  have e : asInt (acell (lget [(V.int .u8 45), (V.int .u8 45), (V.int .u8 84), (V.int .u8 58), (V.int .u8 58)] 1) 0) = ((45 : UInt8).toNat : Int) := rfl
  have hw := wide_len d 2 (by omega) (by omega)
  rw [uText_L0_succ, sel_pos (ilt_t (by decide)), sel_neg (ieq_f (by decide)), sel_pos (ieq_t rfl), e, cat_sign]
  rw [sel_pos (by rw [band_iff, ile_iff, ilt_iff]; decide), sel_pos (by rw [okApp_iff, bytes_len]; simp only [List.length_cons, List.length_nil]; omega)]
  rw [sel_pos (by simp only [band_iff, ile_iff, llen_nat]; unfold lcat; rw [List.length_append, bytes_len]; simp only [List.length_cons, List.length_nil]; omega)]
  rfl
theorem uText_r2 (F n : Nat) (a0 a1 a2 a3 a4 a5 x m d h i s b0 b1 b2 b3 b4 b5 : Int) (l : List UInt8) (K : V → Option V) (hl : l.length ≤ 900) (hx : 0 ≤ h ∧ h ≤ 1000) :
    uText_L0 F [] (n + 1) a0 a1 a2 a3 a4 a5 (bytesV l) x m d h i s 2 b0 b1 b2 b3 b4 b5 K = uText_L0 F [] n a0 a1 a2 a3 a4 a5 (bytesV (l ++ 84 :: wideT h 2)) x m d h i s 3 b0 b1 b2 b3 b4 b5 K := by
  have e : asInt (acell (lget [(V.int .u8 45), (V.int .u8 45), (V.int .u8 84), (V.int .u8 58), (V.int .u8 58)] 2) 0) = ((84 : UInt8).toNat : Int) := rfl
  have hw := wide_len h 2 (by omega) (by omega)
  rw [uText_L0_succ, sel_pos (ilt_t (by decide)), sel_neg (ieq_f (by decide)), sel_neg (ieq_f (by decide)), sel_pos (ieq_t rfl), e, cat_sign]
  rw [sel_pos (by rw [band_iff, ile_iff, ilt_iff]; decide), sel_pos (by rw [okApp_iff, bytes_len]; simp only [List.length_cons, List.length_nil]; omega)]
  rw [sel_pos (by simp only [band_iff, ile_iff, llen_nat]; unfold lcat; rw [List.length_append, bytes_len]; simp only [List.length_cons, List.length_nil]; omega)]
  rfl
theorem uText_r3 (F n : Nat) (a0 a1 a2 a3 a4 a5 x m d h i s b0 b1 b2 b3 b4 b5 : Int) (l : List UInt8) (K : V → Option V) (hl : l.length ≤ 900) (hx : 0 ≤ i ∧ i ≤ 1000) :
    uText_L0 F [] (n + 1) a0 a1 a2 a3 a4 a5 (bytesV l) x m d h i s 3 b0 b1 b2 b3 b4 b5 K = uText_L0 F [] n a0 a1 a2 a3 a4 a5 (bytesV (l ++ 58 :: wideT i 2)) x m d h i s 4 b0 b1 b2 b3 b4 b5 K := by
  have e : asInt (acell (lget [(V.int .u8 45), (V.int .u8 45), (V.int .u8 84), (V.int .u8 58), (V.int .u8 58)] 3) 0) = ((58 : UInt8).toNat : Int) := rfl
  have hw := wide_len i 2 (by omega) (by omega)
  rw [uText_L0_succ, sel_pos (ilt_t (by decide)), sel_neg (ieq_f (by decide)), sel_neg (ieq_f (by decide)), sel_neg (ieq_f (by decide)), sel_pos (ieq_t rfl), e, cat_sign]
  rw [sel_pos (by rw [band_iff, ile_iff, ilt_iff]; decide), sel_pos (by rw [okApp_iff, bytes_len]; simp only [List.length_cons, List.length_nil]; omega)]
  rw [sel_pos (by simp only [band_iff, ile_iff, llen_nat]; unfold lcat; rw [List.length_append, bytes_len]; simp only [List.length_cons, List.length_nil]; omega)]
  rfl
theorem uText_r4 (F n : Nat) (a0 a1 a2 a3 a4 a5 x m d h i s b0 b1 b2 b3 b4 b5 : Int) (l : List UInt8) (K : V → Option V) (hl : l.length ≤ 900) (hx : 0 ≤ s ∧ s ≤ 1000) :
    uText_L0 F [] (n + 1) a0 a1 a2 a3 a4 a5 (bytesV l) x m d h i s 4 b0 b1 b2 b3 b4 b5 K = uText_L0 F [] n a0 a1 a2 a3 a4 a5 (bytesV (l ++ 58 :: wideT s 2)) x m d h i s 5 b0 b1 b2 b3 b4 b5 K := by
  have e : asInt (acell (lget [(V.int .u8 45), (V.int .u8 45), (V.int .u8 84), (V.int .u8 58), (V.int .u8 58)] 4) 0) = ((58 : UInt8).toNat : Int) := rfl
  have hw := wide_len s 2 (by omega) (by omega)
  rw [uText_L0_succ, sel_pos (ilt_t (by decide)), sel_neg (ieq_f (by decide)), sel_neg (ieq_f (by decide)), sel_neg (ieq_f (by decide)), sel_neg (ieq_f (by decide)), sel_pos (ieq_t rfl), e, cat_sign]
  rw [sel_pos (by rw [band_iff, ile_iff, ilt_iff]; decide), sel_pos (by rw [okApp_iff, bytes_len]; simp only [List.length_cons, List.length_nil]; omega)]
  rw [sel_pos (by simp only [band_iff, ile_iff, llen_nat]; unfold lcat; rw [List.length_append, bytes_len]; simp only [List.length_cons, List.length_nil]; omega)]
  rfl
theorem uText_ev (y m d h i s : Int) : Contract uE 27 [.agg [.int .i64 y, .int .i64 m, .int .i64 d, .int .i64 h, .int .i64 i, .int .i64 s]] (.str (stTxt y m d h i s)) := by
  refine contract_of_body uE_ok uS2_ok 8 2 ?_
  rw [uText_top]
  unfold stTxt
  cases hb : stB y m d h i s with
  | false => rfl
  | true =>
    obtain ⟨hv, h1⟩ := stB_iff.1 hb
    obtain ⟨y1, y2, hv2⟩ := validB_iff.1 hv
    have hm := len_month hv2
    have hd : 1 ≤ d ∧ d ≤ 31 := ⟨hv2.1, by have := len_pos y m hm.1 hm.2; have := hv2.2; omega⟩
    have lm := wide_len m 2 (by omega) (by omega)
    have ld := wide_len d 2 (by omega) (by omega)
    have lh := wide_len h 2 (by omega) (by omega)
    have li := wide_len i 2 (by omega) (by omega)
    have ls := wide_len s 2 (by omega) (by omega)
    have ly := wide_len y 4 (by omega) (by omega)
    have ly' := wide_len (-y) 4 (by omega) (by omega)
    have e : isub .i64 0 y = -y := by rw [isub64 (by omega)]; omega
    have go : ∀ (x : Int) (l : List UInt8), l.length ≤ 100 → uText_L0 8 [] 8 y m d h i s (bytesV l) x m d h i s 0 y m d h i s some = some (.str (l ++ 45 :: wideT m 2 ++ 45 :: wideT d 2 ++ 84 :: wideT h 2 ++ 58 :: wideT i 2 ++ 58 :: wideT s 2)) := by
      intro x l hl
      rw [uText_r0 (hl := by omega) (hx := by omega), uText_r1 (hl := by simp only [List.length_append, List.length_cons]; omega) (hx := by omega), uText_r2 (hl := by simp only [List.length_append, List.length_cons]; omega) (hx := by omega), uText_r3 (hl := by simp only [List.length_append, List.length_cons]; omega) (hx := by omega), uText_r4 (hl := by simp only [List.length_append, List.length_cons]; omega) (hx := by omega)]
      rw [uText_L0_succ, sel_neg (ilt_f (by decide)), vbytes_bytes]
    rw [sel_neg (by rfl), if_pos rfl, e]
    by_cases h0 : y < 0
    · rw [sel_pos (ilt_t h0), if_pos h0, sel_pos (by rw [okApp_iff]; decide), sel_pos (by simp only [band_iff, ile_iff]; refine ⟨⟨by omega, by omega⟩, ⟨by omega, by omega⟩, by decide⟩)]
      rw [show lcat (lcat [] [V.int .u8 45]) (bytesV (wideT (-y) 4)) = bytesV (45 :: wideT (-y) 4) from cat_sign [] _ 45]
      rw [go _ _ (by rw [List.length_cons]; omega)]
    · rw [sel_neg (ilt_f (by omega)), if_neg h0, sel_pos (by simp only [band_iff, ile_iff]; refine ⟨⟨by omega, by omega⟩, ⟨by omega, by omega⟩, by decide⟩)]
      rw [show lcat [] (bytesV (wideT y 4)) = bytesV (wideT y 4) from rfl]
      rw [go _ _ (by omega)]

theorem sDigU_ok (s : List UInt8) (hc : ile (slen s) 1000 = true) : Contract uE 104 [.str s] (.bool (digB s)) := toU (sDigS_ok s hc)
def resY (p : Int × Int) : V := .tup [.int .i64 p.1, .int .i64 p.2]
def yrQ (s d : List UInt8) (b : Bool) : Int × Int := if d.length < 4 ∨ d.all isDigit = false ∨ (4 < d.length ∧ d.getD 0 0 = 48) ∨ s = [45, 48, 48, 48, 48] then (0, 4) else if 5 < d.length then (0, 1) else (if b = true then -(val d : Int) else (val d : Int), 0)
theorem yrP_eq (s : List UInt8) : yrP s = yrQ s (bare s) (minus s) := rfl
theorem dig_at {d : List UInt8} (hd : d.all isDigit = true) {i : Nat} (h : i < d.length) : 48 ≤ (d.getD i 0).toNat ∧ (d.getD i 0).toNat ≤ 57 := by
  have := List.all_eq_true.1 hd (d.getD i 0) (by rw [List.getD_eq_getElem?_getD, List.getElem?_eq_getElem h]; exact List.getElem_mem h)
  unfold isDigit at this
  rw [Bool.and_eq_true, decide_eq_true_iff, decide_eq_true_iff] at this
  exact this
theorem val_small {d : List UInt8} (hd : d.all isDigit = true) (hl : d.length ≤ 5) (i : Nat) : val (d.take i) < 100000 := by
  have h1 := val_le d i
  have h2 := val_lt d hd d.length
  rw [List.take_length] at h2
  have h3 : 10 ^ d.length ≤ 10 ^ 5 := Nat.pow_le_pow_right (by decide) hl
  omega
theorem year_tail (s d : List UInt8) (b : Bool) (hd : d.length ≤ 1000) (X : Option V) (hX : d.all isDigit = true → 4 ≤ d.length → d.length ≤ 5 → X = some (resY (if b = true then -(val d : Int) else (val d : Int), 0))) :
    sel (ilt (slen d) 4) (some (V.tup [(V.int .i64 0), (V.int .i64 4)])) (sel (ile (slen d) 1000) (sel (bnot (digB d)) (some (V.tup [(V.int .i64 0), (V.int .i64 4)])) (sel (ilt 4 (slen d)) (sel (band (ile 0 0) (ilt 0 (slen d))) (sel (ieq (sat d 0) 48) (some (V.tup [(V.int .i64 0), (V.int .i64 4)])) (sel (seq s [45, 48, 48, 48, 48]) (some (V.tup [(V.int .i64 0), (V.int .i64 4)])) (sel (ilt 5 (slen d)) (some (V.tup [(V.int .i64 0), (V.int .i64 1)])) X))) none) (sel (seq s [45, 48, 48, 48, 48]) (some (V.tup [(V.int .i64 0), (V.int .i64 4)])) (sel (ilt 5 (slen d)) (some (V.tup [(V.int .i64 0), (V.int .i64 1)])) X)))) none) = some (resY (yrQ s d b)) := by
  unfold yrQ
  by_cases h4 : d.length < 4
  · rw [sel_pos (ilt_t (by rw [slen_nat]; omega)), if_pos (.inl h4)]; rfl
  rw [sel_neg (ilt_f (by rw [slen_nat]; omega)), sel_pos (ile_t (by rw [slen_nat]; omega))]
  have hB : digB d = d.all isDigit := by
    unfold digB digitsB
    cases d with
    | nil => simp at h4
    | cons c t => simp
  rw [hB]
  cases ha : d.all isDigit with
  | false => rw [sel_pos (by rfl), if_pos (.inr (.inl rfl))]; rfl
  | true =>
    rw [sel_neg (by rfl)]
    have hX := hX ha (by omega)
    by_cases h6 : s = [45, 48, 48, 48, 48]
    · have e : seq s [45, 48, 48, 48, 48] = true := by rw [seq_iff]; exact h6
      rw [e, if_pos (.inr (.inr (.inr h6)))]
      simp only [sel_if, tru_iff, if_true]
      repeat' split
      all_goals first | rfl | (exfalso; simp_all only [band_iff, ile_iff, ilt_iff, slen_nat]; omega)
    · have e : seq s [45, 48, 48, 48, 48] = false := by
        cases h : seq s [45, 48, 48, 48, 48] with
        | false => rfl
        | true => rw [seq_iff] at h; exact absurd h h6
      rw [e, sel_neg rfl]
      by_cases h5 : 4 < d.length
      · rw [sel_pos (ilt_t (by rw [slen_nat]; omega)), sel_pos (by rw [band_iff, ile_iff, ilt_iff, slen_nat]; omega)]
        by_cases h0 : d.getD 0 0 = 48
        · rw [sel_pos (ieq_t (by rw [show (0 : Int) = ((0 : Nat) : Int) from rfl, sat_nat, h0]; rfl)), if_pos (.inr (.inr (.inl ⟨h5, h0⟩)))]; rfl
        · rw [sel_neg (ieq_f (by
            rw [show (0 : Int) = ((0 : Nat) : Int) from rfl, sat_nat]
            intro h
            exact h0 (UInt8.toNat_inj.1 (by show _ = 48; omega))))]
          rw [if_neg (by rintro (h | h | ⟨_, h⟩ | h); · exact h4 h
                         · cases h
                         · exact h0 h
                         · exact h6 h)]
          by_cases h7 : 5 < d.length
          · rw [sel_pos (ilt_t (by rw [slen_nat]; omega)), if_pos h7]; rfl
          · rw [sel_neg (ilt_f (by rw [slen_nat]; omega)), if_neg h7, hX (by omega)]
      · rw [sel_neg (ilt_f (by rw [slen_nat]; omega))]
        rw [if_neg (by rintro (h | h | ⟨h, _⟩ | h); · exact h4 h
                       · cases h
                       · exact h5 h
                       · exact h6 h)]
        rw [sel_neg (ilt_f (by rw [slen_nat]; omega)), if_neg (by omega), hX (by omega)]
theorem val_from : ∀ (d : List UInt8) (n : Nat), d.foldl (fun n c => 10 * n + (c.toNat - 48)) n = n * 10 ^ d.length + val d
  | [], n => by show n = n * 10 ^ 0 + 0; omega
  | c :: t, n => by
    have h1 := val_from t (10 * n + (c.toNat - 48))
    have h2 := val_from t (10 * 0 + (c.toNat - 48))
    have e1 : val (c :: t) = t.foldl (fun n c => 10 * n + (c.toNat - 48)) (10 * 0 + (c.toNat - 48)) := rfl
    rw [e1, h2]
    show t.foldl (fun n c => 10 * n + (c.toNat - 48)) (10 * n + (c.toNat - 48)) = _
    rw [h1, List.length_cons, Nat.pow_succ, Nat.add_mul, Nat.add_mul, Nat.mul_zero, Nat.zero_mul, Nat.mul_comm 10 n, Nat.mul_assoc, Nat.mul_comm 10 (10 ^ t.length)]
    omega
theorem val_one (d : List UInt8) : val (49 :: d) = 10 ^ d.length + val d := by
  show d.foldl (fun n c => 10 * n + (c.toNat - 48)) 1 = _
  rw [val_from, Nat.one_mul]
theorem read_one (d : List UInt8) (hd : d.all isDigit = true) (hl : d.length ≤ 5) : Num.read (49 :: d) = (((10 ^ d.length + val d : Nat) : Int), 0) := by
  have hv := val_small hd hl d.length
  rw [List.take_length] at hv
  have h3 : 10 ^ d.length ≤ 10 ^ 5 := Nat.pow_le_pow_right (by decide) hl
  have h0 : 0 < 10 ^ d.length := Nat.pow_pos (by decide)
  have e2 : minus (49 :: d) = false := rfl
  have e3 : bare (49 :: d) = 49 :: d := rfl
  have hg : good (49 :: d) = true := by
    unfold good
    rw [e3, List.all_cons, hd]
    rfl
  unfold Num.read
  rw [hg, if_pos rfl, e2, e3, val_one, if_neg (show ¬ false = true by decide)]
  unfold told
  rw [if_pos (by unfold Fits; omega)]
theorem uYear_loop (s d : List UInt8) (b : Bool) (w0 q : Int) (v L : Nat) (hL : L = 4 ∨ L = 5) (hv : v < 10 ^ L) :
    uYear_L0 12 [] 12 s d b q w0 ((10 ^ L + v : Nat) : Int) 1 some = some (resY (if b = true then -(v : Int) else (v : Int), 0)) := by
  have m1 : imul .i64 1 10 = 10 := imul64 (by decide)
  have m2 : imul .i64 10 10 = 100 := imul64 (by decide)
  have m3 : imul .i64 100 10 = 1000 := imul64 (by decide)
  have m4 : imul .i64 1000 10 = 10000 := imul64 (by decide)
  have m5 : imul .i64 10000 10 = 100000 := imul64 (by decide)
  have m6 : imul .i64 100000 10 = 1000000 := imul64 (by decide)
  rcases hL with h | h
  · subst h
    have e : ((10 ^ 4 + v : Nat) : Int) = 10000 + (v : Int) := by omega
    have hv : (v : Int) < 10000 := by omega
    rw [e]
    rw [uYear_L0_succ, m1, sel_neg (ilt_f (by omega)), uYear_L0_succ, m2, sel_neg (ilt_f (by omega)), uYear_L0_succ, m3, sel_neg (ilt_f (by omega)), uYear_L0_succ, m4, sel_neg (ilt_f (by omega)), uYear_L0_succ, m5, sel_pos (ilt_t (by omega)), isub64 (a := 10000 + (v : Int)) (by omega), isub64 (by omega)]
    cases b
    · rw [sel_neg rfl]; unfold resY; rw [if_neg (by decide)]; congr 4; omega
    · rw [sel_pos rfl]; unfold resY; rw [if_pos rfl]; congr 4; omega
  · subst h
    have e : ((10 ^ 5 + v : Nat) : Int) = 100000 + (v : Int) := by omega
    have hv : (v : Int) < 100000 := by omega
    rw [e]
    rw [uYear_L0_succ, m1, sel_neg (ilt_f (by omega)), uYear_L0_succ, m2, sel_neg (ilt_f (by omega)), uYear_L0_succ, m3, sel_neg (ilt_f (by omega)), uYear_L0_succ, m4, sel_neg (ilt_f (by omega)), uYear_L0_succ, m5, sel_neg (ilt_f (by omega)), uYear_L0_succ, m6, sel_pos (ilt_t (by omega)), isub64 (a := 100000 + (v : Int)) (by omega), isub64 (by omega)]
    cases b
    · rw [sel_neg rfl]; unfold resY; rw [if_neg (by decide)]; congr 4; omega
    · rw [sel_pos rfl]; unfold resY; rw [if_pos rfl]; congr 4; omega
/-- What follows the form's test. -/
theorem year_rest (s d : List UInt8) (b : Bool) (hl : d.length ≤ 1000) (hd : d.all isDigit = true) (h4 : 4 ≤ d.length) :
    sel (band (ile 0 (imax (isub .i64 (slen d) 5) 0)) (ile (imax (isub .i64 (slen d) 5) 0) (slen d)))
      (sel (okCat [49] (ssub d (imax (isub .i64 (slen d) 5) 0) (slen d)))
        (sel (ile (slen (scat [49] (ssub d (imax (isub .i64 (slen d) 5) 0) (slen d)))) 1000)
          (sel (bnot (ieq (nrW (scat [49] (ssub d (imax (isub .i64 (slen d) 5) 0) (slen d)))) 0)) (some (V.tup [(V.int .i64 0), (V.int .i64 1)]))
            (sel (ilt 5 (slen d)) (some (V.tup [(V.int .i64 0), (V.int .i64 1)]))
              (uYear_L0 12 [] 12 s d b (nrI (scat [49] (ssub d (imax (isub .i64 (slen d) 5) 0) (slen d)))) (nrW (scat [49] (ssub d (imax (isub .i64 (slen d) 5) 0) (slen d)))) (nrI (scat [49] (ssub d (imax (isub .i64 (slen d) 5) 0) (slen d)))) 1 some)))
          none)
        none)
      none = some (resY (if 5 < d.length then (0, 1) else (if b = true then -(val d : Int) else (val d : Int), 0))) := by
  have e1 : imax (isub .i64 (slen d) 5) 0 = ((d.length - 5 : Nat) : Int) := by
    rw [slen_nat, isub64 (by omega)]; unfold imax; omega
  rw [e1, slen_nat, ssub_nat]
  have e2 : ((d.drop (d.length - 5)).take (d.length - (d.length - 5))).length ≤ 5 := by rw [List.length_take]; omega
  generalize hz : (d.drop (d.length - 5)).take (d.length - (d.length - 5)) = z at e2
  have e3 : scat [49] z = 49 :: z := rfl
  rw [e3, sel_pos (by rw [band_iff, ile_iff, ile_iff]; omega), sel_pos (by rw [okCat_iff]; simp only [List.length_cons, List.length_nil]; omega), sel_pos (ile_t (by rw [slen_nat, List.length_cons]; omega))]
  by_cases h5 : 5 < d.length
  · rw [if_pos h5, sel_pos (c := ilt 5 _) (ilt_t (by omega))]
    cases bnot (ieq (nrW (49 :: z)) 0) <;> rfl
  · have ez : z = d := by rw [← hz, show d.length - 5 = 0 by omega, List.drop_zero, Nat.sub_zero, List.take_length]
    rw [ez]
    have hr := read_one d hd (by omega)
    have r1 : nrI (49 :: d) = ((10 ^ d.length + val d : Nat) : Int) := by unfold nrI; rw [hr]
    have r2 : nrW (49 :: d) = 0 := by unfold nrW; rw [hr]
    rw [r1, r2, sel_neg (by rfl), sel_neg (ilt_f (by omega)), if_neg h5]
    refine uYear_loop s d b 0 _ (val d) d.length (by omega) ?_
    have := val_lt d hd d.length
    rw [List.take_length] at this
    exact this
theorem uYear_ev (s : List UInt8) (hs : s.length ≤ 1000) : Contract uE 56 [.str s] (resY (yrP s)) := by
  refine contract_of_body uE_ok uS2_ok 12 4 ?_
  have hb := bare_len s
  have e1 : cpB s [45] = minus s := hasPrefix_minus s
  have e2 : cpT s [45] = bare s := by unfold cpT Lib.trimPrefix bare; rw [show Lib.hasPrefix s [45] = minus s from hasPrefix_minus s]; rfl
  rw [uYear_top, yrP_eq, e1, e2, sel_pos (ile_t (by rw [slen_nat]; omega)), sel_pos (ile_t (by rw [slen_nat]; omega))]
  generalize minus s = b
  generalize bare s = d at *
  have hl : d.length ≤ 1000 := by omega
  have hd : dgB d 4 = (decide (4 ≤ d.length) && d.all isDigit) := by
    unfold dgB
    congr 1
    rw [Bool.eq_iff_iff, decide_eq_true_iff, decide_eq_true_iff]; omega
  rw [hd]
  unfold yrQ
  by_cases h4 : d.length < 4
  · rw [decide_eq_false (by omega), sel_pos (by rfl), if_pos (.inl h4)]; rfl
  rw [decide_eq_true (by omega)]
  cases ha : d.all isDigit with
  | false => rw [sel_pos (by rfl), if_pos (.inr (.inl rfl))]; rfl
  | true =>
    rw [sel_neg (c := bnot (true && true)) (by rfl)]
    rw [year_rest s d b hl ha (by omega)]
    generalize (if 5 < d.length then ((0 : Int), (1 : Int)) else (if b = true then -(val d : Int) else (val d : Int), 0)) = q
    by_cases h6 : s = [45, 48, 48, 48, 48]
    · have e : seq s [45, 48, 48, 48, 48] = true := by rw [seq_iff]; exact h6
      rw [e, if_pos (.inr (.inr (.inr h6)))]
      simp only [sel_if, tru_iff, if_true]
      repeat' split
      all_goals first | rfl | (exfalso; simp only [band_iff, ile_iff, ilt_iff, slen_nat] at *; omega)
    · have e : seq s [45, 48, 48, 48, 48] = false := by
        cases h : seq s [45, 48, 48, 48, 48] with
        | false => rfl
        | true => rw [seq_iff] at h; exact absurd h h6
      rw [e, sel_neg rfl]
      by_cases h5 : 4 < d.length
      · rw [sel_pos (ilt_t (by rw [slen_nat]; omega)), sel_pos (by rw [band_iff, ile_iff, ilt_iff, slen_nat]; omega)]
        by_cases h0 : d.getD 0 0 = 48
        · rw [sel_pos (ieq_t (by rw [show (0 : Int) = ((0 : Nat) : Int) from rfl, sat_nat, h0]; rfl)), if_pos (.inr (.inr (.inl ⟨h5, h0⟩)))]; rfl
        · rw [sel_neg (ieq_f (by
            rw [show (0 : Int) = ((0 : Nat) : Int) from rfl, sat_nat]
            intro h
            exact h0 (UInt8.toNat_inj.1 (by show _ = 48; omega))))]
          rw [if_neg (by rintro (h | h | ⟨_, h⟩ | h); · exact h4 h
                         · cases h
                         · exact h0 h
                         · exact h6 h)]
      · rw [sel_neg (ilt_f (by rw [slen_nat]; omega))]
        rw [if_neg (by rintro (h | h | ⟨h, _⟩ | h); · exact h4 h
                       · cases h
                       · exact h5 h
                       · exact h6 h)]
theorem uYearS_ok (s : List UInt8) (hc : ile (slen s) 1000 = true) : Contract uE 56 [.str s] (.tup [.int .i64 (yrI s), .int .i64 (yrW s)]) := uYear_ev s (len_u hc)
theorem uRDigS_ok (s : List UInt8) (hc : ile (slen s) 1000 = true) : Contract uE 104 [.str s] (.bool (digB s)) := toU (sDigS_ok s hc)

theorem uS3_ok : SOk uE uS3 := by
  unfold uS3
  refine SOk.cons (fun args r h => ?_) (SOk.cons (fun args r h => ?_) (uS2_ok))
  · unfold uYearS at h
    split at h
    · simp only [Option.some.injEq, Prod.mk.injEq] at h
      obtain ⟨hc, rfl⟩ := h
      exact uYearS_ok _ hc
    · cases h
  · unfold uRDigS at h
    split at h
    · simp only [Option.some.injEq, Prod.mk.injEq] at h
      obtain ⟨hc, rfl⟩ := h
      exact uRDigS_ok _ hc
    · cases h

/-- A sign and two digits. -/
def rOk1 (x : List UInt8) (c : UInt8) : Bool := (x.getD 0 0 == c) && (isDigit (x.getD 1 0) && isDigit (x.getD 2 0))
def val1 (x : List UInt8) : Int := twoI (x.drop 1)
def sgnL : List UInt8 := [45, 45, 84, 58, 58]
def rOkI (t : List UInt8) (i : Nat) : Bool := rOk1 (t.drop (3 * i)) (sgnL.getD i 0)
def rVal (t : List UInt8) (i : Nat) : Int := val1 (t.drop (3 * i))
def rdOk (t : List UInt8) : Bool := rOkI t 0 && (rOkI t 1 && (rOkI t 2 && (rOkI t 3 && rOkI t 4)))
def z6 : List Int := [0, 0, 0, 0, 0, 0]
/-- A text's stamp. -/
def rdQ (y t : List UInt8) : List Int × Int :=
  if rdOk t = true then (if yrW y = 0 then (if stB (yrI y) (rVal t 0) (rVal t 1) (rVal t 2) (rVal t 3) (rVal t 4) = true then ([yrI y, rVal t 0, rVal t 1, rVal t 2, rVal t 3, rVal t 4], 0) else (z6, 1)) else (z6, yrW y)) else (z6, 4)
def rdP (s : List UInt8) : List Int × Int := if s.length < 15 then (z6, 4) else rdQ (s.take (s.length - 15)) (s.drop (s.length - 15))
theorem three {x : List UInt8} (h : 3 ≤ x.length) : ∃ a b c r, x = a :: b :: c :: r := by
  match x, h with
  | a :: b :: c :: r, _ => exact ⟨a, b, c, r, rfl⟩
theorem ieq_u8 (a : UInt8) (n : Nat) (hn : n < 256) : ieq (a.toNat : Int) (n : Int) = (a == UInt8.ofNat n) := by
  rw [Bool.eq_iff_iff, ieq_iff, beq_iff_eq]
  constructor
  · intro h
    apply UInt8.toNat_inj.1
    rw [UInt8.toNat_ofNat']; omega
  · intro h
    rw [h, UInt8.toNat_ofNat']; omega
set_option maxRecDepth 10000 in
theorem uRead_r0 (F n : Nat) (s x : List UInt8) (x3 x4 b0 b1 b2 b3 b4 e0 e1 e2 e3 e4 e5 : Int) (K : V → Option V) (h3 : 3 ≤ x.length) (hl : x.length ≤ 1000) :
    uRead_L0 F [] (n + 1) s x3 x4 x 0 b0 b1 b2 b3 b4 e0 e1 e2 e3 e4 e5 K = if rOk1 x 45 = true then uRead_L0 F [] n s x3 x4 (x.drop 3) 1 (val1 x) b1 b2 b3 b4 e0 e1 e2 e3 e4 e5 K else K (V.tup [(V.agg [(V.int .i64 0), (V.int .i64 0), (V.int .i64 0), (V.int .i64 0), (V.int .i64 0), (V.int .i64 0)]), (V.int .i64 4)]) := by
  obtain ⟨a, b, c, r, rfl⟩ := three h3
  have g0 : sat (a :: b :: c :: r) 0 = (a.toNat : Int) := rfl
  have g1 : ssub (a :: b :: c :: r) 1 3 = [b, c] := rfl
  have g3 : ssub (a :: b :: c :: r) 3 (slen (a :: b :: c :: r)) = r := by
    rw [slen_nat, show (3 : Int) = ((3 : Nat) : Int) from rfl, ssub_nat]; simp
  have g4 : iadd .i64 0 1 = 1 := iadd64 (by decide)
  have g5 : dgB [b, c] 2 = (isDigit b && isDigit c) := by unfold dgB; simp
  have f3 : band (ile 0 0) (ilt 0 (slen (a :: b :: c :: r))) = true := by rw [band_iff, ile_iff, ilt_iff, slen_nat]; omega
  have f5 : band (band (ile 0 3) (ile 3 (slen (a :: b :: c :: r)))) (band (ile 0 1) (ile 1 3)) = true := by simp only [band_iff, ile_iff, slen_nat]; omega
  have f8 : band (ile 0 1) (ilt 1 (slen (a :: b :: c :: r))) = true := by rw [band_iff, ile_iff, ilt_iff, slen_nat]; omega
  have f9 : band (ile 0 2) (ilt 2 (slen (a :: b :: c :: r))) = true := by rw [band_iff, ile_iff, ilt_iff, slen_nat]; omega
  have f10 : band (ile 0 3) (ile 3 (slen (a :: b :: c :: r))) = true := by rw [band_iff, ile_iff, ile_iff, slen_nat]; omega
  have hv : val1 (a :: b :: c :: r) = iadd .i64 (imul .i64 (icnv .i64 (isub .u8 (sat (a :: b :: c :: r) 1) 48)) 10) (icnv .i64 (isub .u8 (sat (a :: b :: c :: r) 2) 48)) := rfl
  have hr : rOk1 (a :: b :: c :: r) 45 = ((a == 45) && (isDigit b && isDigit c)) := rfl
  rw [uRead_L0_succ, sel_pos (ilt_t (by decide)), sel_pos (ieq_t rfl), sel_pos f3, g0, show ieq (a.toNat : Int) 45 = (a == 45) from ieq_u8 a 45 (by decide), sel_pos f5, g1, sel_pos (c := ile (slen [b, c]) 1000) (ile_t (by rw [slen_nat, List.length_cons, List.length_cons, List.length_nil]; decide)), g5, sel_pos f8, sel_pos f9, sel_pos (ieq_t rfl), sel_pos f10, g3, g4, ← hv, hr]
  cases (a == 45) <;> cases (isDigit b && isDigit c) <;> rfl
set_option maxRecDepth 10000 in
theorem uRead_r1 (F n : Nat) (s x : List UInt8) (x3 x4 b0 b1 b2 b3 b4 e0 e1 e2 e3 e4 e5 : Int) (K : V → Option V) (h3 : 3 ≤ x.length) (hl : x.length ≤ 1000) :
    uRead_L0 F [] (n + 1) s x3 x4 x 1 b0 b1 b2 b3 b4 e0 e1 e2 e3 e4 e5 K = if rOk1 x 45 = true then uRead_L0 F [] n s x3 x4 (x.drop 3) 2 b0 (val1 x) b2 b3 b4 e0 e1 e2 e3 e4 e5 K else K (V.tup [(V.agg [(V.int .i64 0), (V.int .i64 0), (V.int .i64 0), (V.int .i64 0), (V.int .i64 0), (V.int .i64 0)]), (V.int .i64 4)]) := by
  obtain ⟨a, b, c, r, rfl⟩ := three h3
  have g0 : sat (a :: b :: c :: r) 0 = (a.toNat : Int) := rfl
  have g1 : ssub (a :: b :: c :: r) 1 3 = [b, c] := rfl
  have g3 : ssub (a :: b :: c :: r) 3 (slen (a :: b :: c :: r)) = r := by
    rw [slen_nat, show (3 : Int) = ((3 : Nat) : Int) from rfl, ssub_nat]; simp
  have g4 : iadd .i64 1 1 = 2 := iadd64 (by decide)
  have g5 : dgB [b, c] 2 = (isDigit b && isDigit c) := by unfold dgB; simp
  have f3 : band (ile 0 0) (ilt 0 (slen (a :: b :: c :: r))) = true := by rw [band_iff, ile_iff, ilt_iff, slen_nat]; omega
  have f5 : band (band (ile 0 3) (ile 3 (slen (a :: b :: c :: r)))) (band (ile 0 1) (ile 1 3)) = true := by simp only [band_iff, ile_iff, slen_nat]; omega
  have f8 : band (ile 0 1) (ilt 1 (slen (a :: b :: c :: r))) = true := by rw [band_iff, ile_iff, ilt_iff, slen_nat]; omega
  have f9 : band (ile 0 2) (ilt 2 (slen (a :: b :: c :: r))) = true := by rw [band_iff, ile_iff, ilt_iff, slen_nat]; omega
  have f10 : band (ile 0 3) (ile 3 (slen (a :: b :: c :: r))) = true := by rw [band_iff, ile_iff, ile_iff, slen_nat]; omega
  have hv : val1 (a :: b :: c :: r) = iadd .i64 (imul .i64 (icnv .i64 (isub .u8 (sat (a :: b :: c :: r) 1) 48)) 10) (icnv .i64 (isub .u8 (sat (a :: b :: c :: r) 2) 48)) := rfl
  have hr : rOk1 (a :: b :: c :: r) 45 = ((a == 45) && (isDigit b && isDigit c)) := rfl
  rw [uRead_L0_succ, sel_pos (ilt_t (by decide)), sel_neg (ieq_f (by decide)), sel_pos (ieq_t rfl), sel_pos f3, g0, show ieq (a.toNat : Int) 45 = (a == 45) from ieq_u8 a 45 (by decide), sel_pos f5, g1, sel_pos (c := ile (slen [b, c]) 1000) (ile_t (by rw [slen_nat, List.length_cons, List.length_cons, List.length_nil]; decide)), g5, sel_pos f8, sel_pos f9, sel_neg (ieq_f (by decide)), sel_pos (ieq_t rfl), sel_pos f10, g3, g4, ← hv, hr]
  cases (a == 45) <;> cases (isDigit b && isDigit c) <;> rfl
set_option maxRecDepth 10000 in
theorem uRead_r2 (F n : Nat) (s x : List UInt8) (x3 x4 b0 b1 b2 b3 b4 e0 e1 e2 e3 e4 e5 : Int) (K : V → Option V) (h3 : 3 ≤ x.length) (hl : x.length ≤ 1000) :
    uRead_L0 F [] (n + 1) s x3 x4 x 2 b0 b1 b2 b3 b4 e0 e1 e2 e3 e4 e5 K = if rOk1 x 84 = true then uRead_L0 F [] n s x3 x4 (x.drop 3) 3 b0 b1 (val1 x) b3 b4 e0 e1 e2 e3 e4 e5 K else K (V.tup [(V.agg [(V.int .i64 0), (V.int .i64 0), (V.int .i64 0), (V.int .i64 0), (V.int .i64 0), (V.int .i64 0)]), (V.int .i64 4)]) := by
  obtain ⟨a, b, c, r, rfl⟩ := three h3
  have g0 : sat (a :: b :: c :: r) 0 = (a.toNat : Int) := rfl
  have g1 : ssub (a :: b :: c :: r) 1 3 = [b, c] := rfl
  have g3 : ssub (a :: b :: c :: r) 3 (slen (a :: b :: c :: r)) = r := by
    rw [slen_nat, show (3 : Int) = ((3 : Nat) : Int) from rfl, ssub_nat]; simp
  have g4 : iadd .i64 2 1 = 3 := iadd64 (by decide)
  have g5 : dgB [b, c] 2 = (isDigit b && isDigit c) := by unfold dgB; simp
  have f3 : band (ile 0 0) (ilt 0 (slen (a :: b :: c :: r))) = true := by rw [band_iff, ile_iff, ilt_iff, slen_nat]; omega
  have f5 : band (band (ile 0 3) (ile 3 (slen (a :: b :: c :: r)))) (band (ile 0 1) (ile 1 3)) = true := by simp only [band_iff, ile_iff, slen_nat]; omega
  have f8 : band (ile 0 1) (ilt 1 (slen (a :: b :: c :: r))) = true := by rw [band_iff, ile_iff, ilt_iff, slen_nat]; omega
  have f9 : band (ile 0 2) (ilt 2 (slen (a :: b :: c :: r))) = true := by rw [band_iff, ile_iff, ilt_iff, slen_nat]; omega
  have f10 : band (ile 0 3) (ile 3 (slen (a :: b :: c :: r))) = true := by rw [band_iff, ile_iff, ile_iff, slen_nat]; omega
  have hv : val1 (a :: b :: c :: r) = iadd .i64 (imul .i64 (icnv .i64 (isub .u8 (sat (a :: b :: c :: r) 1) 48)) 10) (icnv .i64 (isub .u8 (sat (a :: b :: c :: r) 2) 48)) := rfl
  have hr : rOk1 (a :: b :: c :: r) 84 = ((a == 84) && (isDigit b && isDigit c)) := rfl
  rw [uRead_L0_succ, sel_pos (ilt_t (by decide)), sel_neg (ieq_f (by decide)), sel_neg (ieq_f (by decide)), sel_pos (ieq_t rfl), sel_pos f3, g0, show ieq (a.toNat : Int) 84 = (a == 84) from ieq_u8 a 84 (by decide), sel_pos f5, g1, sel_pos (c := ile (slen [b, c]) 1000) (ile_t (by rw [slen_nat, List.length_cons, List.length_cons, List.length_nil]; decide)), g5, sel_pos f8, sel_pos f9, sel_neg (ieq_f (by decide)), sel_neg (ieq_f (by decide)), sel_pos (ieq_t rfl), sel_pos f10, g3, g4, ← hv, hr]
  cases (a == 84) <;> cases (isDigit b && isDigit c) <;> rfl
set_option maxRecDepth 10000 in
theorem uRead_r3 (F n : Nat) (s x : List UInt8) (x3 x4 b0 b1 b2 b3 b4 e0 e1 e2 e3 e4 e5 : Int) (K : V → Option V) (h3 : 3 ≤ x.length) (hl : x.length ≤ 1000) :
    uRead_L0 F [] (n + 1) s x3 x4 x 3 b0 b1 b2 b3 b4 e0 e1 e2 e3 e4 e5 K = if rOk1 x 58 = true then uRead_L0 F [] n s x3 x4 (x.drop 3) 4 b0 b1 b2 (val1 x) b4 e0 e1 e2 e3 e4 e5 K else K (V.tup [(V.agg [(V.int .i64 0), (V.int .i64 0), (V.int .i64 0), (V.int .i64 0), (V.int .i64 0), (V.int .i64 0)]), (V.int .i64 4)]) := by
  obtain ⟨a, b, c, r, rfl⟩ := three h3
  have g0 : sat (a :: b :: c :: r) 0 = (a.toNat : Int) := rfl
  have g1 : ssub (a :: b :: c :: r) 1 3 = [b, c] := rfl
  have g3 : ssub (a :: b :: c :: r) 3 (slen (a :: b :: c :: r)) = r := by
    rw [slen_nat, show (3 : Int) = ((3 : Nat) : Int) from rfl, ssub_nat]; simp
  have g4 : iadd .i64 3 1 = 4 := iadd64 (by decide)
  have g5 : dgB [b, c] 2 = (isDigit b && isDigit c) := by unfold dgB; simp
  have f3 : band (ile 0 0) (ilt 0 (slen (a :: b :: c :: r))) = true := by rw [band_iff, ile_iff, ilt_iff, slen_nat]; omega
  have f5 : band (band (ile 0 3) (ile 3 (slen (a :: b :: c :: r)))) (band (ile 0 1) (ile 1 3)) = true := by simp only [band_iff, ile_iff, slen_nat]; omega
  have f8 : band (ile 0 1) (ilt 1 (slen (a :: b :: c :: r))) = true := by rw [band_iff, ile_iff, ilt_iff, slen_nat]; omega
  have f9 : band (ile 0 2) (ilt 2 (slen (a :: b :: c :: r))) = true := by rw [band_iff, ile_iff, ilt_iff, slen_nat]; omega
  have f10 : band (ile 0 3) (ile 3 (slen (a :: b :: c :: r))) = true := by rw [band_iff, ile_iff, ile_iff, slen_nat]; omega
  have hv : val1 (a :: b :: c :: r) = iadd .i64 (imul .i64 (icnv .i64 (isub .u8 (sat (a :: b :: c :: r) 1) 48)) 10) (icnv .i64 (isub .u8 (sat (a :: b :: c :: r) 2) 48)) := rfl
  have hr : rOk1 (a :: b :: c :: r) 58 = ((a == 58) && (isDigit b && isDigit c)) := rfl
  rw [uRead_L0_succ, sel_pos (ilt_t (by decide)), sel_neg (ieq_f (by decide)), sel_neg (ieq_f (by decide)), sel_neg (ieq_f (by decide)), sel_pos (ieq_t rfl), sel_pos f3, g0, show ieq (a.toNat : Int) 58 = (a == 58) from ieq_u8 a 58 (by decide), sel_pos f5, g1, sel_pos (c := ile (slen [b, c]) 1000) (ile_t (by rw [slen_nat, List.length_cons, List.length_cons, List.length_nil]; decide)), g5, sel_pos f8, sel_pos f9, sel_neg (ieq_f (by decide)), sel_neg (ieq_f (by decide)), sel_neg (ieq_f (by decide)), sel_pos (ieq_t rfl), sel_pos f10, g3, g4, ← hv, hr]
  cases (a == 58) <;> cases (isDigit b && isDigit c) <;> rfl
set_option maxRecDepth 10000 in
theorem uRead_r4 (F n : Nat) (s x : List UInt8) (x3 x4 b0 b1 b2 b3 b4 e0 e1 e2 e3 e4 e5 : Int) (K : V → Option V) (h3 : 3 ≤ x.length) (hl : x.length ≤ 1000) :
    uRead_L0 F [] (n + 1) s x3 x4 x 4 b0 b1 b2 b3 b4 e0 e1 e2 e3 e4 e5 K = if rOk1 x 58 = true then uRead_L0 F [] n s x3 x4 (x.drop 3) 5 b0 b1 b2 b3 (val1 x) e0 e1 e2 e3 e4 e5 K else K (V.tup [(V.agg [(V.int .i64 0), (V.int .i64 0), (V.int .i64 0), (V.int .i64 0), (V.int .i64 0), (V.int .i64 0)]), (V.int .i64 4)]) := by
  obtain ⟨a, b, c, r, rfl⟩ := three h3
  have g0 : sat (a :: b :: c :: r) 0 = (a.toNat : Int) := rfl
  have g1 : ssub (a :: b :: c :: r) 1 3 = [b, c] := rfl
  have g3 : ssub (a :: b :: c :: r) 3 (slen (a :: b :: c :: r)) = r := by
    rw [slen_nat, show (3 : Int) = ((3 : Nat) : Int) from rfl, ssub_nat]; simp
  have g4 : iadd .i64 4 1 = 5 := iadd64 (by decide)
  have g5 : dgB [b, c] 2 = (isDigit b && isDigit c) := by unfold dgB; simp
  have f3 : band (ile 0 0) (ilt 0 (slen (a :: b :: c :: r))) = true := by rw [band_iff, ile_iff, ilt_iff, slen_nat]; omega
  have f5 : band (band (ile 0 3) (ile 3 (slen (a :: b :: c :: r)))) (band (ile 0 1) (ile 1 3)) = true := by simp only [band_iff, ile_iff, slen_nat]; omega
  have f8 : band (ile 0 1) (ilt 1 (slen (a :: b :: c :: r))) = true := by rw [band_iff, ile_iff, ilt_iff, slen_nat]; omega
  have f9 : band (ile 0 2) (ilt 2 (slen (a :: b :: c :: r))) = true := by rw [band_iff, ile_iff, ilt_iff, slen_nat]; omega
  have f10 : band (ile 0 3) (ile 3 (slen (a :: b :: c :: r))) = true := by rw [band_iff, ile_iff, ile_iff, slen_nat]; omega
  have hv : val1 (a :: b :: c :: r) = iadd .i64 (imul .i64 (icnv .i64 (isub .u8 (sat (a :: b :: c :: r) 1) 48)) 10) (icnv .i64 (isub .u8 (sat (a :: b :: c :: r) 2) 48)) := rfl
  have hr : rOk1 (a :: b :: c :: r) 58 = ((a == 58) && (isDigit b && isDigit c)) := rfl
  rw [uRead_L0_succ, sel_pos (ilt_t (by decide)), sel_neg (ieq_f (by decide)), sel_neg (ieq_f (by decide)), sel_neg (ieq_f (by decide)), sel_neg (ieq_f (by decide)), sel_pos (ieq_t rfl), sel_pos f3, g0, show ieq (a.toNat : Int) 58 = (a == 58) from ieq_u8 a 58 (by decide), sel_pos f5, g1, sel_pos (c := ile (slen [b, c]) 1000) (ile_t (by rw [slen_nat, List.length_cons, List.length_cons, List.length_nil]; decide)), g5, sel_pos f8, sel_pos f9, sel_neg (ieq_f (by decide)), sel_neg (ieq_f (by decide)), sel_neg (ieq_f (by decide)), sel_neg (ieq_f (by decide)), sel_pos (ieq_t rfl), sel_pos f10, g3, g4, ← hv, hr]
  cases (a == 58) <;> cases (isDigit b && isDigit c) <;> rfl

theorem rdP_len {s : List UInt8} (h : ¬ s.length < 15) : (s.drop (s.length - 15)).length = 15 := by rw [List.length_drop]; omega
theorem uRead_ev (s : List UInt8) (hs : s.length ≤ 1000) : Contract uE 29 [.str s] (resO (rdP s)) := by
  refine contract_of_body uE_ok uS3_ok 8 2 ?_
  rw [uRead_top, slen_nat, isub64 (by omega)]
  unfold rdP
  by_cases h : s.length < 15
  · rw [sel_pos (ilt_t (by omega)), if_pos h]; rfl
  have e1 : (s.length : Int) - 15 = ((s.length - 15 : Nat) : Int) := by omega
  rw [sel_neg (ilt_f (by omega)), sel_pos (by rw [band_iff, ile_iff, ile_iff]; omega), if_neg h, e1, ssub_nat]
  have e2 : (s.drop (s.length - 15)).take (s.length - (s.length - 15)) = s.drop (s.length - 15) := by rw [List.take_of_length_le (by rw [List.length_drop]; omega)]
  have hl := rdP_len h
  rw [e2]
  unfold rdQ rdOk
  generalize s.drop (s.length - 15) = t at *
  have hz : resO (z6, 4) = (V.tup [(V.agg [(V.int .i64 0), (V.int .i64 0), (V.int .i64 0), (V.int .i64 0), (V.int .i64 0), (V.int .i64 0)]), (V.int .i64 4)]) := rfl
  rw [uRead_r0 (h3 := by omega) (hl := by omega)]
  have q0 : rOkI t 0 = rOk1 t 45 := rfl
  have v0 : rVal t 0 = val1 t := rfl
  rw [← q0, ← v0]
  cases rOkI t 0 with
  | false => rw [if_neg (show ¬ false = true by decide), if_neg (by simp)]; rfl
  | true =>
  rw [if_pos rfl, Bool.true_and, uRead_r1 (h3 := by rw [List.length_drop]; omega) (hl := by rw [List.length_drop]; omega)]
  have q1 : rOkI t 1 = rOk1 (t.drop 3) 45 := rfl
  have v1 : rVal t 1 = val1 (t.drop 3) := rfl
  rw [← q1, ← v1]
  cases rOkI t 1 with
  | false => rw [if_neg (show ¬ false = true by decide), if_neg (by simp)]; rfl
  | true =>
  rw [if_pos rfl, Bool.true_and, uRead_r2 (h3 := by rw [List.length_drop, List.length_drop]; omega) (hl := by rw [List.length_drop, List.length_drop]; omega), List.drop_drop]
  have q2 : rOkI t 2 = rOk1 (t.drop (3 + 3)) 84 := rfl
  have v2 : rVal t 2 = val1 (t.drop (3 + 3)) := rfl
  rw [← q2, ← v2]
  cases rOkI t 2 with
  | false => rw [if_neg (show ¬ false = true by decide), if_neg (by simp)]; rfl
  | true =>
  rw [if_pos rfl, Bool.true_and, List.drop_drop, uRead_r3 (h3 := by rw [List.length_drop]; omega) (hl := by rw [List.length_drop]; omega)]
  have q3 : rOkI t 3 = rOk1 (t.drop (3 + 3 + 3)) 58 := rfl
  have v3 : rVal t 3 = val1 (t.drop (3 + 3 + 3)) := rfl
  rw [← q3, ← v3]
  cases rOkI t 3 with
  | false => rw [if_neg (show ¬ false = true by decide), if_neg (by simp)]; rfl
  | true =>
  rw [if_pos rfl, Bool.true_and, List.drop_drop, uRead_r4 (h3 := by rw [List.length_drop]; omega) (hl := by rw [List.length_drop]; omega)]
  have q4 : rOkI t 4 = rOk1 (t.drop (3 + 3 + 3 + 3)) 58 := rfl
  have v4 : rVal t 4 = val1 (t.drop (3 + 3 + 3 + 3)) := rfl
  rw [← q4, ← v4]
  cases rOkI t 4 with
  | false => rw [if_neg (show ¬ false = true by decide), if_neg (by simp)]; rfl
  | true =>
  rw [if_pos rfl, if_pos rfl, uRead_L0_succ, sel_neg (ilt_f (by decide)), sel_pos (by rw [band_iff, ile_iff, ile_iff, slen_nat]; omega)]
  have e3 : ssub s 0 ((s.length - 15 : Nat) : Int) = s.take (s.length - 15) := by rw [show (0 : Int) = ((0 : Nat) : Int) from rfl, ssub_nat, List.drop_zero, Nat.sub_zero]
  rw [e3, sel_pos (ile_t (by rw [slen_nat, List.length_take]; omega))]
  generalize s.take (s.length - 15) = y
  by_cases hw : yrW y = 0
  · rw [sel_neg (by rw [ieq_t hw]; rfl), if_pos hw]
    cases stB (yrI y) (rVal t 0) (rVal t 1) (rVal t 2) (rVal t 3) (rVal t 4) <;> rfl
  · rw [sel_pos (by rw [ieq_f hw]; rfl), if_neg hw]; rfl
theorem sel2 {α : Type} (p q : Bool) (x y : α) : sel (bnot p) y (sel (bnot q) y x) = if (p && q) = true then x else y := by cases p <;> cases q <;> rfl
end Nt.Ev.YtmemhdilefmceaaDoor

set_option linter.unusedVariables false
set_option linter.unusedSimpArgs false
set_option linter.unusedSectionVars false
namespace Nt.Ev.YtmemhdilefmceaaDoor
open Go Nt.Num Go.Proofs.YtmemhdilefmceaaDoor
open Nt.Civil
def scI (y m d h i s : Int) : Int := (secsP y m d h i s).1
def scW (y m d h i s : Int) : Int := (secsP y m d h i s).2
def ofA (k : Nat) (t : Int) : Int := (ofP t).1.getD k 0
def ofW (t : Int) : Int := (ofP t).2
def rdA (k : Nat) (s : List UInt8) : Int := (rdP s).1.getD k 0
def rdW (s : List UInt8) : Int := (rdP s).2
def dvI (t : Int) : Int := t / 86400
def mdI (t : Int) : Int := t % 86400
noncomputable def lSecsS : FSpec := fun a => match a with | [.agg [.int .i64 y, .int .i64 m, .int .i64 d, .int .i64 h, .int .i64 i, .int .i64 s]] => some (true, .tup [.int .i64 (scI y m d h i s), .int .i64 (scW y m d h i s)]) | _ => none
noncomputable def lOfS : FSpec := fun a => match a with | [.int .i64 t] => some (band (ile (-9223372036854775808) t) (ile t 9223372036854775807), .tup [.agg [.int .i64 (ofA 0 t), .int .i64 (ofA 1 t), .int .i64 (ofA 2 t), .int .i64 (ofA 3 t), .int .i64 (ofA 4 t), .int .i64 (ofA 5 t)], .int .i64 (ofW t)]) | _ => none
noncomputable def lReadS : FSpec := fun a => match a with | [.str s] => some (ile (slen s) 1000, .tup [.agg [.int .i64 (rdA 0 s), .int .i64 (rdA 1 s), .int .i64 (rdA 2 s), .int .i64 (rdA 3 s), .int .i64 (rdA 4 s), .int .i64 (rdA 5 s)], .int .i64 (rdW s)]) | _ => none
noncomputable def lSplitS : FSpec := fun a => match a with | [.int .i64 t] => some (band (ile (-9223372036854775808) t) (ile t 9223372036854775807), .tup [.int .i64 (dvI t), .int .i64 (mdI t)]) | _ => none
noncomputable def lFloorS : FSpec := fun a => match a with | [.int .i64 t, .int .i64 86400] => some (band (ile (-9223372036854775808) t) (ile t 9223372036854775807), .int .i64 (dvI t)) | _ => none
noncomputable def lRestS : FSpec := fun a => match a with | [.int .i64 t, .int .i64 86400] => some (band (ile (-9223372036854775808) t) (ile t 9223372036854775807), .int .i64 (mdI t)) | _ => none
noncomputable def lRightS : FSpec := fun a => match a with | [.agg [.int .i64 y, .int .i64 m, .int .i64 d, .int .i64 h, .int .i64 i, .int .i64 s]] => some (true, .bool (stB y m d h i s)) | _ => none
noncomputable def lTextS : FSpec := fun a => match a with | [.agg [.int .i64 y, .int .i64 m, .int .i64 d, .int .i64 h, .int .i64 i, .int .i64 s]] => some (true, .str (stTxt y m d h i s)) | _ => none
noncomputable def lLivesS : FSpec := fun a => match a with | [] => some (true, .bool true) | _ => none
noncomputable def lS : List (Nat × FSpec) := (25, lSecsS) :: (28, lOfS) :: (29, lReadS) :: (30, lSplitS) :: (26, lRightS) :: (27, lTextS) :: []
noncomputable def lS2 : List (Nat × FSpec) := (24, lLivesS) :: lS

set_option maxRecDepth 100000 in
theorem lB_top (F : Nat) (y : Int) (m : Int) (d : Int) (h : Int) (i : Int) (s : Int) (x : List UInt8) (K : V → Option V) :
    evBd uE (evFn uE lS2 F 2) F 8 [(V.agg [(V.int .i64 y), (V.int .i64 m), (V.int .i64 d), (V.int .i64 h), (V.int .i64 i), (V.int .i64 s)]), (V.str x)] K =
    sel (ilt 1000 (slen x))
      (K (V.bool true))
      (sel (bnot (beq (ieq (scW y m d h i s) 0) (stB y m d h i s)))
        (K (V.bool false))
        (sel (bnot (beq (bnot (seq (stTxt y m d h i s) [])) (stB y m d h i s)))
          (K (V.bool false))
          (sel (ieq (scW y m d h i s) 0)
            (sel (band (ile (-9223372036854775808) (scI y m d h i s)) (ile (scI y m d h i s) 9223372036854775807))
              (sel (ile (slen (stTxt y m d h i s)) 1000)
                (sel (bnot (band (band (ieq (ofA 0 (scI y m d h i s)) y) (band (ieq (ofA 1 (scI y m d h i s)) m) (ieq (ofA 2 (scI y m d h i s)) d))) (band (ieq (ofA 3 (scI y m d h i s)) h) (band (ieq (ofA 4 (scI y m d h i s)) i) (ieq (ofA 5 (scI y m d h i s)) s)))))
                  (K (V.bool false))
                  (sel (bnot (ieq (ofW (scI y m d h i s)) 0))
                    (K (V.bool false))
                    (sel (bnot (band (band (ieq (rdA 0 (stTxt y m d h i s)) y) (band (ieq (rdA 1 (stTxt y m d h i s)) m) (ieq (rdA 2 (stTxt y m d h i s)) d))) (band (ieq (rdA 3 (stTxt y m d h i s)) h) (band (ieq (rdA 4 (stTxt y m d h i s)) i) (ieq (rdA 5 (stTxt y m d h i s)) s)))))
                      (K (V.bool false))
                      (sel (bnot (ieq (rdW (stTxt y m d h i s)) 0))
                        (K (V.bool false))
                        (sel (ile (slen x) 1000)
                          (sel (bnot (ieq (rdW x) 0))
                            (sel (band (band (ieq (rdA 0 x) 0) (band (ieq (rdA 1 x) 0) (ieq (rdA 2 x) 0))) (band (ieq (rdA 3 x) 0) (band (ieq (rdA 4 x) 0) (ieq (rdA 5 x) 0))))
                              (K (V.bool true))
                              (sel (ieq (rdW x) 0)
                                (K (V.bool (seq (stTxt (rdA 0 x) (rdA 1 x) (rdA 2 x) (rdA 3 x) (rdA 4 x) (rdA 5 x)) x)))
                                (K (V.bool false))))
                            (sel (ieq (rdW x) 0)
                              (K (V.bool (seq (stTxt (rdA 0 x) (rdA 1 x) (rdA 2 x) (rdA 3 x) (rdA 4 x) (rdA 5 x)) x)))
                              (K (V.bool false))))
                          (none))))))
                (none))
              (none))
            (sel (ile (slen x) 1000)
              (sel (bnot (ieq (rdW x) 0))
                (sel (band (band (ieq (rdA 0 x) 0) (band (ieq (rdA 1 x) 0) (ieq (rdA 2 x) 0))) (band (ieq (rdA 3 x) 0) (band (ieq (rdA 4 x) 0) (ieq (rdA 5 x) 0))))
                  (K (V.bool true))
                  (sel (ieq (rdW x) 0)
                    (K (V.bool (seq (stTxt (rdA 0 x) (rdA 1 x) (rdA 2 x) (rdA 3 x) (rdA 4 x) (rdA 5 x)) x)))
                    (K (V.bool false))))
                (sel (ieq (rdW x) 0)
                  (K (V.bool (seq (stTxt (rdA 0 x) (rdA 1 x) (rdA 2 x) (rdA 3 x) (rdA 4 x) (rdA 5 x)) x)))
                  (K (V.bool false))))
              (none))))) := by kernel_rfl



end Nt.Ev.YtmemhdilefmceaaDoor

set_option linter.unusedVariables false
set_option linter.unusedSimpArgs false
namespace Nt.Ev.YtmemhdilefmceaaDoor
open Go Nt Nt.Num Nt.Civil Go.Proofs.YtmemhdilefmceaaDoor

theorem resO_of (t : Int) : resO (ofP t) = (.tup [.agg [.int .i64 (ofA 0 t), .int .i64 (ofA 1 t), .int .i64 (ofA 2 t), .int .i64 (ofA 3 t), .int .i64 (ofA 4 t), .int .i64 (ofA 5 t)], .int .i64 (ofW t)]) := by
  unfold ofA ofW resO ofP
  by_cases h : inRange (t / 86400) = true
  · rw [if_pos h]; rfl
  · rw [if_neg h]; rfl
theorem resO_rd (s : List UInt8) : resO (rdP s) = (.tup [.agg [.int .i64 (rdA 0 s), .int .i64 (rdA 1 s), .int .i64 (rdA 2 s), .int .i64 (rdA 3 s), .int .i64 (rdA 4 s), .int .i64 (rdA 5 s)], .int .i64 (rdW s)]) := by
  have k : ∀ p : List Int × Int, (∃ a b c d e f w, p = ([a, b, c, d, e, f], w)) → resO p = .tup [.agg [.int .i64 (p.1.getD 0 0), .int .i64 (p.1.getD 1 0), .int .i64 (p.1.getD 2 0), .int .i64 (p.1.getD 3 0), .int .i64 (p.1.getD 4 0), .int .i64 (p.1.getD 5 0)], .int .i64 p.2] := by
    rintro p ⟨a, b, c, d, e, f, w, rfl⟩; rfl
  refine k _ ?_
  unfold rdP rdQ z6
  repeat' split
  all_goals exact ⟨_, _, _, _, _, _, _, rfl⟩
theorem lSecsS_ok (y m d h i s : Int) (hc : true = true) : Contract uE 25 [.agg [.int .i64 y, .int .i64 m, .int .i64 d, .int .i64 h, .int .i64 i, .int .i64 s]] (.tup [.int .i64 (scI y m d h i s), .int .i64 (scW y m d h i s)]) := toU (stSecs_ev y m d h i s)
theorem lOfS_ok (t : Int) (hc : band (ile (-9223372036854775808) t) (ile t 9223372036854775807) = true) : Contract uE 28 [.int .i64 t] (.tup [.agg [.int .i64 (ofA 0 t), .int .i64 (ofA 1 t), .int .i64 (ofA 2 t), .int .i64 (ofA 3 t), .int .i64 (ofA 4 t), .int .i64 (ofA 5 t)], .int .i64 (ofW t)]) := resO_of t ▸ toU (stOf_ev t (st_fits hc))
theorem lReadS_ok (s : List UInt8) (hc : ile (slen s) 1000 = true) : Contract uE 29 [.str s] (.tup [.agg [.int .i64 (rdA 0 s), .int .i64 (rdA 1 s), .int .i64 (rdA 2 s), .int .i64 (rdA 3 s), .int .i64 (rdA 4 s), .int .i64 (rdA 5 s)], .int .i64 (rdW s)]) := resO_rd s ▸ uRead_ev s (len_u hc)
theorem lSplitS_ok (t : Int) (hc : band (ile (-9223372036854775808) t) (ile t 9223372036854775807) = true) : Contract uE 30 [.int .i64 t] (.tup [.int .i64 (dvI t), .int .i64 (mdI t)]) := toU (stSplit_ev t (st_fits hc))
theorem lRightS_ok (y m d h i s : Int) (hc : true = true) : Contract uE 26 [.agg [.int .i64 y, .int .i64 m, .int .i64 d, .int .i64 h, .int .i64 i, .int .i64 s]] (.bool (stB y m d h i s)) := toU (stRight_ev y m d h i s)
theorem lTextS_ok (y m d h i s : Int) (hc : true = true) : Contract uE 27 [.agg [.int .i64 y, .int .i64 m, .int .i64 d, .int .i64 h, .int .i64 i, .int .i64 s]] (.str (stTxt y m d h i s)) := uText_ev y m d h i s
theorem lS_ok : SOk uE lS := by
  unfold lS
  refine SOk.cons (fun args r h => ?_) (SOk.cons (fun args r h => ?_) (SOk.cons (fun args r h => ?_) (SOk.cons (fun args r h => ?_) (SOk.cons (fun args r h => ?_) (SOk.cons (fun args r h => ?_) (SOk.nil))))))
  · unfold lSecsS at h
    split at h
    · simp only [Option.some.injEq, Prod.mk.injEq] at h
      obtain ⟨hc, rfl⟩ := h
      exact lSecsS_ok _ _ _ _ _ _ rfl
    · cases h
  · unfold lOfS at h
    split at h
    · simp only [Option.some.injEq, Prod.mk.injEq] at h
      obtain ⟨hc, rfl⟩ := h
      exact lOfS_ok _ hc
    · cases h
  · unfold lReadS at h
    split at h
    · simp only [Option.some.injEq, Prod.mk.injEq] at h
      obtain ⟨hc, rfl⟩ := h
      exact lReadS_ok _ hc
    · cases h
  · unfold lSplitS at h
    split at h
    · simp only [Option.some.injEq, Prod.mk.injEq] at h
      obtain ⟨hc, rfl⟩ := h
      exact lSplitS_ok _ hc
    · cases h
  · unfold lRightS at h
    split at h
    · simp only [Option.some.injEq, Prod.mk.injEq] at h
      obtain ⟨hc, rfl⟩ := h
      exact lRightS_ok _ _ _ _ _ _ rfl
    · cases h
  · unfold lTextS at h
    split at h
    · simp only [Option.some.injEq, Prod.mk.injEq] at h
      obtain ⟨hc, rfl⟩ := h
      exact lTextS_ok _ _ _ _ _ _ rfl
    · cases h

set_option maxRecDepth 100000 in
theorem lLivesS_ok (hc : true = true) : Contract uE 24 [] (.bool true) := by
  refine contract_of_body uE_ok lS_ok 5 2 ?_
  kernel_rfl
theorem lS2_ok : SOk uE lS2 := by
  unfold lS2
  refine SOk.cons (fun args r h => ?_) (lS_ok)
  · unfold lLivesS at h
    split at h
    · simp only [Option.some.injEq, Prod.mk.injEq] at h
      obtain ⟨hc, rfl⟩ := h
      exact lLivesS_ok  rfl
    · cases h

theorem st_refl (a : Int) : ieq a a = true := ieq_t rfl
theorem st_srefl (a : List UInt8) : seq a a = true := by rw [seq_iff]
theorem st_brefl (a : Bool) : beq a a = true := by rw [beq_iff]
end Nt.Ev.YtmemhdilefmceaaDoor

set_option linter.unusedVariables false
set_option linter.unusedSimpArgs false
namespace Nt.Ev.YtmemhdilefmceaaDoor
open Go Nt Nt.Num Nt.Civil

theorem val_rep : ∀ (j : Nat) (l : List UInt8), val (List.replicate j 48 ++ l) = val l
  | 0, _ => rfl
  | j + 1, l => by rw [List.replicate_succ]; exact val_rep j l
theorem lead : ∀ (d : List UInt8), ∃ j r, d = List.replicate j 48 ++ r ∧ (r.getD 0 0 == 48) = false
  | [] => ⟨0, [], rfl, by decide⟩
  | c :: t => by
    by_cases h : c = 48
    · obtain ⟨j, r, h1, h2⟩ := lead t
      exact ⟨j + 1, r, by rw [h, List.replicate_succ, h1]; rfl, h2⟩
    · exact ⟨0, c :: t, rfl, by show (c == 48) = false; simpa using h⟩
theorem text_nat (m : Nat) : Num.text (m : Int) = digs m := by
  unfold Num.text
  rw [if_neg (by omega), Int.natAbs_natCast]; rfl
theorem wide_val (d : List UInt8) (k : Nat) (hk : 1 ≤ k) (hd : d.all isDigit = true) (h : d.length = k ∨ (k ≤ d.length ∧ (d.getD 0 0 == 48) = false)) : wideT (val d : Int) (k : Int) = d := by
  obtain ⟨j, r, rfl, hr⟩ := lead d
  unfold wideT
  rw [val_rep, text_nat, Int.toNat_natCast]
  have hj : 1 ≤ j → (List.replicate j (48 : UInt8) ++ r).getD 0 0 = 48 := by
    intro h; obtain ⟨i, rfl⟩ : ∃ i, j = i + 1 := ⟨j - 1, by omega⟩; rfl
  rw [List.all_append, Bool.and_eq_true] at hd
  rw [List.length_append, List.length_replicate] at h
  by_cases hn : r = []
  · subst hn
    have e : digs (val []) = [48] := by decide
    rw [e]
    have ej : j = k := by
      rcases h with h | ⟨h1, h2⟩
      · simpa using h
      · simp only [List.length_nil] at h1
        rw [hj (by omega)] at h2; cases h2
    subst ej
    obtain ⟨i, rfl⟩ : ∃ i, j = i + 1 := ⟨j - 1, by omega⟩
    rw [List.append_nil, List.replicate_succ']
    rfl
  · rw [digs_val r.length r rfl hd.2 hn (.inl hr)]
    congr 2
    rcases h with h | ⟨h1, h2⟩
    · omega
    · by_cases h3 : 1 ≤ j
      · rw [hj h3] at h2; cases h2
      · omega
theorem wide_len_of (n k : Nat) (m : Nat) (hk : 1 ≤ k) (hkm : k ≤ m) (hn : n < 10 ^ m) : (wideT (n : Int) (k : Int)).all isDigit = true ∧ val (wideT (n : Int) (k : Int)) = n ∧ k ≤ (wideT (n : Int) (k : Int)).length ∧ (wideT (n : Int) (k : Int)).length ≤ m ∧
    (k < (wideT (n : Int) (k : Int)).length → 1 ≤ n → ((wideT (n : Int) (k : Int)).getD 0 0 == 48) = false) := by
  unfold wideT
  rw [text_nat, Int.toNat_natCast]
  have h1 := digs_all (n + 1) n (by omega)
  have h2 := val_digs (n + 1) n (by omega)
  have h3 := digs_len m n hn (by omega)
  refine ⟨?_, ?_, ?_, ?_, ?_⟩
  · rw [List.all_append, h1.1, Bool.and_true]
    rw [List.all_eq_true]
    intro x hx
    rw [List.eq_of_mem_replicate hx]; rfl
  · rw [val_rep, h2]
  · rw [List.length_append, List.length_replicate]; omega
  · rw [List.length_append, List.length_replicate]; omega
  · intro h4 h5
    rw [List.length_append, List.length_replicate] at h4
    rw [show k - (digs n).length = 0 by omega]
    exact digs_head (n + 1) n (by omega) h5

def yrText (y : Int) : List UInt8 := if y < 0 then 45 :: wideT (-y) 4 else wideT y 4
theorem wide_zero : wideT 0 4 = [48, 48, 48, 48] := by decide
theorem not_minus {l : List UInt8} (h : l.all isDigit = true) : minus l = false := by
  cases l with
  | nil => rfl
  | cons c t =>
    rw [List.all_cons, Bool.and_eq_true] at h
    show (c == 45) = false
    cases hc : c == 45 with
    | false => rfl
    | true =>
      rw [beq_iff_eq] at hc
      rw [hc] at h
      exact absurd h.1 (by decide)
theorem yr_text (y : Int) (h : -40000 ≤ y ∧ y ≤ 40000) : yrP (yrText y) = (y, 0) := by
  have hw := wide_len_of y.natAbs 4 5 (by decide) (by decide) (by omega)
  rw [yrP_eq]
  unfold yrText
  have e4 : ((4 : Nat) : Int) = 4 := rfl
  rw [e4] at hw
  have hz : wideT (y.natAbs : Int) 4 = [48, 48, 48, 48] → y = 0 := by
    intro h0
    have := hw.2.1
    rw [h0] at this
    have e : val [48, 48, 48, 48] = 0 := by decide
    omega
  have hn : 4 < (wideT (y.natAbs : Int) 4).length → ((wideT (y.natAbs : Int) 4).getD 0 0 == 48) = false := by
    intro h1
    by_cases h2 : y = 0
    · rw [h2] at h1
      rw [show ((0 : Int).natAbs : Int) = 0 from rfl, wide_zero] at h1
      exact absurd h1 (by decide)
    · exact hw.2.2.2.2 h1 (by omega)
  obtain ⟨w1, w2, w3, w4, _⟩ := hw
  by_cases h0 : y < 0
  · rw [if_pos h0, show -y = (y.natAbs : Int) by omega]
    generalize wideT (y.natAbs : Int) 4 = W at *
    have e2 : minus (45 :: W) = true := rfl
    have e3 : bare (45 :: W) = W := rfl
    rw [e2, e3]
    unfold yrQ
    rw [if_neg, if_neg (by omega), if_pos rfl, w2]
    · congr 1; omega
    · rintro (h1 | h1 | ⟨h1, h2⟩ | h1)
      · omega
      · rw [w1] at h1; cases h1
      · have := hn h1
        rw [h2] at this; cases this
      · have := hz (List.cons.inj h1).2
        omega
  · rw [if_neg h0, show wideT y 4 = wideT (y.natAbs : Int) 4 by rw [show ((y.natAbs : Nat) : Int) = y by omega]]
    generalize wideT (y.natAbs : Int) 4 = W at *
    have e2 := not_minus w1
    have e3 : bare W = W := by unfold bare; rw [e2]; rfl
    rw [e2, e3]
    unfold yrQ
    rw [if_neg, if_neg (by omega), if_neg (by decide), w2]
    · congr 1; omega
    · rintro (h1 | h1 | ⟨h1, h2⟩ | h1)
      · omega
      · rw [w1] at h1; cases h1
      · have := hn h1
        rw [h2] at this; cases this
      · rw [h1] at w1; cases w1
theorem text_yr (s : List UInt8) (h : yrW s = 0) : yrText (yrI s) = s := by
  unfold yrW at h
  unfold yrI
  rw [yrP_eq] at *
  unfold yrQ at *
  split at h
  · cases h
  rename_i h1
  rw [if_neg h1]
  split at h
  · cases h
  rename_i h2
  rw [if_neg h2]
  simp only [not_or] at h1
  obtain ⟨h3, h4, h5, h6⟩ := h1
  have hd : (bare s).all isDigit = true := by simpa using h4
  have hw : wideT (val (bare s) : Int) 4 = bare s := by
    refine wide_val (bare s) 4 (by decide) hd ?_
    by_cases h7 : (bare s).length = 4
    · exact .inl h7
    · refine .inr ⟨by omega, ?_⟩
      cases h8 : (bare s).getD 0 0 == 48 with
      | false => rfl
      | true =>
        rw [beq_iff_eq] at h8
        exact absurd ⟨by omega, h8⟩ h5
  unfold yrText
  cases hm : minus s with
  | true =>
    rw [if_pos rfl]
    have hs : s = 45 :: bare s := by
      cases s with
      | nil => cases hm
      | cons c t =>
        have hc : (c == 45) = true := hm
        rw [beq_iff_eq] at hc
        have : bare (c :: t) = t := by unfold bare; rw [hm]; rfl
        rw [this, hc]
    have hv : val (bare s) ≠ 0 := by
      intro h0
      rw [h0] at hw
      have : bare s = [48, 48, 48, 48] := by rw [← hw]; exact wide_zero
      rw [this] at hs
      exact h6 hs
    show (if -(val (bare s) : Int) < 0 then 45 :: wideT (- -(val (bare s) : Int)) 4 else wideT (-(val (bare s) : Int)) 4) = s
    rw [if_pos (by omega), Int.neg_neg, hw]
    exact hs.symm
  | false =>
    have hb : bare s = s := by unfold bare; rw [hm]; rfl
    rw [if_neg (show ¬ false = true by decide)]
    show (if (val (bare s) : Int) < 0 then 45 :: wideT (-(val (bare s) : Int)) 4 else wideT (val (bare s) : Int) 4) = s
    rw [if_neg (by omega), hw, hb]

theorem two_val (b e : UInt8) (r : List UInt8) (hb : isDigit b = true) (he : isDigit e = true) : twoI (b :: e :: r) = ((val [b, e] : Nat) : Int) := by
  unfold isDigit at hb he
  rw [Bool.and_eq_true, decide_eq_true_iff, decide_eq_true_iff] at hb he
  have e1 : sat (b :: e :: r) 0 = (b.toNat : Int) := rfl
  have e2 : sat (b :: e :: r) 1 = (e.toNat : Int) := rfl
  have e3 : val [b, e] = 10 * (10 * 0 + (b.toNat - 48)) + (e.toNat - 48) := rfl
  unfold twoI
  rw [e1, e2, e3]
  simp (disch := omega) only [isubu8, icnv64, imul64, iadd64]
  omega
theorem wide_two (b e : UInt8) (hb : isDigit b = true) (he : isDigit e = true) : wideT ((val [b, e] : Nat) : Int) 2 = [b, e] :=
  wide_val [b, e] 2 (by decide) (by rw [List.all_cons, hb, List.all_cons, he]; rfl) (.inl rfl)
theorem two_of (n : Int) (h : 0 ≤ n ∧ n < 100) : ∃ b e, wideT n 2 = [b, e] ∧ isDigit b = true ∧ isDigit e = true ∧ ∀ r, twoI (b :: e :: r) = n := by
  have hw := wide_len_of n.toNat 2 2 (by decide) (by decide) (by omega)
  rw [show ((n.toNat : Nat) : Int) = n by omega, show ((2 : Nat) : Int) = 2 from rfl] at hw
  obtain ⟨h1, h2, h3, h4, _⟩ := hw
  generalize wideT n 2 = W at *
  match W, h1, h2, h3, h4 with
  | [b, e], h1, h2, _, _ =>
    rw [List.all_cons, List.all_cons, Bool.and_eq_true, Bool.and_eq_true] at h1
    exact ⟨b, e, rfl, h1.1, h1.2.1, fun r => by rw [two_val b e r h1.1 h1.2.1, h2]; omega⟩
/-- The text of a stamp is read as the stamp. -/
theorem rd_text (y m d h i s : Int) (hB : stB y m d h i s = true) : rdP (stTxt y m d h i s) = ([y, m, d, h, i, s], 0) := by
  obtain ⟨hv, h1⟩ := stB_iff.1 hB
  obtain ⟨y1, y2, hv2⟩ := validB_iff.1 hv
  have hm := len_month hv2
  have hd : 1 ≤ d ∧ d ≤ 31 := ⟨hv2.1, by have := len_pos y m hm.1 hm.2; have := hv2.2; omega⟩
  obtain ⟨m1, m2, em, dm1, dm2, vm⟩ := two_of m (by omega)
  obtain ⟨d1, d2, ed, dd1, dd2, vd⟩ := two_of d (by omega)
  obtain ⟨c1, c2, eh, dh1, dh2, vh⟩ := two_of h (by omega)
  obtain ⟨i1, i2, ei, di1, di2, vi⟩ := two_of i (by omega)
  obtain ⟨s1, s2, es, ds1, ds2, vs⟩ := two_of s (by omega)
  have ht : stTxt y m d h i s = yrText y ++ [45, m1, m2, 45, d1, d2, 84, c1, c2, 58, i1, i2, 58, s1, s2] := by
    unfold stTxt yrText
    rw [if_pos hB, em, ed, eh, ei, es]
    simp
  have hy := yr_text y (by omega)
  rw [ht]
  generalize yrText y = Y at *
  generalize hT : [45, m1, m2, 45, d1, d2, 84, c1, c2, 58, i1, i2, 58, s1, s2] = T
  have hl : T.length = 15 := by rw [← hT]; rfl
  unfold rdP
  rw [List.length_append, hl, if_neg (by omega), show Y.length + 15 - 15 = Y.length by omega, List.take_left, List.drop_left]
  unfold rdQ
  have hk : rdOk T = true := by
    rw [← hT]
    show (rOk1 [45, m1, m2, 45, d1, d2, 84, c1, c2, 58, i1, i2, 58, s1, s2] 45 && (rOk1 [45, d1, d2, 84, c1, c2, 58, i1, i2, 58, s1, s2] 45 && (rOk1 [84, c1, c2, 58, i1, i2, 58, s1, s2] 84 && (rOk1 [58, i1, i2, 58, s1, s2] 58 && rOk1 [58, s1, s2] 58)))) = true
    unfold rOk1
    simp only [List.getD_cons_zero, List.getD_cons_succ, dm1, dm2, dd1, dd2, dh1, dh2, di1, di2, ds1, ds2]
    rfl
  have k0 : rVal T 0 = m := by rw [← hT]; exact vm _
  have k1 : rVal T 1 = d := by rw [← hT]; exact vd _
  have k2 : rVal T 2 = h := by rw [← hT]; exact vh _
  have k3 : rVal T 3 = i := by rw [← hT]; exact vi _
  have k4 : rVal T 4 = s := by rw [← hT]; exact vs _
  have w0 : yrW Y = 0 := by unfold yrW; rw [hy]
  have w1 : yrI Y = y := by unfold yrI; rw [hy]
  rw [if_pos hk, if_pos w0, k0, k1, k2, k3, k4, w1, if_pos hB]

theorem ok1_text (x : List UInt8) (c : UInt8) (hl : 3 ≤ x.length) (h : rOk1 x c = true) : c :: (wideT (val1 x) 2 ++ x.drop 3) = x := by
  obtain ⟨a, b, e, r, rfl⟩ := three hl
  unfold rOk1 at h
  simp only [List.getD_cons_zero, List.getD_cons_succ, Bool.and_eq_true, beq_iff_eq] at h
  obtain ⟨h1, h2, h3⟩ := h
  have hv : val1 (a :: b :: e :: r) = ((val [b, e] : Nat) : Int) := two_val b e r h2 h3
  rw [hv, wide_two b e h2 h3, h1]
  rfl
/-- What is read is written as it was. -/
theorem text_rd (x : List UInt8) (h : (rdP x).2 = 0) : ∃ y m d k i s, (rdP x).1 = [y, m, d, k, i, s] ∧ stTxt y m d k i s = x := by
  unfold rdP at *
  split at h
  · cases h
  rename_i h15
  rw [if_neg h15]
  have hl := rdP_len h15
  have hx := List.take_append_drop (x.length - 15) x
  generalize x.take (x.length - 15) = Y at *
  generalize x.drop (x.length - 15) = T at *
  unfold rdQ at *
  split at h
  · rename_i hk
    rw [if_pos hk]
    split at h
    · rename_i hw
      rw [if_pos hw]
      split at h
      · rename_i hB
        rw [if_pos hB]
        refine ⟨_, _, _, _, _, _, rfl, ?_⟩
        unfold rdOk at hk
        simp only [Bool.and_eq_true] at hk
        obtain ⟨k0, k1, k2, k3, k4⟩ := hk
        have t0 : 45 :: (wideT (rVal T 0) 2 ++ T.drop 3) = T := ok1_text T 45 (by omega) k0
        have t1 : 45 :: (wideT (rVal T 1) 2 ++ (T.drop 3).drop 3) = T.drop 3 := ok1_text (T.drop 3) 45 (by rw [List.length_drop]; omega) k1
        have t2 : 84 :: (wideT (rVal T 2) 2 ++ (T.drop 6).drop 3) = T.drop 6 := ok1_text (T.drop 6) 84 (by rw [List.length_drop]; omega) k2
        have t3 : 58 :: (wideT (rVal T 3) 2 ++ (T.drop 9).drop 3) = T.drop 9 := ok1_text (T.drop 9) 58 (by rw [List.length_drop]; omega) k3
        have t4 : 58 :: (wideT (rVal T 4) 2 ++ (T.drop 12).drop 3) = T.drop 12 := ok1_text (T.drop 12) 58 (by rw [List.length_drop]; omega) k4
        rw [List.drop_drop] at t1 t2 t3 t4
        have t5 : T.drop (12 + 3) = [] := List.drop_of_length_le (by omega)
        rw [t5, List.append_nil] at t4
        rw [show 9 + 3 = 12 from rfl, ← t4] at t3
        rw [show 6 + 3 = 9 from rfl, ← t3] at t2
        rw [show 3 + 3 = 6 from rfl, ← t2] at t1
        rw [← t1] at t0
        have hy := text_yr Y hw
        unfold yrText at hy
        unfold stTxt
        rw [if_pos hB, hy, ← hx, ← t0]
        simp only [List.append_assoc, List.cons_append]
        have tt : ∀ k, rVal (45 :: (wideT (rVal T 0) 2 ++ 45 :: (wideT (rVal T 1) 2 ++ 84 :: (wideT (rVal T 2) 2 ++ 58 :: (wideT (rVal T 3) 2 ++ 58 :: wideT (rVal T 4) 2))))) k = rVal T k := fun k => by rw [t0]
        simp only [tt]
      · cases h
    · rename_i hw
      exact absurd h hw
  · cases h
theorem rd_err (x : List UInt8) (h : (rdP x).2 ≠ 0) : (rdP x).1 = [0, 0, 0, 0, 0, 0] := by
  unfold rdP rdQ z6 at *
  repeat' split
  all_goals first | rfl | (exfalso; simp_all)
end Nt.Ev.YtmemhdilefmceaaDoor

set_option linter.unusedVariables false
set_option linter.unusedSimpArgs false
namespace Nt.Ev.YtmemhdilefmceaaDoor
open Go Nt Nt.Num Nt.Civil Go.Proofs.YtmemhdilefmceaaDoor

theorem of_secs (y m d h i s : Int) (hB : stB y m d h i s = true) : ofP (secsI y m d h i s) = ([y, m, d, h, i, s], 0) ∧ Fits (secsI y m d h i s) := by
  obtain ⟨hv, h1⟩ := stB_iff.1 hB
  obtain ⟨y1, y2, hv2⟩ := validB_iff.1 hv
  have hd := days_bd hv
  have e1 : secsI y m d h i s / 86400 = daysI y m d := by unfold secsI; omega
  have e2 : secsI y m d h i s % 86400 = h * 3600 + i * 60 + s := by unfold secsI; omega
  obtain ⟨_, _, _, _, _, _, _, _, hw, hn⟩ := date_facts (daysI y m d)
  obtain ⟨a1, a2, a3⟩ := days_inj hw hv2 hn
  have hr : inRange (daysI y m d) = true := by rw [range_year, a1]; exact ⟨y1, y2⟩
  refine ⟨?_, by unfold Fits secsI; omega⟩
  unfold ofP
  rw [e1, e2, if_pos hr, a1, a2, a3]
  rw [show (h * 3600 + i * 60 + s) / 3600 = h by omega, show (h * 3600 + i * 60 + s) / 60 % 60 = i by omega, show (h * 3600 + i * 60 + s) % 60 = s by omega]
theorem stTxt_len (y m d h i s : Int) : (stTxt y m d h i s).length ≤ 400 := by
  unfold stTxt
  split
  · rename_i hB
    obtain ⟨hv, h1⟩ := stB_iff.1 hB
    obtain ⟨y1, y2, hv2⟩ := validB_iff.1 hv
    have hm := len_month hv2
    have hd : 1 ≤ d ∧ d ≤ 31 := ⟨hv2.1, by have := len_pos y m hm.1 hm.2; have := hv2.2; omega⟩
    have lm := wide_len m 2 (by omega) (by omega)
    have ld := wide_len d 2 (by omega) (by omega)
    have lh := wide_len h 2 (by omega) (by omega)
    have li := wide_len i 2 (by omega) (by omega)
    have ls := wide_len s 2 (by omega) (by omega)
    have ly := wide_len y 4 (by omega) (by omega)
    have ly' := wide_len (-y) 4 (by omega) (by omega)
    split <;> (simp only [List.length_append, List.length_cons]; omega)
  · simp
theorem stTxt_nil (y m d h i s : Int) : bnot (seq (stTxt y m d h i s) []) = stB y m d h i s := by
  cases hB : stB y m d h i s with
  | true =>
    rw [bnot_iff, seq_iff]
    intro h0
    unfold stTxt at h0
    rw [if_pos hB] at h0
    simp at h0
  | false =>
    unfold stTxt
    rw [hB, if_neg (show ¬ false = true by decide)]; rfl
theorem stB_ev (y m d h i s : Int) (x : List UInt8) : Contract uE 8 [.agg [.int .i64 y, .int .i64 m, .int .i64 d, .int .i64 h, .int .i64 i, .int .i64 s], .str x] (.bool true) := by
  refine contract_of_body uE_ok lS2_ok 5 2 ?_
  rw [lB_top]
  by_cases hs : 1000 < x.length
  · rw [sel_pos (ilt_t (by rw [slen_nat]; omega))]
  rw [sel_neg (ilt_f (by rw [slen_nat]; omega))]
  have hx : ile (slen x) 1000 = true := ile_t (by rw [slen_nat]; omega)
  -- the text's part
  have hT : ∀ (q : Option V), q = sel (bnot (ieq (rdW x) 0))
      (sel (band (band (ieq (rdA 0 x) 0) (band (ieq (rdA 1 x) 0) (ieq (rdA 2 x) 0))) (band (ieq (rdA 3 x) 0) (band (ieq (rdA 4 x) 0) (ieq (rdA 5 x) 0))))
        (some (V.bool true))
        (sel (ieq (rdW x) 0)
          (some (V.bool (seq (stTxt (rdA 0 x) (rdA 1 x) (rdA 2 x) (rdA 3 x) (rdA 4 x) (rdA 5 x)) x)))
          (some (V.bool false))))
      (sel (ieq (rdW x) 0)
        (some (V.bool (seq (stTxt (rdA 0 x) (rdA 1 x) (rdA 2 x) (rdA 3 x) (rdA 4 x) (rdA 5 x)) x)))
        (some (V.bool false))) → q = some (.bool true) := by
    rintro q rfl
    by_cases h0 : (rdP x).2 = 0
    · have e0 : ieq (rdW x) 0 = true := ieq_t h0
      obtain ⟨a, b, c, d', e, f, h1, h2⟩ := text_rd x h0
      have r0 : rdA 0 x = a := by unfold rdA; rw [h1]; rfl
      have r1 : rdA 1 x = b := by unfold rdA; rw [h1]; rfl
      have r2 : rdA 2 x = c := by unfold rdA; rw [h1]; rfl
      have r3 : rdA 3 x = d' := by unfold rdA; rw [h1]; rfl
      have r4 : rdA 4 x = e := by unfold rdA; rw [h1]; rfl
      have r5 : rdA 5 x = f := by unfold rdA; rw [h1]; rfl
      rw [e0, sel_neg (by rfl), sel_pos rfl, r0, r1, r2, r3, r4, r5, h2, st_srefl]
    · have e0 : ieq (rdW x) 0 = false := ieq_f h0
      have h1 := rd_err x h0
      have r0 : rdA 0 x = 0 := by unfold rdA; rw [h1]; rfl
      have r1 : rdA 1 x = 0 := by unfold rdA; rw [h1]; rfl
      have r2 : rdA 2 x = 0 := by unfold rdA; rw [h1]; rfl
      have r3 : rdA 3 x = 0 := by unfold rdA; rw [h1]; rfl
      have r4 : rdA 4 x = 0 := by unfold rdA; rw [h1]; rfl
      have r5 : rdA 5 x = 0 := by unfold rdA; rw [h1]; rfl
      rw [e0, sel_pos (by rfl), r0, r1, r2, r3, r4, r5]
      rfl
  have hw : ieq (scW y m d h i s) 0 = stB y m d h i s := by
    unfold scW secsP
    cases hB : stB y m d h i s with
    | true => rw [if_pos rfl]; rfl
    | false => rw [if_neg (show ¬ false = true by decide)]; rfl
  rw [stTxt_nil, hw, st_brefl, sel_neg (by rfl), sel_neg (by rfl)]
  cases hB : stB y m d h i s with
  | false =>
    rw [sel_neg rfl, sel_pos hx]
    exact hT _ rfl
  | true =>
    obtain ⟨h1, h2⟩ := of_secs y m d h i s hB
    have h3 := rd_text y m d h i s hB
    have e1 : scI y m d h i s = secsI y m d h i s := by unfold scI secsP; rw [if_pos hB]
    have hl := stTxt_len y m d h i s
    rw [sel_pos rfl, e1, sel_pos (by rw [band_iff, ile_iff, ile_iff]; exact h2), sel_pos (ile_t (by rw [slen_nat]; omega))]
    have o0 : ofA 0 (secsI y m d h i s) = y := by unfold ofA; rw [h1]; rfl
    have o1 : ofA 1 (secsI y m d h i s) = m := by unfold ofA; rw [h1]; rfl
    have o2 : ofA 2 (secsI y m d h i s) = d := by unfold ofA; rw [h1]; rfl
    have o3 : ofA 3 (secsI y m d h i s) = h := by unfold ofA; rw [h1]; rfl
    have o4 : ofA 4 (secsI y m d h i s) = i := by unfold ofA; rw [h1]; rfl
    have o5 : ofA 5 (secsI y m d h i s) = s := by unfold ofA; rw [h1]; rfl
    have ow : ofW (secsI y m d h i s) = 0 := by unfold ofW; rw [h1]
    have q0 : rdA 0 (stTxt y m d h i s) = y := by unfold rdA; rw [h3]; rfl
    have q1 : rdA 1 (stTxt y m d h i s) = m := by unfold rdA; rw [h3]; rfl
    have q2 : rdA 2 (stTxt y m d h i s) = d := by unfold rdA; rw [h3]; rfl
    have q3 : rdA 3 (stTxt y m d h i s) = h := by unfold rdA; rw [h3]; rfl
    have q4 : rdA 4 (stTxt y m d h i s) = i := by unfold rdA; rw [h3]; rfl
    have q5 : rdA 5 (stTxt y m d h i s) = s := by unfold rdA; rw [h3]; rfl
    have qw : rdW (stTxt y m d h i s) = 0 := by unfold rdW; rw [h3]
    rw [o0, o1, o2, o3, o4, o5, ow, q0, q1, q2, q3, q4, q5, qw]
    simp only [st_refl]
    rw [sel_neg (by rfl), sel_neg (by rfl), sel_neg (by rfl), sel_neg (by rfl), sel_pos hx]
    exact hT _ rfl
end Nt.Ev.YtmemhdilefmceaaDoor

set_option linter.unusedVariables false
set_option linter.unusedSimpArgs false
set_option linter.unusedSectionVars false
namespace Nt.Ev.YtmemhdilefmceaaDoor
open Go Nt.Num Go.Proofs.YtmemhdilefmceaaDoor
open Nt.Civil
def cmp1 (a b : Int) : Int := if a < b then -1 else if b < a then 1 else 0
def or3 (a b c : Int) : Int := if a ≠ 0 then a else if b ≠ 0 then b else c
def cmp3 (y m d y' m' d' : Int) : Int := or3 (cmp1 y y') (cmp1 m m') (cmp1 d d')
noncomputable def oCmpS : FSpec := fun a => match a with | [.int .i64 a, .int .i64 b] => some (true, .int .i64 (cmp1 a b)) | _ => none
noncomputable def oOrS : FSpec := fun a => match a with | [.sl e [.int .i64] o [.int .i64 a, .int .i64 b, .int .i64 c]] => some (true, .int .i64 (or3 a b c)) | _ => none
noncomputable def oS : List (Nat × FSpec) := (60, oCmpS) :: (59, oOrS) :: lS2
noncomputable def lDaysS : FSpec := fun a => match a with | [.agg [.int .i64 y, .int .i64 m, .int .i64 d]] => some (true, .tup [.int .i64 (dyI y m d), .int .i64 (dyW y m d)]) | _ => none
noncomputable def lCmpS : FSpec := fun a => match a with | [.agg [.int .i64 y, .int .i64 m, .int .i64 d], .agg [.int .i64 y', .int .i64 m', .int .i64 d']] => some (true, .int .i64 (cmp3 y m d y' m' d')) | _ => none
noncomputable def lS3 : List (Nat × FSpec) := (31, lDaysS) :: (32, lCmpS) :: lS2

set_option maxRecDepth 100000 in
theorem oCmp_top (F : Nat) (a : Int) (b : Int) (K : V → Option V) :
    evBd uE (evFn uE lS2 F 3) F 60 [(V.int .i64 a), (V.int .i64 b)] K =
    sel (bnot (ieq a a))
      (sel (bnot (ieq b b))
        (K (V.int .i64 0))
        (K (V.int .i64 (-1))))
      (sel (bnot (ieq b b))
        (K (V.int .i64 1))
        (sel (ilt a b)
          (K (V.int .i64 (-1)))
          (sel (ilt b a)
            (K (V.int .i64 1))
            (K (V.int .i64 0))))) := by kernel_rfl


noncomputable def oOr_L0 (F : Nat) (ns : List Nat) (n : Nat) (x0 : List V) (x2 : Int) (x6 : List V) (x7 : Int) (x8 : Int) (K : V → Option V) : Option V :=
  loopAt uE lS2 F 3 59 [1, 1, 0, 1, 0] ns K n (mkSt 18 [(0, V.sl 3 [(Kd.int .i64)] none x0), (2, V.int .i64 x2), (3, V.int .i64 0), (6, V.sl 3 [(Kd.int .i64)] none x6), (7, V.int .i64 x7), (8, V.int .i64 x8)] [])

set_option maxRecDepth 100000 in
theorem oOr_top (F : Nat) (a : Int) (b : Int) (c : Int) (K : V → Option V) :
    evBd uE (evFn uE lS2 F 3) F 59 [(V.sl 3 [(Kd.int .i64)] none [(V.int .i64 a), (V.int .i64 b), (V.int .i64 c)])] K =
    oOr_L0 F [] F [(V.int .i64 a), (V.int .i64 b), (V.int .i64 c)] 0 [(V.int .i64 a), (V.int .i64 b), (V.int .i64 c)] (llen [(V.int .i64 a), (V.int .i64 b), (V.int .i64 c)]) 0 K := by kernel_rfl

set_option maxRecDepth 100000 in
theorem oOr_L0_zero (F : Nat) (ns : List Nat) (x0 : List V) (x2 : Int) (x6 : List V) (x7 : Int) (x8 : Int) (K : V → Option V) : oOr_L0 F ns 0 x0 x2 x6 x7 x8 K = none := by kernel_rfl
set_option maxRecDepth 100000 in
theorem oOr_L0_succ (F : Nat) (n : Nat) (x0 : List V) (x2 : Int) (x6 : List V) (x7 : Int) (x8 : Int) (K : V → Option V) :
    oOr_L0 F [] (n + 1) x0 x2 x6 x7 x8 K =
    sel (ilt x8 x7)
      (sel (band (ile 0 x8) (ilt x8 (llen x6)))
        (sel (bnot (ieq (asInt (acell (lget x6 x8) 0)) 0))
          (K (V.int .i64 (asInt (acell (lget x6 x8) 0))))
          (oOr_L0 F [] n x0 x2 x6 x7 (iadd .i64 x8 1) K))
        (none))
      (K (V.int .i64 0)) := by kernel_rfl


set_option maxRecDepth 100000 in
theorem oCC_top (F : Nat) (y : Int) (m : Int) (d : Int) (y' : Int) (m' : Int) (d' : Int) (K : V → Option V) :
    evBd uE (evFn uE oS F 2) F 32 [(V.agg [(V.int .i64 y), (V.int .i64 m), (V.int .i64 d)]), (V.agg [(V.int .i64 y'), (V.int .i64 m'), (V.int .i64 d')])] K =
    K (V.int .i64 (or3 (cmp1 y y') (cmp1 m m') (cmp1 d d'))) := by kernel_rfl



set_option maxRecDepth 100000 in
theorem lO_top (F : Nat) (t : Int) (u : Int) (K : V → Option V) :
    evBd uE (evFn uE lS3 F 2) F 9 [(V.int .i64 t), (V.int .i64 u)] K =
    sel (band (ile (-9223372036854775808) t) (ile t 9223372036854775807))
      (sel (band (ile (-9223372036854775808) u) (ile u 9223372036854775807))
        (sel (band (ile (-9223372036854775808) t) (ile t 9223372036854775807))
          (sel (bnot (ieq (ofW t) 0))
            (sel (ile 0 (mdI t))
              (K (V.bool (ilt (mdI t) 86400)))
              (K (V.bool false)))
            (sel (bnot (ieq (ofW u) 0))
              (sel (ile 0 (mdI t))
                (K (V.bool (ilt (mdI t) 86400)))
                (K (V.bool false)))
              (sel (bnot (ieq (dyI (ofA 0 t) (ofA 1 t) (ofA 2 t)) (dvI t)))
                (K (V.bool false))
                (sel (bnot (ieq (dyW (ofA 0 t) (ofA 1 t) (ofA 2 t)) 0))
                  (K (V.bool false))
                  (sel (bnot (ieq (mdI t) (iadd .i64 (iadd .i64 (imul .i64 (ofA 3 t) 3600) (imul .i64 (ofA 4 t) 60)) (ofA 5 t))))
                    (K (V.bool false))
                    (sel (bnot (ieq (iadd .i64 (imul .i64 (dvI t) 86400) (mdI t)) t))
                      (K (V.bool false))
                      (sel (ilt (cmp3 (ofA 0 t) (ofA 1 t) (ofA 2 t) (ofA 0 u) (ofA 1 u) (ofA 2 u)) 0)
                        (sel (bnot (beq true (ilt t u)))
                          (K (V.bool false))
                          (sel (ilt (ofA 0 t) 0)
                            (K (V.bool true))
                            (sel (ilt 9999 (ofA 0 t))
                              (K (V.bool true))
                              (sel (ilt (ofA 0 u) 0)
                                (K (V.bool true))
                                (sel (ilt 9999 (ofA 0 u))
                                  (K (V.bool true))
                                  (K (V.bool (beq (slt (stTxt (ofA 0 t) (ofA 1 t) (ofA 2 t) (ofA 3 t) (ofA 4 t) (ofA 5 t)) (stTxt (ofA 0 u) (ofA 1 u) (ofA 2 u) (ofA 3 u) (ofA 4 u) (ofA 5 u))) (ilt t u)))))))))
                        (sel (ieq (cmp3 (ofA 0 t) (ofA 1 t) (ofA 2 t) (ofA 0 u) (ofA 1 u) (ofA 2 u)) 0)
                          (sel (bnot (beq (ilt (iadd .i64 (iadd .i64 (imul .i64 (ofA 3 t) 3600) (imul .i64 (ofA 4 t) 60)) (ofA 5 t)) (iadd .i64 (iadd .i64 (imul .i64 (ofA 3 u) 3600) (imul .i64 (ofA 4 u) 60)) (ofA 5 u))) (ilt t u)))
                            (K (V.bool false))
                            (sel (ilt (ofA 0 t) 0)
                              (K (V.bool true))
                              (sel (ilt 9999 (ofA 0 t))
                                (K (V.bool true))
                                (sel (ilt (ofA 0 u) 0)
                                  (K (V.bool true))
                                  (sel (ilt 9999 (ofA 0 u))
                                    (K (V.bool true))
                                    (K (V.bool (beq (slt (stTxt (ofA 0 t) (ofA 1 t) (ofA 2 t) (ofA 3 t) (ofA 4 t) (ofA 5 t)) (stTxt (ofA 0 u) (ofA 1 u) (ofA 2 u) (ofA 3 u) (ofA 4 u) (ofA 5 u))) (ilt t u)))))))))
                          (sel (bnot (beq false (ilt t u)))
                            (K (V.bool false))
                            (sel (ilt (ofA 0 t) 0)
                              (K (V.bool true))
                              (sel (ilt 9999 (ofA 0 t))
                                (K (V.bool true))
                                (sel (ilt (ofA 0 u) 0)
                                  (K (V.bool true))
                                  (sel (ilt 9999 (ofA 0 u))
                                    (K (V.bool true))
                                    (K (V.bool (beq (slt (stTxt (ofA 0 t) (ofA 1 t) (ofA 2 t) (ofA 3 t) (ofA 4 t) (ofA 5 t)) (stTxt (ofA 0 u) (ofA 1 u) (ofA 2 u) (ofA 3 u) (ofA 4 u) (ofA 5 u))) (ilt t u)))))))))))))))))
          (none))
        (none))
      (none) := by kernel_rfl



end Nt.Ev.YtmemhdilefmceaaDoor

set_option linter.unusedVariables false
set_option linter.unusedSimpArgs false
namespace Nt.Ev.YtmemhdilefmceaaDoor
open Go Nt Nt.Num Nt.Civil

theorem days_lex {y m d y' m' d' : Int} (h : valid y m d) (h' : valid y' m' d') (hl : y < y' ∨ y = y' ∧ (m < m' ∨ m = m' ∧ d < d')) : daysI y m d < daysI y' m' d' := by
  have hm := len_month h
  have hm' := len_month h'
  rcases hl with hy | ⟨rfl, hm1 | ⟨rfl, hd⟩⟩
  · have h1 := days_year h
    have h2 := days_year h'
    have h3 := ahead_le (show y + 1 ≤ y' by omega)
    omega
  · have h1 := cum_step y m hm.1 hm.2
    have h2 := cum_mono y (m' - (m + 1)).toNat (m + 1) (by omega) (by omega)
    rw [show m + 1 + ((m' - (m + 1)).toNat : Int) = m' by omega] at h2
    have h3 := h.2
    have h4 := h'.1
    unfold daysI ydI
    omega
  · unfold daysI ydI
    omega
theorem days_lt {y m d y' m' d' : Int} (h : valid y m d) (h' : valid y' m' d') : daysI y m d < daysI y' m' d' ↔ (y < y' ∨ y = y' ∧ (m < m' ∨ m = m' ∧ d < d')) := by
  refine ⟨fun hd => ?_, days_lex h h'⟩
  apply Classical.byContradiction
  intro hn
  by_cases he : y = y' ∧ m = m' ∧ d = d'
  · obtain ⟨rfl, rfl, rfl⟩ := he
    omega
  · have := days_lex h' h (by omega)
    omega

theorem val_cons (c : UInt8) (t : List UInt8) : val (c :: t) = (c.toNat - 48) * 10 ^ t.length + val t := by
  have e : val (c :: t) = t.foldl (fun n c => 10 * n + (c.toNat - 48)) (10 * 0 + (c.toNat - 48)) := rfl
  rw [e, val_from, Nat.mul_zero, Nat.zero_add]
theorem less_digits : ∀ (a b : List UInt8), a.length = b.length → a.all isDigit = true → b.all isDigit = true → (Op.bytesLess a b = true ↔ val a < val b)
  | [], [], _, _, _ => by
    constructor
    · intro h; cases h
    · intro h; exact absurd h (by decide)
  | [], _ :: _, h, _, _ => by cases h
  | _ :: _, [], h, _, _ => by cases h
  | c :: a, e :: b, h, ha, hb => by
    rw [List.all_cons, Bool.and_eq_true] at ha hb
    have hl : a.length = b.length := by simpa using h
    have ih := less_digits a b hl ha.2 hb.2
    have la := val_lt a ha.2 a.length
    have lb := val_lt b hb.2 b.length
    rw [List.take_length] at la lb
    have hc := ha.1
    have he := hb.1
    unfold isDigit at hc he
    rw [Bool.and_eq_true, decide_eq_true_iff, decide_eq_true_iff] at hc he
    rw [val_cons, val_cons, ← hl]
    rw [← hl] at lb
    have hx : Op.bytesLess (c :: a) (e :: b) = (decide (c < e) || (c == e && Op.bytesLess a b)) := rfl
    rw [hx, Bool.or_eq_true, Bool.and_eq_true, decide_eq_true_iff, beq_iff_eq, ih, UInt8.lt_iff_toNat_lt, ← UInt8.toNat_inj]
    generalize 10 ^ a.length = P at *
    have mono : ∀ u v : Nat, u < v → u * P + P ≤ v * P := fun u v huv => by
      have := Nat.mul_le_mul_right P (show u + 1 ≤ v by omega)
      rwa [Nat.add_mul, Nat.one_mul] at this
    by_cases h1 : c.toNat < e.toNat
    · have := mono (c.toNat - 48) (e.toNat - 48) (by omega)
      constructor
      · intro _; omega
      · intro _; exact .inl h1
    · by_cases h2 : c.toNat = e.toNat
      · rw [h2]
        constructor
        · rintro (h3 | h3)
          · omega
          · omega
        · intro h3; exact .inr ⟨rfl, by omega⟩
      · have := mono (e.toNat - 48) (c.toNat - 48) (by omega)
        constructor
        · rintro (h3 | h3)
          · omega
          · exact absurd h3.1 h2
        · intro h3; omega
theorem less_app : ∀ (a b r r' : List UInt8), a.length = b.length → Op.bytesLess (a ++ r) (b ++ r') = (Op.bytesLess a b || (a == b && Op.bytesLess r r'))
  | [], [], r, r', _ => by
    show Op.bytesLess r r' = (Op.bytesLess [] [] || (true && Op.bytesLess r r'))
    rw [show Op.bytesLess [] [] = false from rfl, Bool.true_and, Bool.false_or]
  | [], _ :: _, _, _, h => by cases h
  | _ :: _, [], _, _, h => by cases h
  | c :: a, e :: b, r, r', h => by
    have ih := less_app a b r r' (by simpa using h)
    have h1 : Op.bytesLess (c :: a ++ r) (e :: b ++ r') = (decide (c < e) || (c == e && Op.bytesLess (a ++ r) (b ++ r'))) := rfl
    have h2 : Op.bytesLess (c :: a) (e :: b) = (decide (c < e) || (c == e && Op.bytesLess a b)) := rfl
    have h3 : ((c :: a) == (e :: b)) = (c == e && a == b) := rfl
    rw [h1, h2, h3, ih]
    cases decide (c < e) <;> cases (c == e) <;> cases (a == b) <;> cases Op.bytesLess a b <;> rfl
theorem less_wide (n m : Int) (k : Nat) (hk : 1 ≤ k) (hn : 0 ≤ n ∧ n < ((10 ^ k : Nat) : Int)) (hm : 0 ≤ m ∧ m < ((10 ^ k : Nat) : Int)) (r r' : List UInt8) :
    Op.bytesLess (wideT n k ++ r) (wideT m k ++ r') = true ↔ (n < m ∨ n = m ∧ Op.bytesLess r r' = true) := by
  obtain ⟨n', rfl⟩ : ∃ n' : Nat, n = n' := ⟨n.toNat, by omega⟩
  obtain ⟨m', rfl⟩ : ∃ m' : Nat, m = m' := ⟨m.toNat, by omega⟩
  obtain ⟨n1, n2, n3, n4, _⟩ := wide_len_of n' k k hk (Nat.le_refl k) (by omega)
  obtain ⟨m1, m2, m3, m4, _⟩ := wide_len_of m' k k hk (Nat.le_refl k) (by omega)
  rw [less_app _ _ _ _ (by omega), Bool.or_eq_true, Bool.and_eq_true, less_digits _ _ (by omega) n1 m1, n2, m2, beq_iff_eq]
  constructor
  · rintro (h | ⟨h1, h2⟩)
    · exact .inl (by omega)
    · refine .inr ⟨?_, h2⟩
      have := congrArg val h1
      rw [n2, m2] at this
      omega
  · rintro (h | ⟨h1, h2⟩)
    · exact .inl (by omega)
    · refine .inr ⟨?_, h2⟩
      rw [h1]
theorem less_same (c : UInt8) (r r' : List UInt8) : Op.bytesLess (c :: r) (c :: r') = Op.bytesLess r r' := by
  have h1 : Op.bytesLess (c :: r) (c :: r') = (decide (c < c) || (c == c && Op.bytesLess r r')) := rfl
  have h2 : decide (c < c) = false := by rw [decide_eq_false_iff_not, UInt8.lt_iff_toNat_lt]; omega
  have h3 : (c == c) = true := by simp
  rw [h1, h2, h3, Bool.false_or, Bool.true_and]
theorem less_text (y m d h i s y' m' d' h' i' s' : Int) (hB : stB y m d h i s = true) (hB' : stB y' m' d' h' i' s' = true) (hy : 0 ≤ y ∧ y ≤ 9999) (hy' : 0 ≤ y' ∧ y' ≤ 9999) :
    slt (stTxt y m d h i s) (stTxt y' m' d' h' i' s') = true ↔ (y < y' ∨ y = y' ∧ (m < m' ∨ m = m' ∧ (d < d' ∨ d = d' ∧ (h < h' ∨ h = h' ∧ (i < i' ∨ i = i' ∧ s < s'))))) := by
  have bd : ∀ {y m d h i s : Int}, stB y m d h i s = true → (0 ≤ m ∧ m < 100) ∧ (0 ≤ d ∧ d < 100) ∧ (0 ≤ h ∧ h < 100) ∧ (0 ≤ i ∧ i < 100) ∧ (0 ≤ s ∧ s < 100) := by
    intro y m d h i s hB
    obtain ⟨hv, h1⟩ := stB_iff.1 hB
    obtain ⟨y1, y2, hv2⟩ := validB_iff.1 hv
    have hm := len_month hv2
    have hd : 1 ≤ d ∧ d ≤ 31 := ⟨hv2.1, by have := len_pos y m hm.1 hm.2; have := hv2.2; omega⟩
    omega
  obtain ⟨b1, b2, b3, b4, b5⟩ := bd hB
  obtain ⟨c1, c2, c3, c4, c5⟩ := bd hB'
  unfold stTxt slt
  rw [if_pos hB, if_pos hB', if_neg (by omega), if_neg (by omega)]
  have p4 : ((10 ^ 4 : Nat) : Int) = 10000 := rfl
  have p2 : ((10 ^ 2 : Nat) : Int) = 100 := rfl
  have w4 := fun r r' => less_wide y y' 4 (by decide) (by rw [p4]; omega) (by rw [p4]; omega) r r'
  have w2 := fun n m (hn : 0 ≤ n ∧ n < 100) (hm : 0 ≤ m ∧ m < 100) r r' => less_wide n m 2 (by decide) (by rw [p2]; omega) (by rw [p2]; omega) r r'
  have q4 : ((4 : Nat) : Int) = 4 := rfl
  have q2 : ((2 : Nat) : Int) = 2 := rfl
  rw [q4] at w4
  rw [q2] at w2
  have w5 : Op.bytesLess (wideT s 2) (wideT s' 2) = true ↔ s < s' := by
    have := w2 s s' b5 c5 [] []
    rw [List.append_nil, List.append_nil, show Op.bytesLess [] [] = false from rfl] at this
    rw [this]
    constructor
    · rintro (h | ⟨_, h⟩)
      · exact h
      · cases h
    · exact fun h => .inl h
  simp only [List.append_assoc, List.cons_append]
  rw [w4, less_same, w2 m m' b1 c1, less_same, w2 d d' b2 c2, less_same, w2 h h' b3 c3, less_same, w2 i i' b4 c4, less_same, w5]
end Nt.Ev.YtmemhdilefmceaaDoor

set_option linter.unusedVariables false
set_option linter.unusedSimpArgs false
namespace Nt.Ev.YtmemhdilefmceaaDoor
open Go Nt Nt.Num Nt.Civil Go.Proofs.YtmemhdilefmceaaDoor

theorem oCmpS_ok (a b : Int) (hc : true = true) : Contract uE 60 [.int .i64 a, .int .i64 b] (.int .i64 (cmp1 a b)) := by
  refine contract_of_body uE_ok lS2_ok 5 3 ?_
  rw [oCmp_top, st_refl, st_refl, sel_neg (by rfl), sel_neg (by rfl)]
  unfold cmp1
  simp only [sel_if, ilt_iff]
  repeat' split
  all_goals rfl
theorem oOr_ev (a b c : Int) : Contract uE 59 [.sl 3 [.int .i64] none [.int .i64 a, .int .i64 b, .int .i64 c]] (.int .i64 (or3 a b c)) := by
  refine contract_of_body uE_ok lS2_ok 5 3 ?_
  rw [oOr_top, oOr_L0_succ, oOr_L0_succ, oOr_L0_succ, oOr_L0_succ]
  have e : sel (bnot (ieq a 0)) (some (V.int .i64 a)) (sel (bnot (ieq b 0)) (some (V.int .i64 b)) (sel (bnot (ieq c 0)) (some (V.int .i64 c)) (some (V.int .i64 0)))) = some (.int .i64 (or3 a b c)) := by
    unfold or3
    simp only [sel_if, bnot_iff, ieq_iff]
    repeat' split
    all_goals first | rfl | (congr 2; omega)
  exact e
theorem oOrS_ok (e : Nat) (o : Option Nat) (a b c : Int) (hc : true = true) : Contract uE 59 [.sl e [.int .i64] o [.int .i64 a, .int .i64 b, .int .i64 c]] (.int .i64 (or3 a b c)) := by
  intro G w vs hG hg hp
  refine oOr_ev a b c G w vs hG hg ?_
  obtain ⟨x, rfl, hx⟩ := PW_one hp
  refine .cons ?_ .nil
  unfold rep at hx ⊢
  exact hx
theorem oS_ok : SOk uE oS := by
  unfold oS
  refine SOk.cons (fun args r h => ?_) (SOk.cons (fun args r h => ?_) (lS2_ok))
  · unfold oCmpS at h
    split at h
    · simp only [Option.some.injEq, Prod.mk.injEq] at h
      obtain ⟨hc, rfl⟩ := h
      exact oCmpS_ok _ _ rfl
    · cases h
  · unfold oOrS at h
    split at h
    · simp only [Option.some.injEq, Prod.mk.injEq] at h
      obtain ⟨hc, rfl⟩ := h
      exact oOrS_ok _ _ _ _ _ rfl
    · cases h

theorem lCmpS_ok (y m d y' m' d' : Int) (hc : true = true) : Contract uE 32 [.agg [.int .i64 y, .int .i64 m, .int .i64 d], .agg [.int .i64 y', .int .i64 m', .int .i64 d']] (.int .i64 (cmp3 y m d y' m' d')) := by
  refine contract_of_body uE_ok oS_ok 5 2 ?_
  rw [oCC_top]
  rfl
theorem lDaysS_ok (y m d : Int) (hc : true = true) : Contract uE 31 [.agg [.int .i64 y, .int .i64 m, .int .i64 d]] (.tup [.int .i64 (dyI y m d), .int .i64 (dyW y m d)]) := toU (vDays_ev y m d)
theorem lS3_ok : SOk uE lS3 := by
  unfold lS3
  refine SOk.cons (fun args r h => ?_) (SOk.cons (fun args r h => ?_) (lS2_ok))
  · unfold lDaysS at h
    split at h
    · simp only [Option.some.injEq, Prod.mk.injEq] at h
      obtain ⟨hc, rfl⟩ := h
      exact lDaysS_ok _ _ _ rfl
    · cases h
  · unfold lCmpS at h
    split at h
    · simp only [Option.some.injEq, Prod.mk.injEq] at h
      obtain ⟨hc, rfl⟩ := h
      exact lCmpS_ok _ _ _ _ _ _ rfl
    · cases h


theorem cmp1_spec (a b : Int) : (cmp1 a b < 0 ↔ a < b) ∧ (cmp1 a b = 0 ↔ a = b) := by
  unfold cmp1
  repeat' split
  all_goals (constructor <;> omega)
theorem cmp3_spec (y m d y' m' d' : Int) : (cmp3 y m d y' m' d' < 0 ↔ (y < y' ∨ y = y' ∧ (m < m' ∨ m = m' ∧ d < d'))) ∧ (cmp3 y m d y' m' d' = 0 ↔ y = y' ∧ m = m' ∧ d = d') := by
  have h1 := cmp1_spec y y'
  have h2 := cmp1_spec m m'
  have h3 := cmp1_spec d d'
  unfold cmp3
  generalize cmp1 y y' = p at *
  generalize cmp1 m m' = q at *
  generalize cmp1 d d' = r at *
  unfold or3
  repeat' split
  all_goals (constructor <;> omega)
theorem ord_tail (y y2 : Int) (b c : Bool) (h : 0 ≤ y → y ≤ 9999 → 0 ≤ y2 → y2 ≤ 9999 → b = c) :
    sel (ilt y 0) (some (V.bool true)) (sel (ilt 9999 y) (some (.bool true)) (sel (ilt y2 0) (some (.bool true)) (sel (ilt 9999 y2) (some (.bool true)) (some (.bool (beq b c)))))) = some (.bool true) := by
  simp only [sel_if, ilt_iff]
  repeat' split
  all_goals first | rfl | skip
  rw [h (by omega) (by omega) (by omega) (by omega), st_brefl]

theorem of_facts (t : Int) (h : ofW t = 0) : -40000 ≤ ofA 0 t ∧ ofA 0 t ≤ 40000 ∧ valid (ofA 0 t) (ofA 1 t) (ofA 2 t) ∧ daysI (ofA 0 t) (ofA 1 t) (ofA 2 t) = t / 86400 ∧ ofA 3 t = t % 86400 / 3600 ∧ ofA 4 t = t % 86400 / 60 % 60 ∧ ofA 5 t = t % 86400 % 60 := by
  have hr : inRange (t / 86400) = true := by
    cases hr : inRange (t / 86400) with
    | true => rfl
    | false =>
      unfold ofW ofP at h
      rw [hr, if_neg (by decide)] at h
      cases h
  have hp : ofP t = ([dY (t / 86400), dM (t / 86400), dD (t / 86400), t % 86400 / 3600, t % 86400 / 60 % 60, t % 86400 % 60], 0) := by
    unfold ofP; rw [if_pos hr]
  obtain ⟨_, _, _, _, _, _, _, _, hv, hd⟩ := date_facts (t / 86400)
  obtain ⟨y1, y2⟩ := (range_year _).1 hr
  unfold ofA
  rw [hp]
  exact ⟨y1, y2, hv, hd, rfl, rfl, rfl⟩
theorem secs_sum (h i s : Int) (hh : 0 ≤ h ∧ h ≤ 23) (hi : 0 ≤ i ∧ i ≤ 59) (hs : 0 ≤ s ∧ s ≤ 59) : iadd .i64 (iadd .i64 (imul .i64 h 3600) (imul .i64 i 60)) s = h * 3600 + i * 60 + s := by
  simp (disch := omega) only [iadd64, imul64]

theorem lex6 (y m d y' m' d' : Int) (X : Prop) : (y < y' ∨ y = y' ∧ (m < m' ∨ m = m' ∧ (d < d' ∨ d = d' ∧ X))) ↔ (y < y' ∨ y = y' ∧ (m < m' ∨ m = m' ∧ d < d')) ∨ ((y = y' ∧ m = m' ∧ d = d') ∧ X) := by
  by_cases hX : X
  · simp only [hX, and_true]
    constructor <;> (intro h; omega)
  · simp only [hX, and_false, or_false]
theorem hms_lt (n n' : Int) (hn : 0 ≤ n ∧ n < 86400) (hn' : 0 ≤ n' ∧ n' < 86400) :
    (n / 3600 < n' / 3600 ∨ n / 3600 = n' / 3600 ∧ (n / 60 % 60 < n' / 60 % 60 ∨ n / 60 % 60 = n' / 60 % 60 ∧ n % 60 < n' % 60)) ↔ n < n' := by
  have h1 : n = n / 3600 * 3600 + n / 60 % 60 * 60 + n % 60 := by omega
  have h2 : n' = n' / 3600 * 3600 + n' / 60 % 60 * 60 + n' % 60 := by omega
  have b1 : 0 ≤ n / 60 % 60 ∧ n / 60 % 60 < 60 ∧ 0 ≤ n % 60 ∧ n % 60 < 60 := by omega
  have b2 : 0 ≤ n' / 60 % 60 ∧ n' / 60 % 60 < 60 ∧ 0 ≤ n' % 60 ∧ n' % 60 < 60 := by omega
  generalize n / 3600 = a at *
  generalize n / 60 % 60 = b at *
  generalize n % 60 = c at *
  generalize n' / 3600 = a' at *
  generalize n' / 60 % 60 = b' at *
  generalize n' % 60 = c' at *
  constructor
  · intro h; omega
  · intro h; omega
theorem stO_ev (t u : Int) (ht : Fits t) (hu : Fits u) : Contract uE 9 [.int .i64 t, .int .i64 u] (.bool true) := by
  refine contract_of_body uE_ok lS3_ok 5 2 ?_
  have hm : ∀ t : Int, 0 ≤ t % 86400 ∧ t % 86400 < 86400 := fun t => by omega
  have m1 : ile 0 (mdI t) = true := ile_t (hm t).1
  have m2 : ilt (mdI t) 86400 = true := ilt_t (hm t).2
  rw [lO_top, sel_pos (show band (ile (-9223372036854775808) t) (ile t 9223372036854775807) = true by rw [band_iff, ile_iff, ile_iff]; exact ht), sel_pos (show band (ile (-9223372036854775808) u) (ile u 9223372036854775807) = true by rw [band_iff, ile_iff, ile_iff]; exact hu),
    sel_pos (show band (ile (-9223372036854775808) t) (ile t 9223372036854775807) = true by rw [band_iff, ile_iff, ile_iff]; exact ht)]
  by_cases h1 : ofW t = 0
  · by_cases h2 : ofW u = 0
    · obtain ⟨a1, a2, av, ad, a3, a4, a5⟩ := of_facts t h1
      obtain ⟨b1, b2, bv, bd, b3, b4, b5⟩ := of_facts u h2
      rw [sel_neg (by rw [ieq_t h1]; rfl), sel_neg (by rw [ieq_t h2]; rfl)]
      have hA : stB (ofA 0 t) (ofA 1 t) (ofA 2 t) (ofA 3 t) (ofA 4 t) (ofA 5 t) = true := stB_iff.2 ⟨validB_iff.2 ⟨a1, a2, av⟩, by omega⟩
      have hB : stB (ofA 0 u) (ofA 1 u) (ofA 2 u) (ofA 3 u) (ofA 4 u) (ofA 5 u) = true := stB_iff.2 ⟨validB_iff.2 ⟨b1, b2, bv⟩, by omega⟩
      have hlt := days_lt av bv
      have hgt := days_lt bv av
      have hc := cmp3_spec (ofA 0 t) (ofA 1 t) (ofA 2 t) (ofA 0 u) (ofA 1 u) (ofA 2 u)
      have htx := less_text _ _ _ _ _ _ _ _ _ _ _ _ hA hB
      have hdy : daysP (ofA 0 t) (ofA 1 t) (ofA 2 t) = (t / 86400, 0) := by
        unfold daysP; rw [if_pos (validB_iff.2 ⟨a1, a2, av⟩), ad]
      have eT : t / 86400 * 86400 + t % 86400 = t := by omega
      have eU : u / 86400 * 86400 + u % 86400 = u := by omega
      have rT := hm t
      have rU := hm u
      rw [ad, bd] at hlt
      rw [ad, bd] at hgt
      have s1 := secs_sum (ofA 3 t) (ofA 4 t) (ofA 5 t) (by omega) (by omega) (by omega)
      have s2 := secs_sum (ofA 3 u) (ofA 4 u) (ofA 5 u) (by omega) (by omega) (by omega)
      have n1 : ofA 3 t * 3600 + ofA 4 t * 60 + ofA 5 t = t % 86400 := by omega
      have n2 : ofA 3 u * 3600 + ofA 4 u * 60 + ofA 5 u = u % 86400 := by omega
      rw [n1] at s1
      rw [n2] at s2
      rw [s1, s2]
      have e1 : dyI (ofA 0 t) (ofA 1 t) (ofA 2 t) = t / 86400 := by unfold dyI; rw [hdy]
      have e2 : dyW (ofA 0 t) (ofA 1 t) (ofA 2 t) = 0 := by unfold dyW; rw [hdy]
      have e3 : iadd .i64 (imul .i64 (dvI t) 86400) (mdI t) = t := by
        unfold dvI mdI
        have hb := days_bd (validB_iff.2 ⟨a1, a2, av⟩)
        rw [ad] at hb
        rw [imul64 (by omega), iadd64 (by omega), eT]
      have e4 : mdI t = t % 86400 := rfl
      have e5 : dvI t = t / 86400 := rfl
      have n0 : bnot true = false := rfl
      rw [e1, e2, e3, e4, e5, st_refl, st_refl, st_refl, st_refl, sel_neg n0, sel_neg n0, sel_neg n0, sel_neg n0]
      have q0 : cmp3 (ofA 0 t) (ofA 1 t) (ofA 2 t) (ofA 0 u) (ofA 1 u) (ofA 2 u) = 0 ↔ t / 86400 = u / 86400 := by
        constructor
        · intro h
          obtain ⟨q1, q2, q3⟩ := hc.2.1 h
          rw [← ad, ← bd, q1, q2, q3]
        · intro h
          exact hc.2.2 (days_inj av bv (by rw [ad, bd, h]))
      have q1 : cmp3 (ofA 0 t) (ofA 1 t) (ofA 2 t) (ofA 0 u) (ofA 1 u) (ofA 2 u) < 0 ↔ t / 86400 < u / 86400 := hc.1.trans hlt.symm
      have hs : 0 ≤ ofA 0 t → ofA 0 t ≤ 9999 → 0 ≤ ofA 0 u → ofA 0 u ≤ 9999 → slt (stTxt (ofA 0 t) (ofA 1 t) (ofA 2 t) (ofA 3 t) (ofA 4 t) (ofA 5 t)) (stTxt (ofA 0 u) (ofA 1 u) (ofA 2 u) (ofA 3 u) (ofA 4 u) (ofA 5 u)) = ilt t u := fun k1 k2 k3 k4 => by
        rw [Bool.eq_iff_iff, htx ⟨k1, k2⟩ ⟨k3, k4⟩, ilt_iff, lex6, ← hlt, ← hc.2, a3, a4, a5, b3, b4, b5, hms_lt _ _ rT rU]
        rw [q0]
        clear q0 q1 hlt hgt hc htx s1 s2 n1 n2 a3 a4 a5 b3 b4 b5 av bv ad bd hA hB
        omega
      have tail := ord_tail (ofA 0 t) (ofA 0 u) _ _ hs
      clear hs hlt hgt hc htx s1 s2 n1 n2 a3 a4 a5 b3 b4 b5 av bv ad bd hA hB
      generalize cmp3 (ofA 0 t) (ofA 1 t) (ofA 2 t) (ofA 0 u) (ofA 1 u) (ofA 2 u) = c at *
      by_cases c1 : c < 0
      · have k : ilt t u = true := ilt_t (by omega)
        rw [sel_pos (ilt_t c1), sel_neg (by rw [k]; rfl)]
        exact tail
      · rw [sel_neg (ilt_f (by omega))]
        by_cases c2 : c = 0
        · have k : ilt (t % 86400) (u % 86400) = ilt t u := by
            rw [Bool.eq_iff_iff, ilt_iff, ilt_iff]
            omega
          rw [sel_pos (ieq_t c2), sel_neg (by rw [k, st_brefl]; rfl)]
          exact tail
        · have k : ilt t u = false := ilt_f (by omega)
          rw [sel_neg (ieq_f c2), sel_neg (by rw [k]; rfl)]
          exact tail
    · rw [sel_neg (by rw [ieq_t h1]; rfl), sel_pos (by rw [ieq_f h2]; rfl), sel_pos m1, m2]
  · rw [sel_pos (by rw [ieq_f h1]; rfl), sel_pos m1, m2]
end Nt.Ev.YtmemhdilefmceaaDoor
