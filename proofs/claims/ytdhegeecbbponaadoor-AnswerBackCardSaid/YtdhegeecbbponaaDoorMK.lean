/-
  Stamp: equations of functions, as the evaluator prints them. Stamps: Right, Secs, Of, Split, both sides. Stamp2: equations of functions, as the evaluator prints them. Stamps: Text and Read, both sides.
-/
import Derived.Test.YtdhegeecbbponaaDoorMI
import Derived.Test.YtdhegeecbbponaaDoorME
set_option linter.unusedVariables false
set_option linter.unusedSimpArgs false
set_option linter.unusedSectionVars false
namespace Nt.Ev.YtdhegeecbbponaaDoor
open Go Nt.Num Go.Proofs.YtdhegeecbbponaaDoor
open Nt.Civil
def daY (n : Int) : Int := (dateP n).1
def daM (n : Int) : Int := (dateP n).2.1
def daD (n : Int) : Int := (dateP n).2.2.1
def daW (n : Int) : Int := (dateP n).2.2.2
noncomputable def sdivS : FSpec := fun a => match a with | [.int .i64 a, .int .i64 b] => some (band (band (ile (-9223372036854775808) a) (ile a 9223372036854775807)) (band (ilt 0 b) (ile b 1000000)), .tup [.int .i64 (fq a b), .int .i64 (fr a b), .int .i64 0]) | _ => none
noncomputable def sdivR : FSpec := fun a => match a with | [.int .i64 a, .int .i64 b] => some (band (band (ile (-9223372036854775808) a) (ile a 9223372036854775807)) (band (ilt 0 b) (ile b 1000000)), .tup [.int .i64 (fq a b), .int .i64 (fr a b), .int .i64 0]) | _ => none
noncomputable def srightS : FSpec := fun a => match a with | [.agg [.int .i64 y, .int .i64 m, .int .i64 d]] => some (true, .bool (validB y m d)) | _ => none
noncomputable def sdateS : FSpec := fun a => match a with | [.int .i64 n] => some (band (ile (-9223372036854775808) n) (ile n 9223372036854775807), .tup [.agg [.int .i64 (daY n), .int .i64 (daM n), .int .i64 (daD n)], .int .i64 (daW n)]) | _ => none
noncomputable def stS : List (Nat × FSpec) := (65, sdivS) :: (71, sdivR) :: (67, srightS) :: (72, srightS) :: (47, sdateS) :: (50, sdateS) :: []
def stB (y m d h i s : Int) : Bool := validB y m d && decide (0 ≤ h ∧ h ≤ 23 ∧ 0 ≤ i ∧ i ≤ 59 ∧ 0 ≤ s ∧ s ≤ 59)
noncomputable def stRightS : FSpec := fun a => match a with | [.agg [.int .i64 y, .int .i64 m, .int .i64 d, .int .i64 h, .int .i64 i, .int .i64 s]] => some (true, .bool (stB y m d h i s)) | _ => none
noncomputable def stS2 : List (Nat × FSpec) := (48, stRightS) :: (53, stRightS) :: stS
def wideT (n k : Int) : List UInt8 := List.replicate (k.toNat - (Num.text n).length) 48 ++ Num.text n
noncomputable def sTextS : FSpec := fun a => match a with | [.int .i64 n] => some (band (ile (-9223372036854775808) n) (ile n 9223372036854775807), .str (text n)) | _ => none
noncomputable def wideS : FSpec := fun a => match a with | [.int .i64 n, .int .i64 k] => some (band (band (ile (-1000000) n) (ile n 1000000)) (band (ile 0 k) (ile k 10)), .str (wideT n k)) | _ => none
noncomputable def stS3 : List (Nat × FSpec) := (20, sTextS) :: (23, sTextS) :: stS2
noncomputable def stS4 : List (Nat × FSpec) := (54, wideS) :: stS3
set_option maxRecDepth 100000 in
theorem stRight_top (F : Nat) (y : Int) (m : Int) (d : Int) (h : Int) (i : Int) (s : Int) (K : V → Option V) :
 evBd vE (evFn vE stS F 2) F 48 [(V.agg [(V.int .i64 y), (V.int .i64 m), (V.int .i64 d), (V.int .i64 h), (V.int .i64 i), (V.int .i64 s)])] K =
 sel (validB y m d)
 (sel (ile 0 h)
 (sel (ilt h 24)
 (sel (ile 0 i)
 (sel (ilt i 60)
 (sel (ile 0 s)
 (K (V.bool (ilt s 60)))
 (K (V.bool false)))
 (K (V.bool false)))
 (K (V.bool false)))
 (K (V.bool false)))
 (K (V.bool false)))
 (K (V.bool false)) := by kernel_rfl
set_option maxRecDepth 100000 in
theorem srRight_top (F : Nat) (y : Int) (m : Int) (d : Int) (h : Int) (i : Int) (s : Int) (K : V → Option V) :
 evBd vE (evFn vE stS F 2) F 53 [(V.agg [(V.int .i64 y), (V.int .i64 m), (V.int .i64 d), (V.int .i64 h), (V.int .i64 i), (V.int .i64 s)])] K =
 sel (validB y m d)
 (sel (ile 0 h)
 (sel (ile h 23)
 (sel (ile 0 i)
 (sel (ile i 59)
 (sel (ile 0 s)
 (K (V.bool (ile s 59)))
 (K (V.bool false)))
 (K (V.bool false)))
 (K (V.bool false)))
 (K (V.bool false)))
 (K (V.bool false)))
 (K (V.bool false)) := by kernel_rfl
set_option maxRecDepth 100000 in
theorem stOf_top (F : Nat) (t : Int) (K : V → Option V) :
 evBd vE (evFn vE stS2 F 3) F 29 [(V.int .i64 t)] K =
 sel (band (band (ile (-9223372036854775808) t) (ile t 9223372036854775807)) (band (ilt 0 86400) (ile 86400 1000000)))
 (sel (band (ile (-9223372036854775808) (fq t 86400)) (ile (fq t 86400) 9223372036854775807))
 (sel (bnot (ieq (daW (fq t 86400)) 0))
 (K (V.tup [(V.agg [(V.int .i64 0), (V.int .i64 0), (V.int .i64 0), (V.int .i64 0), (V.int .i64 0), (V.int .i64 0)]), (V.int .i64 (daW (fq t 86400)))]))
 (K (V.tup [(V.agg [(V.int .i64 (daY (fq t 86400))), (V.int .i64 (daM (fq t 86400))), (V.int .i64 (daD (fq t 86400))), (V.int .i64 (iquo .i64 (fr t 86400) 3600)), (V.int .i64 (iquo .i64 (irem (fr t 86400) 3600) 60)), (V.int .i64 (irem (fr t 86400) 60))]), (V.int .i64 0)])))
 (none))
 (none) := by kernel_rfl
set_option maxRecDepth 100000 in
theorem srOf_top (F : Nat) (t : Int) (K : V → Option V) :
 evBd vE (evFn vE stS2 F 3) F 31 [(V.int .i64 t)] K =
 sel (band (band (ile (-9223372036854775808) t) (ile t 9223372036854775807)) (band (ilt 0 86400) (ile 86400 1000000)))
 (sel (band (ile (-9223372036854775808) (fq t 86400)) (ile (fq t 86400) 9223372036854775807))
 (sel (bnot (ieq (daW (fq t 86400)) 0))
 (K (V.tup [(V.agg [(V.int .i64 0), (V.int .i64 0), (V.int .i64 0), (V.int .i64 0), (V.int .i64 0), (V.int .i64 0)]), (V.int .i64 (daW (fq t 86400)))]))
 (sel (band (band (ile (-9223372036854775808) t) (ile t 9223372036854775807)) (band (ilt 0 86400) (ile 86400 1000000)))
 (K (V.tup [(V.agg [(V.int .i64 (daY (fq t 86400))), (V.int .i64 (daM (fq t 86400))), (V.int .i64 (daD (fq t 86400))), (V.int .i64 (iquo .i64 (fr t 86400) 3600)), (V.int .i64 (irem (iquo .i64 (fr t 86400) 60) 60)), (V.int .i64 (irem (fr t 86400) 60))]), (V.int .i64 0)]))
 (none)))
 (none))
 (none) := by kernel_rfl
noncomputable def srWide_L0 (F : Nat) (ns : List Nat) (n : Nat) (x0 : Int) (x1 : Int) (x5 : List UInt8) (K : V → Option V) : Option V :=
 loopAt vE stS3 F 2 54 [1, 1, 0, 0] ns K n (mkSt 15 [(0, V.int .i64 x0), (1, V.int .i64 x1), (4, V.str []), (5, V.str x5)] [])
set_option maxRecDepth 100000 in
theorem srWide_top (F : Nat) (n : Int) (k : Int) (K : V → Option V) :
 evBd vE (evFn vE stS3 F 2) F 54 [(V.int .i64 n), (V.int .i64 k)] K =
 sel (band (ile (-9223372036854775808) n) (ile n 9223372036854775807))
 (srWide_L0 F [] F n k (text n) K)
 (none) := by kernel_rfl
set_option maxRecDepth 100000 in
theorem srWide_L0_succ (F : Nat) (n : Nat) (x0 : Int) (x1 : Int) (x5 : List UInt8) (K : V → Option V) :
 srWide_L0 F [] (n + 1) x0 x1 x5 K =
 sel (ilt (slen x5) x1)
 (sel (okCat [48] x5)
 (srWide_L0 F [] n x0 x1 (scat [48] x5) K)
 (none))
 (K (V.str x5)) := by kernel_rfl
set_option maxRecDepth 100000 in
theorem srText_top (F : Nat) (y : Int) (m : Int) (d : Int) (h : Int) (i : Int) (s : Int) (K : V → Option V) :
 evBd vE (evFn vE stS4 F 2) F 32 [(V.agg [(V.int .i64 y), (V.int .i64 m), (V.int .i64 d), (V.int .i64 h), (V.int .i64 i), (V.int .i64 s)])] K =
 sel (bnot (stB y m d h i s))
 (K (V.str []))
 (sel (band (band (ile (-1000000) y) (ile y 1000000)) (band (ile 0 4) (ile 4 10)))
 (sel (ilt y 0)
 (sel (band (band (ile (-1000000) (isub .i64 0 y)) (ile (isub .i64 0 y) 1000000)) (band (ile 0 4) (ile 4 10)))
 (sel (okCat [45] (wideT (isub .i64 0 y) 4))
 (sel (okCat (scat [45] (wideT (isub .i64 0 y) 4)) [45])
 (sel (band (band (ile (-1000000) m) (ile m 1000000)) (band (ile 0 2) (ile 2 10)))
 (sel (okCat (scat (scat [45] (wideT (isub .i64 0 y) 4)) [45]) (wideT m 2))
 (sel (okCat (scat (scat (scat [45] (wideT (isub .i64 0 y) 4)) [45]) (wideT m 2)) [45])
 (sel (band (band (ile (-1000000) d) (ile d 1000000)) (band (ile 0 2) (ile 2 10)))
 (sel (okCat (scat (scat (scat (scat [45] (wideT (isub .i64 0 y) 4)) [45]) (wideT m 2)) [45]) (wideT d 2))
 (sel (okCat (scat (scat (scat (scat (scat [45] (wideT (isub .i64 0 y) 4)) [45]) (wideT m 2)) [45]) (wideT d 2)) [84])
 (sel (band (band (ile (-1000000) h) (ile h 1000000)) (band (ile 0 2) (ile 2 10)))
 (sel (okCat (scat (scat (scat (scat (scat (scat [45] (wideT (isub .i64 0 y) 4)) [45]) (wideT m 2)) [45]) (wideT d 2)) [84]) (wideT h 2))
 (sel (okCat (scat (scat (scat (scat (scat (scat (scat [45] (wideT (isub .i64 0 y) 4)) [45]) (wideT m 2)) [45]) (wideT d 2)) [84]) (wideT h 2)) [58])
 (sel (band (band (ile (-1000000) i) (ile i 1000000)) (band (ile 0 2) (ile 2 10)))
 (sel (okCat (scat (scat (scat (scat (scat (scat (scat (scat [45] (wideT (isub .i64 0 y) 4)) [45]) (wideT m 2)) [45]) (wideT d 2)) [84]) (wideT h 2)) [58]) (wideT i 2))
 (sel (okCat (scat (scat (scat (scat (scat (scat (scat (scat (scat [45] (wideT (isub .i64 0 y) 4)) [45]) (wideT m 2)) [45]) (wideT d 2)) [84]) (wideT h 2)) [58]) (wideT i 2)) [58])
 (sel (band (band (ile (-1000000) s) (ile s 1000000)) (band (ile 0 2) (ile 2 10)))
 (sel (okCat (scat (scat (scat (scat (scat (scat (scat (scat (scat (scat [45] (wideT (isub .i64 0 y) 4)) [45]) (wideT m 2)) [45]) (wideT d 2)) [84]) (wideT h 2)) [58]) (wideT i 2)) [58]) (wideT s 2))
 (K (V.str (scat (scat (scat (scat (scat (scat (scat (scat (scat (scat (scat [45] (wideT (isub .i64 0 y) 4)) [45]) (wideT m 2)) [45]) (wideT d 2)) [84]) (wideT h 2)) [58]) (wideT i 2)) [58]) (wideT s 2))))
 (none))
 (none))
 (none))
 (none))
 (none))
 (none))
 (none))
 (none))
 (none))
 (none))
 (none))
 (none))
 (none))
 (none))
 (none))
 (none))
 (none))
 (sel (okCat (wideT y 4) [45])
 (sel (band (band (ile (-1000000) m) (ile m 1000000)) (band (ile 0 2) (ile 2 10)))
 (sel (okCat (scat (wideT y 4) [45]) (wideT m 2))
 (sel (okCat (scat (scat (wideT y 4) [45]) (wideT m 2)) [45])
 (sel (band (band (ile (-1000000) d) (ile d 1000000)) (band (ile 0 2) (ile 2 10)))
 (sel (okCat (scat (scat (scat (wideT y 4) [45]) (wideT m 2)) [45]) (wideT d 2))
 (sel (okCat (scat (scat (scat (scat (wideT y 4) [45]) (wideT m 2)) [45]) (wideT d 2)) [84])
 (sel (band (band (ile (-1000000) h) (ile h 1000000)) (band (ile 0 2) (ile 2 10)))
 (sel (okCat (scat (scat (scat (scat (scat (wideT y 4) [45]) (wideT m 2)) [45]) (wideT d 2)) [84]) (wideT h 2))
 (sel (okCat (scat (scat (scat (scat (scat (scat (wideT y 4) [45]) (wideT m 2)) [45]) (wideT d 2)) [84]) (wideT h 2)) [58])
 (sel (band (band (ile (-1000000) i) (ile i 1000000)) (band (ile 0 2) (ile 2 10)))
 (sel (okCat (scat (scat (scat (scat (scat (scat (scat (wideT y 4) [45]) (wideT m 2)) [45]) (wideT d 2)) [84]) (wideT h 2)) [58]) (wideT i 2))
 (sel (okCat (scat (scat (scat (scat (scat (scat (scat (scat (wideT y 4) [45]) (wideT m 2)) [45]) (wideT d 2)) [84]) (wideT h 2)) [58]) (wideT i 2)) [58])
 (sel (band (band (ile (-1000000) s) (ile s 1000000)) (band (ile 0 2) (ile 2 10)))
 (sel (okCat (scat (scat (scat (scat (scat (scat (scat (scat (scat (wideT y 4) [45]) (wideT m 2)) [45]) (wideT d 2)) [84]) (wideT h 2)) [58]) (wideT i 2)) [58]) (wideT s 2))
 (K (V.str (scat (scat (scat (scat (scat (scat (scat (scat (scat (scat (wideT y 4) [45]) (wideT m 2)) [45]) (wideT d 2)) [84]) (wideT h 2)) [58]) (wideT i 2)) [58]) (wideT s 2))))
 (none))
 (none))
 (none))
 (none))
 (none))
 (none))
 (none))
 (none))
 (none))
 (none))
 (none))
 (none))
 (none))
 (none))
 (none)))
 (none)) := by kernel_rfl
end Nt.Ev.YtdhegeecbbponaaDoor

set_option linter.unusedVariables false
set_option linter.unusedSimpArgs false
namespace Nt.Ev.YtdhegeecbbponaaDoor
set_option maxRecDepth 100000
open Go Go.RowKit Nt Nt.Num Nt.Civil Go.Proofs.YtdhegeecbbponaaDoor
theorem sdivS_ok (a b : Int) (hc : band (band (ile (-9223372036854775808) a) (ile a 9223372036854775807)) (band (ilt 0 b) (ile b 1000000)) = true) : Contract vE 65 [.int .i64 a, .int .i64 b] (.tup [.int .i64 (fq a b), .int .i64 (fr a b), .int .i64 0]) := divS_ok a b hc
theorem sdivR_ok (a b : Int) (hc : band (band (ile (-9223372036854775808) a) (ile a 9223372036854775807)) (band (ilt 0 b) (ile b 1000000)) = true) : Contract vE 71 [.int .i64 a, .int .i64 b] (.tup [.int .i64 (fq a b), .int .i64 (fr a b), .int .i64 0]) := divS_ok_noontideref01_Div a b hc
theorem srightS_ok (y m d : Int) (hc : true = true) : Contract vE 67 [.agg [.int .i64 y, .int .i64 m, .int .i64 d]] (.bool (validB y m d)) := rightS_ok y m d hc
theorem srightS_ok_noontideref03_Right (y m d : Int) (hc : true = true) : Contract vE 72 [.agg [.int .i64 y, .int .i64 m, .int .i64 d]] (.bool (validB y m d)) := rightS_ok_noontideref03_Right y m d hc
theorem sdateS_ok (n : Int) (hc : band (ile (-9223372036854775808) n) (ile n 9223372036854775807) = true) : Contract vE 47 [.int .i64 n] (.tup [.agg [.int .i64 (daY n), .int .i64 (daM n), .int .i64 (daD n)], .int .i64 (daW n)]) := vDate_ev n
theorem sdateS_ok_noontideref03_Date (n : Int) (hc : band (ile (-9223372036854775808) n) (ile n 9223372036854775807) = true) : Contract vE 50 [.int .i64 n] (.tup [.agg [.int .i64 (daY n), .int .i64 (daM n), .int .i64 (daD n)], .int .i64 (daW n)]) := rDate_ev n (by rw [band_iff, ile_iff, ile_iff] at hc; exact hc)
theorem stS_ok : SOk vE stS := by
  unfold stS
  refine SOk.cons (fun args r h => ?_) (SOk.cons (fun args r h => ?_) (SOk.cons (fun args r h => ?_) (SOk.cons (fun args r h => ?_) (SOk.cons (fun args r h => ?_) (SOk.cons (fun args r h => ?_) (SOk.nil))))))
  · unfold sdivS at h
    split at h
    · simp only [Option.some.injEq, Prod.mk.injEq] at h
      obtain ⟨hc, rfl⟩ := h
      exact sdivS_ok _ _ hc
    · cases h
  · unfold sdivR at h
    split at h
    · simp only [Option.some.injEq, Prod.mk.injEq] at h
      obtain ⟨hc, rfl⟩ := h
      exact sdivR_ok _ _ hc
    · cases h
  · unfold srightS at h
    split at h
    · simp only [Option.some.injEq, Prod.mk.injEq] at h
      obtain ⟨hc, rfl⟩ := h
      exact srightS_ok _ _ _ rfl
    · cases h
  · unfold srightS at h
    split at h
    · simp only [Option.some.injEq, Prod.mk.injEq] at h
      obtain ⟨hc, rfl⟩ := h
      exact srightS_ok_noontideref03_Right _ _ _ rfl
    · cases h
  · unfold sdateS at h
    split at h
    · simp only [Option.some.injEq, Prod.mk.injEq] at h
      obtain ⟨hc, rfl⟩ := h
      exact sdateS_ok _ hc
    · cases h
  · unfold sdateS at h
    split at h
    · simp only [Option.some.injEq, Prod.mk.injEq] at h
      obtain ⟨hc, rfl⟩ := h
      exact sdateS_ok_noontideref03_Date _ hc
    · cases h
theorem stRight_ev (y m d h i s : Int) : Contract vE 48 [.agg [.int .i64 y, .int .i64 m, .int .i64 d, .int .i64 h, .int .i64 i, .int .i64 s]] (.bool (stB y m d h i s)) := by
  refine contract_of_body vE_ok stS_ok 5 2 ?_
  rw [stRight_top]
  unfold stB
  cases validB y m d
  · rfl
  · simp only [st', sel_if, ile_iff, ilt_iff, Bool.true_and]
    repeat' split
    all_goals first | contradiction | (exfalso; simp_all; done) | (rw [decide_eq_false (by omega)]; done) | (congr 2; rw [Bool.eq_iff_iff, decide_eq_true_iff]; simp only [ile_iff, ilt_iff]; omega)
theorem srRight_ev (y m d h i s : Int) : Contract vE 53 [.agg [.int .i64 y, .int .i64 m, .int .i64 d, .int .i64 h, .int .i64 i, .int .i64 s]] (.bool (stB y m d h i s)) := by
  refine contract_of_body vE_ok stS_ok 5 2 ?_
  rw [srRight_top]
  unfold stB
  cases validB y m d
  · rfl
  · simp only [st', sel_if, ile_iff, ilt_iff, Bool.true_and]
    repeat' split
    all_goals first | contradiction | (exfalso; simp_all; done) | (rw [decide_eq_false (by omega)]; done) | (congr 2; rw [Bool.eq_iff_iff, decide_eq_true_iff]; simp only [ile_iff, ilt_iff]; omega)
theorem stRightS_ok (y m d h i s : Int) (hc : true = true) : Contract vE 48 [.agg [.int .i64 y, .int .i64 m, .int .i64 d, .int .i64 h, .int .i64 i, .int .i64 s]] (.bool (stB y m d h i s)) := stRight_ev y m d h i s
theorem stRightS_ok_noontideref04_Right (y m d h i s : Int) (hc : true = true) : Contract vE 53 [.agg [.int .i64 y, .int .i64 m, .int .i64 d, .int .i64 h, .int .i64 i, .int .i64 s]] (.bool (stB y m d h i s)) := srRight_ev y m d h i s
theorem stS2_ok : SOk vE stS2 := by
  unfold stS2
  refine SOk.cons (fun args r h => ?_) (SOk.cons (fun args r h => ?_) (stS_ok))
  · unfold stRightS at h
    split at h
    · simp only [Option.some.injEq, Prod.mk.injEq] at h
      obtain ⟨hc, rfl⟩ := h
      exact stRightS_ok _ _ _ _ _ _ rfl
    · cases h
  · unfold stRightS at h
    split at h
    · simp only [Option.some.injEq, Prod.mk.injEq] at h
      obtain ⟨hc, rfl⟩ := h
      exact stRightS_ok_noontideref04_Right _ _ _ _ _ _ rfl
    · cases h
theorem stB_iff {y m d h i s : Int} : stB y m d h i s = true ↔ validB y m d = true ∧ 0 ≤ h ∧ h ≤ 23 ∧ 0 ≤ i ∧ i ≤ 59 ∧ 0 ≤ s ∧ s ≤ 59 := by
  unfold stB; rw [Bool.and_eq_true, decide_eq_true_iff]
def ofP (t : Int) : List Int × Int := if inRange (t / 86400) = true then ([dY (t / 86400), dM (t / 86400), dD (t / 86400), t % 86400 / 3600, t % 86400 / 60 % 60, t % 86400 % 60], 0) else ([0, 0, 0, 0, 0, 0], 1)
def resO (p : List Int × Int) : V := .tup [.agg (p.1.map (V.int .i64)), .int .i64 p.2]
theorem da_in {n : Int} (h : inRange n = true) : daY n = dY n ∧ daM n = dM n ∧ daD n = dD n ∧ daW n = 0 := by
  unfold daY daM daD daW dateP; rw [if_pos h]; exact ⟨rfl, rfl, rfl, rfl⟩
theorem da_out {n : Int} (h : ¬ inRange n = true) : daW n = 1 := by
  unfold daW dateP; rw [if_neg h]
theorem stOf_ev (t : Int) (ht : Fits t) : Contract vE 29 [.int .i64 t] (resO (ofP t)) := by
  refine contract_of_body vE_ok stS2_ok 5 3 ?_
  unfold Fits at ht
  have e1 : fq t 86400 = t / 86400 := rfl
  have e2 : fr t 86400 = t % 86400 := rfl
  rw [stOf_top, sel_pos (by simp only [band_iff, ile_iff, ilt_iff]; omega), e1, e2, sel_pos (by simp only [band_iff, ile_iff]; omega)]
  unfold ofP
  by_cases hr : inRange (t / 86400) = true
  · obtain ⟨a1, a2, a3, a4⟩ := da_in hr
    rw [a1, a2, a3, a4, sel_neg (by rfl), if_pos hr]
    have hm : 0 ≤ t % 86400 ∧ t % 86400 < 86400 := by omega
    generalize t % 86400 = r at *
    have hd : r % 3600 / 60 = r / 60 % 60 := by omega
    simp (disch := omega) only [iquo64, irem_pos]
    rw [hd]; rfl
  · rw [da_out hr, sel_pos (by rfl), if_neg hr]; rfl
theorem srOf_ev (t : Int) (ht : Fits t) : Contract vE 31 [.int .i64 t] (resO (ofP t)) := by
  refine contract_of_body vE_ok stS2_ok 5 3 ?_
  unfold Fits at ht
  have e1 : fq t 86400 = t / 86400 := rfl
  have e2 : fr t 86400 = t % 86400 := rfl
  have hk : band (band (ile (-9223372036854775808) t) (ile t 9223372036854775807)) (band (ilt 0 86400) (ile 86400 1000000)) = true := by simp only [band_iff, ile_iff, ilt_iff]; omega
  rw [srOf_top, hk, e1, e2]
  rw [sel_pos rfl, sel_pos (by simp only [band_iff, ile_iff]; omega)]
  unfold ofP
  by_cases hr : inRange (t / 86400) = true
  · obtain ⟨a1, a2, a3, a4⟩ := da_in hr
    rw [a1, a2, a3, a4, sel_neg (by rfl), if_pos hr, sel_pos rfl]
    have hm : 0 ≤ t % 86400 ∧ t % 86400 < 86400 := by omega
    generalize t % 86400 = r at *
    simp (disch := omega) only [iquo64, irem_pos]
    rfl
  · rw [da_out hr, sel_pos (by rfl), if_neg hr]; rfl
theorem toSt {f : Nat} {args : List V} {r : V} (h : Contract nE f args r) : Contract vE f args r := Contract.env (E := nE) rfl (fun n v h => by cases h) h
theorem st_fits {m : Int} (h : band (ile (-9223372036854775808) m) (ile m 9223372036854775807) = true) : Fits m := by rw [band_iff, ile_iff, ile_iff] at h; exact h
theorem sTextS_ok (m : Int) (hc : band (ile (-9223372036854775808) m) (ile m 9223372036854775807) = true) : Contract vE 20 [.int .i64 m] (.str (text m)) := toSt (nText_ev m (st_fits hc))
theorem sTextS_ok_noontideref01_Text (m : Int) (hc : band (ile (-9223372036854775808) m) (ile m 9223372036854775807) = true) : Contract vE 23 [.int .i64 m] (.str (text m)) := toSt (rText_ev m (st_fits hc))
theorem stS3_ok : SOk vE stS3 := by
  unfold stS3
  refine SOk.cons (fun args r h => ?_) (SOk.cons (fun args r h => ?_) (stS2_ok))
  · unfold sTextS at h
    split at h
    · simp only [Option.some.injEq, Prod.mk.injEq] at h
      obtain ⟨hc, rfl⟩ := h
      exact sTextS_ok _ hc
    · cases h
  · unfold sTextS at h
    split at h
    · simp only [Option.some.injEq, Prod.mk.injEq] at h
      obtain ⟨hc, rfl⟩ := h
      exact sTextS_ok_noontideref01_Text _ hc
    · cases h
theorem wide_loop (F : Nat) (x k : Int) (hk : 0 ≤ k ∧ k ≤ 10) : ∀ (n : Nat) (s : List UInt8), k.toNat ≤ s.length + n → s.length ≤ 30 →
    srWide_L0 F [] (n + 1) x k s some = some (.str (List.replicate (k.toNat - s.length) 48 ++ s)) := by
  intro n
  induction n with
  | zero =>
    intro s h1 h2
    rw [srWide_L0_succ, sel_neg (ilt_f (by rw [slen_nat]; omega)), show k.toNat - s.length = 0 by omega]
    rfl
  | succ n ih =>
    intro s h1 h2
    rw [srWide_L0_succ]
    by_cases h : (s.length : Int) < k
    · rw [sel_pos (ilt_t (by rw [slen_nat]; omega)), sel_pos (by rw [okCat_iff]; simp only [List.length_cons, List.length_nil]; omega)]
      have e : scat [48] s = 48 :: s := rfl
      rw [e, ih (48 :: s) (by simp only [List.length_cons]; omega) (by simp only [List.length_cons]; omega)]
      rw [List.length_cons, show k.toNat - s.length = (k.toNat - (s.length + 1)) + 1 by omega, List.replicate_succ', List.append_assoc]
      rfl
    · rw [sel_neg (ilt_f (by rw [slen_nat]; omega)), show k.toNat - s.length = 0 by omega]
      rfl
theorem srWide_ev (n k : Int) (hn : -1000000 ≤ n ∧ n ≤ 1000000) (hk : 0 ≤ k ∧ k ≤ 10) : Contract vE 54 [.int .i64 n, .int .i64 k] (.str (wideT n k)) := by
  refine contract_of_body vE_ok stS3_ok 12 2 ?_
  rw [srWide_top, sel_pos (by rw [band_iff, ile_iff, ile_iff]; omega)]
  exact wide_loop 12 n k hk 11 (text n) (by omega) (by have := (text_len n (by unfold Fits; omega)).1; omega)
theorem wideS_ok (n k : Int) (hc : band (band (ile (-1000000) n) (ile n 1000000)) (band (ile 0 k) (ile k 10)) = true) : Contract vE 54 [.int .i64 n, .int .i64 k] (.str (wideT n k)) := by
  simp only [band_iff, ile_iff] at hc
  exact srWide_ev n k hc.1 hc.2
theorem stS4_ok : SOk vE stS4 := by
  unfold stS4
  refine SOk.cons (fun args r h => ?_) (stS3_ok)
  · unfold wideS at h
    split at h
    · simp only [Option.some.injEq, Prod.mk.injEq] at h
      obtain ⟨hc, rfl⟩ := h
      exact wideS_ok _ _ hc
    · cases h
def stTxt (y m d h i s : Int) : List UInt8 :=
  if stB y m d h i s = true then (if y < 0 then 45 :: wideT (-y) 4 else wideT y 4) ++ 45 :: wideT m 2 ++ 45 :: wideT d 2 ++ 84 :: wideT h 2 ++ 58 :: wideT i 2 ++ 58 :: wideT s 2 else []
theorem wide_len (n k : Int) (hn : -1000000 ≤ n ∧ n ≤ 1000000) (hk : 0 ≤ k ∧ k ≤ 10) : (wideT n k).length ≤ 40 := by
  have := (text_len n (by unfold Fits; omega)).1
  unfold wideT
  rw [List.length_append, List.length_replicate]
  omega
theorem srText_ev (y m d h i s : Int) : Contract vE 32 [.agg [.int .i64 y, .int .i64 m, .int .i64 d, .int .i64 h, .int .i64 i, .int .i64 s]] (.str (stTxt y m d h i s)) := by
  refine contract_of_body vE_ok stS4_ok 5 2 ?_
  rw [srText_top]
  unfold stTxt
  cases hb : stB y m d h i s with
  | false => rfl
  | true =>
    obtain ⟨hv, h1⟩ := stB_iff.1 hb
    obtain ⟨y1, y2, hv2⟩ := validB_iff.1 hv
    have hm := len_month hv2
    have hd : 1 ≤ d ∧ d ≤ 31 := ⟨hv2.1, by have := len_pos y m hm.1 hm.2; have := hv2.2; omega⟩
    have lm := wide_len m 2 (by omega) (by omega)
    have ld := wide_len d 2 (by omega) (by omega)
    have lh := wide_len h 2 (by omega) (by omega)
    have li := wide_len i 2 (by omega) (by omega)
    have ls := wide_len s 2 (by omega) (by omega)
    have ly := wide_len y 4 (by omega) (by omega)
    have ly' := wide_len (-y) 4 (by omega) (by omega)
    have e : isub .i64 0 y = -y := by rw [isub64 (by omega)]; omega
    rw [sel_neg (by rfl), if_pos rfl, e]
    by_cases h0 : y < 0
    · rw [sel_pos (by simp only [band_iff, ile_iff]; omega), sel_pos (ilt_t h0), if_pos h0]
      repeat (rw [sel_pos (by first | (simp only [band_iff, ile_iff]; omega) | (rw [okCat_iff]; simp only [scat, List.length_append, List.length_cons, List.length_nil]; omega))])
      simp [scat]
    · rw [sel_pos (by simp only [band_iff, ile_iff]; omega), sel_neg (ilt_f (by omega)), if_neg h0]
      repeat (rw [sel_pos (by first | (simp only [band_iff, ile_iff]; omega) | (rw [okCat_iff]; simp only [scat, List.length_append, List.length_cons, List.length_nil]; omega))])
      simp [scat]
end Nt.Ev.YtdhegeecbbponaaDoor

set_option linter.unusedVariables false
set_option linter.unusedSimpArgs false
set_option linter.unusedSectionVars false
namespace Nt.Ev.YtdhegeecbbponaaDoor
open Go Nt.Num Go.Proofs.YtdhegeecbbponaaDoor
open Nt.Civil
noncomputable def signsV : V := .rptr [.int .u8, .int .u8, .int .u8, .int .u8, .int .u8] (.agg [.int .u8 45, .int .u8 45, .int .u8 84, .int .u8 58, .int .u8 58]) 0
noncomputable def uE : Env := ⟨Go.Proofs.Tryd.prog, fun g => bif g == 0 then some signsV else none⟩
def trimCu (s c : List UInt8) : List UInt8 := Lib.trimS s c
noncomputable def asciiBu (l : List UInt8) : Bool := l.all fun c => decide (c.toNat < 128)
def cpBu (s p : List UInt8) : Bool := Lib.hasPrefix s p
def cpTu (s p : List UInt8) : List UInt8 := Lib.trimPrefix s p
noncomputable def uCutS : FSpec := fun a => match a with | [.str s, .str p] => some (ile (slen s) 1000, .tup [.str (cpTu s p), .bool (cpBu s p)]) | _ => none
noncomputable def uTextS : FSpec := fun a => match a with | [.int .i64 n] => some (band (ile (-9223372036854775808) n) (ile n 9223372036854775807), .str (text n)) | _ => none
noncomputable def uRightS : FSpec := fun a => match a with | [.agg [.int .i64 y, .int .i64 m, .int .i64 d, .int .i64 h, .int .i64 i, .int .i64 s]] => some (true, .bool (stB y m d h i s)) | _ => none
noncomputable def uTrimS : FSpec := fun a => match a with | [.str s, .str c] => some (band (ile (slen s) 1000) (band (ile (slen c) 1000) (asciiBu c)), .str (trimCu s c)) | _ => none
noncomputable def uReadS : FSpec := fun a => match a with | [.str s] => some (ile (slen s) 1000, .tup [.int .i64 (nrI s), .int .i64 (nrW s)]) | _ => none
noncomputable def uSt : List (Nat × FSpec) := (62, uCutS) :: (20, uTextS) :: (48, uRightS) :: (63, uTrimS) :: (26, uReadS) :: []
noncomputable def uPadS : FSpec := fun a => match a with | [.sl 5 [.int .u8] (some 1000001000) xs, .int .i64 n, .int .i64 k] => some (band (band (ile (-1000000) n) (ile n 1000000)) (band (band (ile 0 k) (ile k 10)) (ile (llen xs) 1000)), .out false (.sl 5 [.int .u8] (some 1000000000) (lcat xs (bytesV (wideT n k)))) []) | _ => none
noncomputable def uS2 : List (Nat × FSpec) := (GX + 49, uPadS) :: uSt
noncomputable def uPad_L0 (F : Nat) (ns : List Nat) (n : Nat) (x0 : List V) (x1 : Int) (x2 : Int) (x7 : List UInt8) (x13 : Int) (x14 : Int) (K : V → Option V) : Option V :=
 loopAtA uE uSt F 2 49 [(V.sl 5 [(Kd.int .u8)] (some 1000001000) []), (V.nilsl), (V.nilsl)] [1, 1, 0, 1, 0] ns K n (mkSt 23 [(0, V.sl 5 [(Kd.int .u8)] (some 1000000000) x0), (1, V.int .i64 x1), (2, V.int .i64 x2), (6, V.sl 5 [(Kd.int .u8)] (some 6) []), (7, V.str x7), (13, V.int .i64 x13), (14, V.int .i64 x14)] [])
set_option maxRecDepth 100000 in
theorem uPad_top (F : Nat) (L : List V) (n : Int) (k : Int) (K : V → Option V) :
 evBd uE (evFn uE uSt F 2) F 49 [(V.sl 5 [(Kd.int .u8)] (some 1000001000) L), (V.int .i64 n), (V.int .i64 k)] K =
 sel (band (ile (-9223372036854775808) n) (ile n 9223372036854775807))
 (uPad_L0 F [] F L n k (text n) (isub .i64 k (slen (text n))) 0 K)
 (none) := by kernel_rfl
set_option maxRecDepth 100000 in
theorem uPad_L0_succ (F : Nat) (n : Nat) (x0 : List V) (x1 : Int) (x2 : Int) (x7 : List UInt8) (x13 : Int) (x14 : Int) (K : V → Option V) :
 uPad_L0 F [] (n + 1) x0 x1 x2 x7 x13 x14 K =
 sel (ilt x14 x13)
 (sel (okApp x0 [(V.int .u8 48)])
 (uPad_L0 F [] n (lcat x0 [(V.int .u8 48)]) x1 x2 x7 x13 (iadd .i64 x14 1) K)
 (none))
 (sel (okApp x0 (bytesV x7))
 (K (V.out false (V.sl 5 [(Kd.int .u8)] (some 1000000000) (lcat x0 (bytesV x7))) []))
 (none)) := by kernel_rfl
noncomputable def uText_L0 (F : Nat) (ns : List Nat) (n : Nat) (x0_0 : Int) (x0_1 : Int) (x0_2 : Int) (x0_3 : Int) (x0_4 : Int) (x0_5 : Int) (x3 : List V) (x4 : Int) (x35_0 : Int) (x35_1 : Int) (x35_2 : Int) (x35_3 : Int) (x35_4 : Int) (x36 : Int) (b1_0 : Int) (b1_1 : Int) (b1_2 : Int) (b1_3 : Int) (b1_4 : Int) (b1_5 : Int) (K : V → Option V) : Option V :=
 loopAt uE uS2 F 2 30 [1, 1, 1, 1, 1, 1, 0, 1, 0] ns K n (mkSt 51 [(0, V.agg [V.int .i64 x0_0, V.int .i64 x0_1, V.int .i64 x0_2, V.int .i64 x0_3, V.int .i64 x0_4, V.int .i64 x0_5]), (1, (V.box 1 0)), (2, V.str []), (3, V.sl 5 [(Kd.int .u8)] (some 3) x3), (4, V.int .i64 x4), (35, V.agg [V.int .i64 x35_0, V.int .i64 x35_1, V.int .i64 x35_2, V.int .i64 x35_3, V.int .i64 x35_4]), (36, V.int .i64 x36)] [(1, [V.int .i64 b1_0, V.int .i64 b1_1, V.int .i64 b1_2, V.int .i64 b1_3, V.int .i64 b1_4, V.int .i64 b1_5])])
set_option maxRecDepth 100000 in
theorem uText_top (F : Nat) (y : Int) (m : Int) (d : Int) (h : Int) (i : Int) (s : Int) (K : V → Option V) :
 evBd uE (evFn uE uS2 F 2) F 30 [(V.agg [(V.int .i64 y), (V.int .i64 m), (V.int .i64 d), (V.int .i64 h), (V.int .i64 i), (V.int .i64 s)])] K =
 sel (bnot (stB y m d h i s))
 (K (V.str []))
 (sel (ilt y 0)
 (sel (okApp [] [(V.int .u8 45)])
 (sel (band (band (ile (-1000000) (isub .i64 0 y)) (ile (isub .i64 0 y) 1000000)) (band (band (ile 0 4) (ile 4 10)) (ile (llen (lcat [] [(V.int .u8 45)])) 1000)))
 (uText_L0 F [] F y m d h i s (lcat (lcat [] [(V.int .u8 45)]) (bytesV (wideT (isub .i64 0 y) 4))) (isub .i64 0 y) m d h i s 0 y m d h i s K)
 (none))
 (none))
 (sel (band (band (ile (-1000000) y) (ile y 1000000)) (band (band (ile 0 4) (ile 4 10)) (ile (llen []) 1000)))
 (uText_L0 F [] F y m d h i s (lcat [] (bytesV (wideT y 4))) y m d h i s 0 y m d h i s K)
 (none))) := by kernel_rfl
set_option maxRecDepth 100000 in
theorem uText_L0_succ (F : Nat) (n : Nat) (x0_0 : Int) (x0_1 : Int) (x0_2 : Int) (x0_3 : Int) (x0_4 : Int) (x0_5 : Int) (x3 : List V) (x4 : Int) (x35_0 : Int) (x35_1 : Int) (x35_2 : Int) (x35_3 : Int) (x35_4 : Int) (x36 : Int) (b1_0 : Int) (b1_1 : Int) (b1_2 : Int) (b1_3 : Int) (b1_4 : Int) (b1_5 : Int) (K : V → Option V) :
 uText_L0 F [] (n + 1) x0_0 x0_1 x0_2 x0_3 x0_4 x0_5 x3 x4 x35_0 x35_1 x35_2 x35_3 x35_4 x36 b1_0 b1_1 b1_2 b1_3 b1_4 b1_5 K =
 sel (ilt x36 5)
 (sel (ieq x36 0)
 (sel (band (ile 0 x36) (ilt x36 5))
 (sel (okApp x3 [(V.int .u8 (asInt (acell (lget [(V.int .u8 45), (V.int .u8 45), (V.int .u8 84), (V.int .u8 58), (V.int .u8 58)] x36) 0)))])
 (sel (band (band (ile (-1000000) x35_0) (ile x35_0 1000000)) (band (band (ile 0 2) (ile 2 10)) (ile (llen (lcat x3 [(V.int .u8 (asInt (acell (lget [(V.int .u8 45), (V.int .u8 45), (V.int .u8 84), (V.int .u8 58), (V.int .u8 58)] x36) 0)))])) 1000)))
 (uText_L0 F [] n x0_0 x0_1 x0_2 x0_3 x0_4 x0_5 (lcat (lcat x3 [(V.int .u8 (asInt (acell (lget [(V.int .u8 45), (V.int .u8 45), (V.int .u8 84), (V.int .u8 58), (V.int .u8 58)] x36) 0)))]) (bytesV (wideT x35_0 2))) x4 x35_0 x35_1 x35_2 x35_3 x35_4 (iadd .i64 x36 1) b1_0 b1_1 b1_2 b1_3 b1_4 b1_5 K)
 (none))
 (none))
 (none))
 (sel (ieq x36 1)
 (sel (band (ile 0 x36) (ilt x36 5))
 (sel (okApp x3 [(V.int .u8 (asInt (acell (lget [(V.int .u8 45), (V.int .u8 45), (V.int .u8 84), (V.int .u8 58), (V.int .u8 58)] x36) 0)))])
 (sel (band (band (ile (-1000000) x35_1) (ile x35_1 1000000)) (band (band (ile 0 2) (ile 2 10)) (ile (llen (lcat x3 [(V.int .u8 (asInt (acell (lget [(V.int .u8 45), (V.int .u8 45), (V.int .u8 84), (V.int .u8 58), (V.int .u8 58)] x36) 0)))])) 1000)))
 (uText_L0 F [] n x0_0 x0_1 x0_2 x0_3 x0_4 x0_5 (lcat (lcat x3 [(V.int .u8 (asInt (acell (lget [(V.int .u8 45), (V.int .u8 45), (V.int .u8 84), (V.int .u8 58), (V.int .u8 58)] x36) 0)))]) (bytesV (wideT x35_1 2))) x4 x35_0 x35_1 x35_2 x35_3 x35_4 (iadd .i64 x36 1) b1_0 b1_1 b1_2 b1_3 b1_4 b1_5 K)
 (none))
 (none))
 (none))
 (sel (ieq x36 2)
 (sel (band (ile 0 x36) (ilt x36 5))
 (sel (okApp x3 [(V.int .u8 (asInt (acell (lget [(V.int .u8 45), (V.int .u8 45), (V.int .u8 84), (V.int .u8 58), (V.int .u8 58)] x36) 0)))])
 (sel (band (band (ile (-1000000) x35_2) (ile x35_2 1000000)) (band (band (ile 0 2) (ile 2 10)) (ile (llen (lcat x3 [(V.int .u8 (asInt (acell (lget [(V.int .u8 45), (V.int .u8 45), (V.int .u8 84), (V.int .u8 58), (V.int .u8 58)] x36) 0)))])) 1000)))
 (uText_L0 F [] n x0_0 x0_1 x0_2 x0_3 x0_4 x0_5 (lcat (lcat x3 [(V.int .u8 (asInt (acell (lget [(V.int .u8 45), (V.int .u8 45), (V.int .u8 84), (V.int .u8 58), (V.int .u8 58)] x36) 0)))]) (bytesV (wideT x35_2 2))) x4 x35_0 x35_1 x35_2 x35_3 x35_4 (iadd .i64 x36 1) b1_0 b1_1 b1_2 b1_3 b1_4 b1_5 K)
 (none))
 (none))
 (none))
 (sel (ieq x36 3)
 (sel (band (ile 0 x36) (ilt x36 5))
 (sel (okApp x3 [(V.int .u8 (asInt (acell (lget [(V.int .u8 45), (V.int .u8 45), (V.int .u8 84), (V.int .u8 58), (V.int .u8 58)] x36) 0)))])
 (sel (band (band (ile (-1000000) x35_3) (ile x35_3 1000000)) (band (band (ile 0 2) (ile 2 10)) (ile (llen (lcat x3 [(V.int .u8 (asInt (acell (lget [(V.int .u8 45), (V.int .u8 45), (V.int .u8 84), (V.int .u8 58), (V.int .u8 58)] x36) 0)))])) 1000)))
 (uText_L0 F [] n x0_0 x0_1 x0_2 x0_3 x0_4 x0_5 (lcat (lcat x3 [(V.int .u8 (asInt (acell (lget [(V.int .u8 45), (V.int .u8 45), (V.int .u8 84), (V.int .u8 58), (V.int .u8 58)] x36) 0)))]) (bytesV (wideT x35_3 2))) x4 x35_0 x35_1 x35_2 x35_3 x35_4 (iadd .i64 x36 1) b1_0 b1_1 b1_2 b1_3 b1_4 b1_5 K)
 (none))
 (none))
 (none))
 (sel (ieq x36 4)
 (sel (band (ile 0 x36) (ilt x36 5))
 (sel (okApp x3 [(V.int .u8 (asInt (acell (lget [(V.int .u8 45), (V.int .u8 45), (V.int .u8 84), (V.int .u8 58), (V.int .u8 58)] x36) 0)))])
 (sel (band (band (ile (-1000000) x35_4) (ile x35_4 1000000)) (band (band (ile 0 2) (ile 2 10)) (ile (llen (lcat x3 [(V.int .u8 (asInt (acell (lget [(V.int .u8 45), (V.int .u8 45), (V.int .u8 84), (V.int .u8 58), (V.int .u8 58)] x36) 0)))])) 1000)))
 (uText_L0 F [] n x0_0 x0_1 x0_2 x0_3 x0_4 x0_5 (lcat (lcat x3 [(V.int .u8 (asInt (acell (lget [(V.int .u8 45), (V.int .u8 45), (V.int .u8 84), (V.int .u8 58), (V.int .u8 58)] x36) 0)))]) (bytesV (wideT x35_4 2))) x4 x35_0 x35_1 x35_2 x35_3 x35_4 (iadd .i64 x36 1) b1_0 b1_1 b1_2 b1_3 b1_4 b1_5 K)
 (none))
 (none))
 (none))
 (none))))))
 (K (V.str (vbytes x3))) := by kernel_rfl
end Nt.Ev.YtdhegeecbbponaaDoor

set_option linter.unusedVariables false
set_option linter.unusedSimpArgs false
namespace Nt.Ev.YtdhegeecbbponaaDoor
set_option maxRecDepth 100000
open Go Go.RowKit Nt Nt.Num Nt.Civil Go.Proofs.YtdhegeecbbponaaDoor
theorem uE_ok : EOk uE := ⟨by kernel_rfl, by kernel_rfl⟩
theorem toU {f : Nat} {args : List V} {r : V} (h : Contract vE f args r) : Contract uE f args r := Contract.env (E := vE) rfl (fun n v h => by cases h) h
theorem toU' {f : Nat} {args : List V} {r : V} (h : Contract nE f args r) : Contract uE f args r := Contract.env (E := nE) rfl (fun n v h => by cases h) h
theorem len_u {s : List UInt8} (h : ile (slen s) 1000 = true) : s.length ≤ 1000 := by rw [ile_iff, slen_nat] at h; omega
theorem uCutS_ok (s p : List UInt8) (hc : ile (slen s) 1000 = true) : Contract uE 62 [.str s, .str p] (.tup [.str (cpTu s p), .bool (cpBu s p)]) := by
  refine contract_old fun G w vs hG hg hp => ?_
  obtain ⟨x, y, rfl, hx, hy⟩ := PW_two hp
  unfold rep at hx hy
  subst hx; subst hy
  refine (Go.Proofs.Tryd.strings_CutPrefix ⟨s.toArray⟩ ⟨p.toArray⟩ w).mono ?_
  rintro e w' ⟨rfl, rfl⟩
  exact ⟨_, rfl, Below.refl _ _, res_two (same_str _) (same_bool _)⟩
theorem uTextS_ok (m : Int) (hc : band (ile (-9223372036854775808) m) (ile m 9223372036854775807) = true) : Contract uE 20 [.int .i64 m] (.str (text m)) := toU' (nText_ev m (st_fits hc))
theorem uRightS_ok (y m d h i s : Int) (hc : true = true) : Contract uE 48 [.agg [.int .i64 y, .int .i64 m, .int .i64 d, .int .i64 h, .int .i64 i, .int .i64 s]] (.bool (stB y m d h i s)) := toU (stRight_ev y m d h i s)
theorem uTrimS_ok (s c : List UInt8) (hc : band (ile (slen s) 1000) (band (ile (slen c) 1000) (asciiBu c)) = true) : Contract uE 63 [.str s, .str c] (.str (trimCu s c)) := by
  obtain ⟨h1, h3⟩ := band_true hc
  obtain ⟨h2, h3⟩ := band_true h3
  have h1 := len_u h1
  have h2 := len_u h2
  refine contract_old fun G w vs hG hg hp => ?_
  obtain ⟨x, y, rfl, hx, hy⟩ := PW_two hp
  unfold rep at hx hy
  subst hx; subst hy
  refine (Go.Proofs.Tryd.strings_Trim ⟨s.toArray⟩ ⟨c.toArray⟩ w (show s.toArray.size ≤ _ by simp; omega) (show c.toArray.size < _ by simp; omega) (fun j b hb => ?_)).mono ?_
  · have h3 : (c.all fun c => decide (c.toNat < 128)) = true := h3
    have := List.all_eq_true.1 h3 b (List.mem_of_getElem? hb)
    exact of_decide_eq_true this
  · rintro e w' ⟨rfl, hb⟩
    exact ⟨_, rfl, hb, res_str _⟩
theorem uReadS_ok (s : List UInt8) (hc : ile (slen s) 1000 = true) : Contract uE 26 [.str s] (.tup [.int .i64 (nrI s), .int .i64 (nrW s)]) := toU' (nRead_c s (len_u hc))
theorem uSt_ok : SOk uE uSt := by
  unfold uSt
  refine SOk.cons (fun args r h => ?_) (SOk.cons (fun args r h => ?_) (SOk.cons (fun args r h => ?_) (SOk.cons (fun args r h => ?_) (SOk.cons (fun args r h => ?_) (SOk.nil)))))
  · unfold uCutS at h
    split at h
    · simp only [Option.some.injEq, Prod.mk.injEq] at h
      obtain ⟨hc, rfl⟩ := h
      exact uCutS_ok _ _ hc
    · cases h
  · unfold uTextS at h
    split at h
    · simp only [Option.some.injEq, Prod.mk.injEq] at h
      obtain ⟨hc, rfl⟩ := h
      exact uTextS_ok _ hc
    · cases h
  · unfold uRightS at h
    split at h
    · simp only [Option.some.injEq, Prod.mk.injEq] at h
      obtain ⟨hc, rfl⟩ := h
      exact uRightS_ok _ _ _ _ _ _ rfl
    · cases h
  · unfold uTrimS at h
    split at h
    · simp only [Option.some.injEq, Prod.mk.injEq] at h
      obtain ⟨hc, rfl⟩ := h
      exact uTrimS_ok _ _ hc
    · cases h
  · unfold uReadS at h
    split at h
    · simp only [Option.some.injEq, Prod.mk.injEq] at h
      obtain ⟨hc, rfl⟩ := h
      exact uReadS_ok _ hc
    · cases h
theorem bytes_len (l : List UInt8) : (bytesV l).length = l.length := by unfold bytesV; rw [List.length_map]
theorem pad_loop (F : Nat) (x k p : Int) (t : List UInt8) (hp : p ≤ 10) (ht : t.length ≤ 30) : ∀ (n : Nat) (i : Int) (L : List V), 0 ≤ i → p ≤ i + n → L.length + (p - i).toNat ≤ 2000 →
    uPad_L0 F [] (n + 1) L x k t p i some = some (.out false (.sl 5 [.int .u8] (some 1000000000) (lcat L (bytesV (List.replicate (p - i).toNat 48 ++ t)))) []) := by
  intro n
  induction n with
  | zero =>
    intro i L h0 h1 h2
    rw [uPad_L0_succ, sel_neg (ilt_f (by omega)), sel_pos (by rw [okApp_iff, bytes_len]; omega), show (p - i).toNat = 0 by omega]
    rfl
  | succ n ih =>
    intro i L h0 h1 h2
    rw [uPad_L0_succ]
    by_cases h : i < p
    · rw [sel_pos (ilt_t h), sel_pos (by rw [okApp_iff]; simp only [List.length_cons, List.length_nil]; omega), iadd64 (by omega)]
      rw [ih (i + 1) _ (by omega) (by omega) (by unfold lcat; rw [List.length_append]; simp only [List.length_cons, List.length_nil]; omega)]
      rw [show (p - i).toNat = (p - (i + 1)).toNat + 1 by omega, List.replicate_succ]
      unfold lcat bytesV
      simp
    · rw [sel_neg (ilt_f (by omega)), sel_pos (by rw [okApp_iff, bytes_len]; omega), show (p - i).toNat = 0 by omega]
      rfl
theorem uPadS_ok (L : List V) (n k : Int) (hc : band (band (ile (-1000000) n) (ile n 1000000)) (band (band (ile 0 k) (ile k 10)) (ile (llen L) 1000)) = true) : XOk uE 49 [.sl 5 [.int .u8] (some 1000001000) L, .int .i64 n, .int .i64 k] (.out false (.sl 5 [.int .u8] (some 1000000000) (lcat L (bytesV (wideT n k)))) []) := by
  simp only [band_iff, ile_iff, llen_nat] at hc
  refine XOk.out (xc_of_body uE_ok uSt_ok 12 2 ?_)
  have ht := (text_len n (by unfold Fits; omega)).1
  rw [uPad_top, sel_pos (by rw [band_iff, ile_iff, ile_iff]; omega), slen_nat, isub64 (by omega)]
  rw [pad_loop 12 n k (k - (text n).length) (text n) (by omega) (by omega) 11 0 L (by omega) (by omega) (by omega)]
  unfold wideT
  rw [show (k - ((text n).length : Int) - 0).toNat = k.toNat - (text n).length by omega]
theorem uS2_ok : SOk uE uS2 := by
  unfold uS2
  refine SOk.consX (fun args r h => ?_) (uSt_ok)
  · unfold uPadS at h
    split at h
    · simp only [Option.some.injEq, Prod.mk.injEq] at h
      obtain ⟨hc, rfl⟩ := h
      exact uPadS_ok _ _ _ hc
    · cases h
theorem cat_sign (l w : List UInt8) (c : UInt8) : lcat (lcat (bytesV l) [V.int .u8 (c.toNat : Int)]) (bytesV w) = bytesV (l ++ c :: w) := by
  unfold lcat bytesV; simp
theorem vbytes_bytes (l : List UInt8) : vbytes (bytesV l) = l := by
  unfold vbytes bytesV
  rw [List.map_map]
  conv => rhs; rw [← List.map_id l]
  refine List.map_congr_left fun c _ => ?_
  show UInt8.ofNat ((c.toNat : Int).toNat) = c
  rw [Int.toNat_natCast]; simp
theorem uText_r0 (F n : Nat) (a0 a1 a2 a3 a4 a5 x m d h i s b0 b1 b2 b3 b4 b5 : Int) (l : List UInt8) (K : V → Option V) (hl : l.length ≤ 900) (hx : 0 ≤ m ∧ m ≤ 1000) :
    uText_L0 F [] (n + 1) a0 a1 a2 a3 a4 a5 (bytesV l) x m d h i s 0 b0 b1 b2 b3 b4 b5 K = uText_L0 F [] n a0 a1 a2 a3 a4 a5 (bytesV (l ++ 45 :: wideT m 2)) x m d h i s 1 b0 b1 b2 b3 b4 b5 K := by
  have e : asInt (acell (lget [(V.int .u8 45), (V.int .u8 45), (V.int .u8 84), (V.int .u8 58), (V.int .u8 58)] 0) 0) = ((45 : UInt8).toNat : Int) := rfl
  have hw := wide_len m 2 (by omega) (by omega)
  rw [uText_L0_succ, sel_pos (ilt_t (by decide)), sel_pos (ieq_t rfl), e, cat_sign]
  rw [sel_pos (by rw [band_iff, ile_iff, ilt_iff]; decide), sel_pos (by rw [okApp_iff, bytes_len]; simp only [List.length_cons, List.length_nil]; omega)]
  rw [sel_pos (by simp only [band_iff, ile_iff, llen_nat]; unfold lcat; rw [List.length_append, bytes_len]; simp only [List.length_cons, List.length_nil]; omega)]
  rfl
theorem uText_r1 (F n : Nat) (a0 a1 a2 a3 a4 a5 x m d h i s b0 b1 b2 b3 b4 b5 : Int) (l : List UInt8) (K : V → Option V) (hl : l.length ≤ 900) (hx : 0 ≤ d ∧ d ≤ 1000) :
    uText_L0 F [] (n + 1) a0 a1 a2 a3 a4 a5 (bytesV l) x m d h i s 1 b0 b1 b2 b3 b4 b5 K = uText_L0 F [] n a0 a1 a2 a3 a4 a5 (bytesV (l ++ 45 :: wideT d 2)) x m d h i s 2 b0 b1 b2 b3 b4 b5 K := by
  have e : asInt (acell (lget [(V.int .u8 45), (V.int .u8 45), (V.int .u8 84), (V.int .u8 58), (V.int .u8 58)] 1) 0) = ((45 : UInt8).toNat : Int) := rfl
  have hw := wide_len d 2 (by omega) (by omega)
  rw [uText_L0_succ, sel_pos (ilt_t (by decide)), sel_neg (ieq_f (by decide)), sel_pos (ieq_t rfl), e, cat_sign]
  rw [sel_pos (by rw [band_iff, ile_iff, ilt_iff]; decide), sel_pos (by rw [okApp_iff, bytes_len]; simp only [List.length_cons, List.length_nil]; omega)]
  rw [sel_pos (by simp only [band_iff, ile_iff, llen_nat]; unfold lcat; rw [List.length_append, bytes_len]; simp only [List.length_cons, List.length_nil]; omega)]
  rfl
theorem uText_r2 (F n : Nat) (a0 a1 a2 a3 a4 a5 x m d h i s b0 b1 b2 b3 b4 b5 : Int) (l : List UInt8) (K : V → Option V) (hl : l.length ≤ 900) (hx : 0 ≤ h ∧ h ≤ 1000) :
    uText_L0 F [] (n + 1) a0 a1 a2 a3 a4 a5 (bytesV l) x m d h i s 2 b0 b1 b2 b3 b4 b5 K = uText_L0 F [] n a0 a1 a2 a3 a4 a5 (bytesV (l ++ 84 :: wideT h 2)) x m d h i s 3 b0 b1 b2 b3 b4 b5 K := by
  have e : asInt (acell (lget [(V.int .u8 45), (V.int .u8 45), (V.int .u8 84), (V.int .u8 58), (V.int .u8 58)] 2) 0) = ((84 : UInt8).toNat : Int) := rfl
  have hw := wide_len h 2 (by omega) (by omega)
  rw [uText_L0_succ, sel_pos (ilt_t (by decide)), sel_neg (ieq_f (by decide)), sel_neg (ieq_f (by decide)), sel_pos (ieq_t rfl), e, cat_sign]
  rw [sel_pos (by rw [band_iff, ile_iff, ilt_iff]; decide), sel_pos (by rw [okApp_iff, bytes_len]; simp only [List.length_cons, List.length_nil]; omega)]
  rw [sel_pos (by simp only [band_iff, ile_iff, llen_nat]; unfold lcat; rw [List.length_append, bytes_len]; simp only [List.length_cons, List.length_nil]; omega)]
  rfl
theorem uText_r3 (F n : Nat) (a0 a1 a2 a3 a4 a5 x m d h i s b0 b1 b2 b3 b4 b5 : Int) (l : List UInt8) (K : V → Option V) (hl : l.length ≤ 900) (hx : 0 ≤ i ∧ i ≤ 1000) :
    uText_L0 F [] (n + 1) a0 a1 a2 a3 a4 a5 (bytesV l) x m d h i s 3 b0 b1 b2 b3 b4 b5 K = uText_L0 F [] n a0 a1 a2 a3 a4 a5 (bytesV (l ++ 58 :: wideT i 2)) x m d h i s 4 b0 b1 b2 b3 b4 b5 K := by
  have e : asInt (acell (lget [(V.int .u8 45), (V.int .u8 45), (V.int .u8 84), (V.int .u8 58), (V.int .u8 58)] 3) 0) = ((58 : UInt8).toNat : Int) := rfl
  have hw := wide_len i 2 (by omega) (by omega)
  rw [uText_L0_succ, sel_pos (ilt_t (by decide)), sel_neg (ieq_f (by decide)), sel_neg (ieq_f (by decide)), sel_neg (ieq_f (by decide)), sel_pos (ieq_t rfl), e, cat_sign]
  rw [sel_pos (by rw [band_iff, ile_iff, ilt_iff]; decide), sel_pos (by rw [okApp_iff, bytes_len]; simp only [List.length_cons, List.length_nil]; omega)]
  rw [sel_pos (by simp only [band_iff, ile_iff, llen_nat]; unfold lcat; rw [List.length_append, bytes_len]; simp only [List.length_cons, List.length_nil]; omega)]
  rfl
theorem uText_r4 (F n : Nat) (a0 a1 a2 a3 a4 a5 x m d h i s b0 b1 b2 b3 b4 b5 : Int) (l : List UInt8) (K : V → Option V) (hl : l.length ≤ 900) (hx : 0 ≤ s ∧ s ≤ 1000) :
    uText_L0 F [] (n + 1) a0 a1 a2 a3 a4 a5 (bytesV l) x m d h i s 4 b0 b1 b2 b3 b4 b5 K = uText_L0 F [] n a0 a1 a2 a3 a4 a5 (bytesV (l ++ 58 :: wideT s 2)) x m d h i s 5 b0 b1 b2 b3 b4 b5 K := by
  have e : asInt (acell (lget [(V.int .u8 45), (V.int .u8 45), (V.int .u8 84), (V.int .u8 58), (V.int .u8 58)] 4) 0) = ((58 : UInt8).toNat : Int) := rfl
  have hw := wide_len s 2 (by omega) (by omega)
  rw [uText_L0_succ, sel_pos (ilt_t (by decide)), sel_neg (ieq_f (by decide)), sel_neg (ieq_f (by decide)), sel_neg (ieq_f (by decide)), sel_neg (ieq_f (by decide)), sel_pos (ieq_t rfl), e, cat_sign]
  rw [sel_pos (by rw [band_iff, ile_iff, ilt_iff]; decide), sel_pos (by rw [okApp_iff, bytes_len]; simp only [List.length_cons, List.length_nil]; omega)]
  rw [sel_pos (by simp only [band_iff, ile_iff, llen_nat]; unfold lcat; rw [List.length_append, bytes_len]; simp only [List.length_cons, List.length_nil]; omega)]
  rfl
theorem uText_ev (y m d h i s : Int) : Contract uE 30 [.agg [.int .i64 y, .int .i64 m, .int .i64 d, .int .i64 h, .int .i64 i, .int .i64 s]] (.str (stTxt y m d h i s)) := by
  refine contract_of_body uE_ok uS2_ok 8 2 ?_
  rw [uText_top]
  unfold stTxt
  cases hb : stB y m d h i s with
  | false => rfl
  | true =>
    obtain ⟨hv, h1⟩ := stB_iff.1 hb
    obtain ⟨y1, y2, hv2⟩ := validB_iff.1 hv
    have hm := len_month hv2
    have hd : 1 ≤ d ∧ d ≤ 31 := ⟨hv2.1, by have := len_pos y m hm.1 hm.2; have := hv2.2; omega⟩
    have lm := wide_len m 2 (by omega) (by omega)
    have ld := wide_len d 2 (by omega) (by omega)
    have lh := wide_len h 2 (by omega) (by omega)
    have li := wide_len i 2 (by omega) (by omega)
    have ls := wide_len s 2 (by omega) (by omega)
    have ly := wide_len y 4 (by omega) (by omega)
    have ly' := wide_len (-y) 4 (by omega) (by omega)
    have e : isub .i64 0 y = -y := by rw [isub64 (by omega)]; omega
    have go : ∀ (x : Int) (l : List UInt8), l.length ≤ 100 → uText_L0 8 [] 8 y m d h i s (bytesV l) x m d h i s 0 y m d h i s some = some (.str (l ++ 45 :: wideT m 2 ++ 45 :: wideT d 2 ++ 84 :: wideT h 2 ++ 58 :: wideT i 2 ++ 58 :: wideT s 2)) := by
      intro x l hl
      rw [uText_r0 (hl := by omega) (hx := by omega), uText_r1 (hl := by simp only [List.length_append, List.length_cons]; omega) (hx := by omega), uText_r2 (hl := by simp only [List.length_append, List.length_cons]; omega) (hx := by omega), uText_r3 (hl := by simp only [List.length_append, List.length_cons]; omega) (hx := by omega), uText_r4 (hl := by simp only [List.length_append, List.length_cons]; omega) (hx := by omega)]
      rw [uText_L0_succ, sel_neg (ilt_f (by decide)), vbytes_bytes]
    rw [sel_neg (by rfl), if_pos rfl, e]
    by_cases h0 : y < 0
    · rw [sel_pos (ilt_t h0), if_pos h0, sel_pos (by rw [okApp_iff]; decide), sel_pos (by simp only [band_iff, ile_iff]; refine ⟨⟨by omega, by omega⟩, ⟨by omega, by omega⟩, by decide⟩)]
      rw [show lcat (lcat [] [V.int .u8 45]) (bytesV (wideT (-y) 4)) = bytesV (45 :: wideT (-y) 4) from cat_sign [] _ 45]
      rw [go _ _ (by rw [List.length_cons]; omega)]
    · rw [sel_neg (ilt_f (by omega)), if_neg h0, sel_pos (by simp only [band_iff, ile_iff]; refine ⟨⟨by omega, by omega⟩, ⟨by omega, by omega⟩, by decide⟩)]
      rw [show lcat [] (bytesV (wideT y 4)) = bytesV (wideT y 4) from rfl]
      rw [go _ _ (by omega)]
end Nt.Ev.YtdhegeecbbponaaDoor
