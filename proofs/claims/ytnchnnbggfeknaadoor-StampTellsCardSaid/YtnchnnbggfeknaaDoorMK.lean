/-
  Stamp: equations of functions, as the evaluator prints them. Stamps: Right, Secs, Of, Split, both sides. Stamp2: equations of functions, as the evaluator prints them. Stamps: Text and Read, both sides. StampLaw: equations of functions, as the evaluator prints them. Stamps: the statements StampTells and StampBack.
-/
import Derived.Test.YtnchnnbggfeknaaDoorMI
import Derived.Test.YtnchnnbggfeknaaDoorME
set_option linter.unusedVariables false
set_option linter.unusedSimpArgs false
set_option linter.unusedSectionVars false
namespace Nt.Ev.YtnchnnbggfeknaaDoor
open Go Nt.Num Go.Proofs.YtnchnnbggfeknaaDoor
open Nt.Civil
def dyI (y m d : Int) : Int := (daysP y m d).1
def dyW (y m d : Int) : Int := (daysP y m d).2
def daY (n : Int) : Int := (dateP n).1
def daM (n : Int) : Int := (dateP n).2.1
def daD (n : Int) : Int := (dateP n).2.2.1
def daW (n : Int) : Int := (dateP n).2.2.2
noncomputable def sdivS : FSpec := fun a => match a with | [.int .i64 a, .int .i64 b] => some (band (band (ile (-9223372036854775808) a) (ile a 9223372036854775807)) (band (ilt 0 b) (ile b 1000000)), .tup [.int .i64 (fq a b), .int .i64 (fr a b), .int .i64 0]) | _ => none
noncomputable def sdivR : FSpec := fun a => match a with | [.int .i64 a, .int .i64 b] => some (band (band (ile (-9223372036854775808) a) (ile a 9223372036854775807)) (band (ilt 0 b) (ile b 1000000)), .tup [.int .i64 (fq a b), .int .i64 (fr a b), .int .i64 0]) | _ => none
noncomputable def srightS : FSpec := fun a => match a with | [.agg [.int .i64 y, .int .i64 m, .int .i64 d]] => some (true, .bool (validB y m d)) | _ => none
noncomputable def sdaysS : FSpec := fun a => match a with | [.agg [.int .i64 y, .int .i64 m, .int .i64 d]] => some (true, .tup [.int .i64 (dyI y m d), .int .i64 (dyW y m d)]) | _ => none
noncomputable def sdateS : FSpec := fun a => match a with | [.int .i64 n] => some (band (ile (-9223372036854775808) n) (ile n 9223372036854775807), .tup [.agg [.int .i64 (daY n), .int .i64 (daM n), .int .i64 (daD n)], .int .i64 (daW n)]) | _ => none
noncomputable def stS : List (Nat × FSpec) := (95, sdivS) :: (96, sdivR) :: (97, srightS) :: (99, srightS) :: (59, sdaysS) :: (87, sdaysS) :: (88, sdateS) :: (89, sdateS) :: []
def stB (y m d h i s : Int) : Bool := validB y m d && decide (0 ≤ h ∧ h ≤ 23 ∧ 0 ≤ i ∧ i ≤ 59 ∧ 0 ≤ s ∧ s ≤ 59)
noncomputable def stRightS : FSpec := fun a => match a with | [.agg [.int .i64 y, .int .i64 m, .int .i64 d, .int .i64 h, .int .i64 i, .int .i64 s]] => some (true, .bool (stB y m d h i s)) | _ => none
noncomputable def stS2 : List (Nat × FSpec) := (48, stRightS) :: (49, stRightS) :: stS
def wideT (n k : Int) : List UInt8 := List.replicate (k.toNat - (Num.text n).length) 48 ++ Num.text n
noncomputable def sTextS : FSpec := fun a => match a with | [.int .i64 n] => some (band (ile (-9223372036854775808) n) (ile n 9223372036854775807), .str (text n)) | _ => none
noncomputable def wideS : FSpec := fun a => match a with | [.int .i64 n, .int .i64 k] => some (band (band (ile (-1000000) n) (ile n 1000000)) (band (ile 0 k) (ile k 10)), .str (wideT n k)) | _ => none
noncomputable def stS3 : List (Nat × FSpec) := (74, sTextS) :: (76, sTextS) :: stS2
noncomputable def stS4 : List (Nat × FSpec) := (101, wideS) :: stS3
def digB (s : List UInt8) : Bool := digitsB s
noncomputable def sDigS : FSpec := fun a => match a with | [.str s] => some (ile (slen s) 1000, .bool (digB s)) | _ => none
noncomputable def stS5 : List (Nat × FSpec) := (92, sDigS) :: stS4

set_option maxRecDepth 100000 in
theorem stRight_top (F : Nat) (y : Int) (m : Int) (d : Int) (h : Int) (i : Int) (s : Int) (K : V → Option V) :
    evBd vE (evFn vE stS F 2) F 48 [(V.agg [(V.int .i64 y), (V.int .i64 m), (V.int .i64 d), (V.int .i64 h), (V.int .i64 i), (V.int .i64 s)])] K =
    sel (validB y m d)
      (sel (ile 0 h)
        (sel (ilt h 24)
          (sel (ile 0 i)
            (sel (ilt i 60)
              (sel (ile 0 s)
                (K (V.bool (ilt s 60)))
                (K (V.bool false)))
              (K (V.bool false)))
            (K (V.bool false)))
          (K (V.bool false)))
        (K (V.bool false)))
      (K (V.bool false)) := by kernel_rfl



set_option maxRecDepth 100000 in
theorem srRight_top (F : Nat) (y : Int) (m : Int) (d : Int) (h : Int) (i : Int) (s : Int) (K : V → Option V) :
    evBd vE (evFn vE stS F 2) F 49 [(V.agg [(V.int .i64 y), (V.int .i64 m), (V.int .i64 d), (V.int .i64 h), (V.int .i64 i), (V.int .i64 s)])] K =
    sel (validB y m d)
      (sel (ile 0 h)
        (sel (ile h 23)
          (sel (ile 0 i)
            (sel (ile i 59)
              (sel (ile 0 s)
                (K (V.bool (ile s 59)))
                (K (V.bool false)))
              (K (V.bool false)))
            (K (V.bool false)))
          (K (V.bool false)))
        (K (V.bool false)))
      (K (V.bool false)) := by kernel_rfl



set_option maxRecDepth 100000 in
theorem stSecs_top (F : Nat) (y : Int) (m : Int) (d : Int) (h : Int) (i : Int) (s : Int) (K : V → Option V) :
    evBd vE (evFn vE stS2 F 2) F 39 [(V.agg [(V.int .i64 y), (V.int .i64 m), (V.int .i64 d), (V.int .i64 h), (V.int .i64 i), (V.int .i64 s)])] K =
    sel (bnot (stB y m d h i s))
      (K (V.tup [(V.int .i64 0), (V.int .i64 1)]))
      (K (V.tup [(V.int .i64 (iadd .i64 (imul .i64 (dyI y m d) 86400) (iadd .i64 (iadd .i64 (imul .i64 h 3600) (imul .i64 i 60)) s))), (V.int .i64 (dyW y m d))])) := by kernel_rfl



set_option maxRecDepth 100000 in
theorem srSecs_top (F : Nat) (y : Int) (m : Int) (d : Int) (h : Int) (i : Int) (s : Int) (K : V → Option V) :
    evBd vE (evFn vE stS2 F 2) F 40 [(V.agg [(V.int .i64 y), (V.int .i64 m), (V.int .i64 d), (V.int .i64 h), (V.int .i64 i), (V.int .i64 s)])] K =
    sel (bnot (stB y m d h i s))
      (K (V.tup [(V.int .i64 0), (V.int .i64 1)]))
      (K (V.tup [(V.int .i64 (iadd .i64 (iadd .i64 (iadd .i64 (imul .i64 (dyI y m d) 86400) (imul .i64 h 3600)) (imul .i64 i 60)) s)), (V.int .i64 0)])) := by kernel_rfl



set_option maxRecDepth 100000 in
theorem stSplit_top (F : Nat) (t : Int) (K : V → Option V) :
    evBd vE (evFn vE stS2 F 2) F 45 [(V.int .i64 t)] K =
    sel (band (band (ile (-9223372036854775808) t) (ile t 9223372036854775807)) (band (ilt 0 86400) (ile 86400 1000000)))
      (K (V.tup [(V.int .i64 (fq t 86400)), (V.int .i64 (fr t 86400))]))
      (none) := by kernel_rfl



set_option maxRecDepth 100000 in
theorem stOf_top (F : Nat) (t : Int) (K : V → Option V) :
    evBd vE (evFn vE stS2 F 3) F 41 [(V.int .i64 t)] K =
    sel (band (band (ile (-9223372036854775808) t) (ile t 9223372036854775807)) (band (ilt 0 86400) (ile 86400 1000000)))
      (sel (band (ile (-9223372036854775808) (fq t 86400)) (ile (fq t 86400) 9223372036854775807))
        (sel (bnot (ieq (daW (fq t 86400)) 0))
          (K (V.tup [(V.agg [(V.int .i64 0), (V.int .i64 0), (V.int .i64 0), (V.int .i64 0), (V.int .i64 0), (V.int .i64 0)]), (V.int .i64 (daW (fq t 86400)))]))
          (K (V.tup [(V.agg [(V.int .i64 (daY (fq t 86400))), (V.int .i64 (daM (fq t 86400))), (V.int .i64 (daD (fq t 86400))), (V.int .i64 (iquo .i64 (fr t 86400) 3600)), (V.int .i64 (iquo .i64 (irem (fr t 86400) 3600) 60)), (V.int .i64 (irem (fr t 86400) 60))]), (V.int .i64 0)])))
        (none))
      (none) := by kernel_rfl



set_option maxRecDepth 100000 in
theorem srFloor_top (F : Nat) (t : Int) (b : Int) (K : V → Option V) :
    evBd vE (evFn vE stS2 F 2) F 46 [(V.int .i64 t), (V.int .i64 b)] K =
    sel (band (band (ile (-9223372036854775808) t) (ile t 9223372036854775807)) (band (ilt 0 b) (ile b 1000000)))
      (K (V.int .i64 (fq t b)))
      (none) := by kernel_rfl



set_option maxRecDepth 100000 in
theorem srRest_top (F : Nat) (t : Int) (b : Int) (K : V → Option V) :
    evBd vE (evFn vE stS2 F 2) F 47 [(V.int .i64 t), (V.int .i64 b)] K =
    sel (band (band (ile (-9223372036854775808) t) (ile t 9223372036854775807)) (band (ilt 0 b) (ile b 1000000)))
      (K (V.int .i64 (fr t b)))
      (none) := by kernel_rfl



set_option maxRecDepth 100000 in
theorem srOf_top (F : Nat) (t : Int) (K : V → Option V) :
    evBd vE (evFn vE stS2 F 3) F 42 [(V.int .i64 t)] K =
    sel (band (band (ile (-9223372036854775808) t) (ile t 9223372036854775807)) (band (ilt 0 86400) (ile 86400 1000000)))
      (sel (band (ile (-9223372036854775808) (fq t 86400)) (ile (fq t 86400) 9223372036854775807))
        (sel (bnot (ieq (daW (fq t 86400)) 0))
          (K (V.tup [(V.agg [(V.int .i64 0), (V.int .i64 0), (V.int .i64 0), (V.int .i64 0), (V.int .i64 0), (V.int .i64 0)]), (V.int .i64 (daW (fq t 86400)))]))
          (sel (band (band (ile (-9223372036854775808) t) (ile t 9223372036854775807)) (band (ilt 0 86400) (ile 86400 1000000)))
            (K (V.tup [(V.agg [(V.int .i64 (daY (fq t 86400))), (V.int .i64 (daM (fq t 86400))), (V.int .i64 (daD (fq t 86400))), (V.int .i64 (iquo .i64 (fr t 86400) 3600)), (V.int .i64 (irem (iquo .i64 (fr t 86400) 60) 60)), (V.int .i64 (irem (fr t 86400) 60))]), (V.int .i64 0)]))
            (none)))
        (none))
      (none) := by kernel_rfl


noncomputable def srWide_L0 (F : Nat) (ns : List Nat) (n : Nat) (x0 : Int) (x1 : Int) (x5 : List UInt8) (K : V → Option V) : Option V :=
  loopAt vE stS3 F 2 101 [1, 1, 0, 0] ns K n (mkSt 15 [(0, V.int .i64 x0), (1, V.int .i64 x1), (4, V.str []), (5, V.str x5)] [])

set_option maxRecDepth 100000 in
theorem srWide_top (F : Nat) (n : Int) (k : Int) (K : V → Option V) :
    evBd vE (evFn vE stS3 F 2) F 101 [(V.int .i64 n), (V.int .i64 k)] K =
    sel (band (ile (-9223372036854775808) n) (ile n 9223372036854775807))
      (srWide_L0 F [] F n k (text n) K)
      (none) := by kernel_rfl

set_option maxRecDepth 100000 in
theorem srWide_L0_zero (F : Nat) (ns : List Nat) (x0 : Int) (x1 : Int) (x5 : List UInt8) (K : V → Option V) : srWide_L0 F ns 0 x0 x1 x5 K = none := by kernel_rfl
set_option maxRecDepth 100000 in
theorem srWide_L0_succ (F : Nat) (n : Nat) (x0 : Int) (x1 : Int) (x5 : List UInt8) (K : V → Option V) :
    srWide_L0 F [] (n + 1) x0 x1 x5 K =
    sel (ilt (slen x5) x1)
      (sel (okCat [48] x5)
        (srWide_L0 F [] n x0 x1 (scat [48] x5) K)
        (none))
      (K (V.str x5)) := by kernel_rfl


set_option maxRecDepth 100000 in
theorem srText_top (F : Nat) (y : Int) (m : Int) (d : Int) (h : Int) (i : Int) (s : Int) (K : V → Option V) :
    evBd vE (evFn vE stS4 F 2) F 51 [(V.agg [(V.int .i64 y), (V.int .i64 m), (V.int .i64 d), (V.int .i64 h), (V.int .i64 i), (V.int .i64 s)])] K =
    sel (bnot (stB y m d h i s))
      (K (V.str []))
      (sel (band (band (ile (-1000000) y) (ile y 1000000)) (band (ile 0 4) (ile 4 10)))
        (sel (ilt y 0)
          (sel (band (band (ile (-1000000) (isub .i64 0 y)) (ile (isub .i64 0 y) 1000000)) (band (ile 0 4) (ile 4 10)))
            (sel (okCat [45] (wideT (isub .i64 0 y) 4))
              (sel (okCat (scat [45] (wideT (isub .i64 0 y) 4)) [45])
                (sel (band (band (ile (-1000000) m) (ile m 1000000)) (band (ile 0 2) (ile 2 10)))
                  (sel (okCat (scat (scat [45] (wideT (isub .i64 0 y) 4)) [45]) (wideT m 2))
                    (sel (okCat (scat (scat (scat [45] (wideT (isub .i64 0 y) 4)) [45]) (wideT m 2)) [45])
                      (sel (band (band (ile (-1000000) d) (ile d 1000000)) (band (ile 0 2) (ile 2 10)))
                        (sel (okCat (scat (scat (scat (scat [45] (wideT (isub .i64 0 y) 4)) [45]) (wideT m 2)) [45]) (wideT d 2))
                          (sel (okCat (scat (scat (scat (scat (scat [45] (wideT (isub .i64 0 y) 4)) [45]) (wideT m 2)) [45]) (wideT d 2)) [84])
                            (sel (band (band (ile (-1000000) h) (ile h 1000000)) (band (ile 0 2) (ile 2 10)))
                              (sel (okCat (scat (scat (scat (scat (scat (scat [45] (wideT (isub .i64 0 y) 4)) [45]) (wideT m 2)) [45]) (wideT d 2)) [84]) (wideT h 2))
                                (sel (okCat (scat (scat (scat (scat (scat (scat (scat [45] (wideT (isub .i64 0 y) 4)) [45]) (wideT m 2)) [45]) (wideT d 2)) [84]) (wideT h 2)) [58])
                                  (sel (band (band (ile (-1000000) i) (ile i 1000000)) (band (ile 0 2) (ile 2 10)))
                                    (sel (okCat (scat (scat (scat (scat (scat (scat (scat (scat [45] (wideT (isub .i64 0 y) 4)) [45]) (wideT m 2)) [45]) (wideT d 2)) [84]) (wideT h 2)) [58]) (wideT i 2))
                                      (sel (okCat (scat (scat (scat (scat (scat (scat (scat (scat (scat [45] (wideT (isub .i64 0 y) 4)) [45]) (wideT m 2)) [45]) (wideT d 2)) [84]) (wideT h 2)) [58]) (wideT i 2)) [58])
                                        (sel (band (band (ile (-1000000) s) (ile s 1000000)) (band (ile 0 2) (ile 2 10)))
                                          (sel (okCat (scat (scat (scat (scat (scat (scat (scat (scat (scat (scat [45] (wideT (isub .i64 0 y) 4)) [45]) (wideT m 2)) [45]) (wideT d 2)) [84]) (wideT h 2)) [58]) (wideT i 2)) [58]) (wideT s 2))
                                            (K (V.str (scat (scat (scat (scat (scat (scat (scat (scat (scat (scat (scat [45] (wideT (isub .i64 0 y) 4)) [45]) (wideT m 2)) [45]) (wideT d 2)) [84]) (wideT h 2)) [58]) (wideT i 2)) [58]) (wideT s 2))))
                                            (none))
                                          (none))
                                        (none))
                                      (none))
                                    (none))
                                  (none))
                                (none))
                              (none))
                            (none))
                          (none))
                        (none))
                      (none))
                    (none))
                  (none))
                (none))
              (none))
            (none))
          (sel (okCat (wideT y 4) [45])
            (sel (band (band (ile (-1000000) m) (ile m 1000000)) (band (ile 0 2) (ile 2 10)))
              (sel (okCat (scat (wideT y 4) [45]) (wideT m 2))
                (sel (okCat (scat (scat (wideT y 4) [45]) (wideT m 2)) [45])
                  (sel (band (band (ile (-1000000) d) (ile d 1000000)) (band (ile 0 2) (ile 2 10)))
                    (sel (okCat (scat (scat (scat (wideT y 4) [45]) (wideT m 2)) [45]) (wideT d 2))
                      (sel (okCat (scat (scat (scat (scat (wideT y 4) [45]) (wideT m 2)) [45]) (wideT d 2)) [84])
                        (sel (band (band (ile (-1000000) h) (ile h 1000000)) (band (ile 0 2) (ile 2 10)))
                          (sel (okCat (scat (scat (scat (scat (scat (wideT y 4) [45]) (wideT m 2)) [45]) (wideT d 2)) [84]) (wideT h 2))
                            (sel (okCat (scat (scat (scat (scat (scat (scat (wideT y 4) [45]) (wideT m 2)) [45]) (wideT d 2)) [84]) (wideT h 2)) [58])
                              (sel (band (band (ile (-1000000) i) (ile i 1000000)) (band (ile 0 2) (ile 2 10)))
                                (sel (okCat (scat (scat (scat (scat (scat (scat (scat (wideT y 4) [45]) (wideT m 2)) [45]) (wideT d 2)) [84]) (wideT h 2)) [58]) (wideT i 2))
                                  (sel (okCat (scat (scat (scat (scat (scat (scat (scat (scat (wideT y 4) [45]) (wideT m 2)) [45]) (wideT d 2)) [84]) (wideT h 2)) [58]) (wideT i 2)) [58])
                                    (sel (band (band (ile (-1000000) s) (ile s 1000000)) (band (ile 0 2) (ile 2 10)))
                                      (sel (okCat (scat (scat (scat (scat (scat (scat (scat (scat (scat (wideT y 4) [45]) (wideT m 2)) [45]) (wideT d 2)) [84]) (wideT h 2)) [58]) (wideT i 2)) [58]) (wideT s 2))
                                        (K (V.str (scat (scat (scat (scat (scat (scat (scat (scat (scat (scat (wideT y 4) [45]) (wideT m 2)) [45]) (wideT d 2)) [84]) (wideT h 2)) [58]) (wideT i 2)) [58]) (wideT s 2))))
                                        (none))
                                      (none))
                                    (none))
                                  (none))
                                (none))
                              (none))
                            (none))
                          (none))
                        (none))
                      (none))
                    (none))
                  (none))
                (none))
              (none))
            (none)))
        (none)) := by kernel_rfl


noncomputable def srDig_L0 (F : Nat) (ns : List Nat) (n : Nat) (x0 : List UInt8) (x2 : Bool) (x3 : Int) (K : V → Option V) : Option V :=
  loopAt vE stS4 F 2 92 [1, 0, 1, 0] ns K n (mkSt 22 [(0, V.str x0), (2, V.bool x2), (3, V.int .i64 x3)] [])

set_option maxRecDepth 100000 in
theorem srDig_top (F : Nat) (s : List UInt8) (K : V → Option V) :
    evBd vE (evFn vE stS4 F 2) F 92 [(V.str s)] K =
    srDig_L0 F [] F s false 0 K := by kernel_rfl

set_option maxRecDepth 100000 in
theorem srDig_L0_zero (F : Nat) (ns : List Nat) (x0 : List UInt8) (x2 : Bool) (x3 : Int) (K : V → Option V) : srDig_L0 F ns 0 x0 x2 x3 K = none := by kernel_rfl
set_option maxRecDepth 100000 in
theorem srDig_L0_succ (F : Nat) (n : Nat) (x0 : List UInt8) (x2 : Bool) (x3 : Int) (K : V → Option V) :
    srDig_L0 F [] (n + 1) x0 x2 x3 K =
    sel (ilt x3 (slen x0))
      (sel (band (ile 0 x3) (ilt x3 (slen x0)))
        (sel (ilt (sat x0 x3) 48)
          (K (V.bool false))
          (sel (band (ile 0 x3) (ilt x3 (slen x0)))
            (sel (ilt 57 (sat x0 x3))
              (K (V.bool false))
              (srDig_L0 F [] n x0 x2 (iadd .i64 x3 1) K))
            (none)))
        (none))
      (K (V.bool (bnot (seq x0 [])))) := by kernel_rfl


set_option maxRecDepth 100000 in
theorem srTwo_top (F : Nat) (s : List UInt8) (K : V → Option V) :
    evBd vE (evFn vE stS5 F 2) F 93 [(V.str s)] K =
    sel (band (ile 0 0) (ilt 0 (slen s)))
      (sel (band (ile 0 1) (ilt 1 (slen s)))
        (K (V.int .i64 (iadd .i64 (imul .i64 (icnv .i64 (isub .u8 (sat s 0) 48)) 10) (icnv .i64 (isub .u8 (sat s 1) 48)))))
        (none))
      (none) := by kernel_rfl


noncomputable def srYear_L0 (F : Nat) (ns : List Nat) (n : Nat) (x0 : List UInt8) (x4 : List UInt8) (x5 : Int) (x6 : Int) (K : V → Option V) : Option V :=
  loopAt vE stS5 F 2 94 [1, 1, 1, 1, 1, 1, 0, 1, 0] ns K n (mkSt 65 [(0, V.str x0), (2, V.int .i64 0), (3, V.int .i64 0), (4, V.str x4), (5, V.int .i64 x5), (6, V.int .i64 x6)] [])

set_option maxRecDepth 100000 in
theorem srYear_top (F : Nat) (s : List UInt8) (K : V → Option V) :
    evBd vE (evFn vE stS5 F 2) F 94 [(V.str s)] K =
    sel (ilt 0 (slen s))
      (sel (band (ile 0 0) (ilt 0 (slen s)))
        (sel (ieq (sat s 0) 45)
          (sel (band (ile 0 1) (ile 1 (slen s)))
            (sel (ilt (slen (ssub s 1 (slen s))) 4)
              (K (V.tup [(V.int .i64 0), (V.int .i64 4)]))
              (sel (ile (slen (ssub s 1 (slen s))) 1000)
                (sel (bnot (digB (ssub s 1 (slen s))))
                  (K (V.tup [(V.int .i64 0), (V.int .i64 4)]))
                  (sel (ilt 4 (slen (ssub s 1 (slen s))))
                    (sel (band (ile 0 0) (ilt 0 (slen (ssub s 1 (slen s)))))
                      (sel (ieq (sat (ssub s 1 (slen s)) 0) 48)
                        (K (V.tup [(V.int .i64 0), (V.int .i64 4)]))
                        (sel (seq s [45, 48, 48, 48, 48])
                          (K (V.tup [(V.int .i64 0), (V.int .i64 4)]))
                          (sel (ilt 5 (slen (ssub s 1 (slen s))))
                            (K (V.tup [(V.int .i64 0), (V.int .i64 1)]))
                            (srYear_L0 F [] F s (ssub s 1 (slen s)) 0 0 K))))
                      (none))
                    (sel (seq s [45, 48, 48, 48, 48])
                      (K (V.tup [(V.int .i64 0), (V.int .i64 4)]))
                      (sel (ilt 5 (slen (ssub s 1 (slen s))))
                        (K (V.tup [(V.int .i64 0), (V.int .i64 1)]))
                        (srYear_L0 F [] F s (ssub s 1 (slen s)) 0 0 K)))))
                (none)))
            (none))
          (sel (ilt (slen s) 4)
            (K (V.tup [(V.int .i64 0), (V.int .i64 4)]))
            (sel (ile (slen s) 1000)
              (sel (bnot (digB s))
                (K (V.tup [(V.int .i64 0), (V.int .i64 4)]))
                (sel (ilt 4 (slen s))
                  (sel (band (ile 0 0) (ilt 0 (slen s)))
                    (sel (ieq (sat s 0) 48)
                      (K (V.tup [(V.int .i64 0), (V.int .i64 4)]))
                      (sel (seq s [45, 48, 48, 48, 48])
                        (K (V.tup [(V.int .i64 0), (V.int .i64 4)]))
                        (sel (ilt 5 (slen s))
                          (K (V.tup [(V.int .i64 0), (V.int .i64 1)]))
                          (srYear_L0 F [] F s s 0 0 K))))
                    (none))
                  (sel (seq s [45, 48, 48, 48, 48])
                    (K (V.tup [(V.int .i64 0), (V.int .i64 4)]))
                    (sel (ilt 5 (slen s))
                      (K (V.tup [(V.int .i64 0), (V.int .i64 1)]))
                      (srYear_L0 F [] F s s 0 0 K)))))
              (none))))
        (none))
      (sel (ilt (slen s) 4)
        (K (V.tup [(V.int .i64 0), (V.int .i64 4)]))
        (sel (ile (slen s) 1000)
          (sel (bnot (digB s))
            (K (V.tup [(V.int .i64 0), (V.int .i64 4)]))
            (sel (ilt 4 (slen s))
              (sel (band (ile 0 0) (ilt 0 (slen s)))
                (sel (ieq (sat s 0) 48)
                  (K (V.tup [(V.int .i64 0), (V.int .i64 4)]))
                  (sel (seq s [45, 48, 48, 48, 48])
                    (K (V.tup [(V.int .i64 0), (V.int .i64 4)]))
                    (sel (ilt 5 (slen s))
                      (K (V.tup [(V.int .i64 0), (V.int .i64 1)]))
                      (srYear_L0 F [] F s s 0 0 K))))
                (none))
              (sel (seq s [45, 48, 48, 48, 48])
                (K (V.tup [(V.int .i64 0), (V.int .i64 4)]))
                (sel (ilt 5 (slen s))
                  (K (V.tup [(V.int .i64 0), (V.int .i64 1)]))
                  (srYear_L0 F [] F s s 0 0 K)))))
          (none))) := by kernel_rfl

set_option maxRecDepth 100000 in
theorem srYear_L0_zero (F : Nat) (ns : List Nat) (x0 : List UInt8) (x4 : List UInt8) (x5 : Int) (x6 : Int) (K : V → Option V) : srYear_L0 F ns 0 x0 x4 x5 x6 K = none := by kernel_rfl
set_option maxRecDepth 100000 in
theorem srYear_L0_succ (F : Nat) (n : Nat) (x0 : List UInt8) (x4 : List UInt8) (x5 : Int) (x6 : Int) (K : V → Option V) :
    srYear_L0 F [] (n + 1) x0 x4 x5 x6 K =
    sel (ilt x6 (slen x4))
      (sel (band (ile 0 x6) (ilt x6 (slen x4)))
        (srYear_L0 F [] n x0 x4 (iadd .i64 (imul .i64 10 x5) (icnv .i64 (isub .u8 (sat x4 x6) 48))) (iadd .i64 x6 1) K)
        (none))
      (sel (ilt (slen x4) (slen x0))
        (K (V.tup [(V.int .i64 (isub .i64 0 x5)), (V.int .i64 0)]))
        (K (V.tup [(V.int .i64 x5), (V.int .i64 0)]))) := by kernel_rfl


end Nt.Ev.YtnchnnbggfeknaaDoor

set_option linter.unusedVariables false
set_option linter.unusedSimpArgs false
namespace Nt.Ev.YtnchnnbggfeknaaDoor
open Go Go.RowKit Nt Nt.Num Nt.Civil Go.Proofs.YtnchnnbggfeknaaDoor

theorem sdivS_ok (a b : Int) (hc : band (band (ile (-9223372036854775808) a) (ile a 9223372036854775807)) (band (ilt 0 b) (ile b 1000000)) = true) : Contract vE 95 [.int .i64 a, .int .i64 b] (.tup [.int .i64 (fq a b), .int .i64 (fr a b), .int .i64 0]) := divS_ok a b hc
theorem sdivR_ok (a b : Int) (hc : band (band (ile (-9223372036854775808) a) (ile a 9223372036854775807)) (band (ilt 0 b) (ile b 1000000)) = true) : Contract vE 96 [.int .i64 a, .int .i64 b] (.tup [.int .i64 (fq a b), .int .i64 (fr a b), .int .i64 0]) := divS_ok_noontideref01_Div a b hc
theorem srightS_ok (y m d : Int) (hc : true = true) : Contract vE 97 [.agg [.int .i64 y, .int .i64 m, .int .i64 d]] (.bool (validB y m d)) := rightS_ok y m d hc
theorem srightS_ok_noontideref03_Right (y m d : Int) (hc : true = true) : Contract vE 99 [.agg [.int .i64 y, .int .i64 m, .int .i64 d]] (.bool (validB y m d)) := rightS_ok_noontideref03_Right y m d hc
theorem sdaysS_ok (y m d : Int) (hc : true = true) : Contract vE 59 [.agg [.int .i64 y, .int .i64 m, .int .i64 d]] (.tup [.int .i64 (dyI y m d), .int .i64 (dyW y m d)]) := vDays_ev y m d
theorem sdaysS_ok_noontideref03_Days (y m d : Int) (hc : true = true) : Contract vE 87 [.agg [.int .i64 y, .int .i64 m, .int .i64 d]] (.tup [.int .i64 (dyI y m d), .int .i64 (dyW y m d)]) := rDays_ev y m d
theorem sdateS_ok (n : Int) (hc : band (ile (-9223372036854775808) n) (ile n 9223372036854775807) = true) : Contract vE 88 [.int .i64 n] (.tup [.agg [.int .i64 (daY n), .int .i64 (daM n), .int .i64 (daD n)], .int .i64 (daW n)]) := vDate_ev n
theorem sdateS_ok_noontideref03_Date (n : Int) (hc : band (ile (-9223372036854775808) n) (ile n 9223372036854775807) = true) : Contract vE 89 [.int .i64 n] (.tup [.agg [.int .i64 (daY n), .int .i64 (daM n), .int .i64 (daD n)], .int .i64 (daW n)]) := rDate_ev n (by rw [band_iff, ile_iff, ile_iff] at hc; exact hc)
theorem stS_ok : SOk vE stS := by
  unfold stS
  refine SOk.cons (fun args r h => ?_) (SOk.cons (fun args r h => ?_) (SOk.cons (fun args r h => ?_) (SOk.cons (fun args r h => ?_) (SOk.cons (fun args r h => ?_) (SOk.cons (fun args r h => ?_) (SOk.cons (fun args r h => ?_) (SOk.cons (fun args r h => ?_) (SOk.nil))))))))
  · unfold sdivS at h
    split at h
    · simp only [Option.some.injEq, Prod.mk.injEq] at h
      obtain ⟨hc, rfl⟩ := h
      exact sdivS_ok _ _ hc
    · cases h
  · unfold sdivR at h
    split at h
    · simp only [Option.some.injEq, Prod.mk.injEq] at h
      obtain ⟨hc, rfl⟩ := h
      exact sdivR_ok _ _ hc
    · cases h
  · unfold srightS at h
    split at h
    · simp only [Option.some.injEq, Prod.mk.injEq] at h
      obtain ⟨hc, rfl⟩ := h
      exact srightS_ok _ _ _ rfl
    · cases h
  · unfold srightS at h
    split at h
    · simp only [Option.some.injEq, Prod.mk.injEq] at h
      obtain ⟨hc, rfl⟩ := h
      exact srightS_ok_noontideref03_Right _ _ _ rfl
    · cases h
  · unfold sdaysS at h
    split at h
    · simp only [Option.some.injEq, Prod.mk.injEq] at h
      obtain ⟨hc, rfl⟩ := h
      exact sdaysS_ok _ _ _ rfl
    · cases h
  · unfold sdaysS at h
    split at h
    · simp only [Option.some.injEq, Prod.mk.injEq] at h
      obtain ⟨hc, rfl⟩ := h
      exact sdaysS_ok_noontideref03_Days _ _ _ rfl
    · cases h
  · unfold sdateS at h
    split at h
    · simp only [Option.some.injEq, Prod.mk.injEq] at h
      obtain ⟨hc, rfl⟩ := h
      exact sdateS_ok _ hc
    · cases h
  · unfold sdateS at h
    split at h
    · simp only [Option.some.injEq, Prod.mk.injEq] at h
      obtain ⟨hc, rfl⟩ := h
      exact sdateS_ok_noontideref03_Date _ hc
    · cases h


theorem stRight_ev (y m d h i s : Int) : Contract vE 48 [.agg [.int .i64 y, .int .i64 m, .int .i64 d, .int .i64 h, .int .i64 i, .int .i64 s]] (.bool (stB y m d h i s)) := by
  refine contract_of_body vE_ok stS_ok 5 2 ?_
  rw [stRight_top]
  unfold stB
  cases validB y m d
  · rfl
  · simp only [st', sel_if, ile_iff, ilt_iff, Bool.true_and]
    repeat' split
    all_goals first | contradiction | (exfalso; simp_all; done) | (rw [decide_eq_false (by omega)]; done) | (congr 2; rw [Bool.eq_iff_iff, decide_eq_true_iff]; simp only [ile_iff, ilt_iff]; omega)
theorem srRight_ev (y m d h i s : Int) : Contract vE 49 [.agg [.int .i64 y, .int .i64 m, .int .i64 d, .int .i64 h, .int .i64 i, .int .i64 s]] (.bool (stB y m d h i s)) := by
  refine contract_of_body vE_ok stS_ok 5 2 ?_
  rw [srRight_top]
  unfold stB
  cases validB y m d
  · rfl
  · simp only [st', sel_if, ile_iff, ilt_iff, Bool.true_and]
    repeat' split
    all_goals first | contradiction | (exfalso; simp_all; done) | (rw [decide_eq_false (by omega)]; done) | (congr 2; rw [Bool.eq_iff_iff, decide_eq_true_iff]; simp only [ile_iff, ilt_iff]; omega)
theorem stRightS_ok (y m d h i s : Int) (hc : true = true) : Contract vE 48 [.agg [.int .i64 y, .int .i64 m, .int .i64 d, .int .i64 h, .int .i64 i, .int .i64 s]] (.bool (stB y m d h i s)) := stRight_ev y m d h i s
theorem stRightS_ok_noontideref04_Right (y m d h i s : Int) (hc : true = true) : Contract vE 49 [.agg [.int .i64 y, .int .i64 m, .int .i64 d, .int .i64 h, .int .i64 i, .int .i64 s]] (.bool (stB y m d h i s)) := srRight_ev y m d h i s
theorem stS2_ok : SOk vE stS2 := by
  unfold stS2
  refine SOk.cons (fun args r h => ?_) (SOk.cons (fun args r h => ?_) (stS_ok))
  · unfold stRightS at h
    split at h
    · simp only [Option.some.injEq, Prod.mk.injEq] at h
      obtain ⟨hc, rfl⟩ := h
      exact stRightS_ok _ _ _ _ _ _ rfl
    · cases h
  · unfold stRightS at h
    split at h
    · simp only [Option.some.injEq, Prod.mk.injEq] at h
      obtain ⟨hc, rfl⟩ := h
      exact stRightS_ok_noontideref04_Right _ _ _ _ _ _ rfl
    · cases h


/-- A stamp's number. -/
def secsI (y m d h i s : Int) : Int := daysI y m d * 86400 + h * 3600 + i * 60 + s
def secsP (y m d h i s : Int) : Int × Int := if stB y m d h i s = true then (secsI y m d h i s, 0) else (0, 1)
theorem stB_iff {y m d h i s : Int} : stB y m d h i s = true ↔ validB y m d = true ∧ 0 ≤ h ∧ h ≤ 23 ∧ 0 ≤ i ∧ i ≤ 59 ∧ 0 ≤ s ∧ s ≤ 59 := by
  unfold stB; rw [Bool.and_eq_true, decide_eq_true_iff]
theorem days_bd {y m d : Int} (h : validB y m d = true) : -20000000 ≤ daysI y m d ∧ daysI y m d ≤ 20000000 := by
  obtain ⟨y1, y2, hv⟩ := validB_iff.1 h
  have hb := yd_bounds hv
  have hz : (0 : Int) ≤ (if leapB y = true then 1 else 0) ∧ (if leapB y = true then (1 : Int) else 0) ≤ 1 := by split <;> omega
  have ha : -19000000 ≤ aheadI y ∧ aheadI y ≤ 19000000 := by unfold aheadI leapsI; omega
  unfold daysI
  omega
theorem dy_valid {y m d : Int} (h : validB y m d = true) : dyI y m d = daysI y m d ∧ dyW y m d = 0 := by
  unfold dyI dyW daysP; rw [if_pos h]; exact ⟨rfl, rfl⟩
theorem stSecs_ev (y m d h i s : Int) : Contract vE 39 [.agg [.int .i64 y, .int .i64 m, .int .i64 d, .int .i64 h, .int .i64 i, .int .i64 s]] (.tup [.int .i64 (secsP y m d h i s).1, .int .i64 (secsP y m d h i s).2]) := by
  refine contract_of_body vE_ok stS2_ok 5 2 ?_
  rw [stSecs_top]
  unfold secsP
  cases hb : stB y m d h i s with
  | false => rfl
  | true =>
    obtain ⟨hv, h1⟩ := stB_iff.1 hb
    obtain ⟨e1, e2⟩ := dy_valid hv
    have hd := days_bd hv
    rw [sel_neg (by rfl), e1, e2, if_pos rfl]
    simp (disch := omega) only [iadd64, imul64]
    unfold secsI
    rw [show daysI y m d * 86400 + (h * 3600 + i * 60 + s) = daysI y m d * 86400 + h * 3600 + i * 60 + s by omega]
theorem srSecs_ev (y m d h i s : Int) : Contract vE 40 [.agg [.int .i64 y, .int .i64 m, .int .i64 d, .int .i64 h, .int .i64 i, .int .i64 s]] (.tup [.int .i64 (secsP y m d h i s).1, .int .i64 (secsP y m d h i s).2]) := by
  refine contract_of_body vE_ok stS2_ok 5 2 ?_
  rw [srSecs_top]
  unfold secsP
  cases hb : stB y m d h i s with
  | false => rfl
  | true =>
    obtain ⟨hv, h1⟩ := stB_iff.1 hb
    obtain ⟨e1, e2⟩ := dy_valid hv
    have hd := days_bd hv
    rw [sel_neg (by rfl), e1, if_pos rfl]
    simp (disch := omega) only [iadd64, imul64]
    rfl

theorem stSplit_ev (t : Int) (ht : Fits t) : Contract vE 45 [.int .i64 t] (.tup [.int .i64 (t / 86400), .int .i64 (t % 86400)]) := by
  refine contract_of_body vE_ok stS2_ok 5 2 ?_
  rw [stSplit_top, sel_pos (by unfold Fits at ht; simp only [band_iff, ile_iff, ilt_iff]; omega)]
  rfl
theorem srFloor_ev (t : Int) (ht : Fits t) : Contract vE 46 [.int .i64 t, .int .i64 86400] (.int .i64 (t / 86400)) := by
  refine contract_of_body vE_ok stS2_ok 5 2 ?_
  rw [srFloor_top, sel_pos (by unfold Fits at ht; simp only [band_iff, ile_iff, ilt_iff]; omega)]
  rfl
theorem srRest_ev (t : Int) (ht : Fits t) : Contract vE 47 [.int .i64 t, .int .i64 86400] (.int .i64 (t % 86400)) := by
  refine contract_of_body vE_ok stS2_ok 5 2 ?_
  rw [srRest_top, sel_pos (by unfold Fits at ht; simp only [band_iff, ile_iff, ilt_iff]; omega)]
  rfl
/-- A number's stamp. -/
def ofP (t : Int) : List Int × Int := if inRange (t / 86400) = true then ([dY (t / 86400), dM (t / 86400), dD (t / 86400), t % 86400 / 3600, t % 86400 / 60 % 60, t % 86400 % 60], 0) else ([0, 0, 0, 0, 0, 0], 1)
def resO (p : List Int × Int) : V := .tup [.agg (p.1.map (V.int .i64)), .int .i64 p.2]
theorem da_in {n : Int} (h : inRange n = true) : daY n = dY n ∧ daM n = dM n ∧ daD n = dD n ∧ daW n = 0 := by
  unfold daY daM daD daW dateP; rw [if_pos h]; exact ⟨rfl, rfl, rfl, rfl⟩
theorem da_out {n : Int} (h : ¬ inRange n = true) : daW n = 1 := by
  unfold daW dateP; rw [if_neg h]
theorem stOf_ev (t : Int) (ht : Fits t) : Contract vE 41 [.int .i64 t] (resO (ofP t)) := by
  refine contract_of_body vE_ok stS2_ok 5 3 ?_
  unfold Fits at ht
  have e1 : fq t 86400 = t / 86400 := rfl
  have e2 : fr t 86400 = t % 86400 := rfl
  rw [stOf_top, sel_pos (by simp only [band_iff, ile_iff, ilt_iff]; omega), e1, e2, sel_pos (by simp only [band_iff, ile_iff]; omega)]
  unfold ofP
  by_cases hr : inRange (t / 86400) = true
  · obtain ⟨a1, a2, a3, a4⟩ := da_in hr
    rw [a1, a2, a3, a4, sel_neg (by rfl), if_pos hr]
    have hm : 0 ≤ t % 86400 ∧ t % 86400 < 86400 := by omega
    generalize t % 86400 = r at *
    have hd : r % 3600 / 60 = r / 60 % 60 := by omega
    simp (disch := omega) only [iquo64, irem_pos]
    rw [hd]; rfl
  · rw [da_out hr, sel_pos (by rfl), if_neg hr]; rfl
theorem srOf_ev (t : Int) (ht : Fits t) : Contract vE 42 [.int .i64 t] (resO (ofP t)) := by
  refine contract_of_body vE_ok stS2_ok 5 3 ?_
  unfold Fits at ht
  have e1 : fq t 86400 = t / 86400 := rfl
  have e2 : fr t 86400 = t % 86400 := rfl
  have hk : band (band (ile (-9223372036854775808) t) (ile t 9223372036854775807)) (band (ilt 0 86400) (ile 86400 1000000)) = true := by simp only [band_iff, ile_iff, ilt_iff]; omega
  rw [srOf_top, hk, e1, e2]
  rw [sel_pos rfl, sel_pos (by simp only [band_iff, ile_iff]; omega)]
  unfold ofP
  by_cases hr : inRange (t / 86400) = true
  · obtain ⟨a1, a2, a3, a4⟩ := da_in hr
    rw [a1, a2, a3, a4, sel_neg (by rfl), if_pos hr, sel_pos rfl]
    have hm : 0 ≤ t % 86400 ∧ t % 86400 < 86400 := by omega
    generalize t % 86400 = r at *
    simp (disch := omega) only [iquo64, irem_pos]
    rfl
  · rw [da_out hr, sel_pos (by rfl), if_neg hr]; rfl

theorem toSt {f : Nat} {args : List V} {r : V} (h : Contract nE f args r) : Contract vE f args r := Contract.env (E := nE) rfl (fun n v h => by cases h) h
theorem st_fits {m : Int} (h : band (ile (-9223372036854775808) m) (ile m 9223372036854775807) = true) : Fits m := by rw [band_iff, ile_iff, ile_iff] at h; exact h
theorem sTextS_ok (m : Int) (hc : band (ile (-9223372036854775808) m) (ile m 9223372036854775807) = true) : Contract vE 74 [.int .i64 m] (.str (text m)) := toSt (nText_ev m (st_fits hc))
theorem sTextS_ok_noontideref01_Text (m : Int) (hc : band (ile (-9223372036854775808) m) (ile m 9223372036854775807) = true) : Contract vE 76 [.int .i64 m] (.str (text m)) := toSt (rText_ev m (st_fits hc))
theorem stS3_ok : SOk vE stS3 := by
  unfold stS3
  refine SOk.cons (fun args r h => ?_) (SOk.cons (fun args r h => ?_) (stS2_ok))
  · unfold sTextS at h
    split at h
    · simp only [Option.some.injEq, Prod.mk.injEq] at h
      obtain ⟨hc, rfl⟩ := h
      exact sTextS_ok _ hc
    · cases h
  · unfold sTextS at h
    split at h
    · simp only [Option.some.injEq, Prod.mk.injEq] at h
      obtain ⟨hc, rfl⟩ := h
      exact sTextS_ok_noontideref01_Text _ hc
    · cases h

theorem wide_loop (F : Nat) (x k : Int) (hk : 0 ≤ k ∧ k ≤ 10) : ∀ (n : Nat) (s : List UInt8), k.toNat ≤ s.length + n → s.length ≤ 30 →
    srWide_L0 F [] (n + 1) x k s some = some (.str (List.replicate (k.toNat - s.length) 48 ++ s)) := by
  intro n
  induction n with
  | zero =>
    intro s h1 h2
    rw [srWide_L0_succ, sel_neg (ilt_f (by rw [slen_nat]; omega)), show k.toNat - s.length = 0 by omega]
    rfl
  | succ n ih =>
    intro s h1 h2
    rw [srWide_L0_succ]
    by_cases h : (s.length : Int) < k
    · rw [sel_pos (ilt_t (by rw [slen_nat]; omega)), sel_pos (by rw [okCat_iff]; simp only [List.length_cons, List.length_nil]; omega)]
      have e : scat [48] s = 48 :: s := rfl
      rw [e, ih (48 :: s) (by simp only [List.length_cons]; omega) (by simp only [List.length_cons]; omega)]
      rw [List.length_cons, show k.toNat - s.length = (k.toNat - (s.length + 1)) + 1 by omega, List.replicate_succ', List.append_assoc]
      rfl
    · rw [sel_neg (ilt_f (by rw [slen_nat]; omega)), show k.toNat - s.length = 0 by omega]
      rfl
theorem srWide_ev (n k : Int) (hn : -1000000 ≤ n ∧ n ≤ 1000000) (hk : 0 ≤ k ∧ k ≤ 10) : Contract vE 101 [.int .i64 n, .int .i64 k] (.str (wideT n k)) := by
  refine contract_of_body vE_ok stS3_ok 12 2 ?_
  rw [srWide_top, sel_pos (by rw [band_iff, ile_iff, ile_iff]; omega)]
  exact wide_loop 12 n k hk 11 (text n) (by omega) (by have := (text_len n (by unfold Fits; omega)).1; omega)
theorem wideS_ok (n k : Int) (hc : band (band (ile (-1000000) n) (ile n 1000000)) (band (ile 0 k) (ile k 10)) = true) : Contract vE 101 [.int .i64 n, .int .i64 k] (.str (wideT n k)) := by
  simp only [band_iff, ile_iff] at hc
  exact srWide_ev n k hc.1 hc.2
theorem stS4_ok : SOk vE stS4 := by
  unfold stS4
  refine SOk.cons (fun args r h => ?_) (stS3_ok)
  · unfold wideS at h
    split at h
    · simp only [Option.some.injEq, Prod.mk.injEq] at h
      obtain ⟨hc, rfl⟩ := h
      exact wideS_ok _ _ hc
    · cases h


/-- A stamp's text. -/
def stTxt (y m d h i s : Int) : List UInt8 :=
  if stB y m d h i s = true then (if y < 0 then 45 :: wideT (-y) 4 else wideT y 4) ++ 45 :: wideT m 2 ++ 45 :: wideT d 2 ++ 84 :: wideT h 2 ++ 58 :: wideT i 2 ++ 58 :: wideT s 2 else []
theorem wide_len (n k : Int) (hn : -1000000 ≤ n ∧ n ≤ 1000000) (hk : 0 ≤ k ∧ k ≤ 10) : (wideT n k).length ≤ 40 := by
  have := (text_len n (by unfold Fits; omega)).1
  unfold wideT
  rw [List.length_append, List.length_replicate]
  omega
theorem srText_ev (y m d h i s : Int) : Contract vE 51 [.agg [.int .i64 y, .int .i64 m, .int .i64 d, .int .i64 h, .int .i64 i, .int .i64 s]] (.str (stTxt y m d h i s)) := by
  refine contract_of_body vE_ok stS4_ok 5 2 ?_
  rw [srText_top]
  unfold stTxt
  cases hb : stB y m d h i s with
  | false => rfl
  | true =>
    obtain ⟨hv, h1⟩ := stB_iff.1 hb
    obtain ⟨y1, y2, hv2⟩ := validB_iff.1 hv
    have hm := len_month hv2
    have hd : 1 ≤ d ∧ d ≤ 31 := ⟨hv2.1, by have := len_pos y m hm.1 hm.2; have := hv2.2; omega⟩
    have lm := wide_len m 2 (by omega) (by omega)
    have ld := wide_len d 2 (by omega) (by omega)
    have lh := wide_len h 2 (by omega) (by omega)
    have li := wide_len i 2 (by omega) (by omega)
    have ls := wide_len s 2 (by omega) (by omega)
    have ly := wide_len y 4 (by omega) (by omega)
    have ly' := wide_len (-y) 4 (by omega) (by omega)
    have e : isub .i64 0 y = -y := by rw [isub64 (by omega)]; omega
    rw [sel_neg (by rfl), if_pos rfl, e]
    by_cases h0 : y < 0
    · rw [sel_pos (by simp only [band_iff, ile_iff]; omega), sel_pos (ilt_t h0), if_pos h0]
      repeat (rw [sel_pos (by first | (simp only [band_iff, ile_iff]; omega) | (rw [okCat_iff]; simp only [scat, List.length_append, List.length_cons, List.length_nil]; omega))])
      simp [scat]
    · rw [sel_pos (by simp only [band_iff, ile_iff]; omega), sel_neg (ilt_f (by omega)), if_neg h0]
      repeat (rw [sel_pos (by first | (simp only [band_iff, ile_iff]; omega) | (rw [okCat_iff]; simp only [scat, List.length_append, List.length_cons, List.length_nil]; omega))])
      simp [scat]

theorem sDigS_ok (s : List UInt8) (hc : ile (slen s) 1000 = true) : Contract vE 92 [.str s] (.bool (digB s)) := toSt (rDigits_ev s (by rw [ile_iff, slen_nat] at hc; omega))
theorem stS5_ok : SOk vE stS5 := by
  unfold stS5
  refine SOk.cons (fun args r h => ?_) (stS4_ok)
  · unfold sDigS at h
    split at h
    · simp only [Option.some.injEq, Prod.mk.injEq] at h
      obtain ⟨hc, rfl⟩ := h
      exact sDigS_ok _ hc
    · cases h

end Nt.Ev.YtnchnnbggfeknaaDoor

set_option linter.unusedVariables false
set_option linter.unusedSimpArgs false
set_option linter.unusedSectionVars false
namespace Nt.Ev.YtnchnnbggfeknaaDoor
open Go Nt.Num Go.Proofs.YtnchnnbggfeknaaDoor
open Nt.Civil
noncomputable def signsV : V := .rptr [.int .u8, .int .u8, .int .u8, .int .u8, .int .u8] (.agg [.int .u8 45, .int .u8 45, .int .u8 84, .int .u8 58, .int .u8 58]) 0
noncomputable def uE : Env := ⟨Go.Proofs.Tryd.prog, fun g => bif g == 0 then some signsV else none⟩
def trimC (s c : List UInt8) : List UInt8 := Lib.trimS s c
noncomputable def asciiB (l : List UInt8) : Bool := l.all fun c => decide (c.toNat < 128)
def cpB (s p : List UInt8) : Bool := Lib.hasPrefix s p
def cpT (s p : List UInt8) : List UInt8 := Lib.trimPrefix s p
noncomputable def uCutS : FSpec := fun a => match a with | [.str s, .str p] => some (ile (slen s) 1000, .tup [.str (cpT s p), .bool (cpB s p)]) | _ => none
noncomputable def uTextS : FSpec := fun a => match a with | [.int .i64 n] => some (band (ile (-9223372036854775808) n) (ile n 9223372036854775807), .str (text n)) | _ => none
noncomputable def uRightS : FSpec := fun a => match a with | [.agg [.int .i64 y, .int .i64 m, .int .i64 d, .int .i64 h, .int .i64 i, .int .i64 s]] => some (true, .bool (stB y m d h i s)) | _ => none
noncomputable def uTrimS : FSpec := fun a => match a with | [.str s, .str c] => some (band (ile (slen s) 1000) (band (ile (slen c) 1000) (asciiB c)), .str (trimC s c)) | _ => none
noncomputable def uReadS : FSpec := fun a => match a with | [.str s] => some (ile (slen s) 1000, .tup [.int .i64 (nrI s), .int .i64 (nrW s)]) | _ => none
noncomputable def uS : List (Nat × FSpec) := (133, uCutS) :: (74, uTextS) :: (48, uRightS) :: (112, uTrimS) :: (114, uReadS) :: []
noncomputable def uPadS : FSpec := fun a => match a with | [.sl 5 [.int .u8] (some 1000001000) xs, .int .i64 n, .int .i64 k] => some (band (band (ile (-1000000) n) (ile n 1000000)) (band (band (ile 0 k) (ile k 10)) (ile (llen xs) 1000)), .out false (.sl 5 [.int .u8] (some 1000000000) (lcat xs (bytesV (wideT n k)))) []) | _ => none
def dgB (s : List UInt8) (n : Int) : Bool := decide (n ≤ (s.length : Int)) && s.all isDigit
noncomputable def uDigS : FSpec := fun a => match a with | [.str s, .int .i64 n] => some (ile (slen s) 1000, .bool (dgB s n)) | _ => none
noncomputable def uS2 : List (Nat × FSpec) := (GX + 100, uPadS) :: (90, uDigS) :: uS
def yrP (s : List UInt8) : Int × Int := if (bare s).length < 4 ∨ (bare s).all isDigit = false ∨ (4 < (bare s).length ∧ (bare s).getD 0 0 = 48) ∨ s = [45, 48, 48, 48, 48] then (0, 4) else if 5 < (bare s).length then (0, 1) else (if minus s = true then -(val (bare s) : Int) else (val (bare s) : Int), 0)
def yrI (s : List UInt8) : Int := (yrP s).1
def yrW (s : List UInt8) : Int := (yrP s).2
def twoI (s : List UInt8) : Int := iadd .i64 (imul .i64 (icnv .i64 (isub .u8 (sat s 0) 48)) 10) (icnv .i64 (isub .u8 (sat s 1) 48))
noncomputable def uYearS : FSpec := fun a => match a with | [.str s] => some (ile (slen s) 1000, .tup [.int .i64 (yrI s), .int .i64 (yrW s)]) | _ => none
noncomputable def uRDigS : FSpec := fun a => match a with | [.str s] => some (ile (slen s) 1000, .bool (digB s)) | _ => none
noncomputable def uTwoS : FSpec := fun a => match a with | [.str s] => some (band (ile 2 (slen s)) (ile (slen s) 1000), .int .i64 (twoI s)) | _ => none
noncomputable def uS3 : List (Nat × FSpec) := (91, uYearS) :: (94, uYearS) :: (92, uRDigS) :: (93, uTwoS) :: (49, uRightS) :: uS2
noncomputable def uPad_L0 (F : Nat) (ns : List Nat) (n : Nat) (x0 : List V) (x1 : Int) (x2 : Int) (x7 : List UInt8) (x13 : Int) (x14 : Int) (K : V → Option V) : Option V :=
  loopAtA uE uS F 2 100 [(V.sl 5 [(Kd.int .u8)] (some 1000001000) []), (V.nilsl), (V.nilsl)] [1, 1, 0, 1, 0] ns K n (mkSt 23 [(0, V.sl 5 [(Kd.int .u8)] (some 1000000000) x0), (1, V.int .i64 x1), (2, V.int .i64 x2), (6, V.sl 5 [(Kd.int .u8)] (some 6) []), (7, V.str x7), (13, V.int .i64 x13), (14, V.int .i64 x14)] [])

set_option maxRecDepth 100000 in
theorem uPad_top (F : Nat) (L : List V) (n : Int) (k : Int) (K : V → Option V) :
    evBd uE (evFn uE uS F 2) F 100 [(V.sl 5 [(Kd.int .u8)] (some 1000001000) L), (V.int .i64 n), (V.int .i64 k)] K =
    sel (band (ile (-9223372036854775808) n) (ile n 9223372036854775807))
      (uPad_L0 F [] F L n k (text n) (isub .i64 k (slen (text n))) 0 K)
      (none) := by kernel_rfl

set_option maxRecDepth 100000 in
theorem uPad_L0_zero (F : Nat) (ns : List Nat) (x0 : List V) (x1 : Int) (x2 : Int) (x7 : List UInt8) (x13 : Int) (x14 : Int) (K : V → Option V) : uPad_L0 F ns 0 x0 x1 x2 x7 x13 x14 K = none := by kernel_rfl
set_option maxRecDepth 100000 in
theorem uPad_L0_succ (F : Nat) (n : Nat) (x0 : List V) (x1 : Int) (x2 : Int) (x7 : List UInt8) (x13 : Int) (x14 : Int) (K : V → Option V) :
    uPad_L0 F [] (n + 1) x0 x1 x2 x7 x13 x14 K =
    sel (ilt x14 x13)
      (sel (okApp x0 [(V.int .u8 48)])
        (uPad_L0 F [] n (lcat x0 [(V.int .u8 48)]) x1 x2 x7 x13 (iadd .i64 x14 1) K)
        (none))
      (sel (okApp x0 (bytesV x7))
        (K (V.out false (V.sl 5 [(Kd.int .u8)] (some 1000000000) (lcat x0 (bytesV x7))) []))
        (none)) := by kernel_rfl


set_option maxRecDepth 100000 in
theorem uDigits_top (F : Nat) (s : List UInt8) (n : Int) (K : V → Option V) :
    evBd uE (evFn uE uS F 2) F 90 [(V.str s), (V.int .i64 n)] K =
    sel (ile n (slen s))
      (sel (band (ile (slen s) 1000) (band (ile (slen [48, 49, 50, 51, 52, 53, 54, 55, 56, 57]) 1000) true))
        (K (V.bool (seq (trimC s [48, 49, 50, 51, 52, 53, 54, 55, 56, 57]) [])))
        (none))
      (K (V.bool false)) := by kernel_rfl


noncomputable def uText_L0 (F : Nat) (ns : List Nat) (n : Nat) (x0_0 : Int) (x0_1 : Int) (x0_2 : Int) (x0_3 : Int) (x0_4 : Int) (x0_5 : Int) (x3 : List V) (x4 : Int) (x35_0 : Int) (x35_1 : Int) (x35_2 : Int) (x35_3 : Int) (x35_4 : Int) (x36 : Int) (b1_0 : Int) (b1_1 : Int) (b1_2 : Int) (b1_3 : Int) (b1_4 : Int) (b1_5 : Int) (K : V → Option V) : Option V :=
  loopAt uE uS2 F 2 50 [1, 1, 1, 1, 1, 1, 0, 1, 0] ns K n (mkSt 51 [(0, V.agg [V.int .i64 x0_0, V.int .i64 x0_1, V.int .i64 x0_2, V.int .i64 x0_3, V.int .i64 x0_4, V.int .i64 x0_5]), (1, (V.box 1 0)), (2, V.str []), (3, V.sl 5 [(Kd.int .u8)] (some 3) x3), (4, V.int .i64 x4), (35, V.agg [V.int .i64 x35_0, V.int .i64 x35_1, V.int .i64 x35_2, V.int .i64 x35_3, V.int .i64 x35_4]), (36, V.int .i64 x36)] [(1, [V.int .i64 b1_0, V.int .i64 b1_1, V.int .i64 b1_2, V.int .i64 b1_3, V.int .i64 b1_4, V.int .i64 b1_5])])

set_option maxRecDepth 100000 in
theorem uText_top (F : Nat) (y : Int) (m : Int) (d : Int) (h : Int) (i : Int) (s : Int) (K : V → Option V) :
    evBd uE (evFn uE uS2 F 2) F 50 [(V.agg [(V.int .i64 y), (V.int .i64 m), (V.int .i64 d), (V.int .i64 h), (V.int .i64 i), (V.int .i64 s)])] K =
    sel (bnot (stB y m d h i s))
      (K (V.str []))
      (sel (ilt y 0)
        (sel (okApp [] [(V.int .u8 45)])
          (sel (band (band (ile (-1000000) (isub .i64 0 y)) (ile (isub .i64 0 y) 1000000)) (band (band (ile 0 4) (ile 4 10)) (ile (llen (lcat [] [(V.int .u8 45)])) 1000)))
            (uText_L0 F [] F y m d h i s (lcat (lcat [] [(V.int .u8 45)]) (bytesV (wideT (isub .i64 0 y) 4))) (isub .i64 0 y) m d h i s 0 y m d h i s K)
            (none))
          (none))
        (sel (band (band (ile (-1000000) y) (ile y 1000000)) (band (band (ile 0 4) (ile 4 10)) (ile (llen []) 1000)))
          (uText_L0 F [] F y m d h i s (lcat [] (bytesV (wideT y 4))) y m d h i s 0 y m d h i s K)
          (none))) := by kernel_rfl

set_option maxRecDepth 100000 in
theorem uText_L0_zero (F : Nat) (ns : List Nat) (x0_0 : Int) (x0_1 : Int) (x0_2 : Int) (x0_3 : Int) (x0_4 : Int) (x0_5 : Int) (x3 : List V) (x4 : Int) (x35_0 : Int) (x35_1 : Int) (x35_2 : Int) (x35_3 : Int) (x35_4 : Int) (x36 : Int) (b1_0 : Int) (b1_1 : Int) (b1_2 : Int) (b1_3 : Int) (b1_4 : Int) (b1_5 : Int) (K : V → Option V) : uText_L0 F ns 0 x0_0 x0_1 x0_2 x0_3 x0_4 x0_5 x3 x4 x35_0 x35_1 x35_2 x35_3 x35_4 x36 b1_0 b1_1 b1_2 b1_3 b1_4 b1_5 K = none := by kernel_rfl
set_option maxRecDepth 100000 in
theorem uText_L0_succ (F : Nat) (n : Nat) (x0_0 : Int) (x0_1 : Int) (x0_2 : Int) (x0_3 : Int) (x0_4 : Int) (x0_5 : Int) (x3 : List V) (x4 : Int) (x35_0 : Int) (x35_1 : Int) (x35_2 : Int) (x35_3 : Int) (x35_4 : Int) (x36 : Int) (b1_0 : Int) (b1_1 : Int) (b1_2 : Int) (b1_3 : Int) (b1_4 : Int) (b1_5 : Int) (K : V → Option V) :
    uText_L0 F [] (n + 1) x0_0 x0_1 x0_2 x0_3 x0_4 x0_5 x3 x4 x35_0 x35_1 x35_2 x35_3 x35_4 x36 b1_0 b1_1 b1_2 b1_3 b1_4 b1_5 K =
    sel (ilt x36 5)
      (sel (ieq x36 0)
        (sel (band (ile 0 x36) (ilt x36 5))
          (sel (okApp x3 [(V.int .u8 (asInt (acell (lget [(V.int .u8 45), (V.int .u8 45), (V.int .u8 84), (V.int .u8 58), (V.int .u8 58)] x36) 0)))])
            (sel (band (band (ile (-1000000) x35_0) (ile x35_0 1000000)) (band (band (ile 0 2) (ile 2 10)) (ile (llen (lcat x3 [(V.int .u8 (asInt (acell (lget [(V.int .u8 45), (V.int .u8 45), (V.int .u8 84), (V.int .u8 58), (V.int .u8 58)] x36) 0)))])) 1000)))
              (uText_L0 F [] n x0_0 x0_1 x0_2 x0_3 x0_4 x0_5 (lcat (lcat x3 [(V.int .u8 (asInt (acell (lget [(V.int .u8 45), (V.int .u8 45), (V.int .u8 84), (V.int .u8 58), (V.int .u8 58)] x36) 0)))]) (bytesV (wideT x35_0 2))) x4 x35_0 x35_1 x35_2 x35_3 x35_4 (iadd .i64 x36 1) b1_0 b1_1 b1_2 b1_3 b1_4 b1_5 K)
              (none))
            (none))
          (none))
        (sel (ieq x36 1)
          (sel (band (ile 0 x36) (ilt x36 5))
            (sel (okApp x3 [(V.int .u8 (asInt (acell (lget [(V.int .u8 45), (V.int .u8 45), (V.int .u8 84), (V.int .u8 58), (V.int .u8 58)] x36) 0)))])
              (sel (band (band (ile (-1000000) x35_1) (ile x35_1 1000000)) (band (band (ile 0 2) (ile 2 10)) (ile (llen (lcat x3 [(V.int .u8 (asInt (acell (lget [(V.int .u8 45), (V.int .u8 45), (V.int .u8 84), (V.int .u8 58), (V.int .u8 58)] x36) 0)))])) 1000)))
                (uText_L0 F [] n x0_0 x0_1 x0_2 x0_3 x0_4 x0_5 (lcat (lcat x3 [(V.int .u8 (asInt (acell (lget [(V.int .u8 45), (V.int .u8 45), (V.int .u8 84), (V.int .u8 58), (V.int .u8 58)] x36) 0)))]) (bytesV (wideT x35_1 2))) x4 x35_0 x35_1 x35_2 x35_3 x35_4 (iadd .i64 x36 1) b1_0 b1_1 b1_2 b1_3 b1_4 b1_5 K)
                (none))
              (none))
            (none))
          (sel (ieq x36 2)
            (sel (band (ile 0 x36) (ilt x36 5))
              (sel (okApp x3 [(V.int .u8 (asInt (acell (lget [(V.int .u8 45), (V.int .u8 45), (V.int .u8 84), (V.int .u8 58), (V.int .u8 58)] x36) 0)))])
                (sel (band (band (ile (-1000000) x35_2) (ile x35_2 1000000)) (band (band (ile 0 2) (ile 2 10)) (ile (llen (lcat x3 [(V.int .u8 (asInt (acell (lget [(V.int .u8 45), (V.int .u8 45), (V.int .u8 84), (V.int .u8 58), (V.int .u8 58)] x36) 0)))])) 1000)))
                  (uText_L0 F [] n x0_0 x0_1 x0_2 x0_3 x0_4 x0_5 (lcat (lcat x3 [(V.int .u8 (asInt (acell (lget [(V.int .u8 45), (V.int .u8 45), (V.int .u8 84), (V.int .u8 58), (V.int .u8 58)] x36) 0)))]) (bytesV (wideT x35_2 2))) x4 x35_0 x35_1 x35_2 x35_3 x35_4 (iadd .i64 x36 1) b1_0 b1_1 b1_2 b1_3 b1_4 b1_5 K)
                  (none))
                (none))
              (none))
            (sel (ieq x36 3)
              (sel (band (ile 0 x36) (ilt x36 5))
                (sel (okApp x3 [(V.int .u8 (asInt (acell (lget [(V.int .u8 45), (V.int .u8 45), (V.int .u8 84), (V.int .u8 58), (V.int .u8 58)] x36) 0)))])
                  (sel (band (band (ile (-1000000) x35_3) (ile x35_3 1000000)) (band (band (ile 0 2) (ile 2 10)) (ile (llen (lcat x3 [(V.int .u8 (asInt (acell (lget [(V.int .u8 45), (V.int .u8 45), (V.int .u8 84), (V.int .u8 58), (V.int .u8 58)] x36) 0)))])) 1000)))
                    (uText_L0 F [] n x0_0 x0_1 x0_2 x0_3 x0_4 x0_5 (lcat (lcat x3 [(V.int .u8 (asInt (acell (lget [(V.int .u8 45), (V.int .u8 45), (V.int .u8 84), (V.int .u8 58), (V.int .u8 58)] x36) 0)))]) (bytesV (wideT x35_3 2))) x4 x35_0 x35_1 x35_2 x35_3 x35_4 (iadd .i64 x36 1) b1_0 b1_1 b1_2 b1_3 b1_4 b1_5 K)
                    (none))
                  (none))
                (none))
              (sel (ieq x36 4)
                (sel (band (ile 0 x36) (ilt x36 5))
                  (sel (okApp x3 [(V.int .u8 (asInt (acell (lget [(V.int .u8 45), (V.int .u8 45), (V.int .u8 84), (V.int .u8 58), (V.int .u8 58)] x36) 0)))])
                    (sel (band (band (ile (-1000000) x35_4) (ile x35_4 1000000)) (band (band (ile 0 2) (ile 2 10)) (ile (llen (lcat x3 [(V.int .u8 (asInt (acell (lget [(V.int .u8 45), (V.int .u8 45), (V.int .u8 84), (V.int .u8 58), (V.int .u8 58)] x36) 0)))])) 1000)))
                      (uText_L0 F [] n x0_0 x0_1 x0_2 x0_3 x0_4 x0_5 (lcat (lcat x3 [(V.int .u8 (asInt (acell (lget [(V.int .u8 45), (V.int .u8 45), (V.int .u8 84), (V.int .u8 58), (V.int .u8 58)] x36) 0)))]) (bytesV (wideT x35_4 2))) x4 x35_0 x35_1 x35_2 x35_3 x35_4 (iadd .i64 x36 1) b1_0 b1_1 b1_2 b1_3 b1_4 b1_5 K)
                      (none))
                    (none))
                  (none))
                (none))))))
      (K (V.str (vbytes x3))) := by kernel_rfl

noncomputable def uYear_L0 (F : Nat) (ns : List Nat) (n : Nat) (x0 : List UInt8) (x4 : List UInt8) (x5 : Bool) (x6 : Int) (x7 : Int) (x8 : Int) (x9 : Int) (K : V → Option V) : Option V :=
  loopAt uE uS2 F 4 91 [1, 1, 1, 1, 1, 1, 0, 1, 0] ns K n (mkSt 64 [(0, V.str x0), (2, V.int .i64 0), (3, V.int .i64 0), (4, V.str x4), (5, V.bool x5), (6, V.int .i64 x6), (7, V.int .i64 x7), (8, V.int .i64 x8), (9, V.int .i64 x9)] [])

set_option maxRecDepth 100000 in
theorem uYear_top (F : Nat) (s : List UInt8) (K : V → Option V) :
    evBd uE (evFn uE uS2 F 4) F 91 [(V.str s)] K =
    sel (ile (slen s) 1000)
      (sel (ile (slen (cpT s [45])) 1000)
        (sel (bnot (dgB (cpT s [45]) 4))
          (K (V.tup [(V.int .i64 0), (V.int .i64 4)]))
          (sel (ilt 4 (slen (cpT s [45])))
            (sel (band (ile 0 0) (ilt 0 (slen (cpT s [45]))))
              (sel (ieq (sat (cpT s [45]) 0) 48)
                (K (V.tup [(V.int .i64 0), (V.int .i64 4)]))
                (sel (seq s [45, 48, 48, 48, 48])
                  (K (V.tup [(V.int .i64 0), (V.int .i64 4)]))
                  (sel (band (ile 0 (imax (isub .i64 (slen (cpT s [45])) 5) 0)) (ile (imax (isub .i64 (slen (cpT s [45])) 5) 0) (slen (cpT s [45]))))
                    (sel (okCat [49] (ssub (cpT s [45]) (imax (isub .i64 (slen (cpT s [45])) 5) 0) (slen (cpT s [45]))))
                      (sel (ile (slen (scat [49] (ssub (cpT s [45]) (imax (isub .i64 (slen (cpT s [45])) 5) 0) (slen (cpT s [45]))))) 1000)
                        (sel (bnot (ieq (nrW (scat [49] (ssub (cpT s [45]) (imax (isub .i64 (slen (cpT s [45])) 5) 0) (slen (cpT s [45]))))) 0))
                          (K (V.tup [(V.int .i64 0), (V.int .i64 1)]))
                          (sel (ilt 5 (slen (cpT s [45])))
                            (K (V.tup [(V.int .i64 0), (V.int .i64 1)]))
                            (uYear_L0 F [] F s (cpT s [45]) (cpB s [45]) (nrI (scat [49] (ssub (cpT s [45]) (imax (isub .i64 (slen (cpT s [45])) 5) 0) (slen (cpT s [45]))))) (nrW (scat [49] (ssub (cpT s [45]) (imax (isub .i64 (slen (cpT s [45])) 5) 0) (slen (cpT s [45]))))) (nrI (scat [49] (ssub (cpT s [45]) (imax (isub .i64 (slen (cpT s [45])) 5) 0) (slen (cpT s [45]))))) 1 K)))
                        (none))
                      (none))
                    (none))))
              (none))
            (sel (seq s [45, 48, 48, 48, 48])
              (K (V.tup [(V.int .i64 0), (V.int .i64 4)]))
              (sel (band (ile 0 (imax (isub .i64 (slen (cpT s [45])) 5) 0)) (ile (imax (isub .i64 (slen (cpT s [45])) 5) 0) (slen (cpT s [45]))))
                (sel (okCat [49] (ssub (cpT s [45]) (imax (isub .i64 (slen (cpT s [45])) 5) 0) (slen (cpT s [45]))))
                  (sel (ile (slen (scat [49] (ssub (cpT s [45]) (imax (isub .i64 (slen (cpT s [45])) 5) 0) (slen (cpT s [45]))))) 1000)
                    (sel (bnot (ieq (nrW (scat [49] (ssub (cpT s [45]) (imax (isub .i64 (slen (cpT s [45])) 5) 0) (slen (cpT s [45]))))) 0))
                      (K (V.tup [(V.int .i64 0), (V.int .i64 1)]))
                      (sel (ilt 5 (slen (cpT s [45])))
                        (K (V.tup [(V.int .i64 0), (V.int .i64 1)]))
                        (uYear_L0 F [] F s (cpT s [45]) (cpB s [45]) (nrI (scat [49] (ssub (cpT s [45]) (imax (isub .i64 (slen (cpT s [45])) 5) 0) (slen (cpT s [45]))))) (nrW (scat [49] (ssub (cpT s [45]) (imax (isub .i64 (slen (cpT s [45])) 5) 0) (slen (cpT s [45]))))) (nrI (scat [49] (ssub (cpT s [45]) (imax (isub .i64 (slen (cpT s [45])) 5) 0) (slen (cpT s [45]))))) 1 K)))
                    (none))
                  (none))
                (none)))))
        (none))
      (none) := by kernel_rfl

set_option maxRecDepth 100000 in
theorem uYear_L0_zero (F : Nat) (ns : List Nat) (x0 : List UInt8) (x4 : List UInt8) (x5 : Bool) (x6 : Int) (x7 : Int) (x8 : Int) (x9 : Int) (K : V → Option V) : uYear_L0 F ns 0 x0 x4 x5 x6 x7 x8 x9 K = none := by kernel_rfl
set_option maxRecDepth 100000 in
theorem uYear_L0_succ (F : Nat) (n : Nat) (x0 : List UInt8) (x4 : List UInt8) (x5 : Bool) (x6 : Int) (x7 : Int) (x8 : Int) (x9 : Int) (K : V → Option V) :
    uYear_L0 F [] (n + 1) x0 x4 x5 x6 x7 x8 x9 K =
    sel (ilt x8 (imul .i64 x9 10))
      (sel x5
        (K (V.tup [(V.int .i64 (isub .i64 0 (isub .i64 x8 x9))), (V.int .i64 0)]))
        (K (V.tup [(V.int .i64 (isub .i64 x8 x9)), (V.int .i64 0)])))
      (uYear_L0 F [] n x0 x4 x5 x6 x7 x8 (imul .i64 x9 10) K) := by kernel_rfl

noncomputable def uRead_L0 (F : Nat) (ns : List Nat) (n : Nat) (x0 : List UInt8) (x3 : Int) (x4 : Int) (x6 : List UInt8) (x22 : Int) (b5_0 : Int) (b5_1 : Int) (b5_2 : Int) (b5_3 : Int) (b5_4 : Int) (b2_0 : Int) (b2_1 : Int) (b2_2 : Int) (b2_3 : Int) (b2_4 : Int) (b2_5 : Int) (K : V → Option V) : Option V :=
  loopAt uE uS3 F 2 43 [1, 1, 1, 1, 1, 0, 1, 0] ns K n (mkSt 81 [(0, V.str x0), (2, (V.box 2 0)), (3, V.int .i64 x3), (4, V.int .i64 x4), (5, (V.box 5 0)), (6, V.str x6), (9, V.tup []), (10, V.tup []), (11, V.tup []), (21, V.agg [V.int .u8 45, V.int .u8 45, V.int .u8 84, V.int .u8 58, V.int .u8 58]), (22, V.int .i64 x22)] [(5, [V.int .i64 b5_0, V.int .i64 b5_1, V.int .i64 b5_2, V.int .i64 b5_3, V.int .i64 b5_4]), (2, [V.int .i64 b2_0, V.int .i64 b2_1, V.int .i64 b2_2, V.int .i64 b2_3, V.int .i64 b2_4, V.int .i64 b2_5])])

set_option maxRecDepth 100000 in
theorem uRead_top (F : Nat) (s : List UInt8) (K : V → Option V) :
    evBd uE (evFn uE uS3 F 2) F 43 [(V.str s)] K =
    sel (ilt (isub .i64 (slen s) 15) 0)
      (K (V.tup [(V.agg [(V.int .i64 0), (V.int .i64 0), (V.int .i64 0), (V.int .i64 0), (V.int .i64 0), (V.int .i64 0)]), (V.int .i64 4)]))
      (sel (band (ile 0 (isub .i64 (slen s) 15)) (ile (isub .i64 (slen s) 15) (slen s)))
        (uRead_L0 F [] F s 0 (isub .i64 (slen s) 15) (ssub s (isub .i64 (slen s) 15) (slen s)) 0 0 0 0 0 0 0 0 0 0 0 0 K)
        (none)) := by kernel_rfl

set_option maxRecDepth 100000 in
theorem uRead_L0_zero (F : Nat) (ns : List Nat) (x0 : List UInt8) (x3 : Int) (x4 : Int) (x6 : List UInt8) (x22 : Int) (b5_0 : Int) (b5_1 : Int) (b5_2 : Int) (b5_3 : Int) (b5_4 : Int) (b2_0 : Int) (b2_1 : Int) (b2_2 : Int) (b2_3 : Int) (b2_4 : Int) (b2_5 : Int) (K : V → Option V) : uRead_L0 F ns 0 x0 x3 x4 x6 x22 b5_0 b5_1 b5_2 b5_3 b5_4 b2_0 b2_1 b2_2 b2_3 b2_4 b2_5 K = none := by kernel_rfl
set_option maxRecDepth 100000 in
theorem uRead_L0_succ (F : Nat) (n : Nat) (x0 : List UInt8) (x3 : Int) (x4 : Int) (x6 : List UInt8) (x22 : Int) (b5_0 : Int) (b5_1 : Int) (b5_2 : Int) (b5_3 : Int) (b5_4 : Int) (b2_0 : Int) (b2_1 : Int) (b2_2 : Int) (b2_3 : Int) (b2_4 : Int) (b2_5 : Int) (K : V → Option V) :
    uRead_L0 F [] (n + 1) x0 x3 x4 x6 x22 b5_0 b5_1 b5_2 b5_3 b5_4 b2_0 b2_1 b2_2 b2_3 b2_4 b2_5 K =
    sel (ilt x22 5)
      (sel (ieq x22 0)
        (sel (band (ile 0 0) (ilt 0 (slen x6)))
          (sel (bnot (ieq (sat x6 0) 45))
            (K (V.tup [(V.agg [(V.int .i64 0), (V.int .i64 0), (V.int .i64 0), (V.int .i64 0), (V.int .i64 0), (V.int .i64 0)]), (V.int .i64 4)]))
            (sel (band (band (ile 0 3) (ile 3 (slen x6))) (band (ile 0 1) (ile 1 3)))
              (sel (ile (slen (ssub x6 1 3)) 1000)
                (sel (bnot (dgB (ssub x6 1 3) 2))
                  (K (V.tup [(V.agg [(V.int .i64 0), (V.int .i64 0), (V.int .i64 0), (V.int .i64 0), (V.int .i64 0), (V.int .i64 0)]), (V.int .i64 4)]))
                  (sel (band (ile 0 1) (ilt 1 (slen x6)))
                    (sel (band (ile 0 2) (ilt 2 (slen x6)))
                      (sel (ieq x22 0)
                        (sel (band (ile 0 3) (ile 3 (slen x6)))
                          (uRead_L0 F [] n x0 x3 x4 (ssub x6 3 (slen x6)) (iadd .i64 x22 1) (iadd .i64 (imul .i64 (icnv .i64 (isub .u8 (sat x6 1) 48)) 10) (icnv .i64 (isub .u8 (sat x6 2) 48))) b5_1 b5_2 b5_3 b5_4 b2_0 b2_1 b2_2 b2_3 b2_4 b2_5 K)
                          (none))
                        (sel (ieq x22 1)
                          (sel (band (ile 0 3) (ile 3 (slen x6)))
                            (uRead_L0 F [] n x0 x3 x4 (ssub x6 3 (slen x6)) (iadd .i64 x22 1) b5_0 (iadd .i64 (imul .i64 (icnv .i64 (isub .u8 (sat x6 1) 48)) 10) (icnv .i64 (isub .u8 (sat x6 2) 48))) b5_2 b5_3 b5_4 b2_0 b2_1 b2_2 b2_3 b2_4 b2_5 K)
                            (none))
                          (sel (ieq x22 2)
                            (sel (band (ile 0 3) (ile 3 (slen x6)))
                              (uRead_L0 F [] n x0 x3 x4 (ssub x6 3 (slen x6)) (iadd .i64 x22 1) b5_0 b5_1 (iadd .i64 (imul .i64 (icnv .i64 (isub .u8 (sat x6 1) 48)) 10) (icnv .i64 (isub .u8 (sat x6 2) 48))) b5_3 b5_4 b2_0 b2_1 b2_2 b2_3 b2_4 b2_5 K)
                              (none))
                            (sel (ieq x22 3)
                              (sel (band (ile 0 3) (ile 3 (slen x6)))
                                (uRead_L0 F [] n x0 x3 x4 (ssub x6 3 (slen x6)) (iadd .i64 x22 1) b5_0 b5_1 b5_2 (iadd .i64 (imul .i64 (icnv .i64 (isub .u8 (sat x6 1) 48)) 10) (icnv .i64 (isub .u8 (sat x6 2) 48))) b5_4 b2_0 b2_1 b2_2 b2_3 b2_4 b2_5 K)
                                (none))
                              (sel (ieq x22 4)
                                (sel (band (ile 0 3) (ile 3 (slen x6)))
                                  (uRead_L0 F [] n x0 x3 x4 (ssub x6 3 (slen x6)) (iadd .i64 x22 1) b5_0 b5_1 b5_2 b5_3 (iadd .i64 (imul .i64 (icnv .i64 (isub .u8 (sat x6 1) 48)) 10) (icnv .i64 (isub .u8 (sat x6 2) 48))) b2_0 b2_1 b2_2 b2_3 b2_4 b2_5 K)
                                  (none))
                                (none))))))
                      (none))
                    (none)))
                (none))
              (none)))
          (none))
        (sel (ieq x22 1)
          (sel (band (ile 0 0) (ilt 0 (slen x6)))
            (sel (bnot (ieq (sat x6 0) 45))
              (K (V.tup [(V.agg [(V.int .i64 0), (V.int .i64 0), (V.int .i64 0), (V.int .i64 0), (V.int .i64 0), (V.int .i64 0)]), (V.int .i64 4)]))
              (sel (band (band (ile 0 3) (ile 3 (slen x6))) (band (ile 0 1) (ile 1 3)))
                (sel (ile (slen (ssub x6 1 3)) 1000)
                  (sel (bnot (dgB (ssub x6 1 3) 2))
                    (K (V.tup [(V.agg [(V.int .i64 0), (V.int .i64 0), (V.int .i64 0), (V.int .i64 0), (V.int .i64 0), (V.int .i64 0)]), (V.int .i64 4)]))
                    (sel (band (ile 0 1) (ilt 1 (slen x6)))
                      (sel (band (ile 0 2) (ilt 2 (slen x6)))
                        (sel (ieq x22 0)
                          (sel (band (ile 0 3) (ile 3 (slen x6)))
                            (uRead_L0 F [] n x0 x3 x4 (ssub x6 3 (slen x6)) (iadd .i64 x22 1) (iadd .i64 (imul .i64 (icnv .i64 (isub .u8 (sat x6 1) 48)) 10) (icnv .i64 (isub .u8 (sat x6 2) 48))) b5_1 b5_2 b5_3 b5_4 b2_0 b2_1 b2_2 b2_3 b2_4 b2_5 K)
                            (none))
                          (sel (ieq x22 1)
                            (sel (band (ile 0 3) (ile 3 (slen x6)))
                              (uRead_L0 F [] n x0 x3 x4 (ssub x6 3 (slen x6)) (iadd .i64 x22 1) b5_0 (iadd .i64 (imul .i64 (icnv .i64 (isub .u8 (sat x6 1) 48)) 10) (icnv .i64 (isub .u8 (sat x6 2) 48))) b5_2 b5_3 b5_4 b2_0 b2_1 b2_2 b2_3 b2_4 b2_5 K)
                              (none))
                            (sel (ieq x22 2)
                              (sel (band (ile 0 3) (ile 3 (slen x6)))
                                (uRead_L0 F [] n x0 x3 x4 (ssub x6 3 (slen x6)) (iadd .i64 x22 1) b5_0 b5_1 (iadd .i64 (imul .i64 (icnv .i64 (isub .u8 (sat x6 1) 48)) 10) (icnv .i64 (isub .u8 (sat x6 2) 48))) b5_3 b5_4 b2_0 b2_1 b2_2 b2_3 b2_4 b2_5 K)
                                (none))
                              (sel (ieq x22 3)
                                (sel (band (ile 0 3) (ile 3 (slen x6)))
                                  (uRead_L0 F [] n x0 x3 x4 (ssub x6 3 (slen x6)) (iadd .i64 x22 1) b5_0 b5_1 b5_2 (iadd .i64 (imul .i64 (icnv .i64 (isub .u8 (sat x6 1) 48)) 10) (icnv .i64 (isub .u8 (sat x6 2) 48))) b5_4 b2_0 b2_1 b2_2 b2_3 b2_4 b2_5 K)
                                  (none))
                                (sel (ieq x22 4)
                                  (sel (band (ile 0 3) (ile 3 (slen x6)))
                                    (uRead_L0 F [] n x0 x3 x4 (ssub x6 3 (slen x6)) (iadd .i64 x22 1) b5_0 b5_1 b5_2 b5_3 (iadd .i64 (imul .i64 (icnv .i64 (isub .u8 (sat x6 1) 48)) 10) (icnv .i64 (isub .u8 (sat x6 2) 48))) b2_0 b2_1 b2_2 b2_3 b2_4 b2_5 K)
                                    (none))
                                  (none))))))
                        (none))
                      (none)))
                  (none))
                (none)))
            (none))
          (sel (ieq x22 2)
            (sel (band (ile 0 0) (ilt 0 (slen x6)))
              (sel (bnot (ieq (sat x6 0) 84))
                (K (V.tup [(V.agg [(V.int .i64 0), (V.int .i64 0), (V.int .i64 0), (V.int .i64 0), (V.int .i64 0), (V.int .i64 0)]), (V.int .i64 4)]))
                (sel (band (band (ile 0 3) (ile 3 (slen x6))) (band (ile 0 1) (ile 1 3)))
                  (sel (ile (slen (ssub x6 1 3)) 1000)
                    (sel (bnot (dgB (ssub x6 1 3) 2))
                      (K (V.tup [(V.agg [(V.int .i64 0), (V.int .i64 0), (V.int .i64 0), (V.int .i64 0), (V.int .i64 0), (V.int .i64 0)]), (V.int .i64 4)]))
                      (sel (band (ile 0 1) (ilt 1 (slen x6)))
                        (sel (band (ile 0 2) (ilt 2 (slen x6)))
                          (sel (ieq x22 0)
                            (sel (band (ile 0 3) (ile 3 (slen x6)))
                              (uRead_L0 F [] n x0 x3 x4 (ssub x6 3 (slen x6)) (iadd .i64 x22 1) (iadd .i64 (imul .i64 (icnv .i64 (isub .u8 (sat x6 1) 48)) 10) (icnv .i64 (isub .u8 (sat x6 2) 48))) b5_1 b5_2 b5_3 b5_4 b2_0 b2_1 b2_2 b2_3 b2_4 b2_5 K)
                              (none))
                            (sel (ieq x22 1)
                              (sel (band (ile 0 3) (ile 3 (slen x6)))
                                (uRead_L0 F [] n x0 x3 x4 (ssub x6 3 (slen x6)) (iadd .i64 x22 1) b5_0 (iadd .i64 (imul .i64 (icnv .i64 (isub .u8 (sat x6 1) 48)) 10) (icnv .i64 (isub .u8 (sat x6 2) 48))) b5_2 b5_3 b5_4 b2_0 b2_1 b2_2 b2_3 b2_4 b2_5 K)
                                (none))
                              (sel (ieq x22 2)
                                (sel (band (ile 0 3) (ile 3 (slen x6)))
                                  (uRead_L0 F [] n x0 x3 x4 (ssub x6 3 (slen x6)) (iadd .i64 x22 1) b5_0 b5_1 (iadd .i64 (imul .i64 (icnv .i64 (isub .u8 (sat x6 1) 48)) 10) (icnv .i64 (isub .u8 (sat x6 2) 48))) b5_3 b5_4 b2_0 b2_1 b2_2 b2_3 b2_4 b2_5 K)
                                  (none))
                                (sel (ieq x22 3)
                                  (sel (band (ile 0 3) (ile 3 (slen x6)))
                                    (uRead_L0 F [] n x0 x3 x4 (ssub x6 3 (slen x6)) (iadd .i64 x22 1) b5_0 b5_1 b5_2 (iadd .i64 (imul .i64 (icnv .i64 (isub .u8 (sat x6 1) 48)) 10) (icnv .i64 (isub .u8 (sat x6 2) 48))) b5_4 b2_0 b2_1 b2_2 b2_3 b2_4 b2_5 K)
                                    (none))
                                  (sel (ieq x22 4)
                                    (sel (band (ile 0 3) (ile 3 (slen x6)))
                                      (uRead_L0 F [] n x0 x3 x4 (ssub x6 3 (slen x6)) (iadd .i64 x22 1) b5_0 b5_1 b5_2 b5_3 (iadd .i64 (imul .i64 (icnv .i64 (isub .u8 (sat x6 1) 48)) 10) (icnv .i64 (isub .u8 (sat x6 2) 48))) b2_0 b2_1 b2_2 b2_3 b2_4 b2_5 K)
                                      (none))
                                    (none))))))
                          (none))
                        (none)))
                    (none))
                  (none)))
              (none))
            (sel (ieq x22 3)
              (sel (band (ile 0 0) (ilt 0 (slen x6)))
                (sel (bnot (ieq (sat x6 0) 58))
                  (K (V.tup [(V.agg [(V.int .i64 0), (V.int .i64 0), (V.int .i64 0), (V.int .i64 0), (V.int .i64 0), (V.int .i64 0)]), (V.int .i64 4)]))
                  (sel (band (band (ile 0 3) (ile 3 (slen x6))) (band (ile 0 1) (ile 1 3)))
                    (sel (ile (slen (ssub x6 1 3)) 1000)
                      (sel (bnot (dgB (ssub x6 1 3) 2))
                        (K (V.tup [(V.agg [(V.int .i64 0), (V.int .i64 0), (V.int .i64 0), (V.int .i64 0), (V.int .i64 0), (V.int .i64 0)]), (V.int .i64 4)]))
                        (sel (band (ile 0 1) (ilt 1 (slen x6)))
                          (sel (band (ile 0 2) (ilt 2 (slen x6)))
                            (sel (ieq x22 0)
                              (sel (band (ile 0 3) (ile 3 (slen x6)))
                                (uRead_L0 F [] n x0 x3 x4 (ssub x6 3 (slen x6)) (iadd .i64 x22 1) (iadd .i64 (imul .i64 (icnv .i64 (isub .u8 (sat x6 1) 48)) 10) (icnv .i64 (isub .u8 (sat x6 2) 48))) b5_1 b5_2 b5_3 b5_4 b2_0 b2_1 b2_2 b2_3 b2_4 b2_5 K)
                                (none))
                              (sel (ieq x22 1)
                                (sel (band (ile 0 3) (ile 3 (slen x6)))
                                  (uRead_L0 F [] n x0 x3 x4 (ssub x6 3 (slen x6)) (iadd .i64 x22 1) b5_0 (iadd .i64 (imul .i64 (icnv .i64 (isub .u8 (sat x6 1) 48)) 10) (icnv .i64 (isub .u8 (sat x6 2) 48))) b5_2 b5_3 b5_4 b2_0 b2_1 b2_2 b2_3 b2_4 b2_5 K)
                                  (none))
                                (sel (ieq x22 2)
                                  (sel (band (ile 0 3) (ile 3 (slen x6)))
                                    (uRead_L0 F [] n x0 x3 x4 (ssub x6 3 (slen x6)) (iadd .i64 x22 1) b5_0 b5_1 (iadd .i64 (imul .i64 (icnv .i64 (isub .u8 (sat x6 1) 48)) 10) (icnv .i64 (isub .u8 (sat x6 2) 48))) b5_3 b5_4 b2_0 b2_1 b2_2 b2_3 b2_4 b2_5 K)
                                    (none))
                                  (sel (ieq x22 3)
                                    (sel (band (ile 0 3) (ile 3 (slen x6)))
                                      (uRead_L0 F [] n x0 x3 x4 (ssub x6 3 (slen x6)) (iadd .i64 x22 1) b5_0 b5_1 b5_2 (iadd .i64 (imul .i64 (icnv .i64 (isub .u8 (sat x6 1) 48)) 10) (icnv .i64 (isub .u8 (sat x6 2) 48))) b5_4 b2_0 b2_1 b2_2 b2_3 b2_4 b2_5 K)
                                      (none))
                                    (sel (ieq x22 4)
                                      (sel (band (ile 0 3) (ile 3 (slen x6)))
                                        (uRead_L0 F [] n x0 x3 x4 (ssub x6 3 (slen x6)) (iadd .i64 x22 1) b5_0 b5_1 b5_2 b5_3 (iadd .i64 (imul .i64 (icnv .i64 (isub .u8 (sat x6 1) 48)) 10) (icnv .i64 (isub .u8 (sat x6 2) 48))) b2_0 b2_1 b2_2 b2_3 b2_4 b2_5 K)
                                        (none))
                                      (none))))))
                            (none))
                          (none)))
                      (none))
                    (none)))
                (none))
              (sel (ieq x22 4)
                (sel (band (ile 0 0) (ilt 0 (slen x6)))
                  (sel (bnot (ieq (sat x6 0) 58))
                    (K (V.tup [(V.agg [(V.int .i64 0), (V.int .i64 0), (V.int .i64 0), (V.int .i64 0), (V.int .i64 0), (V.int .i64 0)]), (V.int .i64 4)]))
                    (sel (band (band (ile 0 3) (ile 3 (slen x6))) (band (ile 0 1) (ile 1 3)))
                      (sel (ile (slen (ssub x6 1 3)) 1000)
                        (sel (bnot (dgB (ssub x6 1 3) 2))
                          (K (V.tup [(V.agg [(V.int .i64 0), (V.int .i64 0), (V.int .i64 0), (V.int .i64 0), (V.int .i64 0), (V.int .i64 0)]), (V.int .i64 4)]))
                          (sel (band (ile 0 1) (ilt 1 (slen x6)))
                            (sel (band (ile 0 2) (ilt 2 (slen x6)))
                              (sel (ieq x22 0)
                                (sel (band (ile 0 3) (ile 3 (slen x6)))
                                  (uRead_L0 F [] n x0 x3 x4 (ssub x6 3 (slen x6)) (iadd .i64 x22 1) (iadd .i64 (imul .i64 (icnv .i64 (isub .u8 (sat x6 1) 48)) 10) (icnv .i64 (isub .u8 (sat x6 2) 48))) b5_1 b5_2 b5_3 b5_4 b2_0 b2_1 b2_2 b2_3 b2_4 b2_5 K)
                                  (none))
                                (sel (ieq x22 1)
                                  (sel (band (ile 0 3) (ile 3 (slen x6)))
                                    (uRead_L0 F [] n x0 x3 x4 (ssub x6 3 (slen x6)) (iadd .i64 x22 1) b5_0 (iadd .i64 (imul .i64 (icnv .i64 (isub .u8 (sat x6 1) 48)) 10) (icnv .i64 (isub .u8 (sat x6 2) 48))) b5_2 b5_3 b5_4 b2_0 b2_1 b2_2 b2_3 b2_4 b2_5 K)
                                    (none))
                                  (sel (ieq x22 2)
                                    (sel (band (ile 0 3) (ile 3 (slen x6)))
                                      (uRead_L0 F [] n x0 x3 x4 (ssub x6 3 (slen x6)) (iadd .i64 x22 1) b5_0 b5_1 (iadd .i64 (imul .i64 (icnv .i64 (isub .u8 (sat x6 1) 48)) 10) (icnv .i64 (isub .u8 (sat x6 2) 48))) b5_3 b5_4 b2_0 b2_1 b2_2 b2_3 b2_4 b2_5 K)
                                      (none))
                                    (sel (ieq x22 3)
                                      (sel (band (ile 0 3) (ile 3 (slen x6)))
                                        (uRead_L0 F [] n x0 x3 x4 (ssub x6 3 (slen x6)) (iadd .i64 x22 1) b5_0 b5_1 b5_2 (iadd .i64 (imul .i64 (icnv .i64 (isub .u8 (sat x6 1) 48)) 10) (icnv .i64 (isub .u8 (sat x6 2) 48))) b5_4 b2_0 b2_1 b2_2 b2_3 b2_4 b2_5 K)
                                        (none))
                                      (sel (ieq x22 4)
                                        (sel (band (ile 0 3) (ile 3 (slen x6)))
                                          (uRead_L0 F [] n x0 x3 x4 (ssub x6 3 (slen x6)) (iadd .i64 x22 1) b5_0 b5_1 b5_2 b5_3 (iadd .i64 (imul .i64 (icnv .i64 (isub .u8 (sat x6 1) 48)) 10) (icnv .i64 (isub .u8 (sat x6 2) 48))) b2_0 b2_1 b2_2 b2_3 b2_4 b2_5 K)
                                          (none))
                                        (none))))))
                              (none))
                            (none)))
                        (none))
                      (none)))
                  (none))
                (none))))))
      (sel (band (ile 0 x4) (ile x4 (slen x0)))
        (sel (ile (slen (ssub x0 0 x4)) 1000)
          (sel (bnot (ieq (yrW (ssub x0 0 x4)) 0))
            (K (V.tup [(V.agg [(V.int .i64 0), (V.int .i64 0), (V.int .i64 0), (V.int .i64 0), (V.int .i64 0), (V.int .i64 0)]), (V.int .i64 (yrW (ssub x0 0 x4)))]))
            (sel (bnot (stB (yrI (ssub x0 0 x4)) b5_0 b5_1 b5_2 b5_3 b5_4))
              (K (V.tup [(V.agg [(V.int .i64 0), (V.int .i64 0), (V.int .i64 0), (V.int .i64 0), (V.int .i64 0), (V.int .i64 0)]), (V.int .i64 1)]))
              (K (V.tup [(V.agg [(V.int .i64 (yrI (ssub x0 0 x4))), (V.int .i64 b5_0), (V.int .i64 b5_1), (V.int .i64 b5_2), (V.int .i64 b5_3), (V.int .i64 b5_4)]), (V.int .i64 0)]))))
          (none))
        (none)) := by kernel_rfl

noncomputable def srRead_L0 (F : Nat) (ns : List Nat) (n : Nat) (x0 : List UInt8) (x3 : Int) (x4 : Int) (x5 : List UInt8) (x6 : List V) (x7 : Int) (b2_0 : Int) (b2_1 : Int) (b2_2 : Int) (b2_3 : Int) (b2_4 : Int) (b2_5 : Int) (K : V → Option V) : Option V :=
  loopAt uE uS3 F 2 44 [1, 1, 1, 1, 1, 0, 1, 0] ns K n (mkSt 93 [(0, V.str x0), (2, (V.box 2 0)), (3, V.int .i64 x3), (4, V.int .i64 x4), (5, V.str x5), (6, V.sl 3 [(Kd.int .i64)] (some 6) x6), (7, V.int .i64 x7), (8, V.tup []), (9, V.tup []), (10, V.tup [])] [(2, [V.int .i64 b2_0, V.int .i64 b2_1, V.int .i64 b2_2, V.int .i64 b2_3, V.int .i64 b2_4, V.int .i64 b2_5])])

set_option maxRecDepth 100000 in
theorem srRead_top (F : Nat) (s : List UInt8) (K : V → Option V) :
    evBd uE (evFn uE uS3 F 2) F 44 [(V.str s)] K =
    sel (ilt (isub .i64 (slen s) 15) 0)
      (K (V.tup [(V.agg [(V.int .i64 0), (V.int .i64 0), (V.int .i64 0), (V.int .i64 0), (V.int .i64 0), (V.int .i64 0)]), (V.int .i64 4)]))
      (srRead_L0 F [] F s 0 (isub .i64 (slen s) 15) [45, 45, 84, 58, 58] [] 0 0 0 0 0 0 0 K) := by kernel_rfl

set_option maxRecDepth 100000 in
theorem srRead_L0_zero (F : Nat) (ns : List Nat) (x0 : List UInt8) (x3 : Int) (x4 : Int) (x5 : List UInt8) (x6 : List V) (x7 : Int) (b2_0 : Int) (b2_1 : Int) (b2_2 : Int) (b2_3 : Int) (b2_4 : Int) (b2_5 : Int) (K : V → Option V) : srRead_L0 F ns 0 x0 x3 x4 x5 x6 x7 b2_0 b2_1 b2_2 b2_3 b2_4 b2_5 K = none := by kernel_rfl
set_option maxRecDepth 100000 in
theorem srRead_L0_succ (F : Nat) (n : Nat) (x0 : List UInt8) (x3 : Int) (x4 : Int) (x5 : List UInt8) (x6 : List V) (x7 : Int) (b2_0 : Int) (b2_1 : Int) (b2_2 : Int) (b2_3 : Int) (b2_4 : Int) (b2_5 : Int) (K : V → Option V) :
    srRead_L0 F [] (n + 1) x0 x3 x4 x5 x6 x7 b2_0 b2_1 b2_2 b2_3 b2_4 b2_5 K =
    sel (ilt x7 5)
      (sel (band (ile 0 (iadd .i64 x4 (imul .i64 3 x7))) (ilt (iadd .i64 x4 (imul .i64 3 x7)) (slen x0)))
        (sel (band (ile 0 x7) (ilt x7 (slen x5)))
          (sel (bnot (ieq (sat x0 (iadd .i64 x4 (imul .i64 3 x7))) (sat x5 x7)))
            (K (V.tup [(V.agg [(V.int .i64 0), (V.int .i64 0), (V.int .i64 0), (V.int .i64 0), (V.int .i64 0), (V.int .i64 0)]), (V.int .i64 4)]))
            (sel (band (band (ile 0 (iadd .i64 (iadd .i64 x4 (imul .i64 3 x7)) 3)) (ile (iadd .i64 (iadd .i64 x4 (imul .i64 3 x7)) 3) (slen x0))) (band (ile 0 (iadd .i64 (iadd .i64 x4 (imul .i64 3 x7)) 1)) (ile (iadd .i64 (iadd .i64 x4 (imul .i64 3 x7)) 1) (iadd .i64 (iadd .i64 x4 (imul .i64 3 x7)) 3))))
              (sel (ile (slen (ssub x0 (iadd .i64 (iadd .i64 x4 (imul .i64 3 x7)) 1) (iadd .i64 (iadd .i64 x4 (imul .i64 3 x7)) 3))) 1000)
                (sel (bnot (digB (ssub x0 (iadd .i64 (iadd .i64 x4 (imul .i64 3 x7)) 1) (iadd .i64 (iadd .i64 x4 (imul .i64 3 x7)) 3))))
                  (K (V.tup [(V.agg [(V.int .i64 0), (V.int .i64 0), (V.int .i64 0), (V.int .i64 0), (V.int .i64 0), (V.int .i64 0)]), (V.int .i64 4)]))
                  (sel (band (ile 0 (iadd .i64 (iadd .i64 x4 (imul .i64 3 x7)) 1)) (ile (iadd .i64 (iadd .i64 x4 (imul .i64 3 x7)) 1) (slen x0)))
                    (sel (band (ile 2 (slen (ssub x0 (iadd .i64 (iadd .i64 x4 (imul .i64 3 x7)) 1) (slen x0)))) (ile (slen (ssub x0 (iadd .i64 (iadd .i64 x4 (imul .i64 3 x7)) 1) (slen x0))) 1000))
                      (sel (okApp x6 [(V.int .i64 (twoI (ssub x0 (iadd .i64 (iadd .i64 x4 (imul .i64 3 x7)) 1) (slen x0))))])
                        (srRead_L0 F [] n x0 x3 x4 x5 (lcat x6 [(V.int .i64 (twoI (ssub x0 (iadd .i64 (iadd .i64 x4 (imul .i64 3 x7)) 1) (slen x0))))]) (iadd .i64 x7 1) b2_0 b2_1 b2_2 b2_3 b2_4 b2_5 K)
                        (none))
                      (none))
                    (none)))
                (none))
              (none)))
          (none))
        (none))
      (sel (band (ile 0 x4) (ile x4 (slen x0)))
        (sel (ile (slen (ssub x0 0 x4)) 1000)
          (sel (bnot (ieq (yrW (ssub x0 0 x4)) 0))
            (K (V.tup [(V.agg [(V.int .i64 0), (V.int .i64 0), (V.int .i64 0), (V.int .i64 0), (V.int .i64 0), (V.int .i64 0)]), (V.int .i64 (yrW (ssub x0 0 x4)))]))
            (sel (band (ile 0 0) (ilt 0 (llen x6)))
              (sel (band (ile 0 1) (ilt 1 (llen x6)))
                (sel (band (ile 0 2) (ilt 2 (llen x6)))
                  (sel (band (ile 0 3) (ilt 3 (llen x6)))
                    (sel (band (ile 0 4) (ilt 4 (llen x6)))
                      (sel (bnot (stB (yrI (ssub x0 0 x4)) (asInt (acell (lget x6 0) 0)) (asInt (acell (lget x6 1) 0)) (asInt (acell (lget x6 2) 0)) (asInt (acell (lget x6 3) 0)) (asInt (acell (lget x6 4) 0))))
                        (K (V.tup [(V.agg [(V.int .i64 0), (V.int .i64 0), (V.int .i64 0), (V.int .i64 0), (V.int .i64 0), (V.int .i64 0)]), (V.int .i64 1)]))
                        (K (V.tup [(V.agg [(V.int .i64 (yrI (ssub x0 0 x4))), (V.int .i64 (asInt (acell (lget x6 0) 0))), (V.int .i64 (asInt (acell (lget x6 1) 0))), (V.int .i64 (asInt (acell (lget x6 2) 0))), (V.int .i64 (asInt (acell (lget x6 3) 0))), (V.int .i64 (asInt (acell (lget x6 4) 0)))]), (V.int .i64 0)])))
                      (none))
                    (none))
                  (none))
                (none))
              (none)))
          (none))
        (none)) := by kernel_rfl


end Nt.Ev.YtnchnnbggfeknaaDoor

set_option linter.unusedVariables false
set_option linter.unusedSimpArgs false
namespace Nt.Ev.YtnchnnbggfeknaaDoor
open Go Go.RowKit Nt Nt.Num Nt.Civil Go.Proofs.YtnchnnbggfeknaaDoor

theorem uE_ok : EOk uE := ⟨by kernel_rfl, by kernel_rfl⟩
theorem toU {f : Nat} {args : List V} {r : V} (h : Contract vE f args r) : Contract uE f args r := Contract.env (E := vE) rfl (fun n v h => by cases h) h
theorem toU' {f : Nat} {args : List V} {r : V} (h : Contract nE f args r) : Contract uE f args r := Contract.env (E := nE) rfl (fun n v h => by cases h) h
theorem len_u {s : List UInt8} (h : ile (slen s) 1000 = true) : s.length ≤ 1000 := by rw [ile_iff, slen_nat] at h; omega
theorem uCutS_ok (s p : List UInt8) (hc : ile (slen s) 1000 = true) : Contract uE 133 [.str s, .str p] (.tup [.str (cpT s p), .bool (cpB s p)]) := by
  refine contract_old fun G w vs hG hg hp => ?_
  obtain ⟨x, y, rfl, hx, hy⟩ := PW_two hp
  unfold rep at hx hy
  subst hx; subst hy
  refine (Go.Proofs.Tryd.strings_CutPrefix ⟨s.toArray⟩ ⟨p.toArray⟩ w).mono ?_
  rintro e w' ⟨rfl, rfl⟩
  exact ⟨_, rfl, Below.refl _ _, res_two (same_str _) (same_bool _)⟩
theorem uTextS_ok (m : Int) (hc : band (ile (-9223372036854775808) m) (ile m 9223372036854775807) = true) : Contract uE 74 [.int .i64 m] (.str (text m)) := toU' (nText_ev m (st_fits hc))
theorem uRightS_ok (y m d h i s : Int) (hc : true = true) : Contract uE 48 [.agg [.int .i64 y, .int .i64 m, .int .i64 d, .int .i64 h, .int .i64 i, .int .i64 s]] (.bool (stB y m d h i s)) := toU (stRight_ev y m d h i s)
theorem uRightS_ok_noontideref04_Right (y m d h i s : Int) (hc : true = true) : Contract uE 49 [.agg [.int .i64 y, .int .i64 m, .int .i64 d, .int .i64 h, .int .i64 i, .int .i64 s]] (.bool (stB y m d h i s)) := toU (srRight_ev y m d h i s)
theorem uTrimS_ok (s c : List UInt8) (hc : band (ile (slen s) 1000) (band (ile (slen c) 1000) (asciiB c)) = true) : Contract uE 112 [.str s, .str c] (.str (trimC s c)) := by
  obtain ⟨h1, h3⟩ := band_true hc
  obtain ⟨h2, h3⟩ := band_true h3
  have h1 := len_u h1
  have h2 := len_u h2
  refine contract_old fun G w vs hG hg hp => ?_
  obtain ⟨x, y, rfl, hx, hy⟩ := PW_two hp
  unfold rep at hx hy
  subst hx; subst hy
  refine (Go.Proofs.Tryd.strings_Trim ⟨s.toArray⟩ ⟨c.toArray⟩ w (show s.toArray.size ≤ _ by simp; omega) (show c.toArray.size < _ by simp; omega) (fun j b hb => ?_)).mono ?_
  · have h3 : (c.all fun c => decide (c.toNat < 128)) = true := h3
    have := List.all_eq_true.1 h3 b (List.mem_of_getElem? hb)
    exact of_decide_eq_true this
  · rintro e w' ⟨rfl, hb⟩
    exact ⟨_, rfl, hb, res_str _⟩
theorem uReadS_ok (s : List UInt8) (hc : ile (slen s) 1000 = true) : Contract uE 114 [.str s] (.tup [.int .i64 (nrI s), .int .i64 (nrW s)]) := toU' (nRead_c s (len_u hc))
theorem uS_ok : SOk uE uS := by
  unfold uS
  refine SOk.cons (fun args r h => ?_) (SOk.cons (fun args r h => ?_) (SOk.cons (fun args r h => ?_) (SOk.cons (fun args r h => ?_) (SOk.cons (fun args r h => ?_) (SOk.nil)))))
  · unfold uCutS at h
    split at h
    · simp only [Option.some.injEq, Prod.mk.injEq] at h
      obtain ⟨hc, rfl⟩ := h
      exact uCutS_ok _ _ hc
    · cases h
  · unfold uTextS at h
    split at h
    · simp only [Option.some.injEq, Prod.mk.injEq] at h
      obtain ⟨hc, rfl⟩ := h
      exact uTextS_ok _ hc
    · cases h
  · unfold uRightS at h
    split at h
    · simp only [Option.some.injEq, Prod.mk.injEq] at h
      obtain ⟨hc, rfl⟩ := h
      exact uRightS_ok _ _ _ _ _ _ rfl
    · cases h
  · unfold uTrimS at h
    split at h
    · simp only [Option.some.injEq, Prod.mk.injEq] at h
      obtain ⟨hc, rfl⟩ := h
      exact uTrimS_ok _ _ hc
    · cases h
  · unfold uReadS at h
    split at h
    · simp only [Option.some.injEq, Prod.mk.injEq] at h
      obtain ⟨hc, rfl⟩ := h
      exact uReadS_ok _ hc
    · cases h

theorem bytes_len (l : List UInt8) : (bytesV l).length = l.length := by unfold bytesV; rw [List.length_map]
theorem bytes_cat (a b : List UInt8) : lcat (bytesV a) (bytesV b) = bytesV (a ++ b) := by unfold lcat bytesV; rw [List.map_append]
theorem pad_loop (F : Nat) (x k p : Int) (t : List UInt8) (hp : p ≤ 10) (ht : t.length ≤ 30) : ∀ (n : Nat) (i : Int) (L : List V), 0 ≤ i → p ≤ i + n → L.length + (p - i).toNat ≤ 2000 →
    uPad_L0 F [] (n + 1) L x k t p i some = some (.out false (.sl 5 [.int .u8] (some 1000000000) (lcat L (bytesV (List.replicate (p - i).toNat 48 ++ t)))) []) := by
  intro n
  induction n with
  | zero =>
    intro i L h0 h1 h2
    rw [uPad_L0_succ, sel_neg (ilt_f (by omega)), sel_pos (by rw [okApp_iff, bytes_len]; omega), show (p - i).toNat = 0 by omega]
    rfl
  | succ n ih =>
    intro i L h0 h1 h2
    rw [uPad_L0_succ]
    by_cases h : i < p
    · rw [sel_pos (ilt_t h), sel_pos (by rw [okApp_iff]; simp only [List.length_cons, List.length_nil]; omega), iadd64 (by omega)]
      rw [ih (i + 1) _ (by omega) (by omega) (by unfold lcat; rw [List.length_append]; simp only [List.length_cons, List.length_nil]; omega)]
      rw [show (p - i).toNat = (p - (i + 1)).toNat + 1 by omega, List.replicate_succ]
      unfold lcat bytesV
      simp
    · rw [sel_neg (ilt_f (by omega)), sel_pos (by rw [okApp_iff, bytes_len]; omega), show (p - i).toNat = 0 by omega]
      rfl
theorem uPadS_ok (L : List V) (n k : Int) (hc : band (band (ile (-1000000) n) (ile n 1000000)) (band (band (ile 0 k) (ile k 10)) (ile (llen L) 1000)) = true) : XOk uE 100 [.sl 5 [.int .u8] (some 1000001000) L, .int .i64 n, .int .i64 k] (.out false (.sl 5 [.int .u8] (some 1000000000) (lcat L (bytesV (wideT n k)))) []) := by
  simp only [band_iff, ile_iff, llen_nat] at hc
  refine XOk.out (xc_of_body uE_ok uS_ok 12 2 ?_)
  have ht := (text_len n (by unfold Fits; omega)).1
  rw [uPad_top, sel_pos (by rw [band_iff, ile_iff, ile_iff]; omega), slen_nat, isub64 (by omega)]
  rw [pad_loop 12 n k (k - (text n).length) (text n) (by omega) (by omega) 11 0 L (by omega) (by omega) (by omega)]
  unfold wideT
  rw [show (k - ((text n).length : Int) - 0).toNat = k.toNat - (text n).length by omega]
theorem uDigS_ok (s : List UInt8) (n : Int) (hc : ile (slen s) 1000 = true) : Contract uE 90 [.str s, .int .i64 n] (.bool (dgB s n)) := by
  refine contract_of_body uE_ok uS_ok 5 2 ?_
  rw [uDigits_top, hc]
  unfold dgB
  by_cases h : n ≤ (s.length : Int)
  · rw [sel_pos (ile_t (by rw [slen_nat]; exact h)), sel_pos (by decide), decide_eq_true h]
    congr 2
    rw [Bool.true_and, Bool.eq_iff_iff, seq_iff]
    exact trim_digits s
  · rw [sel_neg (ile_f (by rw [slen_nat]; omega)), decide_eq_false h]; rfl
theorem uS2_ok : SOk uE uS2 := by
  unfold uS2
  refine SOk.consX (fun args r h => ?_) (SOk.cons (fun args r h => ?_) (uS_ok))
  · unfold uPadS at h
    split at h
    · simp only [Option.some.injEq, Prod.mk.injEq] at h
      obtain ⟨hc, rfl⟩ := h
      exact uPadS_ok _ _ _ hc
    · cases h
  · unfold uDigS at h
    split at h
    · simp only [Option.some.injEq, Prod.mk.injEq] at h
      obtain ⟨hc, rfl⟩ := h
      exact uDigS_ok _ _ hc
    · cases h


theorem cat_sign (l w : List UInt8) (c : UInt8) : lcat (lcat (bytesV l) [V.int .u8 (c.toNat : Int)]) (bytesV w) = bytesV (l ++ c :: w) := by
  unfold lcat bytesV; simp
theorem vbytes_bytes (l : List UInt8) : vbytes (bytesV l) = l := by
  unfold vbytes bytesV
  rw [List.map_map]
  conv => rhs; rw [← List.map_id l]
  refine List.map_congr_left fun c _ => ?_
  show UInt8.ofNat ((c.toNat : Int).toNat) = c
  rw [Int.toNat_natCast]; simp
theorem uText_r0 (F n : Nat) (a0 a1 a2 a3 a4 a5 x m d h i s b0 b1 b2 b3 b4 b5 : Int) (l : List UInt8) (K : V → Option V) (hl : l.length ≤ 900) (hx : 0 ≤ m ∧ m ≤ 1000) :
    uText_L0 F [] (n + 1) a0 a1 a2 a3 a4 a5 (bytesV l) x m d h i s 0 b0 b1 b2 b3 b4 b5 K = uText_L0 F [] n a0 a1 a2 a3 a4 a5 (bytesV (l ++ 45 :: wideT m 2)) x m d h i s 1 b0 b1 b2 b3 b4 b5 K := by
  have e : asInt (acell (lget [(V.int .u8 45), (V.int .u8 45), (V.int .u8 84), (V.int .u8 58), (V.int .u8 58)] 0) 0) = ((45 : UInt8).toNat : Int) := rfl
  have hw := wide_len m 2 (by omega) (by omega)
  rw [uText_L0_succ, sel_pos (ilt_t (by decide)), sel_pos (ieq_t rfl), e, cat_sign]
  rw [sel_pos (by rw [band_iff, ile_iff, ilt_iff]; decide), sel_pos (by rw [okApp_iff, bytes_len]; simp only [List.length_cons, List.length_nil]; omega)]
  rw [sel_pos (by simp only [band_iff, ile_iff, llen_nat]; unfold lcat; rw [List.length_append, bytes_len]; simp only [List.length_cons, List.length_nil]; omega)]
  rfl
theorem uText_r1 (F n : Nat) (a0 a1 a2 a3 a4 a5 x m d h i s b0 b1 b2 b3 b4 b5 : Int) (l : List UInt8) (K : V → Option V) (hl : l.length ≤ 900) (hx : 0 ≤ d ∧ d ≤ 1000) :
    uText_L0 F [] (n + 1) a0 a1 a2 a3 a4 a5 (bytesV l) x m d h i s 1 b0 b1 b2 b3 b4 b5 K = uText_L0 F [] n a0 a1 a2 a3 a4 a5 (bytesV (l ++ 45 :: wideT d 2)) x m d h i s 2 b0 b1 b2 b3 b4 b5 K := by
  have e : asInt (acell (lget [(V.int .u8 45), (V.int .u8 45), (V.int .u8 84), (V.int .u8 58), (V.int .u8 58)] 1) 0) = ((45 : UInt8).toNat : Int) := rfl
  have hw := wide_len d 2 (by omega) (by omega)
  rw [uText_L0_succ, sel_pos (ilt_t (by decide)), sel_neg (ieq_f (by decide)), sel_pos (ieq_t rfl), e, cat_sign]
  rw [sel_pos (by rw [band_iff, ile_iff, ilt_iff]; decide), sel_pos (by rw [okApp_iff, bytes_len]; simp only [List.length_cons, List.length_nil]; omega)]
  rw [sel_pos (by simp only [band_iff, ile_iff, llen_nat]; unfold lcat; rw [List.length_append, bytes_len]; simp only [List.length_cons, List.length_nil]; omega)]
  rfl
theorem uText_r2 (F n : Nat) (a0 a1 a2 a3 a4 a5 x m d h i s b0 b1 b2 b3 b4 b5 : Int) (l : List UInt8) (K : V → Option V) (hl : l.length ≤ 900) (hx : 0 ≤ h ∧ h ≤ 1000) :
    uText_L0 F [] (n + 1) a0 a1 a2 a3 a4 a5 (bytesV l) x m d h i s 2 b0 b1 b2 b3 b4 b5 K = uText_L0 F [] n a0 a1 a2 a3 a4 a5 (bytesV (l ++ 84 :: wideT h 2)) x m d h i s 3 b0 b1 b2 b3 b4 b5 K := by
  have e : asInt (acell (lget [(V.int .u8 45), (V.int .u8 45), (V.int .u8 84), (V.int .u8 58), (V.int .u8 58)] 2) 0) = ((84 : UInt8).toNat : Int) := rfl
  have hw := wide_len h 2 (by omega) (by omega)
  rw [uText_L0_succ, sel_pos (ilt_t (by decide)), sel_neg (ieq_f (by decide)), sel_neg (ieq_f (by decide)), sel_pos (ieq_t rfl), e, cat_sign]
  rw [sel_pos (by rw [band_iff, ile_iff, ilt_iff]; decide), sel_pos (by rw [okApp_iff, bytes_len]; simp only [List.length_cons, List.length_nil]; omega)]
  rw [sel_pos (by simp only [band_iff, ile_iff, llen_nat]; unfold lcat; rw [List.length_append, bytes_len]; simp only [List.length_cons, List.length_nil]; omega)]
  rfl
theorem uText_r3 (F n : Nat) (a0 a1 a2 a3 a4 a5 x m d h i s b0 b1 b2 b3 b4 b5 : Int) (l : List UInt8) (K : V → Option V) (hl : l.length ≤ 900) (hx : 0 ≤ i ∧ i ≤ 1000) :
    uText_L0 F [] (n + 1) a0 a1 a2 a3 a4 a5 (bytesV l) x m d h i s 3 b0 b1 b2 b3 b4 b5 K = uText_L0 F [] n a0 a1 a2 a3 a4 a5 (bytesV (l ++ 58 :: wideT i 2)) x m d h i s 4 b0 b1 b2 b3 b4 b5 K := by
  have e : asInt (acell (lget [(V.int .u8 45), (V.int .u8 45), (V.int .u8 84), (V.int .u8 58), (V.int .u8 58)] 3) 0) = ((58 : UInt8).toNat : Int) := rfl
  have hw := wide_len i 2 (by omega) (by omega)
  rw [uText_L0_succ, sel_pos (ilt_t (by decide)), sel_neg (ieq_f (by decide)), sel_neg (ieq_f (by decide)), sel_neg (ieq_f (by decide)), sel_pos (ieq_t rfl), e, cat_sign]
  rw [sel_pos (by rw [band_iff, ile_iff, ilt_iff]; decide), sel_pos (by rw [okApp_iff, bytes_len]; simp only [List.length_cons, List.length_nil]; omega)]
  rw [sel_pos (by simp only [band_iff, ile_iff, llen_nat]; unfold lcat; rw [List.length_append, bytes_len]; simp only [List.length_cons, List.length_nil]; omega)]
  rfl
theorem uText_r4 (F n : Nat) (a0 a1 a2 a3 a4 a5 x m d h i s b0 b1 b2 b3 b4 b5 : Int) (l : List UInt8) (K : V → Option V) (hl : l.length ≤ 900) (hx : 0 ≤ s ∧ s ≤ 1000) :
    uText_L0 F [] (n + 1) a0 a1 a2 a3 a4 a5 (bytesV l) x m d h i s 4 b0 b1 b2 b3 b4 b5 K = uText_L0 F [] n a0 a1 a2 a3 a4 a5 (bytesV (l ++ 58 :: wideT s 2)) x m d h i s 5 b0 b1 b2 b3 b4 b5 K := by
  have e : asInt (acell (lget [(V.int .u8 45), (V.int .u8 45), (V.int .u8 84), (V.int .u8 58), (V.int .u8 58)] 4) 0) = ((58 : UInt8).toNat : Int) := rfl
  have hw := wide_len s 2 (by omega) (by omega)
  rw [uText_L0_succ, sel_pos (ilt_t (by decide)), sel_neg (ieq_f (by decide)), sel_neg (ieq_f (by decide)), sel_neg (ieq_f (by decide)), sel_neg (ieq_f (by decide)), sel_pos (ieq_t rfl), e, cat_sign]
  rw [sel_pos (by rw [band_iff, ile_iff, ilt_iff]; decide), sel_pos (by rw [okApp_iff, bytes_len]; simp only [List.length_cons, List.length_nil]; omega)]
  rw [sel_pos (by simp only [band_iff, ile_iff, llen_nat]; unfold lcat; rw [List.length_append, bytes_len]; simp only [List.length_cons, List.length_nil]; omega)]
  rfl
theorem uText_ev (y m d h i s : Int) : Contract uE 50 [.agg [.int .i64 y, .int .i64 m, .int .i64 d, .int .i64 h, .int .i64 i, .int .i64 s]] (.str (stTxt y m d h i s)) := by
  refine contract_of_body uE_ok uS2_ok 8 2 ?_
  rw [uText_top]
  unfold stTxt
  cases hb : stB y m d h i s with
  | false => rfl
  | true =>
    obtain ⟨hv, h1⟩ := stB_iff.1 hb
    obtain ⟨y1, y2, hv2⟩ := validB_iff.1 hv
    have hm := len_month hv2
    have hd : 1 ≤ d ∧ d ≤ 31 := ⟨hv2.1, by have := len_pos y m hm.1 hm.2; have := hv2.2; omega⟩
    have lm := wide_len m 2 (by omega) (by omega)
    have ld := wide_len d 2 (by omega) (by omega)
    have lh := wide_len h 2 (by omega) (by omega)
    have li := wide_len i 2 (by omega) (by omega)
    have ls := wide_len s 2 (by omega) (by omega)
    have ly := wide_len y 4 (by omega) (by omega)
    have ly' := wide_len (-y) 4 (by omega) (by omega)
    have e : isub .i64 0 y = -y := by rw [isub64 (by omega)]; omega
    have go : ∀ (x : Int) (l : List UInt8), l.length ≤ 100 → uText_L0 8 [] 8 y m d h i s (bytesV l) x m d h i s 0 y m d h i s some = some (.str (l ++ 45 :: wideT m 2 ++ 45 :: wideT d 2 ++ 84 :: wideT h 2 ++ 58 :: wideT i 2 ++ 58 :: wideT s 2)) := by
      intro x l hl
      rw [uText_r0 (hl := by omega) (hx := by omega), uText_r1 (hl := by simp only [List.length_append, List.length_cons]; omega) (hx := by omega), uText_r2 (hl := by simp only [List.length_append, List.length_cons]; omega) (hx := by omega), uText_r3 (hl := by simp only [List.length_append, List.length_cons]; omega) (hx := by omega), uText_r4 (hl := by simp only [List.length_append, List.length_cons]; omega) (hx := by omega)]
      rw [uText_L0_succ, sel_neg (ilt_f (by decide)), vbytes_bytes]
    rw [sel_neg (by rfl), if_pos rfl, e]
    by_cases h0 : y < 0
    · rw [sel_pos (ilt_t h0), if_pos h0, sel_pos (by rw [okApp_iff]; decide), sel_pos (by simp only [band_iff, ile_iff]; refine ⟨⟨by omega, by omega⟩, ⟨by omega, by omega⟩, by decide⟩)]
      rw [show lcat (lcat [] [V.int .u8 45]) (bytesV (wideT (-y) 4)) = bytesV (45 :: wideT (-y) 4) from cat_sign [] _ 45]
      rw [go _ _ (by rw [List.length_cons]; omega)]
    · rw [sel_neg (ilt_f (by omega)), if_neg h0, sel_pos (by simp only [band_iff, ile_iff]; refine ⟨⟨by omega, by omega⟩, ⟨by omega, by omega⟩, by decide⟩)]
      rw [show lcat [] (bytesV (wideT y 4)) = bytesV (wideT y 4) from rfl]
      rw [go _ _ (by omega)]

theorem sDigU_ok (s : List UInt8) (hc : ile (slen s) 1000 = true) : Contract uE 92 [.str s] (.bool (digB s)) := toU (sDigS_ok s hc)
def resY (p : Int × Int) : V := .tup [.int .i64 p.1, .int .i64 p.2]
def yrQ (s d : List UInt8) (b : Bool) : Int × Int := if d.length < 4 ∨ d.all isDigit = false ∨ (4 < d.length ∧ d.getD 0 0 = 48) ∨ s = [45, 48, 48, 48, 48] then (0, 4) else if 5 < d.length then (0, 1) else (if b = true then -(val d : Int) else (val d : Int), 0)
theorem yrP_eq (s : List UInt8) : yrP s = yrQ s (bare s) (minus s) := rfl
theorem dig_at {d : List UInt8} (hd : d.all isDigit = true) {i : Nat} (h : i < d.length) : 48 ≤ (d.getD i 0).toNat ∧ (d.getD i 0).toNat ≤ 57 := by
  have := List.all_eq_true.1 hd (d.getD i 0) (by rw [List.getD_eq_getElem?_getD, List.getElem?_eq_getElem h]; exact List.getElem_mem h)
  unfold isDigit at this
  rw [Bool.and_eq_true, decide_eq_true_iff, decide_eq_true_iff] at this
  exact this
theorem val_small {d : List UInt8} (hd : d.all isDigit = true) (hl : d.length ≤ 5) (i : Nat) : val (d.take i) < 100000 := by
  have h1 := val_le d i
  have h2 := val_lt d hd d.length
  rw [List.take_length] at h2
  have h3 : 10 ^ d.length ≤ 10 ^ 5 := Nat.pow_le_pow_right (by decide) hl
  omega
theorem year_tail (s d : List UInt8) (b : Bool) (hd : d.length ≤ 1000) (X : Option V) (hX : d.all isDigit = true → 4 ≤ d.length → d.length ≤ 5 → X = some (resY (if b = true then -(val d : Int) else (val d : Int), 0))) :
    sel (ilt (slen d) 4) (some (V.tup [(V.int .i64 0), (V.int .i64 4)])) (sel (ile (slen d) 1000) (sel (bnot (digB d)) (some (V.tup [(V.int .i64 0), (V.int .i64 4)])) (sel (ilt 4 (slen d)) (sel (band (ile 0 0) (ilt 0 (slen d))) (sel (ieq (sat d 0) 48) (some (V.tup [(V.int .i64 0), (V.int .i64 4)])) (sel (seq s [45, 48, 48, 48, 48]) (some (V.tup [(V.int .i64 0), (V.int .i64 4)])) (sel (ilt 5 (slen d)) (some (V.tup [(V.int .i64 0), (V.int .i64 1)])) X))) none) (sel (seq s [45, 48, 48, 48, 48]) (some (V.tup [(V.int .i64 0), (V.int .i64 4)])) (sel (ilt 5 (slen d)) (some (V.tup [(V.int .i64 0), (V.int .i64 1)])) X)))) none) = some (resY (yrQ s d b)) := by
  unfold yrQ
  by_cases h4 : d.length < 4
  · rw [sel_pos (ilt_t (by rw [slen_nat]; omega)), if_pos (.inl h4)]; rfl
  rw [sel_neg (ilt_f (by rw [slen_nat]; omega)), sel_pos (ile_t (by rw [slen_nat]; omega))]
  have hB : digB d = d.all isDigit := by
    unfold digB digitsB
    cases d with
    | nil => simp at h4
    | cons c t => simp
  rw [hB]
  cases ha : d.all isDigit with
  | false => rw [sel_pos (by rfl), if_pos (.inr (.inl rfl))]; rfl
  | true =>
    rw [sel_neg (by rfl)]
    have hX := hX ha (by omega)
    by_cases h6 : s = [45, 48, 48, 48, 48]
    · have e : seq s [45, 48, 48, 48, 48] = true := by rw [seq_iff]; exact h6
      rw [e, if_pos (.inr (.inr (.inr h6)))]
      simp only [sel_if, tru_iff, if_true]
      repeat' split
      all_goals first | rfl | (exfalso; simp_all only [band_iff, ile_iff, ilt_iff, slen_nat]; omega)
    · have e : seq s [45, 48, 48, 48, 48] = false := by
        cases h : seq s [45, 48, 48, 48, 48] with
        | false => rfl
        | true => rw [seq_iff] at h; exact absurd h h6
      rw [e, sel_neg rfl]
      by_cases h5 : 4 < d.length
      · rw [sel_pos (ilt_t (by rw [slen_nat]; omega)), sel_pos (by rw [band_iff, ile_iff, ilt_iff, slen_nat]; omega)]
        by_cases h0 : d.getD 0 0 = 48
        · rw [sel_pos (ieq_t (by rw [show (0 : Int) = ((0 : Nat) : Int) from rfl, sat_nat, h0]; rfl)), if_pos (.inr (.inr (.inl ⟨h5, h0⟩)))]; rfl
        · rw [sel_neg (ieq_f (by
            rw [show (0 : Int) = ((0 : Nat) : Int) from rfl, sat_nat]
            intro h
            exact h0 (UInt8.toNat_inj.1 (by show _ = 48; omega))))]
          rw [if_neg (by rintro (h | h | ⟨_, h⟩ | h); · exact h4 h
                         · cases h
                         · exact h0 h
                         · exact h6 h)]
          by_cases h7 : 5 < d.length
          · rw [sel_pos (ilt_t (by rw [slen_nat]; omega)), if_pos h7]; rfl
          · rw [sel_neg (ilt_f (by rw [slen_nat]; omega)), if_neg h7, hX (by omega)]
      · rw [sel_neg (ilt_f (by rw [slen_nat]; omega))]
        rw [if_neg (by rintro (h | h | ⟨h, _⟩ | h); · exact h4 h
                       · cases h
                       · exact h5 h
                       · exact h6 h)]
        rw [sel_neg (ilt_f (by rw [slen_nat]; omega)), if_neg (by omega), hX (by omega)]
theorem yr_loop (s d : List UInt8) (hd : d.all isDigit = true) (hl : d.length ≤ 5) : ∀ (n i : Nat), i ≤ d.length → d.length ≤ i + n →
    srYear_L0 12 [] (n + 1) s d (val (d.take i)) i some = some (resY (if d.length < s.length then -(val d : Int) else (val d : Int), 0)) := by
  intro n
  induction n with
  | zero =>
    intro i h1 h2
    have hi : i = d.length := by omega
    have hv := val_small hd hl d.length
    rw [hi, srYear_L0_succ, sel_neg (ilt_f (by rw [slen_nat]; omega))]
    rw [List.take_length] at *
    by_cases h : d.length < s.length
    · rw [sel_pos (ilt_t (by rw [slen_nat, slen_nat]; omega)), if_pos h, isub64 (by omega)]; unfold resY; congr 4; omega
    · rw [sel_neg (ilt_f (by rw [slen_nat, slen_nat]; omega)), if_neg h]; rfl
  | succ n ih =>
    intro i h1 h2
    by_cases hi : i = d.length
    · have hv := val_small hd hl d.length
      rw [hi, srYear_L0_succ, sel_neg (ilt_f (by rw [slen_nat]; omega))]
      rw [List.take_length] at *
      by_cases h : d.length < s.length
      · rw [sel_pos (ilt_t (by rw [slen_nat, slen_nat]; omega)), if_pos h, isub64 (by omega)]; unfold resY; congr 4; omega
      · rw [sel_neg (ilt_f (by rw [slen_nat, slen_nat]; omega)), if_neg h]; rfl
    · have hlt : i < d.length := by omega
      have hv := val_small hd hl i
      have hc := dig_at hd hlt
      rw [srYear_L0_succ, sel_pos (ilt_t (by rw [slen_nat]; omega)), sel_pos (by rw [band_iff, ile_iff, ilt_iff, slen_nat]; omega), sat_nat]
      simp (disch := omega) only [isubu8, icnv64, imul64, iadd64]
      have := ih (i + 1) (by omega) (by omega)
      rw [val_take d i hlt] at this
      have e1 : 10 * ((val (d.take i) : Nat) : Int) + (((d.getD i 0).toNat : Int) - 48) = ((10 * val (d.take i) + ((d.getD i 0).toNat - 48) : Nat) : Int) := by omega
      have e2 : (i : Int) + 1 = ((i + 1 : Nat) : Int) := by omega
      rw [e1, e2]
      exact this
theorem srYear_ev (s : List UInt8) (hs : s.length ≤ 1000) : Contract vE 94 [.str s] (resY (yrP s)) := by
  refine contract_of_body vE_ok stS5_ok 12 2 ?_
  rw [srYear_top, yrP_eq]
  cases s with
  | nil => rfl
  | cons c t =>
    have hX : ∀ (d : List UInt8) (b : Bool), (d.length < (c :: t).length ↔ b = true) → d.all isDigit = true → 4 ≤ d.length → d.length ≤ 5 → srYear_L0 12 [] 12 (c :: t) d 0 0 some = some (resY (if b = true then -(val d : Int) else (val d : Int), 0)) := by
      intro d b hb h1 h2 h3
      have := yr_loop (c :: t) d h1 h3 11 0 (by omega) (by omega)
      have e0 : ((val (d.take 0) : Nat) : Int) = 0 := rfl
      rw [e0] at this
      refine Eq.trans this ?_
      by_cases h : d.length < (c :: t).length
      · rw [if_pos h, if_pos (hb.1 h)]
      · rw [if_neg h, if_neg (fun h' => h (hb.2 h'))]
    rw [sel_pos (ilt_t (by rw [slen_nat, List.length_cons]; omega)), sel_pos (by rw [band_iff, ile_iff, ilt_iff, slen_nat, List.length_cons]; omega)]
    by_cases h : c = 45
    · rw [sel_pos (ieq_t (by rw [h]; rfl)), sel_pos (by rw [band_iff, ile_iff, ile_iff, slen_nat, List.length_cons]; omega)]
      have e1 : ssub (c :: t) 1 (slen (c :: t)) = t := by
        rw [slen_nat, show (1 : Int) = ((1 : Nat) : Int) from rfl, ssub_nat]; simp
      have e2 : minus (c :: t) = true := by rw [h]; rfl
      have e3 : bare (c :: t) = t := by unfold bare; rw [e2]; rfl
      rw [e1, e2, e3]
      exact year_tail _ t true (by simp at hs; omega) _ (hX t true (by simp))
    · have h' : (c == 45) = false := by simpa using h
      rw [sel_neg (ieq_f (by
        intro h2
        refine h (UInt8.toNat_inj.1 ?_)
        have h2 : (c.toNat : Int) = 45 := h2
        show c.toNat = 45
        omega))]
      have e2 : minus (c :: t) = false := h'
      have e3 : bare (c :: t) = c :: t := by unfold bare; rw [e2]; rfl
      rw [e2, e3]
      exact year_tail _ (c :: t) false hs _ (hX (c :: t) false (by simp))

theorem val_from : ∀ (d : List UInt8) (n : Nat), d.foldl (fun n c => 10 * n + (c.toNat - 48)) n = n * 10 ^ d.length + val d
  | [], n => by show n = n * 10 ^ 0 + 0; omega
  | c :: t, n => by
    have h1 := val_from t (10 * n + (c.toNat - 48))
    have h2 := val_from t (10 * 0 + (c.toNat - 48))
    have e1 : val (c :: t) = t.foldl (fun n c => 10 * n + (c.toNat - 48)) (10 * 0 + (c.toNat - 48)) := rfl
    rw [e1, h2]
    show t.foldl (fun n c => 10 * n + (c.toNat - 48)) (10 * n + (c.toNat - 48)) = _
    rw [h1, List.length_cons, Nat.pow_succ, Nat.add_mul, Nat.add_mul, Nat.mul_zero, Nat.zero_mul, Nat.mul_comm 10 n, Nat.mul_assoc, Nat.mul_comm 10 (10 ^ t.length)]
    omega
theorem val_one (d : List UInt8) : val (49 :: d) = 10 ^ d.length + val d := by
  show d.foldl (fun n c => 10 * n + (c.toNat - 48)) 1 = _
  rw [val_from, Nat.one_mul]
theorem read_one (d : List UInt8) (hd : d.all isDigit = true) (hl : d.length ≤ 5) : Num.read (49 :: d) = (((10 ^ d.length + val d : Nat) : Int), 0) := by
  have hv := val_small hd hl d.length
  rw [List.take_length] at hv
  have h3 : 10 ^ d.length ≤ 10 ^ 5 := Nat.pow_le_pow_right (by decide) hl
  have h0 : 0 < 10 ^ d.length := Nat.pow_pos (by decide)
  have e2 : minus (49 :: d) = false := rfl
  have e3 : bare (49 :: d) = 49 :: d := rfl
  have hg : good (49 :: d) = true := by
    unfold good
    rw [e3, List.all_cons, hd]
    rfl
  unfold Num.read
  rw [hg, if_pos rfl, e2, e3, val_one, if_neg (show ¬ false = true by decide)]
  unfold told
  rw [if_pos (by unfold Fits; omega)]
theorem uYear_loop (s d : List UInt8) (b : Bool) (w0 q : Int) (v L : Nat) (hL : L = 4 ∨ L = 5) (hv : v < 10 ^ L) :
    uYear_L0 12 [] 12 s d b q w0 ((10 ^ L + v : Nat) : Int) 1 some = some (resY (if b = true then -(v : Int) else (v : Int), 0)) := by
  have m1 : imul .i64 1 10 = 10 := imul64 (by decide)
  have m2 : imul .i64 10 10 = 100 := imul64 (by decide)
  have m3 : imul .i64 100 10 = 1000 := imul64 (by decide)
  have m4 : imul .i64 1000 10 = 10000 := imul64 (by decide)
  have m5 : imul .i64 10000 10 = 100000 := imul64 (by decide)
  have m6 : imul .i64 100000 10 = 1000000 := imul64 (by decide)
  rcases hL with h | h
  · subst h
    have e : ((10 ^ 4 + v : Nat) : Int) = 10000 + (v : Int) := by omega
    have hv : (v : Int) < 10000 := by omega
    rw [e]
    rw [uYear_L0_succ, m1, sel_neg (ilt_f (by omega)), uYear_L0_succ, m2, sel_neg (ilt_f (by omega)), uYear_L0_succ, m3, sel_neg (ilt_f (by omega)), uYear_L0_succ, m4, sel_neg (ilt_f (by omega)), uYear_L0_succ, m5, sel_pos (ilt_t (by omega)), isub64 (a := 10000 + (v : Int)) (by omega), isub64 (by omega)]
    cases b
    · rw [sel_neg rfl]; unfold resY; rw [if_neg (by decide)]; congr 4; omega
    · rw [sel_pos rfl]; unfold resY; rw [if_pos rfl]; congr 4; omega
  · subst h
    have e : ((10 ^ 5 + v : Nat) : Int) = 100000 + (v : Int) := by omega
    have hv : (v : Int) < 100000 := by omega
    rw [e]
    rw [uYear_L0_succ, m1, sel_neg (ilt_f (by omega)), uYear_L0_succ, m2, sel_neg (ilt_f (by omega)), uYear_L0_succ, m3, sel_neg (ilt_f (by omega)), uYear_L0_succ, m4, sel_neg (ilt_f (by omega)), uYear_L0_succ, m5, sel_neg (ilt_f (by omega)), uYear_L0_succ, m6, sel_pos (ilt_t (by omega)), isub64 (a := 100000 + (v : Int)) (by omega), isub64 (by omega)]
    cases b
    · rw [sel_neg rfl]; unfold resY; rw [if_neg (by decide)]; congr 4; omega
    · rw [sel_pos rfl]; unfold resY; rw [if_pos rfl]; congr 4; omega
/-- What follows the form's test. -/
theorem year_rest (s d : List UInt8) (b : Bool) (hl : d.length ≤ 1000) (hd : d.all isDigit = true) (h4 : 4 ≤ d.length) :
    sel (band (ile 0 (imax (isub .i64 (slen d) 5) 0)) (ile (imax (isub .i64 (slen d) 5) 0) (slen d)))
      (sel (okCat [49] (ssub d (imax (isub .i64 (slen d) 5) 0) (slen d)))
        (sel (ile (slen (scat [49] (ssub d (imax (isub .i64 (slen d) 5) 0) (slen d)))) 1000)
          (sel (bnot (ieq (nrW (scat [49] (ssub d (imax (isub .i64 (slen d) 5) 0) (slen d)))) 0)) (some (V.tup [(V.int .i64 0), (V.int .i64 1)]))
            (sel (ilt 5 (slen d)) (some (V.tup [(V.int .i64 0), (V.int .i64 1)]))
              (uYear_L0 12 [] 12 s d b (nrI (scat [49] (ssub d (imax (isub .i64 (slen d) 5) 0) (slen d)))) (nrW (scat [49] (ssub d (imax (isub .i64 (slen d) 5) 0) (slen d)))) (nrI (scat [49] (ssub d (imax (isub .i64 (slen d) 5) 0) (slen d)))) 1 some)))
          none)
        none)
      none = some (resY (if 5 < d.length then (0, 1) else (if b = true then -(val d : Int) else (val d : Int), 0))) := by
  have e1 : imax (isub .i64 (slen d) 5) 0 = ((d.length - 5 : Nat) : Int) := by
    rw [slen_nat, isub64 (by omega)]; unfold imax; omega
  rw [e1, slen_nat, ssub_nat]
  have e2 : ((d.drop (d.length - 5)).take (d.length - (d.length - 5))).length ≤ 5 := by rw [List.length_take]; omega
  generalize hz : (d.drop (d.length - 5)).take (d.length - (d.length - 5)) = z at e2
  have e3 : scat [49] z = 49 :: z := rfl
  rw [e3, sel_pos (by rw [band_iff, ile_iff, ile_iff]; omega), sel_pos (by rw [okCat_iff]; simp only [List.length_cons, List.length_nil]; omega), sel_pos (ile_t (by rw [slen_nat, List.length_cons]; omega))]
  by_cases h5 : 5 < d.length
  · rw [if_pos h5, sel_pos (c := ilt 5 _) (ilt_t (by omega))]
    cases bnot (ieq (nrW (49 :: z)) 0) <;> rfl
  · have ez : z = d := by rw [← hz, show d.length - 5 = 0 by omega, List.drop_zero, Nat.sub_zero, List.take_length]
    rw [ez]
    have hr := read_one d hd (by omega)
    have r1 : nrI (49 :: d) = ((10 ^ d.length + val d : Nat) : Int) := by unfold nrI; rw [hr]
    have r2 : nrW (49 :: d) = 0 := by unfold nrW; rw [hr]
    rw [r1, r2, sel_neg (by rfl), sel_neg (ilt_f (by omega)), if_neg h5]
    refine uYear_loop s d b 0 _ (val d) d.length (by omega) ?_
    have := val_lt d hd d.length
    rw [List.take_length] at this
    exact this
theorem uYear_ev (s : List UInt8) (hs : s.length ≤ 1000) : Contract uE 91 [.str s] (resY (yrP s)) := by
  refine contract_of_body uE_ok uS2_ok 12 4 ?_
  have hb := bare_len s
  have e1 : cpB s [45] = minus s := hasPrefix_minus s
  have e2 : cpT s [45] = bare s := by unfold cpT Lib.trimPrefix bare; rw [show Lib.hasPrefix s [45] = minus s from hasPrefix_minus s]; rfl
  rw [uYear_top, yrP_eq, e1, e2, sel_pos (ile_t (by rw [slen_nat]; omega)), sel_pos (ile_t (by rw [slen_nat]; omega))]
  generalize minus s = b
  generalize bare s = d at *
  have hl : d.length ≤ 1000 := by omega
  have hd : dgB d 4 = (decide (4 ≤ d.length) && d.all isDigit) := by
    unfold dgB
    congr 1
    rw [Bool.eq_iff_iff, decide_eq_true_iff, decide_eq_true_iff]; omega
  rw [hd]
  unfold yrQ
  by_cases h4 : d.length < 4
  · rw [decide_eq_false (by omega), sel_pos (by rfl), if_pos (.inl h4)]; rfl
  rw [decide_eq_true (by omega)]
  cases ha : d.all isDigit with
  | false => rw [sel_pos (by rfl), if_pos (.inr (.inl rfl))]; rfl
  | true =>
    rw [sel_neg (c := bnot (true && true)) (by rfl)]
    rw [year_rest s d b hl ha (by omega)]
    generalize (if 5 < d.length then ((0 : Int), (1 : Int)) else (if b = true then -(val d : Int) else (val d : Int), 0)) = q
    by_cases h6 : s = [45, 48, 48, 48, 48]
    · have e : seq s [45, 48, 48, 48, 48] = true := by rw [seq_iff]; exact h6
      rw [e, if_pos (.inr (.inr (.inr h6)))]
      simp only [sel_if, tru_iff, if_true]
      repeat' split
      all_goals first | rfl | (exfalso; simp only [band_iff, ile_iff, ilt_iff, slen_nat] at *; omega)
    · have e : seq s [45, 48, 48, 48, 48] = false := by
        cases h : seq s [45, 48, 48, 48, 48] with
        | false => rfl
        | true => rw [seq_iff] at h; exact absurd h h6
      rw [e, sel_neg rfl]
      by_cases h5 : 4 < d.length
      · rw [sel_pos (ilt_t (by rw [slen_nat]; omega)), sel_pos (by rw [band_iff, ile_iff, ilt_iff, slen_nat]; omega)]
        by_cases h0 : d.getD 0 0 = 48
        · rw [sel_pos (ieq_t (by rw [show (0 : Int) = ((0 : Nat) : Int) from rfl, sat_nat, h0]; rfl)), if_pos (.inr (.inr (.inl ⟨h5, h0⟩)))]; rfl
        · rw [sel_neg (ieq_f (by
            rw [show (0 : Int) = ((0 : Nat) : Int) from rfl, sat_nat]
            intro h
            exact h0 (UInt8.toNat_inj.1 (by show _ = 48; omega))))]
          rw [if_neg (by rintro (h | h | ⟨_, h⟩ | h); · exact h4 h
                         · cases h
                         · exact h0 h
                         · exact h6 h)]
      · rw [sel_neg (ilt_f (by rw [slen_nat]; omega))]
        rw [if_neg (by rintro (h | h | ⟨h, _⟩ | h); · exact h4 h
                       · cases h
                       · exact h5 h
                       · exact h6 h)]
theorem uYearS_ok (s : List UInt8) (hc : ile (slen s) 1000 = true) : Contract uE 91 [.str s] (.tup [.int .i64 (yrI s), .int .i64 (yrW s)]) := uYear_ev s (len_u hc)
theorem uYearS_ok_noontideref04_year (s : List UInt8) (hc : ile (slen s) 1000 = true) : Contract uE 94 [.str s] (.tup [.int .i64 (yrI s), .int .i64 (yrW s)]) := toU (srYear_ev s (len_u hc))
theorem uRDigS_ok (s : List UInt8) (hc : ile (slen s) 1000 = true) : Contract uE 92 [.str s] (.bool (digB s)) := toU (sDigS_ok s hc)

theorem uTwoS_ok (s : List UInt8) (hc : band (ile 2 (slen s)) (ile (slen s) 1000) = true) : Contract uE 93 [.str s] (.int .i64 (twoI s)) := by
  rw [band_iff, ile_iff, ile_iff, slen_nat] at hc
  refine toU (contract_of_body vE_ok stS5_ok 5 2 ?_)
  rw [srTwo_top, sel_pos (by rw [band_iff, ile_iff, ilt_iff, slen_nat]; omega), sel_pos (by rw [band_iff, ile_iff, ilt_iff, slen_nat]; omega)]
  rfl
theorem uS3_ok : SOk uE uS3 := by
  unfold uS3
  refine SOk.cons (fun args r h => ?_) (SOk.cons (fun args r h => ?_) (SOk.cons (fun args r h => ?_) (SOk.cons (fun args r h => ?_) (SOk.cons (fun args r h => ?_) (uS2_ok)))))
  · unfold uYearS at h
    split at h
    · simp only [Option.some.injEq, Prod.mk.injEq] at h
      obtain ⟨hc, rfl⟩ := h
      exact uYearS_ok _ hc
    · cases h
  · unfold uYearS at h
    split at h
    · simp only [Option.some.injEq, Prod.mk.injEq] at h
      obtain ⟨hc, rfl⟩ := h
      exact uYearS_ok_noontideref04_year _ hc
    · cases h
  · unfold uRDigS at h
    split at h
    · simp only [Option.some.injEq, Prod.mk.injEq] at h
      obtain ⟨hc, rfl⟩ := h
      exact uRDigS_ok _ hc
    · cases h
  · unfold uTwoS at h
    split at h
    · simp only [Option.some.injEq, Prod.mk.injEq] at h
      obtain ⟨hc, rfl⟩ := h
      exact uTwoS_ok _ hc
    · cases h
  · unfold uRightS at h
    split at h
    · simp only [Option.some.injEq, Prod.mk.injEq] at h
      obtain ⟨hc, rfl⟩ := h
      exact uRightS_ok_noontideref04_Right _ _ _ _ _ _ rfl
    · cases h

/-- A sign and two digits. -/
def rOk1 (x : List UInt8) (c : UInt8) : Bool := (x.getD 0 0 == c) && (isDigit (x.getD 1 0) && isDigit (x.getD 2 0))
def val1 (x : List UInt8) : Int := twoI (x.drop 1)
def sgnL : List UInt8 := [45, 45, 84, 58, 58]
def rOkI (t : List UInt8) (i : Nat) : Bool := rOk1 (t.drop (3 * i)) (sgnL.getD i 0)
def rVal (t : List UInt8) (i : Nat) : Int := val1 (t.drop (3 * i))
def rdOk (t : List UInt8) : Bool := rOkI t 0 && (rOkI t 1 && (rOkI t 2 && (rOkI t 3 && rOkI t 4)))
def z6 : List Int := [0, 0, 0, 0, 0, 0]
/-- A text's stamp. -/
def rdQ (y t : List UInt8) : List Int × Int :=
  if rdOk t = true then (if yrW y = 0 then (if stB (yrI y) (rVal t 0) (rVal t 1) (rVal t 2) (rVal t 3) (rVal t 4) = true then ([yrI y, rVal t 0, rVal t 1, rVal t 2, rVal t 3, rVal t 4], 0) else (z6, 1)) else (z6, yrW y)) else (z6, 4)
def rdP (s : List UInt8) : List Int × Int := if s.length < 15 then (z6, 4) else rdQ (s.take (s.length - 15)) (s.drop (s.length - 15))
theorem three {x : List UInt8} (h : 3 ≤ x.length) : ∃ a b c r, x = a :: b :: c :: r := by
  match x, h with
  | a :: b :: c :: r, _ => exact ⟨a, b, c, r, rfl⟩
theorem ieq_u8 (a : UInt8) (n : Nat) (hn : n < 256) : ieq (a.toNat : Int) (n : Int) = (a == UInt8.ofNat n) := by
  rw [Bool.eq_iff_iff, ieq_iff, beq_iff_eq]
  constructor
  · intro h
    apply UInt8.toNat_inj.1
    rw [UInt8.toNat_ofNat']; omega
  · intro h
    rw [h, UInt8.toNat_ofNat']; omega
set_option maxRecDepth 10000 in
theorem uRead_r0 (F n : Nat) (s x : List UInt8) (x3 x4 b0 b1 b2 b3 b4 e0 e1 e2 e3 e4 e5 : Int) (K : V → Option V) (h3 : 3 ≤ x.length) (hl : x.length ≤ 1000) :
    uRead_L0 F [] (n + 1) s x3 x4 x 0 b0 b1 b2 b3 b4 e0 e1 e2 e3 e4 e5 K = if rOk1 x 45 = true then uRead_L0 F [] n s x3 x4 (x.drop 3) 1 (val1 x) b1 b2 b3 b4 e0 e1 e2 e3 e4 e5 K else K (V.tup [(V.agg [(V.int .i64 0), (V.int .i64 0), (V.int .i64 0), (V.int .i64 0), (V.int .i64 0), (V.int .i64 0)]), (V.int .i64 4)]) := by
  obtain ⟨a, b, c, r, rfl⟩ := three h3
  have g0 : sat (a :: b :: c :: r) 0 = (a.toNat : Int) := rfl
  have g1 : ssub (a :: b :: c :: r) 1 3 = [b, c] := rfl
  have g3 : ssub (a :: b :: c :: r) 3 (slen (a :: b :: c :: r)) = r := by
    rw [slen_nat, show (3 : Int) = ((3 : Nat) : Int) from rfl, ssub_nat]; simp
  have g4 : iadd .i64 0 1 = 1 := iadd64 (by decide)
  have g5 : dgB [b, c] 2 = (isDigit b && isDigit c) := by unfold dgB; simp
  have f3 : band (ile 0 0) (ilt 0 (slen (a :: b :: c :: r))) = true := by rw [band_iff, ile_iff, ilt_iff, slen_nat]; omega
  have f5 : band (band (ile 0 3) (ile 3 (slen (a :: b :: c :: r)))) (band (ile 0 1) (ile 1 3)) = true := by simp only [band_iff, ile_iff, slen_nat]; omega
  have f8 : band (ile 0 1) (ilt 1 (slen (a :: b :: c :: r))) = true := by rw [band_iff, ile_iff, ilt_iff, slen_nat]; omega
  have f9 : band (ile 0 2) (ilt 2 (slen (a :: b :: c :: r))) = true := by rw [band_iff, ile_iff, ilt_iff, slen_nat]; omega
  have f10 : band (ile 0 3) (ile 3 (slen (a :: b :: c :: r))) = true := by rw [band_iff, ile_iff, ile_iff, slen_nat]; omega
  have hv : val1 (a :: b :: c :: r) = iadd .i64 (imul .i64 (icnv .i64 (isub .u8 (sat (a :: b :: c :: r) 1) 48)) 10) (icnv .i64 (isub .u8 (sat (a :: b :: c :: r) 2) 48)) := rfl
  have hr : rOk1 (a :: b :: c :: r) 45 = ((a == 45) && (isDigit b && isDigit c)) := rfl
  rw [uRead_L0_succ, sel_pos (ilt_t (by decide)), sel_pos (ieq_t rfl), sel_pos f3, g0, show ieq (a.toNat : Int) 45 = (a == 45) from ieq_u8 a 45 (by decide), sel_pos f5, g1, sel_pos (c := ile (slen [b, c]) 1000) (ile_t (by rw [slen_nat, List.length_cons, List.length_cons, List.length_nil]; decide)), g5, sel_pos f8, sel_pos f9, sel_pos (ieq_t rfl), sel_pos f10, g3, g4, ← hv, hr]
  cases (a == 45) <;> cases (isDigit b && isDigit c) <;> rfl
set_option maxRecDepth 10000 in
theorem uRead_r1 (F n : Nat) (s x : List UInt8) (x3 x4 b0 b1 b2 b3 b4 e0 e1 e2 e3 e4 e5 : Int) (K : V → Option V) (h3 : 3 ≤ x.length) (hl : x.length ≤ 1000) :
    uRead_L0 F [] (n + 1) s x3 x4 x 1 b0 b1 b2 b3 b4 e0 e1 e2 e3 e4 e5 K = if rOk1 x 45 = true then uRead_L0 F [] n s x3 x4 (x.drop 3) 2 b0 (val1 x) b2 b3 b4 e0 e1 e2 e3 e4 e5 K else K (V.tup [(V.agg [(V.int .i64 0), (V.int .i64 0), (V.int .i64 0), (V.int .i64 0), (V.int .i64 0), (V.int .i64 0)]), (V.int .i64 4)]) := by
  obtain ⟨a, b, c, r, rfl⟩ := three h3
  have g0 : sat (a :: b :: c :: r) 0 = (a.toNat : Int) := rfl
  have g1 : ssub (a :: b :: c :: r) 1 3 = [b, c] := rfl
  have g3 : ssub (a :: b :: c :: r) 3 (slen (a :: b :: c :: r)) = r := by
    rw [slen_nat, show (3 : Int) = ((3 : Nat) : Int) from rfl, ssub_nat]; simp
  have g4 : iadd .i64 1 1 = 2 := iadd64 (by decide)
  have g5 : dgB [b, c] 2 = (isDigit b && isDigit c) := by unfold dgB; simp
  have f3 : band (ile 0 0) (ilt 0 (slen (a :: b :: c :: r))) = true := by rw [band_iff, ile_iff, ilt_iff, slen_nat]; omega
  have f5 : band (band (ile 0 3) (ile 3 (slen (a :: b :: c :: r)))) (band (ile 0 1) (ile 1 3)) = true := by simp only [band_iff, ile_iff, slen_nat]; omega
  have f8 : band (ile 0 1) (ilt 1 (slen (a :: b :: c :: r))) = true := by rw [band_iff, ile_iff, ilt_iff, slen_nat]; omega
  have f9 : band (ile 0 2) (ilt 2 (slen (a :: b :: c :: r))) = true := by rw [band_iff, ile_iff, ilt_iff, slen_nat]; omega
  have f10 : band (ile 0 3) (ile 3 (slen (a :: b :: c :: r))) = true := by rw [band_iff, ile_iff, ile_iff, slen_nat]; omega
  have hv : val1 (a :: b :: c :: r) = iadd .i64 (imul .i64 (icnv .i64 (isub .u8 (sat (a :: b :: c :: r) 1) 48)) 10) (icnv .i64 (isub .u8 (sat (a :: b :: c :: r) 2) 48)) := rfl
  have hr : rOk1 (a :: b :: c :: r) 45 = ((a == 45) && (isDigit b && isDigit c)) := rfl
  rw [uRead_L0_succ, sel_pos (ilt_t (by decide)), sel_neg (ieq_f (by decide)), sel_pos (ieq_t rfl), sel_pos f3, g0, show ieq (a.toNat : Int) 45 = (a == 45) from ieq_u8 a 45 (by decide), sel_pos f5, g1, sel_pos (c := ile (slen [b, c]) 1000) (ile_t (by rw [slen_nat, List.length_cons, List.length_cons, List.length_nil]; decide)), g5, sel_pos f8, sel_pos f9, sel_neg (ieq_f (by decide)), sel_pos (ieq_t rfl), sel_pos f10, g3, g4, ← hv, hr]
  cases (a == 45) <;> cases (isDigit b && isDigit c) <;> rfl
set_option maxRecDepth 10000 in
theorem uRead_r2 (F n : Nat) (s x : List UInt8) (x3 x4 b0 b1 b2 b3 b4 e0 e1 e2 e3 e4 e5 : Int) (K : V → Option V) (h3 : 3 ≤ x.length) (hl : x.length ≤ 1000) :
    uRead_L0 F [] (n + 1) s x3 x4 x 2 b0 b1 b2 b3 b4 e0 e1 e2 e3 e4 e5 K = if rOk1 x 84 = true then uRead_L0 F [] n s x3 x4 (x.drop 3) 3 b0 b1 (val1 x) b3 b4 e0 e1 e2 e3 e4 e5 K else K (V.tup [(V.agg [(V.int .i64 0), (V.int .i64 0), (V.int .i64 0), (V.int .i64 0), (V.int .i64 0), (V.int .i64 0)]), (V.int .i64 4)]) := by
  obtain ⟨a, b, c, r, rfl⟩ := three h3
  have g0 : sat (a :: b :: c :: r) 0 = (a.toNat : Int) := rfl
  have g1 : ssub (a :: b :: c :: r) 1 3 = [b, c] := rfl
  have g3 : ssub (a :: b :: c :: r) 3 (slen (a :: b :: c :: r)) = r := by
    rw [slen_nat, show (3 : Int) = ((3 : Nat) : Int) from rfl, ssub_nat]; simp
  have g4 : iadd .i64 2 1 = 3 := iadd64 (by decide)
  have g5 : dgB [b, c] 2 = (isDigit b && isDigit c) := by unfold dgB; simp
  have f3 : band (ile 0 0) (ilt 0 (slen (a :: b :: c :: r))) = true := by rw [band_iff, ile_iff, ilt_iff, slen_nat]; omega
  have f5 : band (band (ile 0 3) (ile 3 (slen (a :: b :: c :: r)))) (band (ile 0 1) (ile 1 3)) = true := by simp only [band_iff, ile_iff, slen_nat]; omega
  have f8 : band (ile 0 1) (ilt 1 (slen (a :: b :: c :: r))) = true := by rw [band_iff, ile_iff, ilt_iff, slen_nat]; omega
  have f9 : band (ile 0 2) (ilt 2 (slen (a :: b :: c :: r))) = true := by rw [band_iff, ile_iff, ilt_iff, slen_nat]; omega
  have f10 : band (ile 0 3) (ile 3 (slen (a :: b :: c :: r))) = true := by rw [band_iff, ile_iff, ile_iff, slen_nat]; omega
  have hv : val1 (a :: b :: c :: r) = iadd .i64 (imul .i64 (icnv .i64 (isub .u8 (sat (a :: b :: c :: r) 1) 48)) 10) (icnv .i64 (isub .u8 (sat (a :: b :: c :: r) 2) 48)) := rfl
  have hr : rOk1 (a :: b :: c :: r) 84 = ((a == 84) && (isDigit b && isDigit c)) := rfl
  rw [uRead_L0_succ, sel_pos (ilt_t (by decide)), sel_neg (ieq_f (by decide)), sel_neg (ieq_f (by decide)), sel_pos (ieq_t rfl), sel_pos f3, g0, show ieq (a.toNat : Int) 84 = (a == 84) from ieq_u8 a 84 (by decide), sel_pos f5, g1, sel_pos (c := ile (slen [b, c]) 1000) (ile_t (by rw [slen_nat, List.length_cons, List.length_cons, List.length_nil]; decide)), g5, sel_pos f8, sel_pos f9, sel_neg (ieq_f (by decide)), sel_neg (ieq_f (by decide)), sel_pos (ieq_t rfl), sel_pos f10, g3, g4, ← hv, hr]
  cases (a == 84) <;> cases (isDigit b && isDigit c) <;> rfl
set_option maxRecDepth 10000 in
theorem uRead_r3 (F n : Nat) (s x : List UInt8) (x3 x4 b0 b1 b2 b3 b4 e0 e1 e2 e3 e4 e5 : Int) (K : V → Option V) (h3 : 3 ≤ x.length) (hl : x.length ≤ 1000) :
    uRead_L0 F [] (n + 1) s x3 x4 x 3 b0 b1 b2 b3 b4 e0 e1 e2 e3 e4 e5 K = if rOk1 x 58 = true then uRead_L0 F [] n s x3 x4 (x.drop 3) 4 b0 b1 b2 (val1 x) b4 e0 e1 e2 e3 e4 e5 K else K (V.tup [(V.agg [(V.int .i64 0), (V.int .i64 0), (V.int .i64 0), (V.int .i64 0), (V.int .i64 0), (V.int .i64 0)]), (V.int .i64 4)]) := by
  obtain ⟨a, b, c, r, rfl⟩ := three h3
  have g0 : sat (a :: b :: c :: r) 0 = (a.toNat : Int) := rfl
  have g1 : ssub (a :: b :: c :: r) 1 3 = [b, c] := rfl
  have g3 : ssub (a :: b :: c :: r) 3 (slen (a :: b :: c :: r)) = r := by
    rw [slen_nat, show (3 : Int) = ((3 : Nat) : Int) from rfl, ssub_nat]; simp
  have g4 : iadd .i64 3 1 = 4 := iadd64 (by decide)
  have g5 : dgB [b, c] 2 = (isDigit b && isDigit c) := by unfold dgB; simp
  have f3 : band (ile 0 0) (ilt 0 (slen (a :: b :: c :: r))) = true := by rw [band_iff, ile_iff, ilt_iff, slen_nat]; omega
  have f5 : band (band (ile 0 3) (ile 3 (slen (a :: b :: c :: r)))) (band (ile 0 1) (ile 1 3)) = true := by simp only [band_iff, ile_iff, slen_nat]; omega
  have f8 : band (ile 0 1) (ilt 1 (slen (a :: b :: c :: r))) = true := by rw [band_iff, ile_iff, ilt_iff, slen_nat]; omega
  have f9 : band (ile 0 2) (ilt 2 (slen (a :: b :: c :: r))) = true := by rw [band_iff, ile_iff, ilt_iff, slen_nat]; omega
  have f10 : band (ile 0 3) (ile 3 (slen (a :: b :: c :: r))) = true := by rw [band_iff, ile_iff, ile_iff, slen_nat]; omega
  have hv : val1 (a :: b :: c :: r) = iadd .i64 (imul .i64 (icnv .i64 (isub .u8 (sat (a :: b :: c :: r) 1) 48)) 10) (icnv .i64 (isub .u8 (sat (a :: b :: c :: r) 2) 48)) := rfl
  have hr : rOk1 (a :: b :: c :: r) 58 = ((a == 58) && (isDigit b && isDigit c)) := rfl
  rw [uRead_L0_succ, sel_pos (ilt_t (by decide)), sel_neg (ieq_f (by decide)), sel_neg (ieq_f (by decide)), sel_neg (ieq_f (by decide)), sel_pos (ieq_t rfl), sel_pos f3, g0, show ieq (a.toNat : Int) 58 = (a == 58) from ieq_u8 a 58 (by decide), sel_pos f5, g1, sel_pos (c := ile (slen [b, c]) 1000) (ile_t (by rw [slen_nat, List.length_cons, List.length_cons, List.length_nil]; decide)), g5, sel_pos f8, sel_pos f9, sel_neg (ieq_f (by decide)), sel_neg (ieq_f (by decide)), sel_neg (ieq_f (by decide)), sel_pos (ieq_t rfl), sel_pos f10, g3, g4, ← hv, hr]
  cases (a == 58) <;> cases (isDigit b && isDigit c) <;> rfl
set_option maxRecDepth 10000 in
theorem uRead_r4 (F n : Nat) (s x : List UInt8) (x3 x4 b0 b1 b2 b3 b4 e0 e1 e2 e3 e4 e5 : Int) (K : V → Option V) (h3 : 3 ≤ x.length) (hl : x.length ≤ 1000) :
    uRead_L0 F [] (n + 1) s x3 x4 x 4 b0 b1 b2 b3 b4 e0 e1 e2 e3 e4 e5 K = if rOk1 x 58 = true then uRead_L0 F [] n s x3 x4 (x.drop 3) 5 b0 b1 b2 b3 (val1 x) e0 e1 e2 e3 e4 e5 K else K (V.tup [(V.agg [(V.int .i64 0), (V.int .i64 0), (V.int .i64 0), (V.int .i64 0), (V.int .i64 0), (V.int .i64 0)]), (V.int .i64 4)]) := by
  obtain ⟨a, b, c, r, rfl⟩ := three h3
  have g0 : sat (a :: b :: c :: r) 0 = (a.toNat : Int) := rfl
  have g1 : ssub (a :: b :: c :: r) 1 3 = [b, c] := rfl
  have g3 : ssub (a :: b :: c :: r) 3 (slen (a :: b :: c :: r)) = r := by
    rw [slen_nat, show (3 : Int) = ((3 : Nat) : Int) from rfl, ssub_nat]; simp
  have g4 : iadd .i64 4 1 = 5 := iadd64 (by decide)
  have g5 : dgB [b, c] 2 = (isDigit b && isDigit c) := by unfold dgB; simp
  have f3 : band (ile 0 0) (ilt 0 (slen (a :: b :: c :: r))) = true := by rw [band_iff, ile_iff, ilt_iff, slen_nat]; omega
  have f5 : band (band (ile 0 3) (ile 3 (slen (a :: b :: c :: r)))) (band (ile 0 1) (ile 1 3)) = true := by simp only [band_iff, ile_iff, slen_nat]; omega
  have f8 : band (ile 0 1) (ilt 1 (slen (a :: b :: c :: r))) = true := by rw [band_iff, ile_iff, ilt_iff, slen_nat]; omega
  have f9 : band (ile 0 2) (ilt 2 (slen (a :: b :: c :: r))) = true := by rw [band_iff, ile_iff, ilt_iff, slen_nat]; omega
  have f10 : band (ile 0 3) (ile 3 (slen (a :: b :: c :: r))) = true := by rw [band_iff, ile_iff, ile_iff, slen_nat]; omega
  have hv : val1 (a :: b :: c :: r) = iadd .i64 (imul .i64 (icnv .i64 (isub .u8 (sat (a :: b :: c :: r) 1) 48)) 10) (icnv .i64 (isub .u8 (sat (a :: b :: c :: r) 2) 48)) := rfl
  have hr : rOk1 (a :: b :: c :: r) 58 = ((a == 58) && (isDigit b && isDigit c)) := rfl
  rw [uRead_L0_succ, sel_pos (ilt_t (by decide)), sel_neg (ieq_f (by decide)), sel_neg (ieq_f (by decide)), sel_neg (ieq_f (by decide)), sel_neg (ieq_f (by decide)), sel_pos (ieq_t rfl), sel_pos f3, g0, show ieq (a.toNat : Int) 58 = (a == 58) from ieq_u8 a 58 (by decide), sel_pos f5, g1, sel_pos (c := ile (slen [b, c]) 1000) (ile_t (by rw [slen_nat, List.length_cons, List.length_cons, List.length_nil]; decide)), g5, sel_pos f8, sel_pos f9, sel_neg (ieq_f (by decide)), sel_neg (ieq_f (by decide)), sel_neg (ieq_f (by decide)), sel_neg (ieq_f (by decide)), sel_pos (ieq_t rfl), sel_pos f10, g3, g4, ← hv, hr]
  cases (a == 58) <;> cases (isDigit b && isDigit c) <;> rfl

theorem rdP_len {s : List UInt8} (h : ¬ s.length < 15) : (s.drop (s.length - 15)).length = 15 := by rw [List.length_drop]; omega
theorem uRead_ev (s : List UInt8) (hs : s.length ≤ 1000) : Contract uE 43 [.str s] (resO (rdP s)) := by
  refine contract_of_body uE_ok uS3_ok 8 2 ?_
  rw [uRead_top, slen_nat, isub64 (by omega)]
  unfold rdP
  by_cases h : s.length < 15
  · rw [sel_pos (ilt_t (by omega)), if_pos h]; rfl
  have e1 : (s.length : Int) - 15 = ((s.length - 15 : Nat) : Int) := by omega
  rw [sel_neg (ilt_f (by omega)), sel_pos (by rw [band_iff, ile_iff, ile_iff]; omega), if_neg h, e1, ssub_nat]
  have e2 : (s.drop (s.length - 15)).take (s.length - (s.length - 15)) = s.drop (s.length - 15) := by rw [List.take_of_length_le (by rw [List.length_drop]; omega)]
  have hl := rdP_len h
  rw [e2]
  unfold rdQ rdOk
  generalize s.drop (s.length - 15) = t at *
  have hz : resO (z6, 4) = (V.tup [(V.agg [(V.int .i64 0), (V.int .i64 0), (V.int .i64 0), (V.int .i64 0), (V.int .i64 0), (V.int .i64 0)]), (V.int .i64 4)]) := rfl
  rw [uRead_r0 (h3 := by omega) (hl := by omega)]
  have q0 : rOkI t 0 = rOk1 t 45 := rfl
  have v0 : rVal t 0 = val1 t := rfl
  rw [← q0, ← v0]
  cases rOkI t 0 with
  | false => rw [if_neg (show ¬ false = true by decide), if_neg (by simp)]; rfl
  | true =>
  rw [if_pos rfl, Bool.true_and, uRead_r1 (h3 := by rw [List.length_drop]; omega) (hl := by rw [List.length_drop]; omega)]
  have q1 : rOkI t 1 = rOk1 (t.drop 3) 45 := rfl
  have v1 : rVal t 1 = val1 (t.drop 3) := rfl
  rw [← q1, ← v1]
  cases rOkI t 1 with
  | false => rw [if_neg (show ¬ false = true by decide), if_neg (by simp)]; rfl
  | true =>
  rw [if_pos rfl, Bool.true_and, uRead_r2 (h3 := by rw [List.length_drop, List.length_drop]; omega) (hl := by rw [List.length_drop, List.length_drop]; omega), List.drop_drop]
  have q2 : rOkI t 2 = rOk1 (t.drop (3 + 3)) 84 := rfl
  have v2 : rVal t 2 = val1 (t.drop (3 + 3)) := rfl
  rw [← q2, ← v2]
  cases rOkI t 2 with
  | false => rw [if_neg (show ¬ false = true by decide), if_neg (by simp)]; rfl
  | true =>
  rw [if_pos rfl, Bool.true_and, List.drop_drop, uRead_r3 (h3 := by rw [List.length_drop]; omega) (hl := by rw [List.length_drop]; omega)]
  have q3 : rOkI t 3 = rOk1 (t.drop (3 + 3 + 3)) 58 := rfl
  have v3 : rVal t 3 = val1 (t.drop (3 + 3 + 3)) := rfl
  rw [← q3, ← v3]
  cases rOkI t 3 with
  | false => rw [if_neg (show ¬ false = true by decide), if_neg (by simp)]; rfl
  | true =>
  rw [if_pos rfl, Bool.true_and, List.drop_drop, uRead_r4 (h3 := by rw [List.length_drop]; omega) (hl := by rw [List.length_drop]; omega)]
  have q4 : rOkI t 4 = rOk1 (t.drop (3 + 3 + 3 + 3)) 58 := rfl
  have v4 : rVal t 4 = val1 (t.drop (3 + 3 + 3 + 3)) := rfl
  rw [← q4, ← v4]
  cases rOkI t 4 with
  | false => rw [if_neg (show ¬ false = true by decide), if_neg (by simp)]; rfl
  | true =>
  rw [if_pos rfl, if_pos rfl, uRead_L0_succ, sel_neg (ilt_f (by decide)), sel_pos (by rw [band_iff, ile_iff, ile_iff, slen_nat]; omega)]
  have e3 : ssub s 0 ((s.length - 15 : Nat) : Int) = s.take (s.length - 15) := by rw [show (0 : Int) = ((0 : Nat) : Int) from rfl, ssub_nat, List.drop_zero, Nat.sub_zero]
  rw [e3, sel_pos (ile_t (by rw [slen_nat, List.length_take]; omega))]
  generalize s.take (s.length - 15) = y
  by_cases hw : yrW y = 0
  · rw [sel_neg (by rw [ieq_t hw]; rfl), if_pos hw]
    cases stB (yrI y) (rVal t 0) (rVal t 1) (rVal t 2) (rVal t 3) (rVal t 4) <;> rfl
  · rw [sel_pos (by rw [ieq_f hw]; rfl), if_neg hw]; rfl
theorem sel2 {α : Type} (p q : Bool) (x y : α) : sel (bnot p) y (sel (bnot q) y x) = if (p && q) = true then x else y := by cases p <;> cases q <;> rfl
theorem srRead_r (F n i : Nat) (s : List UInt8) (at' : Nat) (xs : List V) (x3 e0 e1 e2 e3 e4 e5 : Int) (K : V → Option V) (hi : i < 5) (hs : s.length ≤ 1000) (ha : at' + 15 = s.length) (hx : xs.length ≤ 100) :
    srRead_L0 F [] (n + 1) s x3 (at' : Int) [45, 45, 84, 58, 58] xs (i : Int) e0 e1 e2 e3 e4 e5 K = if rOkI (s.drop at') i = true then srRead_L0 F [] n s x3 (at' : Int) [45, 45, 84, 58, 58] (xs ++ [V.int .i64 (rVal (s.drop at') i)]) ((i + 1 : Nat) : Int) e0 e1 e2 e3 e4 e5 K else K (V.tup [(V.agg [(V.int .i64 0), (V.int .i64 0), (V.int .i64 0), (V.int .i64 0), (V.int .i64 0), (V.int .i64 0)]), (V.int .i64 4)]) := by
  have a1 : iadd .i64 (at' : Int) (imul .i64 3 (i : Int)) = ((at' + 3 * i : Nat) : Int) := by rw [imul64 (by omega), iadd64 (by omega)]; omega
  have a2 : iadd .i64 ((at' + 3 * i : Nat) : Int) 1 = ((at' + 3 * i + 1 : Nat) : Int) := by rw [iadd64 (by omega)]; omega
  have a3 : iadd .i64 ((at' + 3 * i : Nat) : Int) 3 = ((at' + 3 * i + 3 : Nat) : Int) := by rw [iadd64 (by omega)]; omega
  have a4 : iadd .i64 (i : Int) 1 = ((i + 1 : Nat) : Int) := by rw [iadd64 (by omega)]; omega
  obtain ⟨a, b, c, r, hx⟩ := three (x := s.drop (at' + 3 * i)) (by rw [List.length_drop]; omega)
  have hd : (s.drop at').drop (3 * i) = a :: b :: c :: r := by rw [List.drop_drop, hx]
  have hd1 : s.drop (at' + 3 * i + 1) = b :: c :: r := by rw [← List.drop_drop, hx]; rfl
  have g0 : sat s ((at' + 3 * i : Nat) : Int) = (a.toNat : Int) := by
    rw [sat_nat, List.getD_eq_getElem?_getD]
    have := congrArg (fun l => l[0]?) hx
    simp only [List.getElem?_drop, Nat.add_zero, List.getElem?_cons_zero] at this
    rw [this]; rfl
  have g1 : ssub s ((at' + 3 * i + 1 : Nat) : Int) ((at' + 3 * i + 3 : Nat) : Int) = [b, c] := by
    rw [ssub_nat, hd1, show at' + 3 * i + 3 - (at' + 3 * i + 1) = 2 by omega]; rfl
  have hlen : r.length + 3 = s.length - (at' + 3 * i) := by
    have := congrArg List.length hx
    rw [List.length_drop] at this
    simp only [List.length_cons] at this
    omega
  have g2 : ssub s ((at' + 3 * i + 1 : Nat) : Int) (slen s) = b :: c :: r := by
    rw [slen_nat, ssub_nat, hd1, List.take_of_length_le (by simp only [List.length_cons]; omega)]
  have g5 : digB [b, c] = (isDigit b && isDigit c) := by unfold digB digitsB; simp
  have g6 : sat [45, 45, 84, 58, 58] (i : Int) = ((sgnL.getD i 0).toNat : Int) := sat_nat _ _
  have hr : rOkI (s.drop at') i = ((a == sgnL.getD i 0) && (isDigit b && isDigit c)) := by unfold rOkI; rw [hd]; rfl
  have hv : rVal (s.drop at') i = twoI (b :: c :: r) := by unfold rVal; rw [hd]; rfl
  have gq : ieq (a.toNat : Int) ((sgnL.getD i 0).toNat : Int) = (a == sgnL.getD i 0) := by
    rw [Bool.eq_iff_iff, ieq_iff, beq_iff_eq, ← UInt8.toNat_inj]; omega
  rw [srRead_L0_succ, sel_pos (ilt_t (by omega)), a1, a2, a3, a4, g0, g1, g2, g5, g6, gq, hr, hv]
  rw [sel_pos (by rw [band_iff, ile_iff, ilt_iff, slen_nat]; omega), sel_pos (by rw [band_iff, ile_iff, ilt_iff, slen_nat]; simp only [List.length_cons, List.length_nil]; omega)]
  rw [sel_pos (c := band (band _ _) (band _ _)) (by simp only [band_iff, ile_iff, slen_nat]; omega), sel_pos (c := ile (slen [b, c]) 1000) (ile_t (by rw [slen_nat, List.length_cons, List.length_cons, List.length_nil]; decide))]
  rw [sel_pos (c := band (ile 0 _) (ile _ (slen s))) (by rw [band_iff, ile_iff, ile_iff, slen_nat]; omega), sel_pos (c := band (ile 2 _) _) (by rw [band_iff, ile_iff, ile_iff, slen_nat]; simp only [List.length_cons]; omega), sel_pos (c := okApp _ _) (by rw [okApp_iff]; simp only [List.length_cons, List.length_nil]; omega)]
  have hcat : lcat xs [V.int .i64 (twoI (b :: c :: r))] = xs ++ [V.int .i64 (twoI (b :: c :: r))] := rfl
  rw [hcat]
  exact sel2 _ _ _ _
theorem srRead_ev (s : List UInt8) (hs : s.length ≤ 1000) : Contract uE 44 [.str s] (resO (rdP s)) := by
  refine contract_of_body uE_ok uS3_ok 8 2 ?_
  rw [srRead_top, slen_nat, isub64 (by omega)]
  unfold rdP
  by_cases h : s.length < 15
  · rw [sel_pos (ilt_t (by omega)), if_pos h]; rfl
  have e1 : (s.length : Int) - 15 = ((s.length - 15 : Nat) : Int) := by omega
  rw [sel_neg (ilt_f (by omega)), if_neg h, e1]
  have ha : s.length - 15 + 15 = s.length := by omega
  have z0 : (0 : Int) = ((0 : Nat) : Int) := rfl
  have hr := fun (n i : Nat) (hi : i < 5) (xs : List V) (hx : xs.length ≤ 100) => srRead_r 8 n i s (s.length - 15) xs 0 0 0 0 0 0 0 some hi hs ha hx
  have hf := srRead_L0_succ 8 2 s 0 ((s.length - 15 : Nat) : Int) [45, 45, 84, 58, 58]
  unfold rdQ rdOk
  generalize s.drop (s.length - 15) = t at *
  rw [show srRead_L0 8 [] 8 s 0 ((s.length - 15 : Nat) : Int) [45, 45, 84, 58, 58] [] 0 0 0 0 0 0 0 some = _ from hr 7 0 (by omega) [] (by decide)]
  cases rOkI t 0 with
  | false => rw [if_neg (show ¬ false = true by decide), if_neg (by simp)]; rfl
  | true =>
  rw [if_pos rfl, Bool.true_and, hr 6 1 (by omega) _ (by simp)]
  cases rOkI t 1 with
  | false => rw [if_neg (show ¬ false = true by decide), if_neg (by simp)]; rfl
  | true =>
  rw [if_pos rfl, Bool.true_and, hr 5 2 (by omega) _ (by simp)]
  cases rOkI t 2 with
  | false => rw [if_neg (show ¬ false = true by decide), if_neg (by simp)]; rfl
  | true =>
  rw [if_pos rfl, Bool.true_and, hr 4 3 (by omega) _ (by simp)]
  cases rOkI t 3 with
  | false => rw [if_neg (show ¬ false = true by decide), if_neg (by simp)]; rfl
  | true =>
  rw [if_pos rfl, Bool.true_and, hr 3 4 (by omega) _ (by simp)]
  cases rOkI t 4 with
  | false => rw [if_neg (show ¬ false = true by decide), if_neg (by simp)]; rfl
  | true =>
  rw [if_pos rfl, if_pos rfl, hf, sel_neg (ilt_f (by decide)), sel_pos (by rw [band_iff, ile_iff, ile_iff, slen_nat]; omega)]
  have e3 : ssub s 0 ((s.length - 15 : Nat) : Int) = s.take (s.length - 15) := by rw [show (0 : Int) = ((0 : Nat) : Int) from rfl, ssub_nat, List.drop_zero, Nat.sub_zero]
  rw [e3, sel_pos (ile_t (by rw [slen_nat, List.length_take]; omega))]
  generalize s.take (s.length - 15) = y
  by_cases hw : yrW y = 0
  · rw [sel_neg (by rw [ieq_t hw]; rfl), if_pos hw]
    rw [sel_pos (by rfl), sel_pos (by rfl), sel_pos (by rfl), sel_pos (by rfl), sel_pos (by rfl)]
    have k : ∀ (b : Bool), b = stB (yrI y) (rVal t 0) (rVal t 1) (rVal t 2) (rVal t 3) (rVal t 4) → sel (bnot b) (some (V.tup [(V.agg [(V.int .i64 0), (V.int .i64 0), (V.int .i64 0), (V.int .i64 0), (V.int .i64 0), (V.int .i64 0)]), (V.int .i64 1)])) (some (V.tup [(V.agg [(V.int .i64 (yrI y)), (V.int .i64 (rVal t 0)), (V.int .i64 (rVal t 1)), (V.int .i64 (rVal t 2)), (V.int .i64 (rVal t 3)), (V.int .i64 (rVal t 4))]), (V.int .i64 0)])) = some (resO (if stB (yrI y) (rVal t 0) (rVal t 1) (rVal t 2) (rVal t 3) (rVal t 4) = true then ([yrI y, rVal t 0, rVal t 1, rVal t 2, rVal t 3, rVal t 4], 0) else (z6, 1))) := by
      intro b hb
      rw [← hb]
      cases b <;> rfl
    exact k _ rfl
  · rw [sel_pos (by rw [ieq_f hw]; rfl), if_neg hw]; rfl
end Nt.Ev.YtnchnnbggfeknaaDoor

set_option linter.unusedVariables false
set_option linter.unusedSimpArgs false
set_option linter.unusedSectionVars false
namespace Nt.Ev.YtnchnnbggfeknaaDoor
open Go Nt.Num Go.Proofs.YtnchnnbggfeknaaDoor
open Nt.Civil
def scI (y m d h i s : Int) : Int := (secsP y m d h i s).1
def scW (y m d h i s : Int) : Int := (secsP y m d h i s).2
def ofA (k : Nat) (t : Int) : Int := (ofP t).1.getD k 0
def ofW (t : Int) : Int := (ofP t).2
def rdA (k : Nat) (s : List UInt8) : Int := (rdP s).1.getD k 0
def rdW (s : List UInt8) : Int := (rdP s).2
def dvI (t : Int) : Int := t / 86400
def mdI (t : Int) : Int := t % 86400
noncomputable def lSecsS : FSpec := fun a => match a with | [.agg [.int .i64 y, .int .i64 m, .int .i64 d, .int .i64 h, .int .i64 i, .int .i64 s]] => some (true, .tup [.int .i64 (scI y m d h i s), .int .i64 (scW y m d h i s)]) | _ => none
noncomputable def lOfS : FSpec := fun a => match a with | [.int .i64 t] => some (band (ile (-9223372036854775808) t) (ile t 9223372036854775807), .tup [.agg [.int .i64 (ofA 0 t), .int .i64 (ofA 1 t), .int .i64 (ofA 2 t), .int .i64 (ofA 3 t), .int .i64 (ofA 4 t), .int .i64 (ofA 5 t)], .int .i64 (ofW t)]) | _ => none
noncomputable def lReadS : FSpec := fun a => match a with | [.str s] => some (ile (slen s) 1000, .tup [.agg [.int .i64 (rdA 0 s), .int .i64 (rdA 1 s), .int .i64 (rdA 2 s), .int .i64 (rdA 3 s), .int .i64 (rdA 4 s), .int .i64 (rdA 5 s)], .int .i64 (rdW s)]) | _ => none
noncomputable def lSplitS : FSpec := fun a => match a with | [.int .i64 t] => some (band (ile (-9223372036854775808) t) (ile t 9223372036854775807), .tup [.int .i64 (dvI t), .int .i64 (mdI t)]) | _ => none
noncomputable def lFloorS : FSpec := fun a => match a with | [.int .i64 t, .int .i64 86400] => some (band (ile (-9223372036854775808) t) (ile t 9223372036854775807), .int .i64 (dvI t)) | _ => none
noncomputable def lRestS : FSpec := fun a => match a with | [.int .i64 t, .int .i64 86400] => some (band (ile (-9223372036854775808) t) (ile t 9223372036854775807), .int .i64 (mdI t)) | _ => none
noncomputable def lRightS : FSpec := fun a => match a with | [.agg [.int .i64 y, .int .i64 m, .int .i64 d, .int .i64 h, .int .i64 i, .int .i64 s]] => some (true, .bool (stB y m d h i s)) | _ => none
noncomputable def lTextS : FSpec := fun a => match a with | [.agg [.int .i64 y, .int .i64 m, .int .i64 d, .int .i64 h, .int .i64 i, .int .i64 s]] => some (true, .str (stTxt y m d h i s)) | _ => none
noncomputable def lLivesS : FSpec := fun a => match a with | [] => some (true, .bool true) | _ => none
noncomputable def lS : List (Nat × FSpec) := (39, lSecsS) :: (40, lSecsS) :: (41, lOfS) :: (42, lOfS) :: (43, lReadS) :: (44, lReadS) :: (45, lSplitS) :: (46, lFloorS) :: (47, lRestS) :: (48, lRightS) :: (49, lRightS) :: (50, lTextS) :: (51, lTextS) :: []
noncomputable def lS2 : List (Nat × FSpec) := (38, lLivesS) :: lS

set_option maxRecDepth 100000 in
theorem lT_top (F : Nat) (y : Int) (m : Int) (d : Int) (h : Int) (i : Int) (s : Int) (t : Int) (x : List UInt8) (K : V → Option V) :
    evBd uE (evFn uE lS2 F 2) F 9 [(V.agg [(V.int .i64 y), (V.int .i64 m), (V.int .i64 d), (V.int .i64 h), (V.int .i64 i), (V.int .i64 s)]), (V.int .i64 t), (V.str x)] K =
    sel (ilt 1000 (slen x))
      (K (V.bool true))
      (sel (band (ile (-9223372036854775808) t) (ile t 9223372036854775807))
        (sel (band (ile (-9223372036854775808) t) (ile t 9223372036854775807))
          (sel (ile (slen x) 1000)
            (sel (ile (slen x) 1000)
              (sel (band (ile (-9223372036854775808) t) (ile t 9223372036854775807))
                (sel (ieq (scI y m d h i s) (scI y m d h i s))
                  (sel (ieq (scW y m d h i s) (scW y m d h i s))
                    (sel (band (band (ieq (ofA 0 t) (ofA 0 t)) (band (ieq (ofA 1 t) (ofA 1 t)) (ieq (ofA 2 t) (ofA 2 t)))) (band (ieq (ofA 3 t) (ofA 3 t)) (band (ieq (ofA 4 t) (ofA 4 t)) (ieq (ofA 5 t) (ofA 5 t)))))
                      (sel (ieq (ofW t) (ofW t))
                        (sel (band (band (ieq (rdA 0 x) (rdA 0 x)) (band (ieq (rdA 1 x) (rdA 1 x)) (ieq (rdA 2 x) (rdA 2 x)))) (band (ieq (rdA 3 x) (rdA 3 x)) (band (ieq (rdA 4 x) (rdA 4 x)) (ieq (rdA 5 x) (rdA 5 x)))))
                          (sel (ieq (rdW x) (rdW x))
                            (sel (band (ile (-9223372036854775808) t) (ile t 9223372036854775807))
                              (sel (ieq (dvI t) (dvI t))
                                (sel (band (ile (-9223372036854775808) t) (ile t 9223372036854775807))
                                  (sel (ieq (mdI t) (mdI t))
                                    (sel (beq (stB y m d h i s) (stB y m d h i s))
                                      (sel (seq (stTxt y m d h i s) (stTxt y m d h i s))
                                        (K (V.bool true))
                                        (K (V.bool false)))
                                      (K (V.bool false)))
                                    (K (V.bool false)))
                                  (none))
                                (K (V.bool false)))
                              (none))
                            (K (V.bool false)))
                          (K (V.bool false)))
                        (K (V.bool false)))
                      (K (V.bool false)))
                    (K (V.bool false)))
                  (K (V.bool false)))
                (none))
              (none))
            (none))
          (none))
        (none)) := by kernel_rfl



set_option maxRecDepth 100000 in
theorem lB_top (F : Nat) (y : Int) (m : Int) (d : Int) (h : Int) (i : Int) (s : Int) (x : List UInt8) (K : V → Option V) :
    evBd uE (evFn uE lS2 F 2) F 10 [(V.agg [(V.int .i64 y), (V.int .i64 m), (V.int .i64 d), (V.int .i64 h), (V.int .i64 i), (V.int .i64 s)]), (V.str x)] K =
    sel (ilt 1000 (slen x))
      (K (V.bool true))
      (sel (bnot (beq (ieq (scW y m d h i s) 0) (stB y m d h i s)))
        (K (V.bool false))
        (sel (bnot (beq (bnot (seq (stTxt y m d h i s) [])) (stB y m d h i s)))
          (K (V.bool false))
          (sel (ieq (scW y m d h i s) 0)
            (sel (band (ile (-9223372036854775808) (scI y m d h i s)) (ile (scI y m d h i s) 9223372036854775807))
              (sel (ile (slen (stTxt y m d h i s)) 1000)
                (sel (bnot (band (band (ieq (ofA 0 (scI y m d h i s)) y) (band (ieq (ofA 1 (scI y m d h i s)) m) (ieq (ofA 2 (scI y m d h i s)) d))) (band (ieq (ofA 3 (scI y m d h i s)) h) (band (ieq (ofA 4 (scI y m d h i s)) i) (ieq (ofA 5 (scI y m d h i s)) s)))))
                  (K (V.bool false))
                  (sel (bnot (ieq (ofW (scI y m d h i s)) 0))
                    (K (V.bool false))
                    (sel (bnot (band (band (ieq (rdA 0 (stTxt y m d h i s)) y) (band (ieq (rdA 1 (stTxt y m d h i s)) m) (ieq (rdA 2 (stTxt y m d h i s)) d))) (band (ieq (rdA 3 (stTxt y m d h i s)) h) (band (ieq (rdA 4 (stTxt y m d h i s)) i) (ieq (rdA 5 (stTxt y m d h i s)) s)))))
                      (K (V.bool false))
                      (sel (bnot (ieq (rdW (stTxt y m d h i s)) 0))
                        (K (V.bool false))
                        (sel (ile (slen x) 1000)
                          (sel (bnot (ieq (rdW x) 0))
                            (sel (band (band (ieq (rdA 0 x) 0) (band (ieq (rdA 1 x) 0) (ieq (rdA 2 x) 0))) (band (ieq (rdA 3 x) 0) (band (ieq (rdA 4 x) 0) (ieq (rdA 5 x) 0))))
                              (K (V.bool true))
                              (sel (ieq (rdW x) 0)
                                (K (V.bool (seq (stTxt (rdA 0 x) (rdA 1 x) (rdA 2 x) (rdA 3 x) (rdA 4 x) (rdA 5 x)) x)))
                                (K (V.bool false))))
                            (sel (ieq (rdW x) 0)
                              (K (V.bool (seq (stTxt (rdA 0 x) (rdA 1 x) (rdA 2 x) (rdA 3 x) (rdA 4 x) (rdA 5 x)) x)))
                              (K (V.bool false))))
                          (none))))))
                (none))
              (none))
            (sel (ile (slen x) 1000)
              (sel (bnot (ieq (rdW x) 0))
                (sel (band (band (ieq (rdA 0 x) 0) (band (ieq (rdA 1 x) 0) (ieq (rdA 2 x) 0))) (band (ieq (rdA 3 x) 0) (band (ieq (rdA 4 x) 0) (ieq (rdA 5 x) 0))))
                  (K (V.bool true))
                  (sel (ieq (rdW x) 0)
                    (K (V.bool (seq (stTxt (rdA 0 x) (rdA 1 x) (rdA 2 x) (rdA 3 x) (rdA 4 x) (rdA 5 x)) x)))
                    (K (V.bool false))))
                (sel (ieq (rdW x) 0)
                  (K (V.bool (seq (stTxt (rdA 0 x) (rdA 1 x) (rdA 2 x) (rdA 3 x) (rdA 4 x) (rdA 5 x)) x)))
                  (K (V.bool false))))
              (none))))) := by kernel_rfl



end Nt.Ev.YtnchnnbggfeknaaDoor

set_option linter.unusedVariables false
set_option linter.unusedSimpArgs false
namespace Nt.Ev.YtnchnnbggfeknaaDoor
open Go Nt Nt.Num Nt.Civil Go.Proofs.YtnchnnbggfeknaaDoor

theorem resO_of (t : Int) : resO (ofP t) = (.tup [.agg [.int .i64 (ofA 0 t), .int .i64 (ofA 1 t), .int .i64 (ofA 2 t), .int .i64 (ofA 3 t), .int .i64 (ofA 4 t), .int .i64 (ofA 5 t)], .int .i64 (ofW t)]) := by
  unfold ofA ofW resO ofP
  by_cases h : inRange (t / 86400) = true
  · rw [if_pos h]; rfl
  · rw [if_neg h]; rfl
theorem resO_rd (s : List UInt8) : resO (rdP s) = (.tup [.agg [.int .i64 (rdA 0 s), .int .i64 (rdA 1 s), .int .i64 (rdA 2 s), .int .i64 (rdA 3 s), .int .i64 (rdA 4 s), .int .i64 (rdA 5 s)], .int .i64 (rdW s)]) := by
  have k : ∀ p : List Int × Int, (∃ a b c d e f w, p = ([a, b, c, d, e, f], w)) → resO p = .tup [.agg [.int .i64 (p.1.getD 0 0), .int .i64 (p.1.getD 1 0), .int .i64 (p.1.getD 2 0), .int .i64 (p.1.getD 3 0), .int .i64 (p.1.getD 4 0), .int .i64 (p.1.getD 5 0)], .int .i64 p.2] := by
    rintro p ⟨a, b, c, d, e, f, w, rfl⟩; rfl
  refine k _ ?_
  unfold rdP rdQ z6
  repeat' split
  all_goals exact ⟨_, _, _, _, _, _, _, rfl⟩
theorem lSecsS_ok (y m d h i s : Int) (hc : true = true) : Contract uE 39 [.agg [.int .i64 y, .int .i64 m, .int .i64 d, .int .i64 h, .int .i64 i, .int .i64 s]] (.tup [.int .i64 (scI y m d h i s), .int .i64 (scW y m d h i s)]) := toU (stSecs_ev y m d h i s)
theorem lSecsS_ok_noontideref04_Secs (y m d h i s : Int) (hc : true = true) : Contract uE 40 [.agg [.int .i64 y, .int .i64 m, .int .i64 d, .int .i64 h, .int .i64 i, .int .i64 s]] (.tup [.int .i64 (scI y m d h i s), .int .i64 (scW y m d h i s)]) := toU (srSecs_ev y m d h i s)
theorem lOfS_ok (t : Int) (hc : band (ile (-9223372036854775808) t) (ile t 9223372036854775807) = true) : Contract uE 41 [.int .i64 t] (.tup [.agg [.int .i64 (ofA 0 t), .int .i64 (ofA 1 t), .int .i64 (ofA 2 t), .int .i64 (ofA 3 t), .int .i64 (ofA 4 t), .int .i64 (ofA 5 t)], .int .i64 (ofW t)]) := resO_of t ▸ toU (stOf_ev t (st_fits hc))
theorem lOfS_ok_noontideref04_Of (t : Int) (hc : band (ile (-9223372036854775808) t) (ile t 9223372036854775807) = true) : Contract uE 42 [.int .i64 t] (.tup [.agg [.int .i64 (ofA 0 t), .int .i64 (ofA 1 t), .int .i64 (ofA 2 t), .int .i64 (ofA 3 t), .int .i64 (ofA 4 t), .int .i64 (ofA 5 t)], .int .i64 (ofW t)]) := resO_of t ▸ toU (srOf_ev t (st_fits hc))
theorem lReadS_ok (s : List UInt8) (hc : ile (slen s) 1000 = true) : Contract uE 43 [.str s] (.tup [.agg [.int .i64 (rdA 0 s), .int .i64 (rdA 1 s), .int .i64 (rdA 2 s), .int .i64 (rdA 3 s), .int .i64 (rdA 4 s), .int .i64 (rdA 5 s)], .int .i64 (rdW s)]) := resO_rd s ▸ uRead_ev s (len_u hc)
theorem lReadS_ok_noontideref04_Read (s : List UInt8) (hc : ile (slen s) 1000 = true) : Contract uE 44 [.str s] (.tup [.agg [.int .i64 (rdA 0 s), .int .i64 (rdA 1 s), .int .i64 (rdA 2 s), .int .i64 (rdA 3 s), .int .i64 (rdA 4 s), .int .i64 (rdA 5 s)], .int .i64 (rdW s)]) := resO_rd s ▸ srRead_ev s (len_u hc)
theorem lSplitS_ok (t : Int) (hc : band (ile (-9223372036854775808) t) (ile t 9223372036854775807) = true) : Contract uE 45 [.int .i64 t] (.tup [.int .i64 (dvI t), .int .i64 (mdI t)]) := toU (stSplit_ev t (st_fits hc))
theorem lFloorS_ok (t : Int) (hc : band (ile (-9223372036854775808) t) (ile t 9223372036854775807) = true) : Contract uE 46 [.int .i64 t, .int .i64 86400] (.int .i64 (dvI t)) := toU (srFloor_ev t (st_fits hc))
theorem lRestS_ok (t : Int) (hc : band (ile (-9223372036854775808) t) (ile t 9223372036854775807) = true) : Contract uE 47 [.int .i64 t, .int .i64 86400] (.int .i64 (mdI t)) := toU (srRest_ev t (st_fits hc))
theorem lRightS_ok (y m d h i s : Int) (hc : true = true) : Contract uE 48 [.agg [.int .i64 y, .int .i64 m, .int .i64 d, .int .i64 h, .int .i64 i, .int .i64 s]] (.bool (stB y m d h i s)) := toU (stRight_ev y m d h i s)
theorem lRightS_ok_noontideref04_Right (y m d h i s : Int) (hc : true = true) : Contract uE 49 [.agg [.int .i64 y, .int .i64 m, .int .i64 d, .int .i64 h, .int .i64 i, .int .i64 s]] (.bool (stB y m d h i s)) := toU (srRight_ev y m d h i s)
theorem lTextS_ok (y m d h i s : Int) (hc : true = true) : Contract uE 50 [.agg [.int .i64 y, .int .i64 m, .int .i64 d, .int .i64 h, .int .i64 i, .int .i64 s]] (.str (stTxt y m d h i s)) := uText_ev y m d h i s
theorem lTextS_ok_noontideref04_Text (y m d h i s : Int) (hc : true = true) : Contract uE 51 [.agg [.int .i64 y, .int .i64 m, .int .i64 d, .int .i64 h, .int .i64 i, .int .i64 s]] (.str (stTxt y m d h i s)) := toU (srText_ev y m d h i s)
theorem lS_ok : SOk uE lS := by
  unfold lS
  refine SOk.cons (fun args r h => ?_) (SOk.cons (fun args r h => ?_) (SOk.cons (fun args r h => ?_) (SOk.cons (fun args r h => ?_) (SOk.cons (fun args r h => ?_) (SOk.cons (fun args r h => ?_) (SOk.cons (fun args r h => ?_) (SOk.cons (fun args r h => ?_) (SOk.cons (fun args r h => ?_) (SOk.cons (fun args r h => ?_) (SOk.cons (fun args r h => ?_) (SOk.cons (fun args r h => ?_) (SOk.cons (fun args r h => ?_) (SOk.nil)))))))))))))
  · unfold lSecsS at h
    split at h
    · simp only [Option.some.injEq, Prod.mk.injEq] at h
      obtain ⟨hc, rfl⟩ := h
      exact lSecsS_ok _ _ _ _ _ _ rfl
    · cases h
  · unfold lSecsS at h
    split at h
    · simp only [Option.some.injEq, Prod.mk.injEq] at h
      obtain ⟨hc, rfl⟩ := h
      exact lSecsS_ok_noontideref04_Secs _ _ _ _ _ _ rfl
    · cases h
  · unfold lOfS at h
    split at h
    · simp only [Option.some.injEq, Prod.mk.injEq] at h
      obtain ⟨hc, rfl⟩ := h
      exact lOfS_ok _ hc
    · cases h
  · unfold lOfS at h
    split at h
    · simp only [Option.some.injEq, Prod.mk.injEq] at h
      obtain ⟨hc, rfl⟩ := h
      exact lOfS_ok_noontideref04_Of _ hc
    · cases h
  · unfold lReadS at h
    split at h
    · simp only [Option.some.injEq, Prod.mk.injEq] at h
      obtain ⟨hc, rfl⟩ := h
      exact lReadS_ok _ hc
    · cases h
  · unfold lReadS at h
    split at h
    · simp only [Option.some.injEq, Prod.mk.injEq] at h
      obtain ⟨hc, rfl⟩ := h
      exact lReadS_ok_noontideref04_Read _ hc
    · cases h
  · unfold lSplitS at h
    split at h
    · simp only [Option.some.injEq, Prod.mk.injEq] at h
      obtain ⟨hc, rfl⟩ := h
      exact lSplitS_ok _ hc
    · cases h
  · unfold lFloorS at h
    split at h
    · simp only [Option.some.injEq, Prod.mk.injEq] at h
      obtain ⟨hc, rfl⟩ := h
      exact lFloorS_ok _ hc
    · cases h
  · unfold lRestS at h
    split at h
    · simp only [Option.some.injEq, Prod.mk.injEq] at h
      obtain ⟨hc, rfl⟩ := h
      exact lRestS_ok _ hc
    · cases h
  · unfold lRightS at h
    split at h
    · simp only [Option.some.injEq, Prod.mk.injEq] at h
      obtain ⟨hc, rfl⟩ := h
      exact lRightS_ok _ _ _ _ _ _ rfl
    · cases h
  · unfold lRightS at h
    split at h
    · simp only [Option.some.injEq, Prod.mk.injEq] at h
      obtain ⟨hc, rfl⟩ := h
      exact lRightS_ok_noontideref04_Right _ _ _ _ _ _ rfl
    · cases h
  · unfold lTextS at h
    split at h
    · simp only [Option.some.injEq, Prod.mk.injEq] at h
      obtain ⟨hc, rfl⟩ := h
      exact lTextS_ok _ _ _ _ _ _ rfl
    · cases h
  · unfold lTextS at h
    split at h
    · simp only [Option.some.injEq, Prod.mk.injEq] at h
      obtain ⟨hc, rfl⟩ := h
      exact lTextS_ok_noontideref04_Text _ _ _ _ _ _ rfl
    · cases h

set_option maxRecDepth 100000 in
theorem lLivesS_ok (hc : true = true) : Contract uE 38 [] (.bool true) := by
  refine contract_of_body uE_ok lS_ok 5 2 ?_
  kernel_rfl
theorem lS2_ok : SOk uE lS2 := by
  unfold lS2
  refine SOk.cons (fun args r h => ?_) (lS_ok)
  · unfold lLivesS at h
    split at h
    · simp only [Option.some.injEq, Prod.mk.injEq] at h
      obtain ⟨hc, rfl⟩ := h
      exact lLivesS_ok  rfl
    · cases h

theorem st_refl (a : Int) : ieq a a = true := ieq_t rfl
theorem st_srefl (a : List UInt8) : seq a a = true := by rw [seq_iff]
theorem st_brefl (a : Bool) : beq a a = true := by rw [beq_iff]
theorem stT_ev (y m d h i s t : Int) (x : List UInt8) (ht : Fits t) : Contract uE 9 [.agg [.int .i64 y, .int .i64 m, .int .i64 d, .int .i64 h, .int .i64 i, .int .i64 s], .int .i64 t, .str x] (.bool true) := by
  refine contract_of_body uE_ok lS2_ok 5 2 ?_
  rw [lT_top]
  by_cases hs : 1000 < x.length
  · rw [sel_pos (ilt_t (by rw [slen_nat]; omega))]
  · have h1 : ile (slen x) 1000 = true := ile_t (by rw [slen_nat]; omega)
    have h2 : ilt 1000 (slen x) = false := ilt_f (by rw [slen_nat]; omega)
    have h3 : band (ile (-9223372036854775808) t) (ile t 9223372036854775807) = true := by rw [band_iff, ile_iff, ile_iff]; exact ht
    simp only [h1, h2, h3, st_refl, st_srefl, st_brefl, sel_if, band_iff, and_self, if_true, Bool.false_eq_true, if_false]
end Nt.Ev.YtnchnnbggfeknaaDoor
