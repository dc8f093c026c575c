/-
  Amounts: the equations of the program's functions and of the document's, as the evaluator prints them.
-/
import Derived.Test.YtefkdjikbdgidaaDoorEvNum
import Derived.Test.YtefkdjikbdgidaaDoorEvShelf
import Derived.Test.YtefkdjikbdgidaaDoorAmountPlain
set_option linter.unusedVariables false
set_option linter.unusedSimpArgs false
namespace Nt.Ev.YtefkdjikbdgidaaDoor
open Go Nt.Num Go.Proofs.YtefkdjikbdgidaaDoor
noncomputable def piecesV (s : List UInt8) : List V := strsV (Amount.pieces s)
noncomputable def pok (s : List UInt8) (l m : Int) : Bool := decide (l ≤ (s.length : Int)) && decide ((s.length : Int) ≤ m) && s.all isDigit
noncomputable def partI (s : List UInt8) (l m : Int) : Int := if pok s l m then (val s : Int) else 0
noncomputable def partB (s : List UInt8) (l m : Int) : Bool := pok s l m
noncomputable def twoI (n : Int) : List UInt8 := Amount.two n.toNat
noncomputable def posI (n : Int) : List UInt8 := (Amount.text n).1
variable [MLen]
noncomputable def partsV : V := .rptr [.int .i64, .int .i64, .int .i64, .int .i64, .int .i64, .int .i64, .int .i64, .int .i64, .int .i64] (.agg [.int .i64 1, .int .i64 3, .int .i64 3600, .int .i64 2, .int .i64 2, .int .i64 60, .int .i64 2, .int .i64 2, .int .i64 1]) 0
noncomputable def aE : Env := ⟨Go.Proofs.Tryd.prog, fun g => bif g == 2 then some partsV else bif g == 3 then some (.rptr [.int .i64] (.int .i64 MLen.val) 0) else none⟩
noncomputable def fitsI (m : Int) : Bool := band (ile (-9223372036854775808) m) (ile m 9223372036854775807)
noncomputable def textS : FSpec := fun a => match a with | [.int .i64 m] => some (fitsI m, .str (text m)) | _ => none
noncomputable def digitsS : FSpec := fun a => match a with | [.str s] => some (ile (slen s) 9223372036854775806, .bool (digitsB s)) | _ => none
noncomputable def splitS : FSpec := fun a => match a with | [.str s, .str sep] => some (band (seq sep [58]) (ile (slen s) 1000), .sl 9 [.str] none (piecesV s)) | _ => none
noncomputable def cutS : FSpec := fun a => match a with | [.str s] => some (ile (slen s) 1000, .sl 9 [.str] (some 0) (piecesV s)) | _ => none
noncomputable def partS : FSpec := fun a => match a with | [.str s, .int .i64 l, .int .i64 m] => some (band (ile 1 l) (ile m 3), .tup [.int .i64 (partI s l m), .bool (partB s l m)]) | _ => none
noncomputable def readS : FSpec := fun a => match a with | [.agg [.int .i64 l, .int .i64 m, .int .i64 u], .str s] => some (band (ile 1 l) (ile m 3), .tup [.int .i64 (partI s l m), .bool (partB s l m)]) | _ => none
noncomputable def twoA : FSpec := fun a => match a with | [.int .i64 n] => some (band (ile 0 n) (ile n 59), .str (scat [58] (twoI n))) | _ => none
noncomputable def twoR : FSpec := fun a => match a with | [.int .i64 n] => some (band (ile 0 n) (ile n 59), .str (twoI n)) | _ => none
noncomputable def posS (b : Bool) : FSpec := fun a => match a with | [.int .i64 n] => some (band b (band (ile 1 n) (ile n 604799)), .tup [.str (posI n), .int .i64 0]) | _ => none
noncomputable def aS : List (Nat × FSpec) := [(28, textS), (40, textS), (58, digitsS), (49, splitS)]
noncomputable def bS : List (Nat × FSpec) := (51, cutS) :: (52, partS) :: (50, readS) :: aS
noncomputable def tS : List (Nat × FSpec) := (53, twoA) :: (54, twoR) :: aS
noncomputable def uS (b : Bool) : List (Nat × FSpec) := (26, posS b) :: tS
noncomputable def acut_L0 (F : Nat) (ns : List Nat) (n : Nat) (x0 : List UInt8) (x3 : List V) (x4 : Int) (x5 : Int) (K : V → Option V) : Option V :=
  loopAt aE aS F 1 51 [1, 1, 1, 0, 1, 0] ns K n (mkSt 32 [(0, V.str x0), (2, V.sl 9 [(Kd.str)] (some 2) []), (3, V.sl 9 [(Kd.str)] (some 3) x3), (4, V.int .i64 x4), (5, V.int .i64 x5)] [])

set_option maxRecDepth 100000 in
theorem acut_top (F : Nat) (s : List UInt8) (K : V → Option V) :
    evBd aE (evFn aE aS F 1) F 51 [(V.str s)] K =
    acut_L0 F [] F s [] 0 0 K := by kernel_rfl

set_option maxRecDepth 100000 in
theorem acut_L0_zero (F : Nat) (ns : List Nat) (x0 : List UInt8) (x3 : List V) (x4 : Int) (x5 : Int) (K : V → Option V) : acut_L0 F ns 0 x0 x3 x4 x5 K = none := by kernel_rfl
set_option maxRecDepth 100000 in
theorem acut_L0_succ (F : Nat) (n : Nat) (x0 : List UInt8) (x3 : List V) (x4 : Int) (x5 : Int) (K : V → Option V) :
    acut_L0 F [] (n + 1) x0 x3 x4 x5 K =
    sel (ile x5 (slen x0))
      (sel (ieq x5 (slen x0))
        (sel (band (band (ile 0 x5) (ile x5 (slen x0))) (band (ile 0 x4) (ile x4 x5)))
          (sel (okApp x3 [(V.str (ssub x0 x4 x5))])
            (acut_L0 F [] n x0 (lcat x3 [(V.str (ssub x0 x4 x5))]) (iadd .i64 x5 1) (iadd .i64 x5 1) K)
            (none))
          (none))
        (sel (band (ile 0 x5) (ilt x5 (slen x0)))
          (sel (ieq (sat x0 x5) 58)
            (sel (band (band (ile 0 x5) (ile x5 (slen x0))) (band (ile 0 x4) (ile x4 x5)))
              (sel (okApp x3 [(V.str (ssub x0 x4 x5))])
                (acut_L0 F [] n x0 (lcat x3 [(V.str (ssub x0 x4 x5))]) (iadd .i64 x5 1) (iadd .i64 x5 1) K)
                (none))
              (none))
            (acut_L0 F [] n x0 x3 x4 (iadd .i64 x5 1) K))
          (none)))
      (K (V.sl 9 [(Kd.str)] (some 3) x3)) := by kernel_rfl
noncomputable def rpart_L0 (F : Nat) (ns : List Nat) (n : Nat) (x0 : List UInt8) (x1 : Int) (x2 : Int) (x7 : Bool) (x8 : Int) (x9 : Int) (K : V → Option V) : Option V :=
  loopAt aE aS F 1 52 [1, 1, 1, 0, 1, 0] ns K n (mkSt 40 [(0, V.str x0), (1, V.int .i64 x1), (2, V.int .i64 x2), (6, V.int .i64 0), (7, V.bool x7), (8, V.int .i64 x8), (9, V.int .i64 x9)] [])

set_option maxRecDepth 100000 in
theorem rpart_top (F : Nat) (s : List UInt8) (l : Int) (m : Int) (K : V → Option V) :
    evBd aE (evFn aE aS F 1) F 52 [(V.str s), (V.int .i64 l), (V.int .i64 m)] K =
    sel (ilt (slen s) l)
      (K (V.tup [(V.int .i64 0), (V.bool false)]))
      (sel (ilt m (slen s))
        (K (V.tup [(V.int .i64 0), (V.bool false)]))
        (sel (ile (slen s) 9223372036854775806)
          (sel (bnot (digitsB s))
            (K (V.tup [(V.int .i64 0), (V.bool false)]))
            (rpart_L0 F [] F s l m false 0 0 K))
          (none))) := by kernel_rfl

set_option maxRecDepth 100000 in
theorem rpart_L0_zero (F : Nat) (ns : List Nat) (x0 : List UInt8) (x1 : Int) (x2 : Int) (x7 : Bool) (x8 : Int) (x9 : Int) (K : V → Option V) : rpart_L0 F ns 0 x0 x1 x2 x7 x8 x9 K = none := by kernel_rfl
set_option maxRecDepth 100000 in
theorem rpart_L0_succ (F : Nat) (n : Nat) (x0 : List UInt8) (x1 : Int) (x2 : Int) (x7 : Bool) (x8 : Int) (x9 : Int) (K : V → Option V) :
    rpart_L0 F [] (n + 1) x0 x1 x2 x7 x8 x9 K =
    sel (ilt x9 (slen x0))
      (sel (band (ile 0 x9) (ilt x9 (slen x0)))
        (rpart_L0 F [] n x0 x1 x2 x7 (iadd .i64 (imul .i64 10 x8) (icnv .i64 (isub .u8 (sat x0 x9) 48))) (iadd .i64 x9 1) K)
        (none))
      (K (V.tup [(V.int .i64 x8), (V.bool true)])) := by kernel_rfl
noncomputable def apart_L0 (F : Nat) (ns : List Nat) (n : Nat) (x0_0 : Int) (x0_1 : Int) (x0_2 : Int) (x1 : List UInt8) (x4 : Int) (x5 : Bool) (x6 : Int) (x22 : List V) (x23 : Int) (x24 : Int) (b2_0 : Int) (b2_1 : Int) (b2_2 : Int) (K : V → Option V) : Option V :=
  loopAt aE aS F 1 50 [1, 1, 1, 0, 1, 0] ns K n (mkSt 42 [(0, V.agg [V.int .i64 x0_0, V.int .i64 x0_1, V.int .i64 x0_2]), (1, V.str x1), (2, (V.box 2 0)), (4, V.int .i64 x4), (5, V.bool x5), (6, V.int .i64 x6), (22, V.sl 5 [(Kd.int .u8)] none x22), (23, V.int .i64 x23), (24, V.int .i64 x24)] [(2, [V.int .i64 b2_0, V.int .i64 b2_1, V.int .i64 b2_2])])

set_option maxRecDepth 100000 in
theorem apart_top (F : Nat) (s : List UInt8) (l : Int) (m : Int) (u : Int) (K : V → Option V) :
    evBd aE (evFn aE aS F 1) F 50 [(V.agg [(V.int .i64 l), (V.int .i64 m), (V.int .i64 u)]), (V.str s)] K =
    sel (ilt (slen s) l)
      (K (V.tup [(V.int .i64 0), (V.bool false)]))
      (sel (ilt m (slen s))
        (K (V.tup [(V.int .i64 0), (V.bool false)]))
        (sel (okStr s)
          (apart_L0 F [] F l m u s 0 false 0 (bytesV s) (llen (bytesV s)) 0 l m u K)
          (none))) := by kernel_rfl

set_option maxRecDepth 100000 in
theorem apart_L0_zero (F : Nat) (ns : List Nat) (x0_0 : Int) (x0_1 : Int) (x0_2 : Int) (x1 : List UInt8) (x4 : Int) (x5 : Bool) (x6 : Int) (x22 : List V) (x23 : Int) (x24 : Int) (b2_0 : Int) (b2_1 : Int) (b2_2 : Int) (K : V → Option V) : apart_L0 F ns 0 x0_0 x0_1 x0_2 x1 x4 x5 x6 x22 x23 x24 b2_0 b2_1 b2_2 K = none := by kernel_rfl
set_option maxRecDepth 100000 in
theorem apart_L0_succ (F : Nat) (n : Nat) (x0_0 : Int) (x0_1 : Int) (x0_2 : Int) (x1 : List UInt8) (x4 : Int) (x5 : Bool) (x6 : Int) (x22 : List V) (x23 : Int) (x24 : Int) (b2_0 : Int) (b2_1 : Int) (b2_2 : Int) (K : V → Option V) :
    apart_L0 F [] (n + 1) x0_0 x0_1 x0_2 x1 x4 x5 x6 x22 x23 x24 b2_0 b2_1 b2_2 K =
    sel (ilt x24 x23)
      (sel (band (ile 0 x24) (ilt x24 (llen x22)))
        (sel (ilt (asInt (acell (lget x22 x24) 0)) 48)
          (K (V.tup [(V.int .i64 0), (V.bool false)]))
          (sel (ilt 57 (asInt (acell (lget x22 x24) 0)))
            (K (V.tup [(V.int .i64 0), (V.bool false)]))
            (apart_L0 F [] n x0_0 x0_1 x0_2 x1 x4 x5 (iadd .i64 (imul .i64 x6 10) (icnv .i64 (isub .u8 (asInt (acell (lget x22 x24) 0)) 48))) x22 x23 (iadd .i64 x24 1) b2_0 b2_1 b2_2 K)))
        (none))
      (K (V.tup [(V.int .i64 x6), (V.bool true)])) := by kernel_rfl

set_option maxRecDepth 100000 in
theorem atwo_top (F : Nat) (n : Int) (K : V → Option V) :
    evBd aE (evFn aE aS F 2) F 53 [(V.int .i64 n)] K =
    sel (band (ile (-9223372036854775808) (iquo .i64 n 10)) (ile (iquo .i64 n 10) 9223372036854775807))
      (sel (okCat [58] (text (iquo .i64 n 10)))
        (sel (band (ile (-9223372036854775808) (irem n 10)) (ile (irem n 10) 9223372036854775807))
          (sel (okCat (scat [58] (text (iquo .i64 n 10))) (text (irem n 10)))
            (K (V.str (scat (scat [58] (text (iquo .i64 n 10))) (text (irem n 10)))))
            (none))
          (none))
        (none))
      (none) := by kernel_rfl


set_option maxRecDepth 100000 in
theorem rtwo_top (F : Nat) (n : Int) (K : V → Option V) :
    evBd aE (evFn aE aS F 2) F 54 [(V.int .i64 n)] K =
    sel (ilt n 10)
      (sel (band (ile (-9223372036854775808) n) (ile n 9223372036854775807))
        (sel (okCat [48] (text n))
          (K (V.str (scat [48] (text n))))
          (none))
        (none))
      (sel (band (ile (-9223372036854775808) n) (ile n 9223372036854775807))
        (K (V.str (text n)))
        (none)) := by kernel_rfl


set_option maxRecDepth 100000 in
theorem atext_top (bb : Bool) (F : Nat) (m : Int) (K : V → Option V) :
    evBd aE (evFn aE (uS bb) F 2) F 26 [(V.int .i64 m)] K =
    sel (ile m (-604800))
      (K (V.tup [(V.str []), (V.int .i64 1)]))
      (sel (ile 604800 m)
        (K (V.tup [(V.str []), (V.int .i64 1)]))
        (sel (ieq m 0)
          (sel (band (ile (-9223372036854775808) m) (ile m 9223372036854775807))
            (K (V.tup [(V.str (text m)), (V.int .i64 0)]))
            (none))
          (sel (ilt m 0)
            (sel (band (bb) (band (ile 1 (isub .i64 0 m)) (ile (isub .i64 0 m) 604799)))
              (sel (okCat [45] (posI (isub .i64 0 m)))
                (K (V.tup [(V.str (scat [45] (posI (isub .i64 0 m)))), (V.int .i64 0)]))
                (none))
              (none))
            (sel (band (ile (-9223372036854775808) (iquo .i64 m 3600)) (ile (iquo .i64 m 3600) 9223372036854775807))
              (sel (band (ile 0 (iquo .i64 (irem m 3600) 60)) (ile (iquo .i64 (irem m 3600) 60) 59))
                (sel (okCat (text (iquo .i64 m 3600)) (scat [58] (twoI (iquo .i64 (irem m 3600) 60))))
                  (sel (ilt 0 (irem m 60))
                    (sel (band (ile 0 (irem m 60)) (ile (irem m 60) 59))
                      (sel (okCat (scat (text (iquo .i64 m 3600)) (scat [58] (twoI (iquo .i64 (irem m 3600) 60)))) (scat [58] (twoI (irem m 60))))
                        (K (V.tup [(V.str (scat (scat (text (iquo .i64 m 3600)) (scat [58] (twoI (iquo .i64 (irem m 3600) 60)))) (scat [58] (twoI (irem m 60))))), (V.int .i64 0)]))
                        (none))
                      (none))
                    (K (V.tup [(V.str (scat (text (iquo .i64 m 3600)) (scat [58] (twoI (iquo .i64 (irem m 3600) 60))))), (V.int .i64 0)])))
                  (none))
                (none))
              (none))))) := by kernel_rfl

set_option maxRecDepth 100000 in
theorem rtext_top (F : Nat) (m : Int) (K : V → Option V) :
    evBd aE (evFn aE tS F 2) F 27 [(V.int .i64 m)] K =
    sel (ile m (-604800))
      (K (V.tup [(V.str []), (V.int .i64 1)]))
      (sel (ile 604800 m)
        (K (V.tup [(V.str []), (V.int .i64 1)]))
        (sel (ieq m 0)
          (K (V.tup [(V.str [48]), (V.int .i64 0)]))
          (sel (ilt m 0)
            (sel (band (ile (-9223372036854775808) (iquo .i64 (isub .i64 0 m) 3600)) (ile (iquo .i64 (isub .i64 0 m) 3600) 9223372036854775807))
              (sel (okCat [45] (text (iquo .i64 (isub .i64 0 m) 3600)))
                (sel (okCat (scat [45] (text (iquo .i64 (isub .i64 0 m) 3600))) [58])
                  (sel (band (ile 0 (irem (iquo .i64 (isub .i64 0 m) 60) 60)) (ile (irem (iquo .i64 (isub .i64 0 m) 60) 60) 59))
                    (sel (okCat (scat (scat [45] (text (iquo .i64 (isub .i64 0 m) 3600))) [58]) (twoI (irem (iquo .i64 (isub .i64 0 m) 60) 60)))
                      (sel (ilt 0 (irem (isub .i64 0 m) 60))
                        (sel (band (ile 0 (irem (isub .i64 0 m) 60)) (ile (irem (isub .i64 0 m) 60) 59))
                          (sel (okCat [58] (twoI (irem (isub .i64 0 m) 60)))
                            (sel (okCat (scat (scat (scat [45] (text (iquo .i64 (isub .i64 0 m) 3600))) [58]) (twoI (irem (iquo .i64 (isub .i64 0 m) 60) 60))) (scat [58] (twoI (irem (isub .i64 0 m) 60))))
                              (K (V.tup [(V.str (scat (scat (scat (scat [45] (text (iquo .i64 (isub .i64 0 m) 3600))) [58]) (twoI (irem (iquo .i64 (isub .i64 0 m) 60) 60))) (scat [58] (twoI (irem (isub .i64 0 m) 60))))), (V.int .i64 0)]))
                              (none))
                            (none))
                          (none))
                        (K (V.tup [(V.str (scat (scat (scat [45] (text (iquo .i64 (isub .i64 0 m) 3600))) [58]) (twoI (irem (iquo .i64 (isub .i64 0 m) 60) 60)))), (V.int .i64 0)])))
                      (none))
                    (none))
                  (none))
                (none))
              (none))
            (sel (band (ile (-9223372036854775808) (iquo .i64 m 3600)) (ile (iquo .i64 m 3600) 9223372036854775807))
              (sel (okCat [] (text (iquo .i64 m 3600)))
                (sel (okCat (scat [] (text (iquo .i64 m 3600))) [58])
                  (sel (band (ile 0 (irem (iquo .i64 m 60) 60)) (ile (irem (iquo .i64 m 60) 60) 59))
                    (sel (okCat (scat (scat [] (text (iquo .i64 m 3600))) [58]) (twoI (irem (iquo .i64 m 60) 60)))
                      (sel (ilt 0 (irem m 60))
                        (sel (band (ile 0 (irem m 60)) (ile (irem m 60) 59))
                          (sel (okCat [58] (twoI (irem m 60)))
                            (sel (okCat (scat (scat (scat [] (text (iquo .i64 m 3600))) [58]) (twoI (irem (iquo .i64 m 60) 60))) (scat [58] (twoI (irem m 60))))
                              (K (V.tup [(V.str (scat (scat (scat (scat [] (text (iquo .i64 m 3600))) [58]) (twoI (irem (iquo .i64 m 60) 60))) (scat [58] (twoI (irem m 60))))), (V.int .i64 0)]))
                              (none))
                            (none))
                          (none))
                        (K (V.tup [(V.str (scat (scat (scat [] (text (iquo .i64 m 3600))) [58]) (twoI (irem (iquo .i64 m 60) 60)))), (V.int .i64 0)])))
                      (none))
                    (none))
                  (none))
                (none))
              (none))))) := by kernel_rfl

noncomputable def aread_L0 (F : Nat) (ns : List Nat) (n : Nat) (x0 : List UInt8) (x2 : Int) (x3 : Int) (x4 : List UInt8) (x5 : Bool) (x6 : List V) (x7 : Int) (x8 : Int) (x28 : List V) (x29 : Int) (x30 : Int) (K : V → Option V) : Option V :=
  loopAt aE bS F 3 24 [1, 1, 1, 1, 1, 1, 1, 0, 1, 0] ns K n (mkSt 72 [(0, V.str x0), (2, V.int .i64 x2), (3, V.int .i64 x3), (4, V.str x4), (5, V.bool x5), (6, V.sl 9 [(Kd.str)] none x6), (7, V.int .i64 x7), (8, V.int .i64 x8), (28, V.sl 9 [(Kd.str)] none x28), (29, V.int .i64 x29), (30, V.int .i64 x30)] [])

set_option maxRecDepth 100000 in
theorem aread_top (F : Nat) (s : List UInt8) (K : V → Option V) :
    evBd aE (evFn aE bS F 3) F 24 [(V.str s)] K =
    sel (ile (slen [45]) (slen s))
      (sel (band (ile 0 (slen [45])) (ile (slen [45]) (slen s)))
        (sel (bnot (seq (ssub s 0 (slen [45])) [45]))
          (sel (band (seq [58] [58]) (ile (slen s) 1000))
            (sel (ilt 3 (llen (piecesV s)))
              (K (V.tup [(V.int .i64 0), (V.int .i64 2)]))
              (aread_L0 F [] F s 0 0 s false (piecesV s) 0 0 (piecesV s) (llen (piecesV s)) 0 K))
            (none))
          (sel (band (ile 0 (slen [45])) (ile (slen [45]) (slen s)))
            (sel (seq (ssub s (slen [45]) (slen s)) [])
              (K (V.tup [(V.int .i64 0), (V.int .i64 0)]))
              (sel (band (seq [58] [58]) (ile (slen (ssub s (slen [45]) (slen s))) 1000))
                (sel (ilt 3 (llen (piecesV (ssub s (slen [45]) (slen s)))))
                  (K (V.tup [(V.int .i64 0), (V.int .i64 2)]))
                  (aread_L0 F [] F s 0 0 (ssub s (slen [45]) (slen s)) true (piecesV (ssub s (slen [45]) (slen s))) 0 0 (piecesV (ssub s (slen [45]) (slen s))) (llen (piecesV (ssub s (slen [45]) (slen s)))) 0 K))
                (none)))
            (none)))
        (none))
      (sel (band (seq [58] [58]) (ile (slen s) 1000))
        (sel (ilt 3 (llen (piecesV s)))
          (K (V.tup [(V.int .i64 0), (V.int .i64 2)]))
          (aread_L0 F [] F s 0 0 s false (piecesV s) 0 0 (piecesV s) (llen (piecesV s)) 0 K))
        (none)) := by kernel_rfl

set_option maxRecDepth 100000 in
theorem aread_L0_zero (F : Nat) (ns : List Nat) (x0 : List UInt8) (x2 : Int) (x3 : Int) (x4 : List UInt8) (x5 : Bool) (x6 : List V) (x7 : Int) (x8 : Int) (x28 : List V) (x29 : Int) (x30 : Int) (K : V → Option V) : aread_L0 F ns 0 x0 x2 x3 x4 x5 x6 x7 x8 x28 x29 x30 K = none := by kernel_rfl
set_option maxRecDepth 100000 in
theorem aread_L0_succ (F : Nat) (n : Nat) (x0 : List UInt8) (x2 : Int) (x3 : Int) (x4 : List UInt8) (x5 : Bool) (x6 : List V) (x7 : Int) (x8 : Int) (x28 : List V) (x29 : Int) (x30 : Int) (K : V → Option V) :
    aread_L0 F [] (n + 1) x0 x2 x3 x4 x5 x6 x7 x8 x28 x29 x30 K =
    sel (ilt x30 x29)
      (sel (band (ile 0 x30) (ilt x30 (llen x28)))
        (sel (band (ile 0 x30) (ilt x30 3))
          (sel (band (ile 1 (asInt (acell (lget [(V.agg [(V.int .i64 1), (V.int .i64 3), (V.int .i64 3600)]), (V.agg [(V.int .i64 2), (V.int .i64 2), (V.int .i64 60)]), (V.agg [(V.int .i64 2), (V.int .i64 2), (V.int .i64 1)])] x30) 0))) (ile (asInt (acell (lget [(V.agg [(V.int .i64 1), (V.int .i64 3), (V.int .i64 3600)]), (V.agg [(V.int .i64 2), (V.int .i64 2), (V.int .i64 60)]), (V.agg [(V.int .i64 2), (V.int .i64 2), (V.int .i64 1)])] x30) 1)) 3))
            (sel (bnot (partB (asStr (acell (lget x28 x30) 0)) (asInt (acell (lget [(V.agg [(V.int .i64 1), (V.int .i64 3), (V.int .i64 3600)]), (V.agg [(V.int .i64 2), (V.int .i64 2), (V.int .i64 60)]), (V.agg [(V.int .i64 2), (V.int .i64 2), (V.int .i64 1)])] x30) 0)) (asInt (acell (lget [(V.agg [(V.int .i64 1), (V.int .i64 3), (V.int .i64 3600)]), (V.agg [(V.int .i64 2), (V.int .i64 2), (V.int .i64 60)]), (V.agg [(V.int .i64 2), (V.int .i64 2), (V.int .i64 1)])] x30) 1))))
              (K (V.tup [(V.int .i64 0), (V.int .i64 2)]))
              (sel (ilt 0 x30)
                (sel (ile 60 (partI (asStr (acell (lget x28 x30) 0)) (asInt (acell (lget [(V.agg [(V.int .i64 1), (V.int .i64 3), (V.int .i64 3600)]), (V.agg [(V.int .i64 2), (V.int .i64 2), (V.int .i64 60)]), (V.agg [(V.int .i64 2), (V.int .i64 2), (V.int .i64 1)])] x30) 0)) (asInt (acell (lget [(V.agg [(V.int .i64 1), (V.int .i64 3), (V.int .i64 3600)]), (V.agg [(V.int .i64 2), (V.int .i64 2), (V.int .i64 60)]), (V.agg [(V.int .i64 2), (V.int .i64 2), (V.int .i64 1)])] x30) 1))))
                  (sel (band (ile 0 x30) (ilt x30 3))
                    (aread_L0 F [] n x0 x2 x3 x4 x5 x6 1 (iadd .i64 x8 (imul .i64 (partI (asStr (acell (lget x28 x30) 0)) (asInt (acell (lget [(V.agg [(V.int .i64 1), (V.int .i64 3), (V.int .i64 3600)]), (V.agg [(V.int .i64 2), (V.int .i64 2), (V.int .i64 60)]), (V.agg [(V.int .i64 2), (V.int .i64 2), (V.int .i64 1)])] x30) 0)) (asInt (acell (lget [(V.agg [(V.int .i64 1), (V.int .i64 3), (V.int .i64 3600)]), (V.agg [(V.int .i64 2), (V.int .i64 2), (V.int .i64 60)]), (V.agg [(V.int .i64 2), (V.int .i64 2), (V.int .i64 1)])] x30) 1))) (asInt (acell (lget [(V.agg [(V.int .i64 1), (V.int .i64 3), (V.int .i64 3600)]), (V.agg [(V.int .i64 2), (V.int .i64 2), (V.int .i64 60)]), (V.agg [(V.int .i64 2), (V.int .i64 2), (V.int .i64 1)])] x30) 2)))) x28 x29 (iadd .i64 x30 1) K)
                    (none))
                  (sel (band (ile 0 x30) (ilt x30 3))
                    (aread_L0 F [] n x0 x2 x3 x4 x5 x6 x7 (iadd .i64 x8 (imul .i64 (partI (asStr (acell (lget x28 x30) 0)) (asInt (acell (lget [(V.agg [(V.int .i64 1), (V.int .i64 3), (V.int .i64 3600)]), (V.agg [(V.int .i64 2), (V.int .i64 2), (V.int .i64 60)]), (V.agg [(V.int .i64 2), (V.int .i64 2), (V.int .i64 1)])] x30) 0)) (asInt (acell (lget [(V.agg [(V.int .i64 1), (V.int .i64 3), (V.int .i64 3600)]), (V.agg [(V.int .i64 2), (V.int .i64 2), (V.int .i64 60)]), (V.agg [(V.int .i64 2), (V.int .i64 2), (V.int .i64 1)])] x30) 1))) (asInt (acell (lget [(V.agg [(V.int .i64 1), (V.int .i64 3), (V.int .i64 3600)]), (V.agg [(V.int .i64 2), (V.int .i64 2), (V.int .i64 60)]), (V.agg [(V.int .i64 2), (V.int .i64 2), (V.int .i64 1)])] x30) 2)))) x28 x29 (iadd .i64 x30 1) K)
                    (none)))
                (sel (band (ile 0 x30) (ilt x30 3))
                  (aread_L0 F [] n x0 x2 x3 x4 x5 x6 x7 (iadd .i64 x8 (imul .i64 (partI (asStr (acell (lget x28 x30) 0)) (asInt (acell (lget [(V.agg [(V.int .i64 1), (V.int .i64 3), (V.int .i64 3600)]), (V.agg [(V.int .i64 2), (V.int .i64 2), (V.int .i64 60)]), (V.agg [(V.int .i64 2), (V.int .i64 2), (V.int .i64 1)])] x30) 0)) (asInt (acell (lget [(V.agg [(V.int .i64 1), (V.int .i64 3), (V.int .i64 3600)]), (V.agg [(V.int .i64 2), (V.int .i64 2), (V.int .i64 60)]), (V.agg [(V.int .i64 2), (V.int .i64 2), (V.int .i64 1)])] x30) 1))) (asInt (acell (lget [(V.agg [(V.int .i64 1), (V.int .i64 3), (V.int .i64 3600)]), (V.agg [(V.int .i64 2), (V.int .i64 2), (V.int .i64 60)]), (V.agg [(V.int .i64 2), (V.int .i64 2), (V.int .i64 1)])] x30) 2)))) x28 x29 (iadd .i64 x30 1) K)
                  (none))))
            (none))
          (none))
        (none))
      (sel (bnot (ieq x7 0))
        (K (V.tup [(V.int .i64 0), (V.int .i64 1)]))
        (sel (ile 604800 x8)
          (K (V.tup [(V.int .i64 0), (V.int .i64 1)]))
          (sel x5
            (K (V.tup [(V.int .i64 (isub .i64 0 x8)), (V.int .i64 0)]))
            (K (V.tup [(V.int .i64 x8), (V.int .i64 0)]))))) := by kernel_rfl
noncomputable def rread_L0 (F : Nat) (ns : List Nat) (n : Nat) (x0 : List UInt8) (x2 : Int) (x3 : Int) (x4 : List UInt8) (x5 : List V) (x6 : Int) (x7 : Bool) (x33 : List V) (x34 : Int) (x35 : Int) (K : V → Option V) : Option V :=
  loopAt aE bS F 2 25 [1, 1, 1, 1, 1, 1, 1, 0, 1, 0] ns K n (mkSt 84 [(0, V.str x0), (2, V.int .i64 x2), (3, V.int .i64 x3), (4, V.str x4), (5, V.sl 9 [(Kd.str)] (some 5) x5), (6, V.int .i64 x6), (7, V.bool x7), (33, V.sl 9 [(Kd.str)] (some 5) x33), (34, V.int .i64 x34), (35, V.int .i64 x35)] [])

set_option maxRecDepth 100000 in
theorem rread_top (F : Nat) (s : List UInt8) (K : V → Option V) :
    evBd aE (evFn aE bS F 2) F 25 [(V.str s)] K =
    sel (seq s [45])
      (K (V.tup [(V.int .i64 0), (V.int .i64 0)]))
      (sel (ilt 0 (slen s))
        (sel (band (ile 0 0) (ilt 0 (slen s)))
          (sel (ieq (sat s 0) 45)
            (sel (band (ile 0 1) (ile 1 (slen s)))
              (sel (ile (slen (ssub s 1 (slen s))) 1000)
                (sel (ilt 3 (llen (piecesV (ssub s 1 (slen s)))))
                  (K (V.tup [(V.int .i64 0), (V.int .i64 2)]))
                  (rread_L0 F [] F s 0 0 (ssub s 1 (slen s)) (piecesV (ssub s 1 (slen s))) 0 true (piecesV (ssub s 1 (slen s))) (llen (piecesV (ssub s 1 (slen s)))) 0 K))
                (none))
              (none))
            (sel (ile (slen s) 1000)
              (sel (ilt 3 (llen (piecesV s)))
                (K (V.tup [(V.int .i64 0), (V.int .i64 2)]))
                (rread_L0 F [] F s 0 0 s (piecesV s) 0 true (piecesV s) (llen (piecesV s)) 0 K))
              (none)))
          (none))
        (sel (ile (slen s) 1000)
          (sel (ilt 3 (llen (piecesV s)))
            (K (V.tup [(V.int .i64 0), (V.int .i64 2)]))
            (rread_L0 F [] F s 0 0 s (piecesV s) 0 true (piecesV s) (llen (piecesV s)) 0 K))
          (none))) := by kernel_rfl

set_option maxRecDepth 100000 in
theorem rread_L0_zero (F : Nat) (ns : List Nat) (x0 : List UInt8) (x2 : Int) (x3 : Int) (x4 : List UInt8) (x5 : List V) (x6 : Int) (x7 : Bool) (x33 : List V) (x34 : Int) (x35 : Int) (K : V → Option V) : rread_L0 F ns 0 x0 x2 x3 x4 x5 x6 x7 x33 x34 x35 K = none := by kernel_rfl
set_option maxRecDepth 100000 in
theorem rread_L0_succ (F : Nat) (n : Nat) (x0 : List UInt8) (x2 : Int) (x3 : Int) (x4 : List UInt8) (x5 : List V) (x6 : Int) (x7 : Bool) (x33 : List V) (x34 : Int) (x35 : Int) (K : V → Option V) :
    rread_L0 F [] (n + 1) x0 x2 x3 x4 x5 x6 x7 x33 x34 x35 K =
    sel (ilt x35 x34)
      (sel (band (ile 0 x35) (ilt x35 (llen x33)))
        (sel (ieq x35 0)
          (sel (bnot (partB (asStr (acell (lget x33 x35) 0)) 1 3))
            (K (V.tup [(V.int .i64 0), (V.int .i64 2)]))
            (sel x7
              (sel (ieq x35 0)
                (sel (band (ile 0 x35) (ilt x35 (llen [(V.int .i64 3600), (V.int .i64 60), (V.int .i64 1)])))
                  (rread_L0 F [] n x0 x2 x3 x4 x5 (iadd .i64 x6 (imul .i64 (partI (asStr (acell (lget x33 x35) 0)) 1 3) (asInt (acell (lget [(V.int .i64 3600), (V.int .i64 60), (V.int .i64 1)] x35) 0)))) true x33 x34 (iadd .i64 x35 1) K)
                  (none))
                (sel (band (ile 0 x35) (ilt x35 (llen [(V.int .i64 3600), (V.int .i64 60), (V.int .i64 1)])))
                  (rread_L0 F [] n x0 x2 x3 x4 x5 (iadd .i64 x6 (imul .i64 (partI (asStr (acell (lget x33 x35) 0)) 1 3) (asInt (acell (lget [(V.int .i64 3600), (V.int .i64 60), (V.int .i64 1)] x35) 0)))) (ile (partI (asStr (acell (lget x33 x35) 0)) 1 3) 59) x33 x34 (iadd .i64 x35 1) K)
                  (none)))
              (sel (band (ile 0 x35) (ilt x35 (llen [(V.int .i64 3600), (V.int .i64 60), (V.int .i64 1)])))
                (rread_L0 F [] n x0 x2 x3 x4 x5 (iadd .i64 x6 (imul .i64 (partI (asStr (acell (lget x33 x35) 0)) 1 3) (asInt (acell (lget [(V.int .i64 3600), (V.int .i64 60), (V.int .i64 1)] x35) 0)))) false x33 x34 (iadd .i64 x35 1) K)
                (none))))
          (sel (bnot (partB (asStr (acell (lget x33 x35) 0)) 2 2))
            (K (V.tup [(V.int .i64 0), (V.int .i64 2)]))
            (sel x7
              (sel (ieq x35 0)
                (sel (band (ile 0 x35) (ilt x35 (llen [(V.int .i64 3600), (V.int .i64 60), (V.int .i64 1)])))
                  (rread_L0 F [] n x0 x2 x3 x4 x5 (iadd .i64 x6 (imul .i64 (partI (asStr (acell (lget x33 x35) 0)) 2 2) (asInt (acell (lget [(V.int .i64 3600), (V.int .i64 60), (V.int .i64 1)] x35) 0)))) true x33 x34 (iadd .i64 x35 1) K)
                  (none))
                (sel (band (ile 0 x35) (ilt x35 (llen [(V.int .i64 3600), (V.int .i64 60), (V.int .i64 1)])))
                  (rread_L0 F [] n x0 x2 x3 x4 x5 (iadd .i64 x6 (imul .i64 (partI (asStr (acell (lget x33 x35) 0)) 2 2) (asInt (acell (lget [(V.int .i64 3600), (V.int .i64 60), (V.int .i64 1)] x35) 0)))) (ile (partI (asStr (acell (lget x33 x35) 0)) 2 2) 59) x33 x34 (iadd .i64 x35 1) K)
                  (none)))
              (sel (band (ile 0 x35) (ilt x35 (llen [(V.int .i64 3600), (V.int .i64 60), (V.int .i64 1)])))
                (rread_L0 F [] n x0 x2 x3 x4 x5 (iadd .i64 x6 (imul .i64 (partI (asStr (acell (lget x33 x35) 0)) 2 2) (asInt (acell (lget [(V.int .i64 3600), (V.int .i64 60), (V.int .i64 1)] x35) 0)))) false x33 x34 (iadd .i64 x35 1) K)
                (none)))))
        (none))
      (sel (bnot x7)
        (K (V.tup [(V.int .i64 0), (V.int .i64 1)]))
        (sel (ile 604800 x6)
          (K (V.tup [(V.int .i64 0), (V.int .i64 1)]))
          (sel (ilt (slen x4) (slen x0))
            (K (V.tup [(V.int .i64 (isub .i64 0 x6)), (V.int .i64 0)]))
            (K (V.tup [(V.int .i64 x6), (V.int .i64 0)]))))) := by kernel_rfl


end Nt.Ev.YtefkdjikbdgidaaDoor
