/-
  Amounts: the equations of the statements' functions, as the evaluator prints them.
-/
import Derived.Test.YtefkdjikbdgidaaDoorEvAmountRead
set_option linter.unusedVariables false
set_option linter.unusedSimpArgs false
set_option linter.unusedSectionVars false
namespace Nt.Ev.YtefkdjikbdgidaaDoor
open Go Nt.Num Go.Proofs.YtefkdjikbdgidaaDoor
def rdI (s : List UInt8) : Int := (Amount.read s).1
def rdW (s : List UInt8) : Int := (Amount.read s).2
def txL (n : Int) : List UInt8 := (Amount.text n).1
def txW (n : Int) : Int := (Amount.text n).2
variable [MLen]
noncomputable def readFS : FSpec := fun a => match a with | [.str s] => some (ile (slen s) 1000, .tup [.int .i64 (rdI s), .int .i64 (rdW s)]) | _ => none
noncomputable def textFS : FSpec := fun a => match a with | [.int .i64 n] => some (fitsI n, .tup [.str (txL n), .int .i64 (txW n)]) | _ => none
noncomputable def livesS : FSpec := fun a => match a with | [] => some (true, .bool true) | _ => none
noncomputable def lS : List (Nat × FSpec) := [(24, readFS), (25, readFS), (26, textFS), (27, textFS), (28, textS)]
noncomputable def wS : List (Nat × FSpec) := (23, livesS) :: lS

set_option maxRecDepth 100000 in
theorem amT_top (F : Nat) (s : List UInt8) (n : Int) (K : V → Option V) :
    evBd aE (evFn aE wS F 2) F 5 [(V.str s), (V.int .i64 n)] K =
    sel (ilt 500 (slen s))
      (K (V.bool true))
      (sel (ile (slen s) 1000)
        (sel (ile (slen s) 1000)
          (sel (band (ile (-9223372036854775808) n) (ile n 9223372036854775807))
            (sel (band (ile (-9223372036854775808) n) (ile n 9223372036854775807))
              (sel (ieq (rdI s) (rdI s))
                (sel (ieq (rdW s) (rdW s))
                  (sel (seq (txL n) (txL n))
                    (sel (ieq (txW n) (txW n))
                      (K (V.bool true))
                      (K (V.bool false)))
                    (K (V.bool false)))
                  (K (V.bool false)))
                (K (V.bool false)))
              (none))
            (none))
          (none))
        (none)) := by kernel_rfl


set_option maxRecDepth 100000 in
theorem amB_top (F : Nat) (n : Int) (K : V → Option V) :
    evBd aE (evFn aE wS F 2) F 6 [(V.int .i64 n)] K =
    sel (band (ile (-9223372036854775808) n) (ile n 9223372036854775807))
      (sel (bnot (ieq (txW n) 0))
        (sel (seq (txL n) [])
          (sel (ieq (txW n) 1)
            (sel (ile n (-604800))
              (K (V.bool true))
              (K (V.bool (ile 604800 n))))
            (K (V.bool false)))
          (K (V.bool false)))
        (sel (ile (slen (txL n)) 1000)
          (sel (bnot (ieq (rdI (txL n)) n))
            (K (V.bool false))
            (sel (bnot (ieq (rdW (txL n)) 0))
              (K (V.bool false))
              (sel (ilt n 0)
                (sel (band (ile (-9223372036854775808) (isub .i64 0 n)) (ile (isub .i64 0 n) 9223372036854775807))
                  (sel (ieq (txW (isub .i64 0 n)) 0)
                    (sel (okCat [45] (txL (isub .i64 0 n)))
                      (K (V.bool (seq (txL n) (scat [45] (txL (isub .i64 0 n))))))
                      (none))
                    (K (V.bool false)))
                  (none))
                (sel (okCat [45] (txL n))
                  (sel (ile (slen (scat [45] (txL n))) 1000)
                    (sel (okCat [48] (txL n))
                      (sel (ile (slen (scat [48] (txL n))) 1000)
                        (sel (ieq (rdI (scat [45] (txL n))) (isub .i64 0 n))
                          (sel (ieq (rdW (scat [45] (txL n))) 0)
                            (sel (ile 360000 n)
                              (sel (ieq (rdW (scat [48] (txL n))) 2)
                                (K (V.bool true))
                                (sel (ilt n 360000)
                                  (sel (ieq (rdI (scat [48] (txL n))) n)
                                    (K (V.bool (ieq (rdW (scat [48] (txL n))) 0)))
                                    (K (V.bool false)))
                                  (K (V.bool false))))
                              (sel (ilt n 360000)
                                (sel (ieq (rdI (scat [48] (txL n))) n)
                                  (K (V.bool (ieq (rdW (scat [48] (txL n))) 0)))
                                  (K (V.bool false)))
                                (K (V.bool false))))
                            (K (V.bool false)))
                          (K (V.bool false)))
                        (none))
                      (none))
                    (none))
                  (none)))))
          (none)))
      (none) := by kernel_rfl


set_option maxRecDepth 100000 in
theorem amP_top (F : Nat) (h : Int) (m : Int) (s : Int) (b : Bool) (K : V → Option V) :
    evBd aE (evFn aE wS F 2) F 7 [(V.int .i64 h), (V.int .i64 m), (V.int .i64 s), (V.bool b)] K =
    sel (ilt h 0)
      (K (V.bool true))
      (sel (ilt 999 h)
        (K (V.bool true))
        (sel (ilt m 10)
          (K (V.bool true))
          (sel (ilt 99 m)
            (K (V.bool true))
            (sel (ilt s 10)
              (K (V.bool true))
              (sel (ilt 99 s)
                (K (V.bool true))
                (sel (band (ile (-9223372036854775808) h) (ile h 9223372036854775807))
                  (sel (okCat (text h) [58])
                    (sel (band (ile (-9223372036854775808) m) (ile m 9223372036854775807))
                      (sel (okCat (scat (text h) [58]) (text m))
                        (sel (okCat (scat (scat (text h) [58]) (text m)) [58])
                          (sel (band (ile (-9223372036854775808) s) (ile s 9223372036854775807))
                            (sel (okCat (scat (scat (scat (text h) [58]) (text m)) [58]) (text s))
                              (sel b
                                (sel (okCat [45] (scat (scat (scat (scat (text h) [58]) (text m)) [58]) (text s)))
                                  (sel (ile (slen (scat [45] (scat (scat (scat (scat (text h) [58]) (text m)) [58]) (text s)))) 1000)
                                    (sel (ilt 167 h)
                                      (sel (ieq (rdI (scat [45] (scat (scat (scat (scat (text h) [58]) (text m)) [58]) (text s)))) 0)
                                        (K (V.bool (ieq (rdW (scat [45] (scat (scat (scat (scat (text h) [58]) (text m)) [58]) (text s)))) 1)))
                                        (K (V.bool false)))
                                      (sel (ilt 59 m)
                                        (sel (ieq (rdI (scat [45] (scat (scat (scat (scat (text h) [58]) (text m)) [58]) (text s)))) 0)
                                          (K (V.bool (ieq (rdW (scat [45] (scat (scat (scat (scat (text h) [58]) (text m)) [58]) (text s)))) 1)))
                                          (K (V.bool false)))
                                        (sel (ilt 59 s)
                                          (sel (ieq (rdI (scat [45] (scat (scat (scat (scat (text h) [58]) (text m)) [58]) (text s)))) 0)
                                            (K (V.bool (ieq (rdW (scat [45] (scat (scat (scat (scat (text h) [58]) (text m)) [58]) (text s)))) 1)))
                                            (K (V.bool false)))
                                          (sel (ieq (rdI (scat [45] (scat (scat (scat (scat (text h) [58]) (text m)) [58]) (text s)))) (isub .i64 0 (iadd .i64 (iadd .i64 (imul .i64 h 3600) (imul .i64 m 60)) s)))
                                            (K (V.bool (ieq (rdW (scat [45] (scat (scat (scat (scat (text h) [58]) (text m)) [58]) (text s)))) 0)))
                                            (K (V.bool false))))))
                                    (none))
                                  (none))
                                (sel (ile (slen (scat (scat (scat (scat (text h) [58]) (text m)) [58]) (text s))) 1000)
                                  (sel (ilt 167 h)
                                    (sel (ieq (rdI (scat (scat (scat (scat (text h) [58]) (text m)) [58]) (text s))) 0)
                                      (K (V.bool (ieq (rdW (scat (scat (scat (scat (text h) [58]) (text m)) [58]) (text s))) 1)))
                                      (K (V.bool false)))
                                    (sel (ilt 59 m)
                                      (sel (ieq (rdI (scat (scat (scat (scat (text h) [58]) (text m)) [58]) (text s))) 0)
                                        (K (V.bool (ieq (rdW (scat (scat (scat (scat (text h) [58]) (text m)) [58]) (text s))) 1)))
                                        (K (V.bool false)))
                                      (sel (ilt 59 s)
                                        (sel (ieq (rdI (scat (scat (scat (scat (text h) [58]) (text m)) [58]) (text s))) 0)
                                          (K (V.bool (ieq (rdW (scat (scat (scat (scat (text h) [58]) (text m)) [58]) (text s))) 1)))
                                          (K (V.bool false)))
                                        (sel (ieq (rdI (scat (scat (scat (scat (text h) [58]) (text m)) [58]) (text s))) (iadd .i64 (iadd .i64 (imul .i64 h 3600) (imul .i64 m 60)) s))
                                          (K (V.bool (ieq (rdW (scat (scat (scat (scat (text h) [58]) (text m)) [58]) (text s))) 0)))
                                          (K (V.bool false))))))
                                  (none)))
                              (none))
                            (none))
                          (none))
                        (none))
                      (none))
                    (none))
                  (none))))))) := by kernel_rfl



end Nt.Ev.YtefkdjikbdgidaaDoor
