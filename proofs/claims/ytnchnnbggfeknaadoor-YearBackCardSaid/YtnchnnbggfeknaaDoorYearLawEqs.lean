/-
  YearLaw: equations of functions, as the evaluator prints them.
-/
import Derived.Test.YtnchnnbggfeknaaDoorEvYear
set_option linter.unusedVariables false
set_option linter.unusedSimpArgs false
set_option linter.unusedSectionVars false
namespace Nt.Ev.YtnchnnbggfeknaaDoor
open Go Nt.Num Go.Proofs.YtnchnnbggfeknaaDoor
def yFI (s : List UInt8) : Int := (yFromP s).1
def yFW (s : List UInt8) : Int := (yFromP s).2
def yTI (s : List UInt8) (n : Int) : Int := (yToP s n).1
def yTW (s : List UInt8) (n : Int) : Int := (yToP s n).2
def yfT (n : Int) : List UInt8 := (yFromTextP n).1
def yfW (n : Int) : Int := (yFromTextP n).2
def ytT (m n : Int) : List UInt8 := (yToTextP m n).1
def ytW (m n : Int) : Int := (yToTextP m n).2
noncomputable def yFromS : FSpec := fun a => match a with | [.str s] => some (ile (slen s) 1000, .tup [.int .i64 (yFI s), .int .i64 (yFW s)]) | _ => none
noncomputable def yToS : FSpec := fun a => match a with | [.str s, .int .i64 n] => some (ile (slen s) 1000, .tup [.int .i64 (yTI s n), .int .i64 (yTW s n)]) | _ => none
noncomputable def yfTextS : FSpec := fun a => match a with | [.int .i64 n] => some (true, .tup [.str (yfT n), .int .i64 (yfW n)]) | _ => none
noncomputable def ytTextS : FSpec := fun a => match a with | [.int .i64 m, .int .i64 n] => some (true, .tup [.str (ytT m n), .int .i64 (ytW m n)]) | _ => none
noncomputable def ylivesS : FSpec := fun a => match a with | [] => some (true, .bool true) | _ => none
noncomputable def ylS : List (Nat × FSpec) := (24, yFromS) :: (25, yFromS) :: (26, yToS) :: (27, yToS) :: (28, yfTextS) :: (29, yfTextS) :: (30, ytTextS) :: (31, ytTextS) :: []
noncomputable def ywS : List (Nat × FSpec) := (23, ylivesS) :: ylS

set_option maxRecDepth 100000 in
theorem yT_top (F : Nat) (s : List UInt8) (m : Int) (n : Int) (K : V → Option V) :
    evBd yE (evFn yE ywS F 2) F 5 [(V.str s), (V.int .i64 m), (V.int .i64 n)] K =
    sel (ilt 500 (slen s))
      (K (V.bool true))
      (sel (ile (slen s) 1000)
        (sel (ile (slen s) 1000)
          (sel (ile (slen s) 1000)
            (sel (ile (slen s) 1000)
              (sel (ieq (yFI s) (yFI s))
                (sel (ieq (yFW s) (yFW s))
                  (sel (ieq (yTI s m) (yTI s m))
                    (sel (ieq (yTW s m) (yTW s m))
                      (sel (seq (yfT n) (yfT n))
                        (sel (ieq (yfW n) (yfW n))
                          (sel (seq (ytT m n) (ytT m n))
                            (sel (ieq (ytW m n) (ytW m n))
                              (K (V.bool true))
                              (K (V.bool false)))
                            (K (V.bool false)))
                          (K (V.bool false)))
                        (K (V.bool false)))
                      (K (V.bool false)))
                    (K (V.bool false)))
                  (K (V.bool false)))
                (K (V.bool false)))
              (none))
            (none))
          (none))
        (none)) := by kernel_rfl



set_option maxRecDepth 100000 in
theorem yB_top (F : Nat) (s : List UInt8) (m : Int) (n : Int) (K : V → Option V) :
    evBd yE (evFn yE ywS F 2) F 6 [(V.str s), (V.int .i64 m), (V.int .i64 n)] K =
    sel (ilt 500 (slen s))
      (K (V.bool true))
      (sel (ile (slen (yfT m)) 1000)
        (sel (ieq (yfW m) 0)
          (sel (bnot (ieq (yFI (yfT m)) m))
            (K (V.bool false))
            (sel (bnot (ieq (yFW (yfT m)) 0))
              (K (V.bool false))
              (sel (ile (slen (ytT m n)) 1000)
                (sel (ieq (ytW m n) 0)
                  (sel (bnot (ieq (yTI (ytT m n) m) n))
                    (K (V.bool false))
                    (sel (bnot (ieq (yTW (ytT m n) m) 0))
                      (K (V.bool false))
                      (sel (ile (slen s) 1000)
                        (sel (bnot (ieq (yTW s m) 0))
                          (sel (ieq (yTI s m) 0)
                            (K (V.bool true))
                            (sel (ieq (yTW s m) 0)
                              (K (V.bool (ile m (yTI s m))))
                              (K (V.bool false))))
                          (sel (ieq (yTW s m) 0)
                            (K (V.bool (ile m (yTI s m))))
                            (K (V.bool false))))
                        (none))))
                  (sel (ile (slen s) 1000)
                    (sel (bnot (ieq (yTW s m) 0))
                      (sel (ieq (yTI s m) 0)
                        (K (V.bool true))
                        (sel (ieq (yTW s m) 0)
                          (K (V.bool (ile m (yTI s m))))
                          (K (V.bool false))))
                      (sel (ieq (yTW s m) 0)
                        (K (V.bool (ile m (yTI s m))))
                        (K (V.bool false))))
                    (none)))
                (none))))
          (sel (ile (slen (ytT m n)) 1000)
            (sel (ieq (ytW m n) 0)
              (sel (bnot (ieq (yTI (ytT m n) m) n))
                (K (V.bool false))
                (sel (bnot (ieq (yTW (ytT m n) m) 0))
                  (K (V.bool false))
                  (sel (ile (slen s) 1000)
                    (sel (bnot (ieq (yTW s m) 0))
                      (sel (ieq (yTI s m) 0)
                        (K (V.bool true))
                        (sel (ieq (yTW s m) 0)
                          (K (V.bool (ile m (yTI s m))))
                          (K (V.bool false))))
                      (sel (ieq (yTW s m) 0)
                        (K (V.bool (ile m (yTI s m))))
                        (K (V.bool false))))
                    (none))))
              (sel (ile (slen s) 1000)
                (sel (bnot (ieq (yTW s m) 0))
                  (sel (ieq (yTI s m) 0)
                    (K (V.bool true))
                    (sel (ieq (yTW s m) 0)
                      (K (V.bool (ile m (yTI s m))))
                      (K (V.bool false))))
                  (sel (ieq (yTW s m) 0)
                    (K (V.bool (ile m (yTI s m))))
                    (K (V.bool false))))
                (none)))
            (none)))
        (none)) := by kernel_rfl



end Nt.Ev.YtnchnnbggfeknaaDoor
