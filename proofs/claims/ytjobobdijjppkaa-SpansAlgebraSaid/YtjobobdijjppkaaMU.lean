/-
  SpansLaw: equations of functions, as the evaluator prints them. Spans: the statements SpansTell, SpansSeconds. Spans: the statements SpansTell, SpansSeconds as contracts. Sets of spans, plain: how many seconds they have; where they begin. Spans: the statement SpansAlgebra as a contract.
-/
import Derived.Test.YtjobobdijjppkaaMT
import Derived.Test.YtjobobdijjppkaaMZ
set_option linter.unusedVariables false
set_option linter.unusedSimpArgs false
set_option linter.unusedSectionVars false
namespace Nt.Ev.Ytjobobdijjppkaa.Sp
open Go Nt.Num Go.Proofs.Ytjobobdijjppkaa
noncomputable def hsB (xs : List V) (t : Int) : Bool := Nt.Sps.hasL (spsOf xs) t
noncomputable def saB (xs ys : List V) : Bool := decide (spsOf xs = spsOf ys)
noncomputable def sGaS : FSpec := fun a => match a with | [x, .agg [.int .i64 a, .int .i64 b]] => some (band (isSp x) (ile (llen (xsOf x)) 30000), .sl 24 [.int .i64, .int .i64] none (leV [.agg [.int .i64 a, .int .i64 b]] (xsOf x))) | _ => none
noncomputable def sFiS : FSpec := fun a => match a with | [x, .int .i64 t] => some (band (isSp x) (ile (llen (xsOf x)) 30000), .tup [.agg [.int .i64 (fdF (xsOf x) t), .int .i64 (fdT (xsOf x) t)], .bool (fdB (xsOf x) t)]) | _ => none
noncomputable def sTtS : FSpec := fun a => match a with | [x] => some (band (isSp x) (band (ile (llen (xsOf x)) 30000) (wfL (xsOf x))), .tup [.int .i64 (toI (xsOf x)), .int .i64 (toE (xsOf x))]) | _ => none
noncomputable def sRtS : FSpec := fun a => match a with | [x] => some (band (isSp x) (ile (llen (xsOf x)) 1000000), .bool (rtV (xsOf x))) | _ => none
noncomputable def sSaS : FSpec := fun a => match a with | [x, y] => some (band (band (isSp x) (isSp y)) (band (ile (llen (xsOf x)) 1000000) (ile (llen (xsOf y)) 1000000)), .bool (saB (xsOf x) (xsOf y))) | _ => none
noncomputable def sInS : FSpec := fun a => match a with | [x, .int .i64 t] => some (band (isSp x) (ile (llen (xsOf x)) 1000000), .bool (hsB (xsOf x) t)) | _ => none
noncomputable def sLvS : FSpec := fun a => match a with | [] => some (true, .bool true) | _ => none
noncomputable def sLd : List (Nat × FSpec) := (17, sOf2) :: (18, sOf2) :: (25, sGaS) :: (26, sGaS) :: (10, sFiS) :: (11, sFiS) :: (12, sTtS) :: (13, sTtS) :: (14, sRtS) :: (15, sRtS) :: (16, sSaS) :: (27, sInS) :: (28, sHaS) :: (44, sHaS) :: sS9
noncomputable def sL : List (Nat × FSpec) := (9, sLvS) :: sLd
set_option maxRecDepth 100000 in
theorem l11T_top (F : Nat) (xs : List V) (ys : List V) (a : Int) (b : Int) (t : Int) (K : V → Option V) :
 evBd sE (evFn sE sL F 2) F 3 [(V.sl 24 [(Kd.int .i64), (Kd.int .i64)] none xs), (V.sl 24 [(Kd.int .i64), (Kd.int .i64)] none ys), (V.agg [(V.int .i64 a), (V.int .i64 b)]), (V.int .i64 t)] K =
 sel (ilt 40 (llen xs))
 (K (V.bool true))
 (sel (ilt 40 (llen ys))
 (K (V.bool true))
 (sel (band true (ile (llen xs) 30000))
 (sel (band true (ile (llen xs) 30000))
 (sel (band true (band (ile (llen xs) 30000) (wfL xs)))
 (sel (band true (band (ile (llen xs) 30000) (wfL xs)))
 (sel (band (ieq (fdF xs t) (fdF xs t)) (ieq (fdT xs t) (fdT xs t)))
 (sel (beq (fdB xs t) (fdB xs t))
 (sel (ieq (toI xs) (toI xs))
 (sel (ieq (toE xs) (toE xs))
 (sel (band true (ile (llen xs) 1000000))
 (sel (band true (ile (llen xs) 1000000))
 (sel (beq (rtV xs) (rtV xs))
 (sel (band true (ile (llen xs) 30000))
 (sel (band true (ile (llen xs) 30000))
 (sel (band (band true true) (band (ile (llen (ofV xs)) 1000000) (ile (llen (ofV xs)) 1000000)))
 (sel (saB (ofV xs) (ofV xs))
 (sel (band (band true true) (band (ile (llen xs) 30000) (ile (llen ys) 30000)))
 (sel (band (band true true) (band (ile (llen xs) 30000) (ile (llen ys) 30000)))
 (sel (band (band true true) (band (ile (llen (orV xs ys)) 1000000) (ile (llen (orV xs ys)) 1000000)))
 (sel (saB (orV xs ys) (orV xs ys))
 (sel (band (band true true) (band (ile (llen xs) 300) (ile (llen ys) 300)))
 (sel (band (band true true) (band (ile (llen xs) 300) (ile (llen ys) 300)))
 (sel (band (band true true) (band (ile (llen (anV xs ys)) 1000000) (ile (llen (anV xs ys)) 1000000)))
 (sel (saB (anV xs ys) (anV xs ys))
 (sel (band (band true true) (band (ile (llen xs) 30000) (ile (llen ys) 30000)))
 (sel (band (band true true) (band (ile (llen xs) 30000) (ile (llen ys) 30000)))
 (sel (band (band true true) (band (ile (llen (leV xs ys)) 1000000) (ile (llen (leV xs ys)) 1000000)))
 (sel (saB (leV xs ys) (leV xs ys))
 (sel (band true (ile (llen xs) 30000))
 (sel (band true (ile (llen xs) 30000))
 (sel (band (band true true) (band (ile (llen (leV [(V.agg [(V.int .i64 a), (V.int .i64 b)])] xs)) 1000000) (ile (llen (leV [(V.agg [(V.int .i64 a), (V.int .i64 b)])] xs)) 1000000)))
 (sel (saB (leV [(V.agg [(V.int .i64 a), (V.int .i64 b)])] xs) (leV [(V.agg [(V.int .i64 a), (V.int .i64 b)])] xs))
 (K (V.bool true))
 (K (V.bool false)))
 (none))
 (none))
 (none))
 (K (V.bool false)))
 (none))
 (none))
 (none))
 (K (V.bool false)))
 (none))
 (none))
 (none))
 (K (V.bool false)))
 (none))
 (none))
 (none))
 (K (V.bool false)))
 (none))
 (none))
 (none))
 (K (V.bool false)))
 (none))
 (none))
 (K (V.bool false)))
 (K (V.bool false)))
 (K (V.bool false)))
 (K (V.bool false)))
 (none))
 (none))
 (none))
 (none))) := by kernel_rfl
set_option maxRecDepth 100000 in
theorem l11S_top (F : Nat) (xs : List V) (ys : List V) (a : Int) (b : Int) (t : Int) (K : V → Option V) :
 evBd sE (evFn sE sL F 2) F 4 [(V.sl 24 [(Kd.int .i64), (Kd.int .i64)] none xs), (V.sl 24 [(Kd.int .i64), (Kd.int .i64)] none ys), (V.agg [(V.int .i64 a), (V.int .i64 b)]), (V.int .i64 t)] K =
 sel (ilt 40 (llen xs))
 (K (V.bool true))
 (sel (ilt 40 (llen ys))
 (K (V.bool true))
 (sel (band (band true true) (band (ile (llen xs) 30000) (ile (llen ys) 30000)))
 (sel (band (band true true) (band (ile (llen xs) 300) (ile (llen ys) 300)))
 (sel (band (band true true) (band (ile (llen xs) 30000) (ile (llen ys) 30000)))
 (sel (band true (ile (llen xs) 30000))
 (sel (band true (ile (llen xs) 30000))
 (sel (band true (ile (llen xs) 1000000))
 (sel (bnot (beq (fdB xs t) (hsB xs t)))
 (K (V.bool false))
 (sel (bnot (beq (fdB xs t) (band (ile (fdF xs t) t) (ilt t (fdT xs t)))))
 (K (V.bool false))
 (sel (band true (ile (llen (orV xs ys)) 1000000))
 (sel (bnot (rtV (orV xs ys)))
 (K (V.bool false))
 (sel (band true (ile (llen (anV xs ys)) 1000000))
 (sel (bnot (rtV (anV xs ys)))
 (K (V.bool false))
 (sel (band true (ile (llen (leV xs ys)) 1000000))
 (sel (bnot (rtV (leV xs ys)))
 (K (V.bool false))
 (sel (band true (ile (llen (leV [(V.agg [(V.int .i64 a), (V.int .i64 b)])] xs)) 1000000))
 (sel (bnot (rtV (leV [(V.agg [(V.int .i64 a), (V.int .i64 b)])] xs)))
 (K (V.bool false))
 (sel (band true (ile (llen xs) 30000))
 (sel (band true (ile (llen (ofV xs)) 1000000))
 (sel (bnot (rtV (ofV xs)))
 (K (V.bool false))
 (sel (band true (ile (llen xs) 1000000))
 (sel (band true (ile (llen ys) 1000000))
 (sel (band true (ile (llen xs) 30000))
 (sel (band true (ile (llen (ofV xs)) 1000000))
 (sel (beq (hsB (ofV xs) t) (hsB xs t))
 (sel (band true (ile (llen (orV xs ys)) 1000000))
 (sel (hsB xs t)
 (sel (beq (hsB (orV xs ys) t) true)
 (sel (band true (ile (llen (anV xs ys)) 1000000))
 (sel (hsB xs t)
 (sel (beq (hsB (anV xs ys) t) (hsB ys t))
 (sel (band true (ile (llen (leV xs ys)) 1000000))
 (sel (hsB xs t)
 (sel (beq (hsB (leV xs ys) t) (bnot (hsB ys t)))
 (sel (band true (ile (llen (leV [(V.agg [(V.int .i64 a), (V.int .i64 b)])] xs)) 1000000))
 (sel (band (ile a t) (ilt t b))
 (K (V.bool (beq (hsB (leV [(V.agg [(V.int .i64 a), (V.int .i64 b)])] xs) t) (bnot (hsB xs t)))))
 (K (V.bool (beq (hsB (leV [(V.agg [(V.int .i64 a), (V.int .i64 b)])] xs) t) false))))
 (none))
 (K (V.bool false)))
 (sel (beq (hsB (leV xs ys) t) false)
 (sel (band true (ile (llen (leV [(V.agg [(V.int .i64 a), (V.int .i64 b)])] xs)) 1000000))
 (sel (band (ile a t) (ilt t b))
 (K (V.bool (beq (hsB (leV [(V.agg [(V.int .i64 a), (V.int .i64 b)])] xs) t) (bnot (hsB xs t)))))
 (K (V.bool (beq (hsB (leV [(V.agg [(V.int .i64 a), (V.int .i64 b)])] xs) t) false))))
 (none))
 (K (V.bool false))))
 (none))
 (K (V.bool false)))
 (sel (beq (hsB (anV xs ys) t) false)
 (sel (band true (ile (llen (leV xs ys)) 1000000))
 (sel (hsB xs t)
 (sel (beq (hsB (leV xs ys) t) (bnot (hsB ys t)))
 (sel (band true (ile (llen (leV [(V.agg [(V.int .i64 a), (V.int .i64 b)])] xs)) 1000000))
 (sel (band (ile a t) (ilt t b))
 (K (V.bool (beq (hsB (leV [(V.agg [(V.int .i64 a), (V.int .i64 b)])] xs) t) (bnot (hsB xs t)))))
 (K (V.bool (beq (hsB (leV [(V.agg [(V.int .i64 a), (V.int .i64 b)])] xs) t) false))))
 (none))
 (K (V.bool false)))
 (sel (beq (hsB (leV xs ys) t) false)
 (sel (band true (ile (llen (leV [(V.agg [(V.int .i64 a), (V.int .i64 b)])] xs)) 1000000))
 (sel (band (ile a t) (ilt t b))
 (K (V.bool (beq (hsB (leV [(V.agg [(V.int .i64 a), (V.int .i64 b)])] xs) t) (bnot (hsB xs t)))))
 (K (V.bool (beq (hsB (leV [(V.agg [(V.int .i64 a), (V.int .i64 b)])] xs) t) false))))
 (none))
 (K (V.bool false))))
 (none))
 (K (V.bool false))))
 (none))
 (K (V.bool false)))
 (sel (beq (hsB (orV xs ys) t) (hsB ys t))
 (sel (band true (ile (llen (anV xs ys)) 1000000))
 (sel (hsB xs t)
 (sel (beq (hsB (anV xs ys) t) (hsB ys t))
 (sel (band true (ile (llen (leV xs ys)) 1000000))
 (sel (hsB xs t)
 (sel (beq (hsB (leV xs ys) t) (bnot (hsB ys t)))
 (sel (band true (ile (llen (leV [(V.agg [(V.int .i64 a), (V.int .i64 b)])] xs)) 1000000))
 (sel (band (ile a t) (ilt t b))
 (K (V.bool (beq (hsB (leV [(V.agg [(V.int .i64 a), (V.int .i64 b)])] xs) t) (bnot (hsB xs t)))))
 (K (V.bool (beq (hsB (leV [(V.agg [(V.int .i64 a), (V.int .i64 b)])] xs) t) false))))
 (none))
 (K (V.bool false)))
 (sel (beq (hsB (leV xs ys) t) false)
 (sel (band true (ile (llen (leV [(V.agg [(V.int .i64 a), (V.int .i64 b)])] xs)) 1000000))
 (sel (band (ile a t) (ilt t b))
 (K (V.bool (beq (hsB (leV [(V.agg [(V.int .i64 a), (V.int .i64 b)])] xs) t) (bnot (hsB xs t)))))
 (K (V.bool (beq (hsB (leV [(V.agg [(V.int .i64 a), (V.int .i64 b)])] xs) t) false))))
 (none))
 (K (V.bool false))))
 (none))
 (K (V.bool false)))
 (sel (beq (hsB (anV xs ys) t) false)
 (sel (band true (ile (llen (leV xs ys)) 1000000))
 (sel (hsB xs t)
 (sel (beq (hsB (leV xs ys) t) (bnot (hsB ys t)))
 (sel (band true (ile (llen (leV [(V.agg [(V.int .i64 a), (V.int .i64 b)])] xs)) 1000000))
 (sel (band (ile a t) (ilt t b))
 (K (V.bool (beq (hsB (leV [(V.agg [(V.int .i64 a), (V.int .i64 b)])] xs) t) (bnot (hsB xs t)))))
 (K (V.bool (beq (hsB (leV [(V.agg [(V.int .i64 a), (V.int .i64 b)])] xs) t) false))))
 (none))
 (K (V.bool false)))
 (sel (beq (hsB (leV xs ys) t) false)
 (sel (band true (ile (llen (leV [(V.agg [(V.int .i64 a), (V.int .i64 b)])] xs)) 1000000))
 (sel (band (ile a t) (ilt t b))
 (K (V.bool (beq (hsB (leV [(V.agg [(V.int .i64 a), (V.int .i64 b)])] xs) t) (bnot (hsB xs t)))))
 (K (V.bool (beq (hsB (leV [(V.agg [(V.int .i64 a), (V.int .i64 b)])] xs) t) false))))
 (none))
 (K (V.bool false))))
 (none))
 (K (V.bool false))))
 (none))
 (K (V.bool false))))
 (none))
 (K (V.bool false)))
 (none))
 (none))
 (none))
 (none)))
 (none))
 (none)))
 (none)))
 (none)))
 (none)))
 (none))))
 (none))
 (none))
 (none))
 (none))
 (none))
 (none))) := by kernel_rfl
noncomputable def l11A_L0 (F : Nat) (ns : List Nat) (n : Nat) (x0 : List V) (x1 : List V) (x4 : Bool) (x5 : List V) (x29 : Int) (x30 : Int) (K : V → Option V) : Option V :=
 loopAt sE sL F 2 5 [1, 1, 1, 1, 0, 1, 0] ns K n (mkSt 157 [(0, V.sl 24 [(Kd.int .i64), (Kd.int .i64)] none x0), (1, V.sl 24 [(Kd.int .i64), (Kd.int .i64)] none x1), (4, V.bool x4), (5, V.sl 24 [(Kd.int .i64), (Kd.int .i64)] (some 5) x5), (7, V.tup []), (8, V.tup []), (9, V.tup []), (10, V.tup []), (11, V.tup []), (12, V.tup []), (13, V.tup []), (14, V.tup []), (15, V.tup []), (16, V.tup []), (17, V.tup []), (29, V.int .i64 x29), (30, V.int .i64 x30)] [])
set_option maxRecDepth 100000 in
theorem l11A_top (F : Nat) (xs : List V) (ys : List V) (K : V → Option V) :
 evBd sE (evFn sE sL F 2) F 5 [(V.sl 24 [(Kd.int .i64), (Kd.int .i64)] none xs), (V.sl 24 [(Kd.int .i64), (Kd.int .i64)] none ys)] K =
 sel (ilt 40 (llen xs))
 (K (V.bool true))
 (sel (ilt 40 (llen ys))
 (K (V.bool true))
 (l11A_L0 F [] F xs ys false [] (llen xs) 0 K)) := by kernel_rfl
set_option maxRecDepth 100000 in
theorem l11A_L0_succ (F : Nat) (n : Nat) (x0 : List V) (x1 : List V) (x4 : Bool) (x5 : List V) (x29 : Int) (x30 : Int) (K : V → Option V) :
 l11A_L0 F [] (n + 1) x0 x1 x4 x5 x29 x30 K =
 sel (ilt x30 x29)
 (sel (band (ile 0 (isub .i64 (isub .i64 (llen x0) 1) x30)) (ilt (isub .i64 (isub .i64 (llen x0) 1) x30) (llen x0)))
 (sel (okApp x5 [(V.agg [(V.int .i64 (asInt (acell (lget x0 (isub .i64 (isub .i64 (llen x0) 1) x30)) 0))), (V.int .i64 (asInt (acell (lget x0 (isub .i64 (isub .i64 (llen x0) 1) x30)) 1)))])])
 (l11A_L0 F [] n x0 x1 x4 (lcat x5 [(V.agg [(V.int .i64 (asInt (acell (lget x0 (isub .i64 (isub .i64 (llen x0) 1) x30)) 0))), (V.int .i64 (asInt (acell (lget x0 (isub .i64 (isub .i64 (llen x0) 1) x30)) 1)))])]) x29 (iadd .i64 x30 1) K)
 (none))
 (none))
 (sel (band true (ile (llen x0) 30000))
 (sel (band (band true true) (band (ile (llen x0) 30000) (ile (llen x1) 30000)))
 (sel (band (band true true) (band (ile (llen x0) 300) (ile (llen x1) 300)))
 (sel (band true (ile (llen x5) 30000))
 (sel (band (band true true) (band (ile (llen (ofV x5)) 1000000) (ile (llen (ofV x0)) 1000000)))
 (sel (bnot (saB (ofV x5) (ofV x0)))
 (K (V.bool false))
 (sel (band true (ile (llen (ofV x0)) 30000))
 (sel (band (band true true) (band (ile (llen (ofV (ofV x0))) 1000000) (ile (llen (ofV x0)) 1000000)))
 (sel (bnot (saB (ofV (ofV x0)) (ofV x0)))
 (K (V.bool false))
 (sel (band (band true true) (band (ile (llen (leV x0 x1)) 30000) (ile (llen (anV x0 x1)) 30000)))
 (sel (band (band true true) (band (ile (llen (orV (leV x0 x1) (anV x0 x1))) 1000000) (ile (llen (ofV x0)) 1000000)))
 (sel (bnot (saB (orV (leV x0 x1) (anV x0 x1)) (ofV x0)))
 (K (V.bool false))
 (sel (band (band true true) (band (ile (llen (leV x0 x1)) 300) (ile (llen (anV x0 x1)) 300)))
 (sel (bnot (ieq (llen (anV (leV x0 x1) (anV x0 x1))) 0))
 (K (V.bool false))
 (sel (band (band true true) (band (ile (llen x1) 300) (ile (llen x0) 300)))
 (sel (band (band true true) (band (ile (llen (anV x1 x0)) 1000000) (ile (llen (anV x0 x1)) 1000000)))
 (sel (bnot (saB (anV x1 x0) (anV x0 x1)))
 (K (V.bool false))
 (sel (band (band true true) (band (ile (llen x0) 30000) (ile (llen x1) 30000)))
 (sel (band (band true true) (band (ile (llen x1) 30000) (ile (llen x0) 30000)))
 (sel (band (band true true) (band (ile (llen (orV x0 x1)) 1000000) (ile (llen (orV x1 x0)) 1000000)))
 (sel (bnot (saB (orV x0 x1) (orV x1 x0)))
 (K (V.bool false))
 (sel (band true (ile (llen x0) 1000000))
 (sel (rtV x0)
 (sel (band (band true true) (band (ile (llen (ofV x0)) 1000000) (ile (llen x0) 1000000)))
 (sel (bnot (saB (ofV x0) x0))
 (K (V.bool false))
 (sel (band true (band (ile (llen x0) 30000) (wfL x0)))
 (sel (band true (band (ile (llen x1) 30000) (wfL x1)))
 (sel (band true (band (ile (llen (anV x0 x1)) 30000) (wfL (anV x0 x1))))
 (sel (band (band true true) (band (ile (llen x0) 30000) (ile (llen x1) 30000)))
 (sel (band true (band (ile (llen (orV x0 x1)) 30000) (wfL (orV x0 x1))))
 (sel (bnot (ieq (toE x0) 0))
 (sel (ieq (toE x0) 0)
 (K (V.bool true))
 (K (V.bool (bnot (ieq (toE (orV x0 x1)) 0)))))
 (sel (bnot (ieq (toE x1) 0))
 (sel (ieq (toE x0) 0)
 (K (V.bool true))
 (K (V.bool (bnot (ieq (toE (orV x0 x1)) 0)))))
 (sel (bnot (ieq (toE (orV x0 x1)) 0))
 (sel (ieq (toE x0) 0)
 (K (V.bool true))
 (K (V.bool (bnot (ieq (toE (orV x0 x1)) 0)))))
 (sel (ieq (toE (anV x0 x1)) 0)
 (K (V.bool (ieq (isub .i64 (toI x0) (toI (anV x0 x1))) (isub .i64 (toI (orV x0 x1)) (toI x1)))))
 (K (V.bool false))))))
 (none))
 (none))
 (none))
 (none))
 (none)))
 (none))
 (sel (band true (band (ile (llen x0) 30000) (wfL x0)))
 (sel (band true (band (ile (llen x1) 30000) (wfL x1)))
 (sel (band true (band (ile (llen (anV x0 x1)) 30000) (wfL (anV x0 x1))))
 (sel (band (band true true) (band (ile (llen x0) 30000) (ile (llen x1) 30000)))
 (sel (band true (band (ile (llen (orV x0 x1)) 30000) (wfL (orV x0 x1))))
 (sel (bnot (ieq (toE x0) 0))
 (sel (ieq (toE x0) 0)
 (K (V.bool true))
 (K (V.bool (bnot (ieq (toE (orV x0 x1)) 0)))))
 (sel (bnot (ieq (toE x1) 0))
 (sel (ieq (toE x0) 0)
 (K (V.bool true))
 (K (V.bool (bnot (ieq (toE (orV x0 x1)) 0)))))
 (sel (bnot (ieq (toE (orV x0 x1)) 0))
 (sel (ieq (toE x0) 0)
 (K (V.bool true))
 (K (V.bool (bnot (ieq (toE (orV x0 x1)) 0)))))
 (sel (ieq (toE (anV x0 x1)) 0)
 (K (V.bool (ieq (isub .i64 (toI x0) (toI (anV x0 x1))) (isub .i64 (toI (orV x0 x1)) (toI x1)))))
 (K (V.bool false))))))
 (none))
 (none))
 (none))
 (none))
 (none)))
 (none)))
 (none))
 (none))
 (none)))
 (none))
 (none)))
 (none)))
 (none))
 (none)))
 (none))
 (none)))
 (none))
 (none))
 (none))
 (none))
 (none)) := by kernel_rfl
end Nt.Ev.Ytjobobdijjppkaa.Sp

set_option linter.unusedVariables false
set_option linter.unusedSimpArgs false
set_option linter.unusedSectionVars false
namespace Nt.Ev.Ytjobobdijjppkaa.Sp
open Go Go.RowKit Nt Nt.Num Nt.Sps Go.Proofs.Ytjobobdijjppkaa
theorem con1y {E : Env} {f : Nat} {x y r : V} (hx : isSp x = true) (h : Contract E f [.sl 24 K2 none (xsOf x), y] r) : Contract E f [x, y] r := by
  intro G w vs hG hg hp
  obtain ⟨a, b, rfl, ha, hb⟩ := PW_two hp
  exact h G w _ hG hg (.cons (rep_sp hx ha) (.cons hb .nil))
theorem sOf2_ok_noontideref11_Of (x : V) (hc : band (isSp x) (ile (llen (xsOf x)) 30000) = true) : Contract sE 18 [x] (.sl 24 [.int .i64, .int .i64] none (ofV (xsOf x))) := by
  rw [band_iff, ile_iff, llen_nat] at hc
  exact con1 hc.1 (sOfS_ok none _ (ile_t (by rw [llen_nat]; omega)))
theorem sGaS_ok (x : V) (a b : Int) (hc : band (isSp x) (ile (llen (xsOf x)) 30000) = true) : Contract sE 25 [x, .agg [.int .i64 a, .int .i64 b]] (.sl 24 [.int .i64, .int .i64] none (leV [.agg [.int .i64 a, .int .i64 b]] (xsOf x))) := by
  rw [band_iff, ile_iff, llen_nat] at hc
  exact con1y hc.1 (pGaps_ev _ a b (by omega))
theorem sGaS_ok_noontideref11_Gaps (x : V) (a b : Int) (hc : band (isSp x) (ile (llen (xsOf x)) 30000) = true) : Contract sE 26 [x, .agg [.int .i64 a, .int .i64 b]] (.sl 24 [.int .i64, .int .i64] none (leV [.agg [.int .i64 a, .int .i64 b]] (xsOf x))) := by
  rw [band_iff, ile_iff, llen_nat] at hc
  exact con1y hc.1 (pGaps11_ev _ a b (by omega))
theorem sFiS_ok (x : V) (t : Int) (hc : band (isSp x) (ile (llen (xsOf x)) 30000) = true) : Contract sE 10 [x, .int .i64 t] (.tup [.agg [.int .i64 (fdF (xsOf x) t), .int .i64 (fdT (xsOf x) t)], .bool (fdB (xsOf x) t)]) := by
  rw [band_iff, ile_iff, llen_nat] at hc
  exact con1y hc.1 (pFind_ev _ t (by omega))
theorem sFiS_ok_noontideref11_Find (x : V) (t : Int) (hc : band (isSp x) (ile (llen (xsOf x)) 30000) = true) : Contract sE 11 [x, .int .i64 t] (.tup [.agg [.int .i64 (fdF (xsOf x) t), .int .i64 (fdT (xsOf x) t)], .bool (fdB (xsOf x) t)]) := by
  rw [band_iff, ile_iff, llen_nat] at hc
  exact con1y hc.1 (pFind11_ev _ t (by omega))
theorem wfL_iff (xs : List V) : wfL xs = true ↔ FitL xs := by
  unfold wfL FitL EndsQ
  rw [List.all_eq_true]
  exact ⟨fun h s hs => by have := h s hs; rw [Bool.and_eq_true, fI_iff, fI_iff] at this; exact this, fun h s hs => by rw [Bool.and_eq_true, fI_iff, fI_iff]; exact h s hs⟩
theorem sTtS_ok (x : V) (hc : band (isSp x) (band (ile (llen (xsOf x)) 30000) (wfL (xsOf x))) = true) : Contract sE 12 [x] (.tup [.int .i64 (toI (xsOf x)), .int .i64 (toE (xsOf x))]) := by
  rw [band_iff, band_iff, ile_iff, llen_nat, wfL_iff] at hc
  exact con1 hc.1 (pTotal_ev _ (by omega) hc.2.2)
theorem sTtS_ok_noontideref11_Total (x : V) (hc : band (isSp x) (band (ile (llen (xsOf x)) 30000) (wfL (xsOf x))) = true) : Contract sE 13 [x] (.tup [.int .i64 (toI (xsOf x)), .int .i64 (toE (xsOf x))]) := by
  rw [band_iff, band_iff, ile_iff, llen_nat, wfL_iff] at hc
  exact con1 hc.1 (pTotal11_ev _ (by omega) hc.2.2)
theorem rtL_pair (a b : Int) (r : List Sp) : rtL ((a, b) :: r) = (decide (a < b) && rtR b r) := rfl
theorem rtR_pair (p a b : Int) (r : List Sp) : rtR p ((a, b) :: r) = ((decide (a < b) && decide (p < a)) && rtR b r) := rfl
theorem has1_pair (a b t : Int) : has1 (a, b) t = (decide (a ≤ t) && decide (t < b)) := rfl
theorem right_loop (xs : List V) (x2 : Bool) (F : Nat) (hl : xs.length ≤ 1000000) : ∀ (j i n : Nat), i + j = xs.length → j < n →
    pRightL_L0 F [] n xs x2 xs (llen xs) (i : Int) some = some (.bool (if i = 0 then rtL (spsOf xs) else rtR (asInt (acell (lget xs ((i : Int) - 1)) 1)) ((spsOf xs).drop i))) ∧
    pRightL11_L0 F [] n xs x2 xs (llen xs) (i : Int) some = some (.bool (if i = 0 then rtL (spsOf xs) else rtR (asInt (acell (lget xs ((i : Int) - 1)) 1)) ((spsOf xs).drop i))) := by
  intro j
  induction j with
  | zero =>
    intro i n hi hn
    obtain ⟨n, rfl⟩ : ∃ m, n = m + 1 := ⟨n - 1, by omega⟩
    rw [pRightL_L0_succ, pRightL11_L0_succ, sel_neg (ilt_f (by rw [llen_nat]; omega)), sel_neg (ilt_f (by rw [llen_nat]; omega)), List.drop_of_length_le (by rw [sps_len]; omega)]
    by_cases h : i = 0
    · have : spsOf xs = [] := List.eq_nil_of_length_eq_zero (by rw [sps_len]; omega)
      rw [if_pos h, this]
      exact ⟨rfl, rfl⟩
    · rw [if_neg h]
      exact ⟨rfl, rfl⟩
  | succ j ih =>
    intro i n hi hn
    obtain ⟨n, rfl⟩ : ∃ m, n = m + 1 := ⟨n - 1, by omega⟩
    have hd := sps_drop xs i (by omega)
    have hb : band (ile 0 (i : Int)) (ilt (i : Int) (llen xs)) = true := by rw [band_iff, ile_iff, ilt_iff, llen_nat]; omega
    have hlt : ilt (i : Int) (llen xs) = true := ilt_t (by rw [llen_nat]; omega)
    have hI : iadd .i64 (i : Int) 1 = ((i + 1 : Nat) : Int) := by rw [iadd64 (by omega)]; omega
    obtain ⟨h1, h2⟩ := ih (i + 1) n (by omega) (by omega)
    rw [if_neg (by omega), show (((i + 1 : Nat) : Int) - 1) = (i : Int) by omega] at h1 h2
    rw [pRightL_L0_succ, pRightL11_L0_succ, hb, hlt, hI, h1, h2]
    obtain ⟨R, hR⟩ : ∃ R, (spsOf xs).drop (i + 1) = R := ⟨_, rfl⟩
    rw [hR] at hd ⊢
    by_cases h0 : i = 0
    · subst h0
      rw [List.drop_zero] at hd
      have h00 : ilt 0 ((0 : Nat) : Int) = false := by decide
      rw [if_pos rfl, hd, h00, rtL_pair]
      by_cases hr : asInt (acell (lget xs ((0 : Nat) : Int)) 0) < asInt (acell (lget xs ((0 : Nat) : Int)) 1)
      · have e1 : ilt (asInt (acell (lget xs ((0 : Nat) : Int)) 0)) (asInt (acell (lget xs ((0 : Nat) : Int)) 1)) = true := ilt_t hr
        rw [e1, decide_eq_true hr, Bool.true_and]
        exact ⟨rfl, rfl⟩
      · have e1 : ilt (asInt (acell (lget xs ((0 : Nat) : Int)) 0)) (asInt (acell (lget xs ((0 : Nat) : Int)) 1)) = false := ilt_f (by omega)
        rw [e1, decide_eq_false hr, Bool.false_and]
        exact ⟨rfl, rfl⟩
    · have h00 : ilt 0 (i : Int) = true := ilt_t (by omega)
      have hs : isub .i64 (i : Int) 1 = (i : Int) - 1 := isub64 (by omega)
      have hb2 : band (ile 0 ((i : Int) - 1)) (ilt ((i : Int) - 1) (llen xs)) = true := by rw [band_iff, ile_iff, ilt_iff, llen_nat]; omega
      rw [if_neg h0, hd, h00, hs, hb2, rtR_pair]
      by_cases hr : asInt (acell (lget xs (i : Int)) 0) < asInt (acell (lget xs (i : Int)) 1)
      · have e1 : ilt (asInt (acell (lget xs (i : Int)) 0)) (asInt (acell (lget xs (i : Int)) 1)) = true := ilt_t hr
        rw [e1, decide_eq_true hr, Bool.true_and]
        by_cases hq : asInt (acell (lget xs ((i : Int) - 1)) 1) < asInt (acell (lget xs (i : Int)) 0)
        · have e2 : ile (asInt (acell (lget xs (i : Int)) 0)) (asInt (acell (lget xs ((i : Int) - 1)) 1)) = false := by rw [← Bool.not_eq_true, ile_iff]; omega
          rw [e2, decide_eq_true hq, Bool.true_and]
          exact ⟨rfl, rfl⟩
        · have e2 : ile (asInt (acell (lget xs (i : Int)) 0)) (asInt (acell (lget xs ((i : Int) - 1)) 1)) = true := ile_t (by omega)
          rw [e2, decide_eq_false hq, Bool.false_and]
          exact ⟨rfl, rfl⟩
      · have e1 : ilt (asInt (acell (lget xs (i : Int)) 0)) (asInt (acell (lget xs (i : Int)) 1)) = false := ilt_f (by omega)
        rw [e1, decide_eq_false hr, Bool.false_and, Bool.false_and]
        exact ⟨rfl, rfl⟩
theorem sRtS_ok (x : V) (hc : band (isSp x) (ile (llen (xsOf x)) 1000000) = true) : Contract sE 14 [x] (.bool (rtV (xsOf x))) := by
  rw [band_iff, ile_iff, llen_nat] at hc
  refine con1 hc.1 (contract_of_body sE_ok sS_ok ((xsOf x).length + 2) 2 ?_)
  rw [pRightL_top]
  exact (right_loop (xsOf x) false _ (by omega) (xsOf x).length 0 _ (by omega) (by omega)).1
theorem sRtS_ok_noontideref11_Right (x : V) (hc : band (isSp x) (ile (llen (xsOf x)) 1000000) = true) : Contract sE 15 [x] (.bool (rtV (xsOf x))) := by
  rw [band_iff, ile_iff, llen_nat] at hc
  refine con1 hc.1 (contract_of_body sE_ok sS_ok ((xsOf x).length + 2) 2 ?_)
  rw [pRightL11_top]
  exact (right_loop (xsOf x) false _ (by omega) (xsOf x).length 0 _ (by omega) (by omega)).2
theorem same_loop (xs ys : List V) (x4 : Bool) (F : Nat) (hl : xs.length ≤ 1000000) (he : xs.length = ys.length) : ∀ (j i n : Nat), i + j = xs.length → j < n →
    pSame10_L0 F [] n xs ys x4 (llen xs) (i : Int) some = some (.bool (decide ((spsOf xs).drop i = (spsOf ys).drop i))) := by
  intro j
  induction j with
  | zero =>
    intro i n hi hn
    obtain ⟨n, rfl⟩ : ∃ m, n = m + 1 := ⟨n - 1, by omega⟩
    rw [pSame10_L0_succ, sel_neg (ilt_f (by rw [llen_nat]; omega)), List.drop_of_length_le (by rw [sps_len]; omega), List.drop_of_length_le (by rw [sps_len]; omega)]
    rfl
  | succ j ih =>
    intro i n hi hn
    obtain ⟨n, rfl⟩ : ∃ m, n = m + 1 := ⟨n - 1, by omega⟩
    rw [pSame10_L0_succ, sel_pos (ilt_t (by rw [llen_nat]; omega)), sel_pos (by rw [band_iff, ile_iff, ilt_iff, llen_nat]; omega), sel_pos (by rw [band_iff, ile_iff, ilt_iff, llen_nat]; omega), sps_drop xs i (by omega), sps_drop ys i (by omega), iadd64 (by omega), show (i : Int) + 1 = ((i + 1 : Nat) : Int) by omega, ih (i + 1) n (by omega) (by omega)]
    by_cases h : asInt (acell (lget xs (i : Int)) 0) = asInt (acell (lget ys (i : Int)) 0) ∧ asInt (acell (lget xs (i : Int)) 1) = asInt (acell (lget ys (i : Int)) 1)
    · rw [sel_neg (by rw [← Bool.not_eq_true, bnot_iff, Classical.not_not, band_iff, ieq_iff, ieq_iff]; exact h), h.1, h.2]
      congr 2
      rw [decide_eq_decide]
      simp
    · rw [sel_pos (by rw [bnot_iff, band_iff, ieq_iff, ieq_iff]; exact h)]
      congr 2
      symm
      rw [decide_eq_false_iff_not]
      intro e
      have := (List.cons.inj e).1
      exact h ⟨congrArg Prod.fst this, congrArg Prod.snd this⟩
theorem sSaS_ok (x y : V) (hc : band (band (isSp x) (isSp y)) (band (ile (llen (xsOf x)) 1000000) (ile (llen (xsOf y)) 1000000)) = true) : Contract sE 16 [x, y] (.bool (saB (xsOf x) (xsOf y))) := by
  rw [band_iff, band_iff, band_iff, ile_iff, ile_iff, llen_nat, llen_nat] at hc
  obtain ⟨⟨c1, c2⟩, c3, c4⟩ := hc
  refine con2 c1 c2 (contract_of_body sE_ok sS_ok ((xsOf x).length + 2) 2 ?_)
  rw [pSame10_top]
  by_cases he : (xsOf x).length = (xsOf y).length
  · rw [sel_neg (by rw [← Bool.not_eq_true, bnot_iff, Classical.not_not, ieq_iff, llen_nat, llen_nat]; omega)]
    exact same_loop (xsOf x) (xsOf y) false _ (by omega) he (xsOf x).length 0 _ (by omega) (by omega)
  · rw [sel_pos (by rw [bnot_iff, ieq_iff, llen_nat, llen_nat]; omega)]
    have : saB (xsOf x) (xsOf y) = false := by
      unfold saB
      rw [decide_eq_false_iff_not]
      intro e
      have := congrArg List.length e
      rw [sps_len, sps_len] at this
      exact he this
    rw [this]
theorem in_loop (xs : List V) (t : Int) (x4 : Bool) (F : Nat) (hl : xs.length ≤ 1000000) : ∀ (j i n : Nat), i + j = xs.length → j < n →
    pIn_L0 F [] n xs t x4 xs (llen xs) (i : Int) some = some (.bool (Nt.Sps.hasL ((spsOf xs).drop i) t)) := by
  intro j
  induction j with
  | zero =>
    intro i n hi hn
    obtain ⟨n, rfl⟩ : ∃ m, n = m + 1 := ⟨n - 1, by omega⟩
    rw [pIn_L0_succ, sel_neg (ilt_f (by rw [llen_nat]; omega)), List.drop_of_length_le (by rw [sps_len]; omega)]
    rfl
  | succ j ih =>
    intro i n hi hn
    obtain ⟨n, rfl⟩ : ∃ m, n = m + 1 := ⟨n - 1, by omega⟩
    rw [pIn_L0_succ, sel_pos (ilt_t (by rw [llen_nat]; omega)), sel_pos (by rw [band_iff, ile_iff, ilt_iff, llen_nat]; omega), sps_drop xs i (by omega), iadd64 (by omega), show (i : Int) + 1 = ((i + 1 : Nat) : Int) by omega, ih (i + 1) n (by omega) (by omega), hasL_cons, has1_pair]
    by_cases h1 : asInt (acell (lget xs (i : Int)) 0) ≤ t
    · rw [sel_pos (ile_t h1)]
      by_cases h2 : t < asInt (acell (lget xs (i : Int)) 1)
      · rw [sel_pos (ilt_t h2), decide_eq_true h1, decide_eq_true h2]
        rfl
      · rw [sel_neg (ilt_f (by omega)), decide_eq_false h2, Bool.and_false, Bool.false_or]
    · rw [sel_neg (by rw [← Bool.not_eq_true, ile_iff]; exact h1), decide_eq_false h1, Bool.false_and, Bool.false_or]
theorem sInS_ok (x : V) (t : Int) (hc : band (isSp x) (ile (llen (xsOf x)) 1000000) = true) : Contract sE 27 [x, .int .i64 t] (.bool (hsB (xsOf x) t)) := by
  rw [band_iff, ile_iff, llen_nat] at hc
  refine con1y hc.1 (contract_of_body sE_ok sS_ok ((xsOf x).length + 2) 3 ?_)
  rw [pIn_top]
  exact in_loop (xsOf x) t false _ (by omega) (xsOf x).length 0 _ (by omega) (by omega)
theorem sLd_ok : SOk sE sLd := by
  unfold sLd
  refine SOk.cons (fun args r h => ?_) (SOk.cons (fun args r h => ?_) (SOk.cons (fun args r h => ?_) (SOk.cons (fun args r h => ?_) (SOk.cons (fun args r h => ?_) (SOk.cons (fun args r h => ?_) (SOk.cons (fun args r h => ?_) (SOk.cons (fun args r h => ?_) (SOk.cons (fun args r h => ?_) (SOk.cons (fun args r h => ?_) (SOk.cons (fun args r h => ?_) (SOk.cons (fun args r h => ?_) (SOk.cons (fun args r h => ?_) (SOk.cons (fun args r h => ?_) (sS9_ok))))))))))))))
  · unfold sOf2 at h
    split at h
    · simp only [Option.some.injEq, Prod.mk.injEq] at h
      obtain ⟨hc, rfl⟩ := h
      exact sOf2_ok _ hc
    · cases h
  · unfold sOf2 at h
    split at h
    · simp only [Option.some.injEq, Prod.mk.injEq] at h
      obtain ⟨hc, rfl⟩ := h
      exact sOf2_ok_noontideref11_Of _ hc
    · cases h
  · unfold sGaS at h
    split at h
    · simp only [Option.some.injEq, Prod.mk.injEq] at h
      obtain ⟨hc, rfl⟩ := h
      exact sGaS_ok _ _ _ hc
    · cases h
  · unfold sGaS at h
    split at h
    · simp only [Option.some.injEq, Prod.mk.injEq] at h
      obtain ⟨hc, rfl⟩ := h
      exact sGaS_ok_noontideref11_Gaps _ _ _ hc
    · cases h
  · unfold sFiS at h
    split at h
    · simp only [Option.some.injEq, Prod.mk.injEq] at h
      obtain ⟨hc, rfl⟩ := h
      exact sFiS_ok _ _ hc
    · cases h
  · unfold sFiS at h
    split at h
    · simp only [Option.some.injEq, Prod.mk.injEq] at h
      obtain ⟨hc, rfl⟩ := h
      exact sFiS_ok_noontideref11_Find _ _ hc
    · cases h
  · unfold sTtS at h
    split at h
    · simp only [Option.some.injEq, Prod.mk.injEq] at h
      obtain ⟨hc, rfl⟩ := h
      exact sTtS_ok _ hc
    · cases h
  · unfold sTtS at h
    split at h
    · simp only [Option.some.injEq, Prod.mk.injEq] at h
      obtain ⟨hc, rfl⟩ := h
      exact sTtS_ok_noontideref11_Total _ hc
    · cases h
  · unfold sRtS at h
    split at h
    · simp only [Option.some.injEq, Prod.mk.injEq] at h
      obtain ⟨hc, rfl⟩ := h
      exact sRtS_ok _ hc
    · cases h
  · unfold sRtS at h
    split at h
    · simp only [Option.some.injEq, Prod.mk.injEq] at h
      obtain ⟨hc, rfl⟩ := h
      exact sRtS_ok_noontideref11_Right _ hc
    · cases h
  · unfold sSaS at h
    split at h
    · simp only [Option.some.injEq, Prod.mk.injEq] at h
      obtain ⟨hc, rfl⟩ := h
      exact sSaS_ok _ _ hc
    · cases h
  · unfold sInS at h
    split at h
    · simp only [Option.some.injEq, Prod.mk.injEq] at h
      obtain ⟨hc, rfl⟩ := h
      exact sInS_ok _ _ hc
    · cases h
  · unfold sHaS at h
    split at h
    · simp only [Option.some.injEq, Prod.mk.injEq] at h
      obtain ⟨hc, rfl⟩ := h
      exact sHaS_ok _ _ _ rfl
    · cases h
  · unfold sHaS at h
    split at h
    · simp only [Option.some.injEq, Prod.mk.injEq] at h
      obtain ⟨hc, rfl⟩ := h
      exact sHaS_ok_noontideref10_Has _ _ _ rfl
    · cases h
set_option maxRecDepth 100000 in
theorem sLvS_ok (hc : true = true) : Contract sE 9 [] (.bool true) := by
  refine contract_of_body sE_ok sLd_ok 60 4 ?_
  kernel_rfl
theorem sL_ok : SOk sE sL := by
  unfold sL
  refine SOk.cons (fun args r h => ?_) (sLd_ok)
  · unfold sLvS at h
    split at h
    · simp only [Option.some.injEq, Prod.mk.injEq] at h
      obtain ⟨hc, rfl⟩ := h
      exact sLvS_ok  rfl
    · cases h
end Nt.Ev.Ytjobobdijjppkaa.Sp

set_option linter.unusedVariables false
set_option linter.unusedSimpArgs false
set_option linter.unusedSectionVars false
namespace Nt.Ev.Ytjobobdijjppkaa.Sp
open Go Go.RowKit Nt Nt.Num Nt.Sps Go.Proofs.Ytjobobdijjppkaa
theorem st (x y : Option V) : sel true x y = x := rfl
theorem sf (x y : Option V) : sel false x y = y := rfl
theorem band_t (b : Bool) : band true b = b := rfl
theorem ieq_self (a : Int) : ieq a a = true := by rw [ieq_iff]
theorem beq_self (a : Bool) : beq a a = true := by rw [beq_iff]
theorem saB_self (xs : List V) : saB xs xs = true := by unfold saB; exact decide_eq_true rfl
theorem orV_len (xs ys : List V) : (orV xs ys).length ≤ xs.length + ys.length := by
  unfold orV orL
  rw [spV_len]
  have := of_len (spsOf xs ++ spsOf ys)
  rw [List.length_append, sps_len, sps_len] at this
  exact this
theorem boths_len (a b : List Sp) : (boths a b).length ≤ a.length * b.length := by
  unfold boths
  induction a with
  | nil => simp
  | cons x a ih =>
    have : ∀ l : List Sp, (l.flatMap fun y => if meetB x y then [bothS x y] else []).length ≤ l.length := by
      intro l
      induction l with
      | nil => exact Nat.le_refl _
      | cons y l ih =>
        rw [List.flatMap_cons, List.length_append, List.length_cons]
        have : (if meetB x y then [bothS x y] else []).length ≤ 1 := by split <;> simp
        omega
    have := this b
    rw [List.flatMap_cons, List.length_append, List.length_cons, Nat.succ_mul]
    omega
theorem anV_len (xs ys : List V) : (anV xs ys).length ≤ xs.length * ys.length := by
  unfold anV andL
  rw [spV_len]
  have h1 := of_len (boths (spsOf xs) (spsOf ys))
  have h2 := boths_len (spsOf xs) (spsOf ys)
  rw [sps_len, sps_len] at h2
  omega
theorem leV_len (xs ys : List V) : (leV xs ys).length ≤ xs.length + ys.length := by
  unfold leV lessL
  rw [spV_len]
  have h1 := of_len (spsOf xs)
  rw [sps_len] at h1
  have : ∀ (l A : List Sp), Canon A → (l.foldl less2 A).length ≤ A.length + l.length := by
    intro l
    induction l with
    | nil => intro A _; simp
    | cons x l ih =>
      intro A hA
      have k1 := ih (less2 A x) (less2_ok x hA).1
      have k2 := less2_len (y := x) hA
      rw [List.foldl_cons, List.length_cons]; omega
  have := this (spsOf ys) _ (of_canon (spsOf xs))
  rw [sps_len] at this
  omega
theorem ll (L : List V) (n : Int) (h : (L.length : Int) ≤ n) : ile (llen L) n = true := ile_t (by rw [llen_nat]; exact h)
theorem sp_T (xs ys : List V) (a b t : Int) (hf : FitL xs) : Contract sE 3 [.sl 24 [.int .i64, .int .i64] none xs, .sl 24 [.int .i64, .int .i64] none ys, .agg [.int .i64 a, .int .i64 b], .int .i64 t] (.bool true) := by
  refine contract_of_body sE_ok sL_ok 5 2 ?_
  rw [l11T_top]
  by_cases c1 : 40 < llen xs
  · rw [sel_pos (ilt_t c1)]
  rw [sel_neg (ilt_f (by omega))]
  by_cases c2 : 40 < llen ys
  · rw [sel_pos (ilt_t c2)]
  rw [sel_neg (ilt_f (by omega))]
  rw [llen_nat] at c1 c2
  have hp : xs.length * ys.length ≤ 40 * 40 := Nat.mul_le_mul (by omega) (by omega)
  have l1 := ofV_len xs
  have l2 := orV_len xs ys
  have l3 := anV_len xs ys
  have l4 := leV_len xs ys
  have l5 := leV_len [.agg [.int .i64 a, .int .i64 b]] xs
  rw [List.length_singleton] at l5
  have e1 := ll xs 30000 (by omega)
  have e2 := ll ys 30000 (by omega)
  have e3 := ll xs 1000000 (by omega)
  have e4 := ll xs 300 (by omega)
  have e5 := ll ys 300 (by omega)
  have e6 := ll (ofV xs) 1000000 (by omega)
  have e7 := ll (orV xs ys) 1000000 (by omega)
  have e8 := ll (anV xs ys) 1000000 (by omega)
  have e9 := ll (leV xs ys) 1000000 (by omega)
  have e10 := ll (leV [.agg [.int .i64 a, .int .i64 b]] xs) 1000000 (by omega)
  have e11 := (wfL_iff xs).2 hf
  simp only [e1, e2, e3, e4, e5, e6, e7, e8, e9, e10, e11, band_t, st, ieq_self, beq_self, saB_self]
theorem rtV_of (l : List Sp) (h : Canon l) : rtV (spV l) = true := by unfold rtV; rw [sps_V]; exact rtL_iff.2 h
theorem hsB_of (l : List Sp) (t : Int) : hsB (spV l) t = Nt.Sps.hasL l t := by unfold hsB; rw [sps_V]
theorem bnot_t : bnot true = false := rfl
theorem fd_has (xs : List V) (t : Int) : fdB xs t = hsB xs t := by
  unfold fdB hsB
  rw [find_has, of_has]
theorem fd_in (xs : List V) (t : Int) : band (ile (fdF xs t) t) (ilt t (fdT xs t)) = fdB xs t := by
  unfold fdF fdT fdB
  cases h : findS t (ofL (spsOf xs)) with
  | none =>
    show band (ile 0 t) (ilt t 0) = false
    rw [← Bool.not_eq_true, band_iff, ile_iff, ilt_iff]
    omega
  | some s =>
    rw [Bool.eq_iff_iff, band_iff, ile_iff, ilt_iff]
    exact ⟨fun _ => rfl, fun _ => has1_iff.1 (find_in h)⟩
theorem sp_S (xs ys : List V) (a b t : Int) : Contract sE 4 [.sl 24 [.int .i64, .int .i64] none xs, .sl 24 [.int .i64, .int .i64] none ys, .agg [.int .i64 a, .int .i64 b], .int .i64 t] (.bool true) := by
  refine contract_of_body sE_ok sL_ok 5 2 ?_
  rw [l11S_top]
  by_cases c1 : 40 < llen xs
  · rw [sel_pos (ilt_t c1)]
  rw [sel_neg (ilt_f (by omega))]
  by_cases c2 : 40 < llen ys
  · rw [sel_pos (ilt_t c2)]
  rw [sel_neg (ilt_f (by omega))]
  rw [llen_nat] at c1 c2
  have hp : xs.length * ys.length ≤ 40 * 40 := Nat.mul_le_mul (by omega) (by omega)
  have l1 := ofV_len xs
  have l2 := orV_len xs ys
  have l3 := anV_len xs ys
  have l4 := leV_len xs ys
  have l5 := leV_len [.agg [.int .i64 a, .int .i64 b]] xs
  rw [List.length_singleton] at l5
  have e1 := ll xs 30000 (by omega)
  have e2 := ll ys 30000 (by omega)
  have e3 := ll xs 1000000 (by omega)
  have e3' := ll ys 1000000 (by omega)
  have e4 := ll xs 300 (by omega)
  have e5 := ll ys 300 (by omega)
  have e6 := ll (ofV xs) 1000000 (by omega)
  have e7 := ll (orV xs ys) 1000000 (by omega)
  have e8 := ll (anV xs ys) 1000000 (by omega)
  have e9 := ll (leV xs ys) 1000000 (by omega)
  have e10 := ll (leV [.agg [.int .i64 a, .int .i64 b]] xs) 1000000 (by omega)
  have r1 : rtV (ofV xs) = true := rtV_of _ (of_canon _)
  have r2 : rtV (orV xs ys) = true := rtV_of _ (or_canon _ _)
  have r3 : rtV (anV xs ys) = true := rtV_of _ (and_canon _ _)
  have r4 : rtV (leV xs ys) = true := rtV_of _ (less_canon _ _)
  have r5 : rtV (leV [.agg [.int .i64 a, .int .i64 b]] xs) = true := rtV_of _ (less_canon _ _)
  have h1 : hsB (ofV xs) t = hsB xs t := (hsB_of _ t).trans (of_has _ t)
  have h2 : hsB (orV xs ys) t = (hsB xs t || hsB ys t) := (hsB_of _ t).trans (or_has _ _ t)
  have h3 : hsB (anV xs ys) t = (hsB xs t && hsB ys t) := (hsB_of _ t).trans (and_has _ _ t)
  have h4 : hsB (leV xs ys) t = (hsB xs t && !hsB ys t) := (hsB_of _ t).trans (less_has _ _ t)
  have h5 : hsB (leV [.agg [.int .i64 a, .int .i64 b]] xs) t = (band (ile a t) (ilt t b) && !hsB xs t) := by
    refine (hsB_of _ t).trans ((less_has _ _ t).trans ?_)
    have : Nt.Sps.hasL (spsOf [V.agg [.int .i64 a, .int .i64 b]]) t = band (ile a t) (ilt t b) := by
      show (has1 (a, b) t || false) = _
      rw [Bool.or_false, Bool.eq_iff_iff, has1_iff, band_iff, ile_iff, ilt_iff]
    rw [this]
    rfl
  rw [fd_in, fd_has]
  simp only [e1, e2, e3, e3', e4, e5, e6, e7, e8, e9, e10, r1, r2, r3, r4, r5, h1, h2, h3, h4, h5, band_t, st, sf, bnot_t, beq_self]
  generalize hsB xs t = p
  generalize hsB ys t = q
  generalize band (ile a t) (ilt t b) = r
  cases p <;> cases q <;> cases r <;> rfl
theorem spans_of {P : Program} {xs : List V} (h : ∀ x ∈ xs, ∃ ys, x = .agg ys ∧ fitsL [Kd.int .i64, Kd.int .i64] ys = true ∧ ∀ y ∈ ys, okC P y) : FitL xs := by
  intro p hp
  obtain ⟨x, hx, rfl⟩ := List.mem_map.1 hp
  obtain ⟨ys, rfl, h1, h2⟩ := h x hx
  obtain ⟨y, t, rfl, k1, k2⟩ := fitsL_cons h1
  obtain ⟨z, u, rfl, k3, k4⟩ := fitsL_cons k2
  obtain rfl := fitsL_nil k4
  obtain ⟨a, rfl⟩ := fits_int k1
  obtain ⟨b, rfl⟩ := fits_int k3
  have h3 := h2 (.int .i64 a) (by simp)
  have h4 := h2 (.int .i64 b) (by simp)
  unfold okC at h3 h4
  exact ⟨bounds_i64 h3, bounds_i64 h4⟩
end Nt.Ev.Ytjobobdijjppkaa.Sp

set_option linter.unusedVariables false
set_option linter.unusedSimpArgs false
namespace Nt.Sps
def mu (p : Int → Bool) (lo : Int) : Nat → Int
  | 0 => 0
  | n + 1 => mu p lo n + (if p (lo + n) = true then 1 else 0)
theorem mu_ext {p q : Int → Bool} (h : ∀ t, p t = q t) (lo : Int) : ∀ n, mu p lo n = mu q lo n
  | 0 => rfl
  | n + 1 => by unfold mu; rw [mu_ext h lo n, h]
theorem mu_add (p q : Int → Bool) (lo : Int) : ∀ n, mu (fun t => p t || q t) lo n + mu (fun t => p t && q t) lo n = mu p lo n + mu q lo n
  | 0 => rfl
  | n + 1 => by
    have ih := mu_add p q lo n
    unfold mu
    cases p (lo + n) <;> cases q (lo + n) <;> simp <;> omega
theorem mu_le {p q : Int → Bool} (h : ∀ t, p t = true → q t = true) (lo : Int) : ∀ n, mu p lo n ≤ mu q lo n
  | 0 => Int.le_refl _
  | n + 1 => by
    have ih := mu_le h lo n
    unfold mu
    cases hp : p (lo + n) with
    | true => rw [h _ hp]; simp; omega
    | false => cases q (lo + n) <;> simp <;> omega
theorem mu_zero {p : Int → Bool} (h : ∀ t, p t = false) (lo : Int) : ∀ n, mu p lo n = 0
  | 0 => rfl
  | n + 1 => by unfold mu; rw [mu_zero h lo n, h]; rfl
theorem mu_one {s : Sp} {lo : Int} (hs : s.1 < s.2) (hl : lo ≤ s.1) : ∀ n : Nat, mu (has1 s) lo n = if lo + n ≤ s.1 then 0 else if lo + n ≤ s.2 then lo + n - s.1 else s.2 - s.1
  | 0 => by
    show (0 : Int) = _
    rw [if_pos (by omega)]
  | n + 1 => by
    unfold mu
    rw [mu_one hs hl n]
    by_cases h : has1 s (lo + n) = true
    · rw [if_pos h]
      rw [has1_iff] at h
      repeat' split
      all_goals omega
    · rw [if_neg h]
      rw [has1_iff] at h
      repeat' split
      all_goals omega
def lenL : List Sp → Int
  | [] => 0
  | s :: r => (s.2 - s.1) + lenL r
theorem len_mu {lo : Int} {n : Nat} : ∀ {l : List Sp}, Canon l → (∀ s ∈ l, lo ≤ s.1 ∧ s.2 ≤ lo + n) → lenL l = mu (hasL l) lo n
  | [], _, _ => (mu_zero (fun t => rfl) lo n).symm
  | s :: r, hc, h => by
    have ih := len_mu (lo := lo) (n := n) hc.2.2 (fun x hx => h x (List.mem_cons_of_mem _ hx))
    obtain ⟨h1, h2⟩ := h s (by simp)
    have hs := hc.1
    have ho : mu (has1 s) lo n = s.2 - s.1 := by
      rw [mu_one hc.1 h1 n]
      repeat' split
      all_goals omega
    have ha := mu_add (has1 s) (hasL r) lo n
    have hz : mu (fun t => has1 s t && hasL r t) lo n = 0 := mu_zero (fun t => by
      cases hq : has1 s t with
      | false => rfl
      | true =>
        have := (has1_iff.1 hq).2
        rw [hasL_out hc.2.1 (by omega)]; rfl) lo n
    have he : mu (hasL (s :: r)) lo n = mu (fun t => has1 s t || hasL r t) lo n := mu_ext (fun t => hasL_cons s r t) lo n
    rw [he]
    unfold lenL
    rw [ih]
    omega
theorem len_nonneg : ∀ {l : List Sp}, Canon l → 0 ≤ lenL l
  | [], _ => Int.le_refl _
  | s :: r, h => by
    have := len_nonneg h.2.2
    have := h.1
    unfold lenL
    omega
theorem scan_b {S : List Int} : ∀ (l : List Sp) (s : Sp), (∀ x ∈ l, x.1 ∈ S) → s.1 ∈ S → (scan l s).1.1 ∈ S ∧ ∀ x ∈ (scan l s).2, x.1 ∈ S
  | [], s, _, h => ⟨h, fun x hx => nomatch hx⟩
  | x :: r, s, hl, h => by
    have hx := hl x (by simp)
    have hr : ∀ y ∈ r, y.1 ∈ S := fun y hy => hl y (List.mem_cons_of_mem _ hy)
    unfold scan
    split
    · exact scan_b r _ hr (min_q (Q := fun v => v ∈ S) hx h)
    · split
      · obtain ⟨h1, h2⟩ := scan_b r s hr h
        refine ⟨h1, fun y hy => ?_⟩
        rcases List.mem_cons.1 hy with rfl | hy
        · exact hx
        · exact h2 y hy
      · exact scan_b r s hr h
theorem of_b {S : List Int} {l : List Sp} (hl : ∀ x ∈ l, x.1 ∈ S) : ∀ x ∈ ofL l, x.1 ∈ S := by
  have : ∀ (l A : List Sp), (∀ x ∈ l, x.1 ∈ S) → (∀ x ∈ A, x.1 ∈ S) → ∀ x ∈ l.foldl putL A, x.1 ∈ S := by
    intro l
    induction l with
    | nil => intro A _ h; exact h
    | cons s l ih =>
      intro A h1 h2
      refine ih _ (fun x hx => h1 x (List.mem_cons_of_mem _ hx)) ?_
      unfold putL
      split
      · obtain ⟨k1, k2⟩ := scan_b A s h2 (h1 s (by simp))
        intro x hx
        rcases List.mem_append.1 hx with hx | hx
        · exact k2 x hx
        · rcases List.mem_cons.1 hx with rfl | hx
          · exact k1
          · exact h2 x (List.mem_filter.1 hx).1
      · exact h2
  exact this l [] hl (fun x hx => nomatch hx)
theorem nodup_len {α : Type} [DecidableEq α] : ∀ (l m : List α), l.Nodup → (∀ x ∈ l, x ∈ m) → l.length ≤ m.length
  | [], _, _, _ => Nat.zero_le _
  | x :: r, m, hn, hs => by
    have hx : x ∈ m := hs x (by simp)
    have h := nodup_len r (m.erase x) (List.nodup_cons.1 hn).2 (fun y hy => by
      have hne : y ≠ x := fun e => (List.nodup_cons.1 hn).1 (by rw [← e]; exact hy)
      exact (List.mem_erase_of_ne hne).2 (hs y (List.mem_cons_of_mem _ hy)))
    rw [List.length_erase_of_mem hx] at h
    have : 0 < m.length := List.length_pos_of_mem hx
    rw [List.length_cons]
    omega
theorem canon_nodup : ∀ {l : List Sp}, Canon l → (l.map Prod.fst).Nodup
  | [], _ => List.nodup_nil
  | s :: r, h => by
    rw [List.map_cons, List.nodup_cons]
    refine ⟨fun hm => ?_, canon_nodup h.2.2⟩
    obtain ⟨x, hx, e⟩ := List.mem_map.1 hm
    have := h.2.1 x hx
    have := h.1
    omega
theorem and_few (a b : List Sp) : (andL a b).length ≤ a.length + b.length := by
  have hb : ∀ x ∈ boths a b, x.1 ∈ a.map Prod.fst ++ b.map Prod.fst := by
    intro z hz
    unfold boths at hz
    obtain ⟨x, hx, hz⟩ := List.mem_flatMap.1 hz
    obtain ⟨y, hy, hz⟩ := List.mem_flatMap.1 hz
    split at hz
    · have : z = bothS x y := by simpa using hz
      rw [this]
      exact max_q (Q := fun v => v ∈ a.map Prod.fst ++ b.map Prod.fst) (List.mem_append_left _ (List.mem_map.2 ⟨x, hx, rfl⟩)) (List.mem_append_right _ (List.mem_map.2 ⟨y, hy, rfl⟩))
    · exact nomatch hz
  have := nodup_len ((andL a b).map Prod.fst) (a.map Prod.fst ++ b.map Prod.fst) (canon_nodup (and_canon a b)) (fun v hv => by
    obtain ⟨x, hx, rfl⟩ := List.mem_map.1 hv
    exact of_b hb x hx)
  rw [List.length_map, List.length_append, List.length_map, List.length_map] at this
  exact this
theorem hasL_rev (l : List Sp) (t : Int) : hasL l.reverse t = hasL l t := by
  rw [Bool.eq_iff_iff, hasL_iff, hasL_iff]
  simp
end Nt.Sps

set_option linter.unusedVariables false
set_option linter.unusedSimpArgs false
set_option linter.unusedSectionVars false
namespace Nt.Ev.Ytjobobdijjppkaa.Sp
open Go Go.RowKit Nt Nt.Num Nt.Sps Go.Proofs.Ytjobobdijjppkaa
theorem to_len : ∀ {l : List Sp}, Canon l → EndsQ Fits l → ∀ a : Int, 0 ≤ a → a ≤ 9223372036854775807 → toP l a = if a + lenL l ≤ 9223372036854775807 then (a + lenL l, 0) else (0, 1)
  | [], _, _, a, _, h => by
    show (a, (0 : Int)) = if a + 0 ≤ 9223372036854775807 then (a + 0, 0) else (0, 1)
    rw [if_pos (by omega), Int.add_zero]
  | s :: r, hc, hf, a, h0, h1 => by
    have hs := hc.1
    have hr := len_nonneg hc.2.2
    have e : lenL (s :: r) = (s.2 - s.1) + lenL r := rfl
    unfold toP
    by_cases hl : s.2 - s.1 ≤ 9223372036854775807
    · have ht : told (s.2 - s.1) = (s.2 - s.1, 0) := told_yes ⟨by omega, hl⟩
      have hle : le10 s.1 s.2 = 0 := by unfold le10 suE; rw [if_pos hs, ht]
      have hln : ln10 s.1 s.2 = s.2 - s.1 := by unfold ln10 suI; rw [if_pos hs, ht]
      rw [hle, if_neg (by decide), hln]
      by_cases ha : a + (s.2 - s.1) ≤ 9223372036854775807
      · have hta : told (a + (s.2 - s.1)) = (a + (s.2 - s.1), 0) := told_yes ⟨by omega, ha⟩
        have hE : adE a (s.2 - s.1) = 0 := by unfold adE; rw [hta]
        have hI : adI a (s.2 - s.1) = a + (s.2 - s.1) := by unfold adI; rw [hta]
        rw [hE, if_neg (by decide), hI, to_len hc.2.2 (fun x hx => hf x (List.mem_cons_of_mem _ hx)) _ (by omega) ha, e, Int.add_assoc]
      · have hta : told (a + (s.2 - s.1)) = (0, 1) := told_no (fun h => ha h.2)
        have hE : adE a (s.2 - s.1) = 1 := by unfold adE; rw [hta]
        rw [hE, if_pos (by decide), if_neg (by omega)]
    · have ht : told (s.2 - s.1) = (0, 1) := told_no (fun h => hl h.2)
      have hle : le10 s.1 s.2 = 1 := by unfold le10 suE; rw [if_pos hs, ht]
      rw [hle, if_pos (by decide), if_neg (by omega)]
noncomputable def meV (xs : List V) : Int := lenL (ofL (spsOf xs))
theorem me_pos (xs : List V) : 0 ≤ meV xs := len_nonneg (of_canon _)
theorem to_E (xs : List V) (hf : FitL xs) : toE xs = if meV xs ≤ 9223372036854775807 then 0 else 1 := by
  unfold toE
  rw [to_len (of_canon _) (of_q hf) 0 (by omega) (by omega), Int.zero_add]
  unfold meV
  split <;> rfl
theorem to_I (xs : List V) (hf : FitL xs) (h : meV xs ≤ 9223372036854775807) : toI xs = meV xs := by
  unfold toI
  rw [to_len (of_canon _) (of_q hf) 0 (by omega) (by omega), Int.zero_add]
  unfold meV at h ⊢
  rw [if_pos h]
theorem me_mu (xs : List V) (hf : FitL xs) : meV xs = mu (Nt.Sps.hasL (spsOf xs)) (-9223372036854775808) 18446744073709551615 := by
  have h1 := len_mu (lo := -9223372036854775808) (n := 18446744073709551615) (of_canon (spsOf xs)) (fun s hs => by
    have := of_q hf s hs
    unfold Fits at this
    omega)
  unfold meV
  rw [h1]
  exact mu_ext (fun t => of_has _ t) _ _
theorem fit_and {xs ys : List V} (h : FitL xs) (k : FitL ys) : FitL (anV xs ys) := by unfold FitL anV; rw [sps_V]; exact and_q h k
theorem fit_or {xs ys : List V} (h : FitL xs) (k : FitL ys) : FitL (orV xs ys) := by unfold FitL orV; rw [sps_V]; exact or_q h k
theorem me_add (xs ys : List V) (h : FitL xs) (k : FitL ys) : meV (orV xs ys) + meV (anV xs ys) = meV xs + meV ys ∧ meV (anV xs ys) ≤ meV xs ∧ meV (anV xs ys) ≤ meV ys := by
  have e1 : ∀ t, Nt.Sps.hasL (spsOf (orV xs ys)) t = (Nt.Sps.hasL (spsOf xs) t || Nt.Sps.hasL (spsOf ys) t) := fun t => by unfold orV; rw [sps_V]; exact or_has _ _ t
  have e2 : ∀ t, Nt.Sps.hasL (spsOf (anV xs ys)) t = (Nt.Sps.hasL (spsOf xs) t && Nt.Sps.hasL (spsOf ys) t) := fun t => by unfold anV; rw [sps_V]; exact and_has _ _ t
  rw [me_mu _ (fit_or h k), me_mu _ (fit_and h k), me_mu _ h, me_mu _ k, mu_ext e1, mu_ext e2]
  refine ⟨mu_add _ _ _ _, mu_le (fun t ht => ?_) _ _, mu_le (fun t ht => ?_) _ _⟩
  · rw [Bool.and_eq_true] at ht; exact ht.1
  · rw [Bool.and_eq_true] at ht; exact ht.2
theorem saB_of {xs ys : List V} (h : spsOf xs = spsOf ys) : saB xs ys = true := by unfold saB; exact decide_eq_true h
theorem anV_few (xs ys : List V) : (anV xs ys).length ≤ xs.length + ys.length := by
  unfold anV
  rw [spV_len]
  have := and_few (spsOf xs) (spsOf ys)
  rw [sps_len, sps_len] at this
  exact this
theorem alg_end (xs ys : List V) (hf : FitL xs) (hg : FitL ys) (R : List Sp) (n F : Nat) (h1 : xs.length ≤ 40) (h2 : ys.length ≤ 40) (hR : R = (spsOf xs).reverse) (x4 : Bool) (i : Int) (hi : (xs.length : Int) ≤ i) :
    l11A_L0 F [] (n + 1) xs ys x4 (spV R) (llen xs) i some = some (.bool true) := by
  have hRl : (spV R).length = xs.length := by rw [spV_len, hR, List.length_reverse, sps_len]
  have l1 := ofV_len xs
  have l1' := ofV_len (ofV xs)
  have l1'' := ofV_len (spV R)
  have l2 := orV_len xs ys
  have l2' := orV_len ys xs
  have l3 := anV_few xs ys
  have l3' := anV_few ys xs
  have l4 := leV_len xs ys
  have l6 := orV_len (leV xs ys) (anV xs ys)
  have e1 := ll xs 30000 (by omega)
  have e2 := ll ys 30000 (by omega)
  have e3 := ll xs 1000000 (by omega)
  have e4 := ll xs 300 (by omega)
  have e5 := ll ys 300 (by omega)
  have e6 := ll (ofV xs) 1000000 (by omega)
  have e6' := ll (ofV xs) 30000 (by omega)
  have e6'' := ll (ofV (ofV xs)) 1000000 (by omega)
  have e7 := ll (orV xs ys) 1000000 (by omega)
  have e7' := ll (orV xs ys) 30000 (by omega)
  have e7'' := ll (orV ys xs) 1000000 (by omega)
  have e8 := ll (anV xs ys) 1000000 (by omega)
  have e8' := ll (anV xs ys) 30000 (by omega)
  have e8'' := ll (anV xs ys) 300 (by omega)
  have e8''' := ll (anV ys xs) 1000000 (by omega)
  have e9 := ll (leV xs ys) 30000 (by omega)
  have e9' := ll (leV xs ys) 300 (by omega)
  have e10 := ll (orV (leV xs ys) (anV xs ys)) 1000000 (by omega)
  have e11 := ll (spV R) 30000 (by omega)
  have e12 := ll (ofV (spV R)) 1000000 (by omega)
  have w1 := (wfL_iff xs).2 hf
  have w2 := (wfL_iff ys).2 hg
  have w3 := (wfL_iff _).2 (fit_and hf hg)
  have w4 := (wfL_iff _).2 (fit_or hf hg)
  have s1 : saB (ofV (spV R)) (ofV xs) = true := saB_of (by
    unfold ofV
    rw [sps_V, sps_V, sps_V, hR]
    exact of_eq (hasL_rev _))
  have s2 : saB (ofV (ofV xs)) (ofV xs) = true := saB_of (by
    unfold ofV
    rw [sps_V, sps_V]
    exact of_self (of_canon _))
  have s3 : saB (orV (leV xs ys) (anV xs ys)) (ofV xs) = true := saB_of (by
    unfold orV leV anV ofV
    rw [sps_V, sps_V, sps_V, sps_V]
    refine canon_ext (or_canon _ _) (of_canon _) fun t => ?_
    rw [or_has, less_has, and_has, of_has]
    cases Nt.Sps.hasL (spsOf xs) t <;> cases Nt.Sps.hasL (spsOf ys) t <;> rfl)
  have s4 : anV (leV xs ys) (anV xs ys) = [] := by
    have : andL (spsOf (leV xs ys)) (spsOf (anV xs ys)) = [] := canon_ext (and_canon _ _) trivial fun t => by
      unfold leV anV
      rw [sps_V, sps_V, and_has, less_has, and_has, Nt.Sps.hasL_nil]
      cases Nt.Sps.hasL (spsOf xs) t <;> cases Nt.Sps.hasL (spsOf ys) t <;> rfl
    have e : anV (leV xs ys) (anV xs ys) = spV (andL (spsOf (leV xs ys)) (spsOf (anV xs ys))) := rfl
    rw [e, this]; rfl
  have s5 : saB (anV ys xs) (anV xs ys) = true := saB_of (by
    unfold anV
    rw [sps_V, sps_V]
    exact canon_ext (and_canon _ _) (and_canon _ _) fun t => by rw [and_has, and_has, Bool.and_comm])
  have s6 : saB (orV xs ys) (orV ys xs) = true := saB_of (by
    unfold orV
    rw [sps_V, sps_V]
    exact canon_ext (or_canon _ _) (or_canon _ _) fun t => by rw [or_has, or_has, Bool.or_comm])
  have i0 : ieq (llen []) 0 = true := by decide
  obtain ⟨m1, m2, m3⟩ := me_add xs ys hf hg
  have p1 := me_pos xs
  have p2 := me_pos ys
  have p3 := me_pos (anV xs ys)
  have p4 := me_pos (orV xs ys)
  have key : sel (bnot (ieq (toE xs) 0)) (sel (ieq (toE xs) 0) (some (V.bool true)) (some (V.bool (bnot (ieq (toE (orV xs ys)) 0)))))
      (sel (bnot (ieq (toE ys) 0)) (sel (ieq (toE xs) 0) (some (V.bool true)) (some (V.bool (bnot (ieq (toE (orV xs ys)) 0)))))
        (sel (bnot (ieq (toE (orV xs ys)) 0)) (sel (ieq (toE xs) 0) (some (V.bool true)) (some (V.bool (bnot (ieq (toE (orV xs ys)) 0)))))
          (sel (ieq (toE (anV xs ys)) 0) (some (V.bool (ieq (isub .i64 (toI xs) (toI (anV xs ys))) (isub .i64 (toI (orV xs ys)) (toI ys))))) (some (.bool false))))) = some (.bool true) := by
    rw [to_E xs hf, to_E ys hg, to_E _ (fit_or hf hg), to_E _ (fit_and hf hg)]
    by_cases q1 : meV xs ≤ 9223372036854775807
    · rw [if_pos q1]
      by_cases q2 : meV ys ≤ 9223372036854775807
      · rw [if_pos q2]
        by_cases q3 : meV (orV xs ys) ≤ 9223372036854775807
        · rw [if_pos q3, if_pos (by omega), to_I xs hf q1, to_I ys hg q2, to_I _ (fit_or hf hg) q3, to_I _ (fit_and hf hg) (by omega), isub64 (by omega), isub64 (by omega)]
          have : ieq (meV xs - meV (anV xs ys)) (meV (orV xs ys) - meV ys) = true := by rw [ieq_iff]; omega
          rw [this]
          rfl
        · rw [if_neg q3]; rfl
      · rw [if_neg q2]; rfl
    · rw [if_neg q1, if_neg (show ¬ meV (orV xs ys) ≤ 9223372036854775807 by omega)]; rfl
  rw [l11A_L0_succ, sel_neg (ilt_f (by rw [llen_nat]; omega))]
  simp only [e1, e2, e3, e4, e5, e6, e6', e6'', e7, e7', e7'', e8, e8', e8'', e8''', e9, e9', e10, e11, e12, w1, w2, w3, w4, s1, s2, s3, s4, s5, s6, i0, band_t, st, sf, bnot_t, key]
  cases hr : rtV xs with
  | false => rfl
  | true =>
    have s7 : saB (ofV xs) xs = true := saB_of (by
      unfold ofV
      rw [sps_V]
      exact of_self (rtL_iff.1 hr))
    simp only [s7, bnot_t, st, sf]
theorem alg_loop (xs ys : List V) (hf : FitL xs) (hg : FitL ys) (h1 : xs.length ≤ 40) (h2 : ys.length ≤ 40) (x4 : Bool) (F : Nat) : ∀ (j i n : Nat), i + j = xs.length → j < n →
    l11A_L0 F [] n xs ys x4 (spV ((spsOf xs).drop j).reverse) (llen xs) (i : Int) some = some (.bool true) := by
  intro j
  induction j with
  | zero =>
    intro i n hi hn
    obtain ⟨n, rfl⟩ : ∃ m, n = m + 1 := ⟨n - 1, by omega⟩
    rw [List.drop_zero]
    exact alg_end xs ys hf hg _ n F h1 h2 rfl x4 _ (by omega)
  | succ j ih =>
    intro i n hi hn
    obtain ⟨n, rfl⟩ : ∃ m, n = m + 1 := ⟨n - 1, by omega⟩
    have e : isub .i64 (isub .i64 (llen xs) 1) (i : Int) = (j : Int) := by
      have e0 : isub .i64 (xs.length : Int) 1 = (xs.length : Int) - 1 := isub64 (by omega)
      rw [llen_nat, e0, isub64 (by omega)]; omega
    have hlen : (spV ((spsOf xs).drop (j + 1)).reverse).length ≤ 40 := by
      rw [spV_len, List.length_reverse, List.length_drop, sps_len]; omega
    rw [l11A_L0_succ, sel_pos (ilt_t (by rw [llen_nat]; omega)), e, sel_pos (by rw [band_iff, ile_iff, ilt_iff, llen_nat]; omega), sel_pos (by rw [okApp_iff, List.length_singleton]; omega), iadd64 (by omega), show (i : Int) + 1 = ((i + 1 : Nat) : Int) by omega, sp1, lcat_sp]
    have hd := sps_drop xs j (by omega)
    have := ih (i + 1) n (by omega) (by omega)
    rw [hd, List.reverse_cons] at this
    exact this
theorem sp_A (xs ys : List V) (hf : FitL xs) (hg : FitL ys) : Contract sE 5 [.sl 24 [.int .i64, .int .i64] none xs, .sl 24 [.int .i64, .int .i64] none ys] (.bool true) := by
  refine contract_of_body sE_ok sL_ok 50 2 ?_
  rw [l11A_top]
  by_cases c1 : 40 < llen xs
  · rw [sel_pos (ilt_t c1)]
  rw [sel_neg (ilt_f (by omega))]
  by_cases c2 : 40 < llen ys
  · rw [sel_pos (ilt_t c2)]
  rw [sel_neg (ilt_f (by omega))]
  rw [llen_nat] at c1 c2
  have := alg_loop xs ys hf hg (by omega) (by omega) false 50 xs.length 0 50 (by omega) (by omega)
  rw [List.drop_of_length_le (by rw [sps_len]; exact Nat.le_refl _)] at this
  exact this
end Nt.Ev.Ytjobobdijjppkaa.Sp
