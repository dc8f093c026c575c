/-
  Rl: equations of functions, as the evaluator prints them. What holds for good: days, rules that are too close, what may be; both sides. Occur: equations of functions, as the evaluator prints them. When rules change something: what occurs, and the last one ahead of something.
-/
import Derived.Test.YtheojhajckcdlaaGreatDoorMR
import Derived.Test.YtheojhajckcdlaaGreatDoorMI
import Derived.Test.YtheojhajckcdlaaGreatDoorMJ
import Derived.Test.YtheojhajckcdlaaGreatDoorMG
import Derived.Test.YtheojhajckcdlaaGreatDoorMK
set_option linter.unusedVariables false
set_option linter.unusedSimpArgs false
set_option linter.unusedSectionVars false
namespace Nt.Ev.YtheojhajckcdlaaGreatDoor.Rl
set_option maxRecDepth 100000
open Go Nt.Num Go.Proofs.YtheojhajckcdlaaGreatDoor
variable [MLen]
open Nt.Ev.YtheojhajckcdlaaGreatDoor
open Nt.Civil
def rightC (n b : Int) : Bool := decide (0 ≤ n ∧ n ≤ 172800 ∧ 0 ≤ b ∧ b ≤ 2)
noncomputable def kN0 : List (Nat × FSpec) := []
abbrev nmI (s : List UInt8) : Int := Nm.nmI s
noncomputable def kNmS : FSpec := fun a => match a with | [.str s] => some (true, .int .i64 (nmI s)) | _ => none
noncomputable def kLtS : FSpec := fun a => match a with | [.str s] => some (ile (slen s) 1000, .tup [.str (ltT s), .int .i64 (ltW s)]) | _ => none
noncomputable def kCrS : FSpec := fun a => match a with | [.agg [.int .i64 n, .int .i64 b]] => some (true, .bool (rightC n b)) | _ => none
noncomputable def kLenS : FSpec := fun a => match a with | [.int .i64 y, .int .i64 m] => some (band (ile (-9223372036854775808) y) (ile y 9223372036854775807), .int .i64 (lenI y m)) | _ => none
noncomputable def kNbS : FSpec := fun a => match a with | [.agg [.int .i64 y, .int .i64 m, .int .i64 d]] => some (validB y m d, .int .i64 (daysI y m d)) | _ => none
noncomputable def kVaS : FSpec := fun a => match a with | [.agg [.int .i64 y, .int .i64 m, .int .i64 d]] => some (true, .bool (validB y m d)) | _ => none
def fxT (n : Int) : List UInt8 := (yFromTextP n).1
def fxW (n : Int) : Int := (yFromTextP n).2
def txTy (m n : Int) : List UInt8 := (yToTextP m n).1
def txWy (m n : Int) : Int := (yToTextP m n).2
noncomputable def kFxS : FSpec := fun a => match a with | [.int .i64 n] => some (true, .tup [.str (fxT n), .int .i64 (fxW n)]) | _ => none
noncomputable def kTxS : FSpec := fun a => match a with | [.int .i64 m, .int .i64 n] => some (true, .tup [.str (txTy m n), .int .i64 (txWy m n)]) | _ => none
noncomputable def kS0 : List (Nat × FSpec) := (41, kFxS) :: (40, kTxS) :: (15, kNmS) :: (42, kLtS) :: (27, kCrS) :: (51, kLenS) :: (83, kNbS) :: (82, kVaS) :: []
def onP (k w d : Int) : Bool := if k = 1 then decide (0 ≤ w ∧ w ≤ 6 ∧ d = 0) else if k = 0 then decide (w = 0 ∧ 1 ≤ d ∧ d ≤ 31) else decide ((k = 2 ∨ k = 3) ∧ 0 ≤ w ∧ w ≤ 6 ∧ 1 ≤ d ∧ d ≤ 31)
noncomputable def kYdS : FSpec := fun a => match a with | [.agg [.int .i64 y, .int .i64 m, .int .i64 d]] => some (true, .tup [.int .i64 (ydV y m d), .int .i64 (ydW y m d)]) | _ => none
noncomputable def kOnS : FSpec := fun a => match a with | [.agg [.int .i64 k, .int .i64 w, .int .i64 d]] => some (true, .bool (onP k w d)) | _ => none
noncomputable def kS1 : List (Nat × FSpec) := (68, kYdS) :: (49, kOnS) :: kS0
def ftP (k w d m : Int) : Bool := onP k w d && decide (1 ≤ m ∧ m ≤ 12 ∧ d ≤ lenI 1 m)
noncomputable def kFtS : FSpec := fun a => match a with | [.agg [.int .i64 k, .int .i64 w, .int .i64 d], .int .i64 m] => some (true, .bool (ftP k w d m)) | _ => none
noncomputable def kS2 : List (Nat × FSpec) := (26, kFtS) :: kS1
def wlP (k w d m : Int) : Int := if ftP k w d m = true then (if k = 1 then lenI 1 m - 6 else if k = 3 then d - 6 else d) else 0
def whP (k w d m : Int) : Int := if ftP k w d m = true then (if k = 1 then lenI 4 m else if k = 2 then d + 6 else d) else 0
def weP (k w d m : Int) : Int := if ftP k w d m = true then 0 else 4
noncomputable def kWiS : FSpec := fun a => match a with | [.agg [.int .i64 k, .int .i64 w, .int .i64 d], .int .i64 m] => some (true, .tup [.int .i64 (wlP k w d m), .int .i64 (whP k w d m), .int .i64 (weP k w d m)]) | _ => none
def yrP (f t : Int) : Bool := ile (-32767) f && (ile f t && ile t 32767)
def ruP (n : List UInt8) (f t m k w d c b v : Int) (l : List UInt8) : Bool := ieq (nmI n) 0 && (yrP f t && (ftP k w d m && (rightC c b && ((ile (-10800) v && ile v 10800) && ieq (ltW l) 0))))
noncomputable def kRrS : FSpec := fun a => match a with | [.agg [.str n, .int .i64 f, .int .i64 t, .int .i64 m, .int .i64 k, .int .i64 w, .int .i64 d, .int .i64 c, .int .i64 b, .int .i64 v, .str l]] => some (ile (slen l) 900, .bool (ruP n f t m k w d c b v l)) | _ => none
noncomputable def kS3 : List (Nat × FSpec) := (69, kWiS) :: (22, kRrS) :: kS2
def ofL (m k w d c : Int) : Int := (cumI 2001 m + wlP k w d m - 1) * 86400 + c
def ofH (m k w d c : Int) : Int := (cumI 2001 m + whP k w d m - 1) * 86400 + c
noncomputable def kOfS : FSpec := fun a => match a with | [.agg [.str n, .int .i64 f, .int .i64 t, .int .i64 m, .int .i64 k, .int .i64 w, .int .i64 d, .int .i64 c, .int .i64 b, .int .i64 v, .str l]] => some (band (ftP k w d m) (band (ile 0 c) (ile c 172800)), .agg [.int .i64 (ofL m k w d c), .int .i64 (ofH m k w d c)]) | _ => none
noncomputable def kS4 : List (Nat × FSpec) := (44, kOfS) :: kS3
def neP (f t l h f2 t2 l2 h2 : Int) : Bool := decide ((f ≤ t2 ∧ f2 ≤ t ∧ l2 - h < 345600 ∧ l - h2 < 345600) ∨ (f + 1 ≤ t2 ∧ f2 ≤ t + 1 ∧ 31536000 + l2 - h < 345600) ∨ (f2 + 1 ≤ t ∧ f ≤ t2 + 1 ∧ 31536000 + l - h2 < 345600))
noncomputable def kNeS : FSpec := fun a => match a with | [.agg [.str n, .int .i64 f, .int .i64 t, .int .i64 m, .int .i64 k, .int .i64 w, .int .i64 d, .int .i64 c, .int .i64 b, .int .i64 v, .str l], .agg [.str n2, .int .i64 f2, .int .i64 t2, .int .i64 m2, .int .i64 k2, .int .i64 w2, .int .i64 d2, .int .i64 c2, .int .i64 b2, .int .i64 v2, .str l2]] => some (band (ruP n f t m k w d c b v l) (ruP n2 f2 t2 m2 k2 w2 d2 c2 b2 v2 l2), .bool (neP f t (ofL m k w d c) (ofH m k w d c) f2 t2 (ofL m2 k2 w2 d2 c2) (ofH m2 k2 w2 d2 c2))) | _ => none
noncomputable def kS5 : List (Nat × FSpec) := (23, kNeS) :: kS4
def paP (n : List UInt8) (f t m k w d c b v : Int) (l : List UInt8) (n2 : List UInt8) (f2 t2 m2 k2 w2 d2 c2 b2 v2 : Int) (l2 : List UInt8) : Int := if ruP n f t m k w d c b v l = true ∧ ruP n2 f2 t2 m2 k2 w2 d2 c2 b2 v2 l2 = true then (if neP f t (ofL m k w d c) (ofH m k w d c) f2 t2 (ofL m2 k2 w2 d2 c2) (ofH m2 k2 w2 d2 c2) = true then 15 else 0) else 4
theorem kCr_top (F : Nat) (n : Int) (b : Int) (K : V → Option V) :
 evBd fE (evFn fE kN0 F 2) F 27 [(V.agg [(V.int .i64 n), (V.int .i64 b)])] K =
 sel (ieq b 0)
 (sel (ieq b 0)
 (sel (ile 0 n)
 (K (V.bool (ile n 172800)))
 (K (V.bool false)))
 (K (V.bool false)))
 (sel (ieq b 1)
 (sel (ieq b 1)
 (sel (ile 0 n)
 (K (V.bool (ile n 172800)))
 (K (V.bool false)))
 (K (V.bool false)))
 (sel (ieq b 2)
 (sel (ile 0 n)
 (K (V.bool (ile n 172800)))
 (K (V.bool false)))
 (K (V.bool false)))) := by kernel_rfl
theorem kYd_top (F : Nat) (y : Int) (m : Int) (d : Int) (K : V → Option V) :
 evBd fE (evFn fE kS0 F 2) F 68 [(V.agg [(V.int .i64 y), (V.int .i64 m), (V.int .i64 d)])] K =
 sel (bnot (validB y m d))
 (K (V.tup [(V.int .i64 0), (V.int .i64 1)]))
 (sel (validB y m d)
 (sel (validB y 1 1)
 (K (V.tup [(V.int .i64 (iadd .i64 (isub .i64 (daysI y m d) (daysI y 1 1)) 1)), (V.int .i64 0)]))
 (none))
 (none)) := by kernel_rfl
theorem kOn_top (F : Nat) (k : Int) (w : Int) (d : Int) (K : V → Option V) :
 evBd fE (evFn fE kS0 F 3) F 49 [(V.agg [(V.int .i64 k), (V.int .i64 w), (V.int .i64 d)])] K =
 sel (ieq k 1)
 (sel (ile 0 w)
 (sel (ile w 6)
 (K (V.bool (ieq d 0)))
 (K (V.bool false)))
 (K (V.bool false)))
 (sel (ieq k 0)
 (sel (ile 0 k)
 (sel (ile k 3)
 (sel (ile 0 w)
 (sel (ile w 0)
 (sel (ile 1 d)
 (K (V.bool (ile d 31)))
 (K (V.bool false)))
 (K (V.bool false)))
 (K (V.bool false)))
 (K (V.bool false)))
 (K (V.bool false)))
 (sel (ile 0 k)
 (sel (ile k 3)
 (sel (ile 0 w)
 (sel (ile w 6)
 (sel (ile 1 d)
 (K (V.bool (ile d 31)))
 (K (V.bool false)))
 (K (V.bool false)))
 (K (V.bool false)))
 (K (V.bool false)))
 (K (V.bool false)))) := by kernel_rfl
theorem kFt_top (F : Nat) (k : Int) (w : Int) (d : Int) (m : Int) (K : V → Option V) :
 evBd fE (evFn fE kS1 F 2) F 26 [(V.agg [(V.int .i64 k), (V.int .i64 w), (V.int .i64 d)]), (V.int .i64 m)] K =
 sel (onP k w d)
 (sel (ile 1 m)
 (sel (ile m 12)
 (K (V.bool (ile d (lenI 1 m))))
 (K (V.bool false)))
 (K (V.bool false)))
 (K (V.bool false)) := by kernel_rfl
theorem kWi_top (F : Nat) (k : Int) (w : Int) (d : Int) (m : Int) (K : V → Option V) :
 evBd fE (evFn fE kS2 F 2) F 69 [(V.agg [(V.int .i64 k), (V.int .i64 w), (V.int .i64 d)]), (V.int .i64 m)] K =
 sel (bnot (ftP k w d m))
 (K (V.tup [(V.int .i64 0), (V.int .i64 0), (V.int .i64 4)]))
 (sel (ieq k 1)
 (K (V.tup [(V.int .i64 (iadd .i64 (isub .i64 (lenI 1 m) 7) 1)), (V.int .i64 (lenI 4 m)), (V.int .i64 0)]))
 (sel (ieq k 2)
 (K (V.tup [(V.int .i64 d), (V.int .i64 (iadd .i64 d 6)), (V.int .i64 0)]))
 (sel (ieq k 3)
 (K (V.tup [(V.int .i64 (isub .i64 d 6)), (V.int .i64 d), (V.int .i64 0)]))
 (K (V.tup [(V.int .i64 d), (V.int .i64 d), (V.int .i64 0)]))))) := by kernel_rfl
theorem kRr_top (F : Nat) (n : List UInt8) (f : Int) (t : Int) (m : Int) (k : Int) (w : Int) (d : Int) (c : Int) (b : Int) (v : Int) (l : List UInt8) (K : V → Option V) :
 evBd fE (evFn fE kS2 F 2) F 22 [(V.agg [(V.str n), (V.int .i64 f), (V.int .i64 t), (V.int .i64 m), (V.int .i64 k), (V.int .i64 w), (V.int .i64 d), (V.int .i64 c), (V.int .i64 b), (V.int .i64 v), (V.str l)])] K =
 sel (ile (slen l) 1000)
 (sel (ieq (txWy f t) 0)
 (sel (ieq (fxW f) 0)
 (sel (ieq (ltW l) 0)
 (sel (ieq (nmI n) 0)
 (sel (ftP k w d m)
 (sel (rightC c b)
 (sel (ile (-10800) v)
 (K (V.bool (ile v 10800)))
 (K (V.bool false)))
 (K (V.bool false)))
 (K (V.bool false)))
 (K (V.bool false)))
 (K (V.bool false)))
 (K (V.bool false)))
 (K (V.bool false)))
 (none) := by kernel_rfl
theorem kOf_top (F : Nat) (n : List UInt8) (f : Int) (t : Int) (m : Int) (k : Int) (w : Int) (d : Int) (c : Int) (b : Int) (v : Int) (l : List UInt8) (K : V → Option V) :
 evBd fE (evFn fE kS3 F 2) F 44 [(V.agg [(V.str n), (V.int .i64 f), (V.int .i64 t), (V.int .i64 m), (V.int .i64 k), (V.int .i64 w), (V.int .i64 d), (V.int .i64 c), (V.int .i64 b), (V.int .i64 v), (V.str l)])] K =
 K (V.agg [(V.int .i64 (iadd .i64 (imul .i64 (isub .i64 (iadd .i64 (ydV 2001 m 1) (wlP k w d m)) 2) 86400) c)), (V.int .i64 (iadd .i64 (imul .i64 (isub .i64 (iadd .i64 (ydV 2001 m 1) (whP k w d m)) 2) 86400) c))]) := by kernel_rfl
theorem kNe_top (F : Nat) (n : List UInt8) (f : Int) (t : Int) (m : Int) (k : Int) (w : Int) (d : Int) (c : Int) (b : Int) (v : Int) (l : List UInt8) (n2 : List UInt8) (f2 : Int) (t2 : Int) (m2 : Int) (k2 : Int) (w2 : Int) (d2 : Int) (c2 : Int) (b2 : Int) (v2 : Int) (l2 : List UInt8) (K : V → Option V) :
 evBd fE (evFn fE kS4 F 2) F 23 [(V.agg [(V.str n), (V.int .i64 f), (V.int .i64 t), (V.int .i64 m), (V.int .i64 k), (V.int .i64 w), (V.int .i64 d), (V.int .i64 c), (V.int .i64 b), (V.int .i64 v), (V.str l)]), (V.agg [(V.str n2), (V.int .i64 f2), (V.int .i64 t2), (V.int .i64 m2), (V.int .i64 k2), (V.int .i64 w2), (V.int .i64 d2), (V.int .i64 c2), (V.int .i64 b2), (V.int .i64 v2), (V.str l2)])] K =
 sel (band (ftP k w d m) (band (ile 0 c) (ile c 172800)))
 (sel (band (ftP k2 w2 d2 m2) (band (ile 0 c2) (ile c2 172800)))
 (sel (ile (iadd .i64 f 0) t2)
 (sel (ile f2 (iadd .i64 t 0))
 (sel (bnot (ile 345600 (isub .i64 (iadd .i64 (ofL m2 k2 w2 d2 c2) 0) (ofH m k w d c))))
 (sel (bnot (ile 345600 (isub .i64 (iadd .i64 (ofL m k w d c) 0) (ofH m2 k2 w2 d2 c2))))
 (K (V.bool true))
 (sel (ile (iadd .i64 f 1) t2)
 (sel (ile f2 (iadd .i64 t 1))
 (sel (bnot (ile 345600 (isub .i64 (iadd .i64 (ofL m2 k2 w2 d2 c2) 31536000) (ofH m k w d c))))
 (K (V.bool true))
 (sel (ile (iadd .i64 f2 1) t)
 (sel (ile f (iadd .i64 t2 1))
 (K (V.bool (bnot (ile 345600 (isub .i64 (iadd .i64 (ofL m k w d c) 31536000) (ofH m2 k2 w2 d2 c2))))))
 (K (V.bool false)))
 (K (V.bool false))))
 (sel (ile (iadd .i64 f2 1) t)
 (sel (ile f (iadd .i64 t2 1))
 (K (V.bool (bnot (ile 345600 (isub .i64 (iadd .i64 (ofL m k w d c) 31536000) (ofH m2 k2 w2 d2 c2))))))
 (K (V.bool false)))
 (K (V.bool false))))
 (sel (ile (iadd .i64 f2 1) t)
 (sel (ile f (iadd .i64 t2 1))
 (K (V.bool (bnot (ile 345600 (isub .i64 (iadd .i64 (ofL m k w d c) 31536000) (ofH m2 k2 w2 d2 c2))))))
 (K (V.bool false)))
 (K (V.bool false)))))
 (sel (ile (iadd .i64 f 1) t2)
 (sel (ile f2 (iadd .i64 t 1))
 (sel (bnot (ile 345600 (isub .i64 (iadd .i64 (ofL m2 k2 w2 d2 c2) 31536000) (ofH m k w d c))))
 (K (V.bool true))
 (sel (ile (iadd .i64 f2 1) t)
 (sel (ile f (iadd .i64 t2 1))
 (K (V.bool (bnot (ile 345600 (isub .i64 (iadd .i64 (ofL m k w d c) 31536000) (ofH m2 k2 w2 d2 c2))))))
 (K (V.bool false)))
 (K (V.bool false))))
 (sel (ile (iadd .i64 f2 1) t)
 (sel (ile f (iadd .i64 t2 1))
 (K (V.bool (bnot (ile 345600 (isub .i64 (iadd .i64 (ofL m k w d c) 31536000) (ofH m2 k2 w2 d2 c2))))))
 (K (V.bool false)))
 (K (V.bool false))))
 (sel (ile (iadd .i64 f2 1) t)
 (sel (ile f (iadd .i64 t2 1))
 (K (V.bool (bnot (ile 345600 (isub .i64 (iadd .i64 (ofL m k w d c) 31536000) (ofH m2 k2 w2 d2 c2))))))
 (K (V.bool false)))
 (K (V.bool false)))))
 (sel (ile (iadd .i64 f 1) t2)
 (sel (ile f2 (iadd .i64 t 1))
 (sel (bnot (ile 345600 (isub .i64 (iadd .i64 (ofL m2 k2 w2 d2 c2) 31536000) (ofH m k w d c))))
 (K (V.bool true))
 (sel (ile (iadd .i64 f2 1) t)
 (sel (ile f (iadd .i64 t2 1))
 (K (V.bool (bnot (ile 345600 (isub .i64 (iadd .i64 (ofL m k w d c) 31536000) (ofH m2 k2 w2 d2 c2))))))
 (K (V.bool false)))
 (K (V.bool false))))
 (sel (ile (iadd .i64 f2 1) t)
 (sel (ile f (iadd .i64 t2 1))
 (K (V.bool (bnot (ile 345600 (isub .i64 (iadd .i64 (ofL m k w d c) 31536000) (ofH m2 k2 w2 d2 c2))))))
 (K (V.bool false)))
 (K (V.bool false))))
 (sel (ile (iadd .i64 f2 1) t)
 (sel (ile f (iadd .i64 t2 1))
 (K (V.bool (bnot (ile 345600 (isub .i64 (iadd .i64 (ofL m k w d c) 31536000) (ofH m2 k2 w2 d2 c2))))))
 (K (V.bool false)))
 (K (V.bool false)))))
 (sel (ile (iadd .i64 f 1) t2)
 (sel (ile f2 (iadd .i64 t 1))
 (sel (bnot (ile 345600 (isub .i64 (iadd .i64 (ofL m2 k2 w2 d2 c2) 31536000) (ofH m k w d c))))
 (K (V.bool true))
 (sel (ile (iadd .i64 f2 1) t)
 (sel (ile f (iadd .i64 t2 1))
 (K (V.bool (bnot (ile 345600 (isub .i64 (iadd .i64 (ofL m k w d c) 31536000) (ofH m2 k2 w2 d2 c2))))))
 (K (V.bool false)))
 (K (V.bool false))))
 (sel (ile (iadd .i64 f2 1) t)
 (sel (ile f (iadd .i64 t2 1))
 (K (V.bool (bnot (ile 345600 (isub .i64 (iadd .i64 (ofL m k w d c) 31536000) (ofH m2 k2 w2 d2 c2))))))
 (K (V.bool false)))
 (K (V.bool false))))
 (sel (ile (iadd .i64 f2 1) t)
 (sel (ile f (iadd .i64 t2 1))
 (K (V.bool (bnot (ile 345600 (isub .i64 (iadd .i64 (ofL m k w d c) 31536000) (ofH m2 k2 w2 d2 c2))))))
 (K (V.bool false)))
 (K (V.bool false)))))
 (none))
 (none) := by kernel_rfl
end Nt.Ev.YtheojhajckcdlaaGreatDoor.Rl

namespace Nt.Ev.YtheojhajckcdlaaGreatDoor.Rl
set_option maxRecDepth 100000
open Go Go.RowKit Nt Nt.Num Go.Proofs.YtheojhajckcdlaaGreatDoor Nt.Ev.YtheojhajckcdlaaGreatDoor Nt.Civil
variable [MLen]
theorem toPy {f : Nat} {args : List V} {r : V} (h : Contract yE f args r) : Contract fE f args r := Contract.env (E := yE) rfl (fun n v h => by cases h) h
theorem toPv {f : Nat} {args : List V} {r : V} (h : Contract vE f args r) : Contract fE f args r := Contract.env (E := vE) rfl (fun n v h => by cases h) h
theorem toPo {f : Nat} {args : List V} {r : V} (h : Contract oE f args r) : Contract fE f args r := Contract.env (E := oE) rfl (fun n v h => by cases h) h
theorem toPf {f : Nat} {args : List V} {r : V} (h : Contract fE f args r) : Contract fE f args r := h
theorem len_p {s : List UInt8} (h : ile (slen s) 1000 = true) : s.length ≤ 1000 := by rw [ile_iff, slen_nat] at h; omega
theorem len_p9 {s : List UInt8} (h : ile (slen s) 900 = true) : s.length ≤ 900 := by rw [ile_iff, slen_nat] at h; omega
theorem p_len {s : List UInt8} (h : s.length ≤ 1000) : ile (slen s) 1000 = true := by rw [ile_iff, slen_nat]; omega
theorem fits_p {m : Int} (h : band (ile (-9223372036854775808) m) (ile m 9223372036854775807) = true) : Fits m := by rw [band_iff, ile_iff, ile_iff] at h; exact h
theorem p_fits {m : Int} (h : Fits m) : band (ile (-9223372036854775808) m) (ile m 9223372036854775807) = true := by rw [band_iff, ile_iff, ile_iff]; exact h
theorem kFxS_ok (n : Int) (hc : true = true) : Contract fE 41 [.int .i64 n] (.tup [.str (fxT n), .int .i64 (fxW n)]) := toPy (yFromText_ev n)
theorem kTxS_ok (m n : Int) (hc : true = true) : Contract fE 40 [.int .i64 m, .int .i64 n] (.tup [.str (txTy m n), .int .i64 (txWy m n)]) := toPy (yToText_ev m n)
theorem kNmS_ok (s : List UInt8) (hc : true = true) : Contract fE 15 [.str s] (.int .i64 (nmI s)) := toPo (Nm.nName_ev s)
theorem kLtS_ok (s : List UInt8) (hc : ile (slen s) 1000 = true) : Contract fE 42 [.str s] (.tup [.str (ltT s), .int .i64 (ltW s)]) := toPf (fLText_ev s (len_p hc))
theorem kN0_ok : SOk fE kN0 := SOk.nil
theorem kCrS_ok (n b : Int) (hc : true = true) : Contract fE 27 [.agg [.int .i64 n, .int .i64 b]] (.bool (rightC n b)) := by
  refine contract_of_body fE_ok kN0_ok 5 2 ?_
  rw [kCr_top]
  unfold rightC
  simp only [sel_if, ile_iff, ieq_iff]
  repeat' split
  all_goals (congr 2; rw [Bool.eq_iff_iff, decide_eq_true_eq]; simp only [ile_iff, ieq_iff, Bool.false_eq_true, false_iff, true_iff, not_and]; omega)
theorem kLenS_ok (y m : Int) (hc : band (ile (-9223372036854775808) y) (ile y 9223372036854775807) = true) : Contract fE 51 [.int .i64 y, .int .i64 m] (.int .i64 (lenI y m)) := toPv (vLen_ev y m (fits_p hc))
theorem kNbS_ok (y m d : Int) (hc : validB y m d = true) : Contract fE 83 [.agg [.int .i64 y, .int .i64 m, .int .i64 d]] (.int .i64 (daysI y m d)) := toPv (vNumber_ev y m d hc)
theorem kVaS_ok (y m d : Int) (hc : true = true) : Contract fE 82 [.agg [.int .i64 y, .int .i64 m, .int .i64 d]] (.bool (validB y m d)) := toPv (vRight_ev y m d)
theorem kS0_ok : SOk fE kS0 := by
  unfold kS0
  refine SOk.cons (fun args r h => ?_) (SOk.cons (fun args r h => ?_) (SOk.cons (fun args r h => ?_) (SOk.cons (fun args r h => ?_) (SOk.cons (fun args r h => ?_) (SOk.cons (fun args r h => ?_) (SOk.cons (fun args r h => ?_) (SOk.cons (fun args r h => ?_) (SOk.nil))))))))
  · unfold kFxS at h
    split at h
    · simp only [Option.some.injEq, Prod.mk.injEq] at h
      obtain ⟨hc, rfl⟩ := h
      exact kFxS_ok _ rfl
    · cases h
  · unfold kTxS at h
    split at h
    · simp only [Option.some.injEq, Prod.mk.injEq] at h
      obtain ⟨hc, rfl⟩ := h
      exact kTxS_ok _ _ rfl
    · cases h
  · unfold kNmS at h
    split at h
    · simp only [Option.some.injEq, Prod.mk.injEq] at h
      obtain ⟨hc, rfl⟩ := h
      exact kNmS_ok _ rfl
    · cases h
  · unfold kLtS at h
    split at h
    · simp only [Option.some.injEq, Prod.mk.injEq] at h
      obtain ⟨hc, rfl⟩ := h
      exact kLtS_ok _ hc
    · cases h
  · unfold kCrS at h
    split at h
    · simp only [Option.some.injEq, Prod.mk.injEq] at h
      obtain ⟨hc, rfl⟩ := h
      exact kCrS_ok _ _ rfl
    · cases h
  · unfold kLenS at h
    split at h
    · simp only [Option.some.injEq, Prod.mk.injEq] at h
      obtain ⟨hc, rfl⟩ := h
      exact kLenS_ok _ _ hc
    · cases h
  · unfold kNbS at h
    split at h
    · simp only [Option.some.injEq, Prod.mk.injEq] at h
      obtain ⟨hc, rfl⟩ := h
      exact kNbS_ok _ _ _ hc
    · cases h
  · unfold kVaS at h
    split at h
    · simp only [Option.some.injEq, Prod.mk.injEq] at h
      obtain ⟨hc, rfl⟩ := h
      exact kVaS_ok _ _ _ rfl
    · cases h
theorem kYdS_ok (y m d : Int) (hc : true = true) : Contract fE 68 [.agg [.int .i64 y, .int .i64 m, .int .i64 d]] (.tup [.int .i64 (ydV y m d), .int .i64 (ydW y m d)]) := by
  refine contract_of_body fE_ok kS0_ok 5 2 ?_
  rw [kYd_top]
  unfold ydV ydW
  cases h : validB y m d with
  | false => rfl
  | true =>
    obtain ⟨h1, h2, h3⟩ := validB_iff.1 h
    have hb := yd_bounds h3
    have hm := len_month h3
    have h11 : validB y 1 1 = true := validB_iff.2 ⟨h1, h2, by unfold valid; have := len_pos y 1 (by decide) (by decide); omega⟩
    have e1 : ydI y 1 1 = 1 := rfl
    have hd : daysI y m d - daysI y 1 1 = ydI y m d - 1 := by unfold daysI; rw [e1]; omega
    have hl : (365 : Int) + (if leapB y = true then 1 else 0) ≤ 366 := by split <;> omega
    rw [sel_neg (by rfl), sel_pos rfl, sel_pos h11, isub64 (by omega), hd, iadd64 (by omega), if_pos rfl, if_pos rfl, show ydI y m d - 1 + 1 = ydI y m d by omega]
theorem kOnS_ok (k w d : Int) (hc : true = true) : Contract fE 49 [.agg [.int .i64 k, .int .i64 w, .int .i64 d]] (.bool (onP k w d)) := by
  refine contract_of_body fE_ok kS0_ok 5 3 ?_
  rw [kOn_top]
  unfold onP
  simp only [sel_if, ieq_iff, ile_iff]
  repeat' split
  all_goals first
    | (rw [decide_eq_false (by omega)]; done)
    | (exfalso; omega)
    | (congr 2; unfold ile; rw [Bool.eq_iff_iff]; simp; omega)
    | (congr 2; unfold ieq; rw [Bool.eq_iff_iff]; simp; omega)
theorem kS1_ok : SOk fE kS1 := by
  unfold kS1
  refine SOk.cons (fun args r h => ?_) (SOk.cons (fun args r h => ?_) (kS0_ok))
  · unfold kYdS at h
    split at h
    · simp only [Option.some.injEq, Prod.mk.injEq] at h
      obtain ⟨hc, rfl⟩ := h
      exact kYdS_ok _ _ _ rfl
    · cases h
  · unfold kOnS at h
    split at h
    · simp only [Option.some.injEq, Prod.mk.injEq] at h
      obtain ⟨hc, rfl⟩ := h
      exact kOnS_ok _ _ _ rfl
    · cases h
theorem pft_tree (k w d m y : Int) (hy : leapB y = false) : sel (onP k w d) (sel (ile 1 m) (sel (ile m 12) (some (V.bool (ile d (lenI y m)))) (some (V.bool false))) (some (V.bool false))) (some (V.bool false)) = some (.bool (ftP k w d m)) := by
  have e : lenI y m = lenI 1 m := by unfold lenI; rw [hy]; rfl
  rw [e]
  unfold ftP
  cases h0 : onP k w d with
  | false => rfl
  | true =>
    by_cases h1 : 1 ≤ m
    · by_cases h2 : m ≤ 12
      · rw [sel_pos rfl, sel_pos (ile_t h1), sel_pos (ile_t h2)]
        congr 2
        rw [Bool.true_and, Bool.eq_iff_iff, ile_iff, decide_eq_true_eq]
        exact ⟨fun h => ⟨h1, h2, h⟩, fun h => h.2.2⟩
      · rw [sel_pos rfl, sel_pos (ile_t h1), sel_neg (ile_f (by omega))]
        congr 2
        rw [Bool.true_and, eq_comm, decide_eq_false_iff_not]; omega
    · rw [sel_pos rfl, sel_neg (ile_f (by omega))]
      congr 2
      rw [Bool.true_and, eq_comm, decide_eq_false_iff_not]; omega
theorem kFtS_ok (k w d m : Int) (hc : true = true) : Contract fE 26 [.agg [.int .i64 k, .int .i64 w, .int .i64 d], .int .i64 m] (.bool (ftP k w d m)) := by
  refine contract_of_body fE_ok kS1_ok 5 2 ?_
  rw [kFt_top]
  exact pft_tree k w d m 1 (by decide)
theorem kS2_ok : SOk fE kS2 := by
  unfold kS2
  refine SOk.cons (fun args r h => ?_) (kS1_ok)
  · unfold kFtS at h
    split at h
    · simp only [Option.some.injEq, Prod.mk.injEq] at h
      obtain ⟨hc, rfl⟩ := h
      exact kFtS_ok _ _ _ _ rfl
    · cases h
theorem on_k {k w d : Int} (h : onP k w d = true) : (k = 1 ∧ d = 0 ∧ 0 ≤ w ∧ w ≤ 6) ∨ (k = 0 ∧ w = 0 ∧ 1 ≤ d ∧ d ≤ 31) ∨ ((k = 2 ∨ k = 3) ∧ 0 ≤ w ∧ w ≤ 6 ∧ 1 ≤ d ∧ d ≤ 31) := by
  unfold onP at h
  split at h
  · rw [decide_eq_true_eq] at h; omega
  · split at h
    · rw [decide_eq_true_eq] at h; omega
    · rw [decide_eq_true_eq] at h; omega
theorem ft_k {k w d m : Int} (h : ftP k w d m = true) : ((k = 1 ∧ d = 0 ∧ 0 ≤ w ∧ w ≤ 6) ∨ (k = 0 ∧ w = 0 ∧ 1 ≤ d ∧ d ≤ 31) ∨ ((k = 2 ∨ k = 3) ∧ 0 ≤ w ∧ w ≤ 6 ∧ 1 ≤ d ∧ d ≤ 31)) ∧ 1 ≤ m ∧ m ≤ 12 ∧ d ≤ lenI 1 m := by
  unfold ftP at h
  rw [Bool.and_eq_true, decide_eq_true_eq] at h
  exact ⟨on_k h.1, h.2⟩
theorem kWi_tree (k w d m y z : Int) (hy : leapB y = false) (hz : leapB z = true) (L : Int) (hL : ftP k w d m = true → L = lenI y m - 6) : sel (bnot (ftP k w d m))
      (some (V.tup [(V.int .i64 0), (V.int .i64 0), (V.int .i64 4)]))
      (sel (ieq k 1)
        (some (V.tup [(V.int .i64 L), (V.int .i64 (lenI z m)), (V.int .i64 0)]))
        (sel (ieq k 2)
          (some (V.tup [(V.int .i64 d), (V.int .i64 (iadd .i64 d 6)), (V.int .i64 0)]))
          (sel (ieq k 3)
            (some (V.tup [(V.int .i64 (isub .i64 d 6)), (V.int .i64 d), (V.int .i64 0)]))
            (some (V.tup [(V.int .i64 d), (V.int .i64 d), (V.int .i64 0)]))))) = some (.tup [.int .i64 (wlP k w d m), .int .i64 (whP k w d m), .int .i64 (weP k w d m)]) := by
  have e1 : lenI y m = lenI 1 m := by unfold lenI; rw [hy]; rfl
  have e4 : lenI z m = lenI 4 m := by unfold lenI; rw [hz]; rfl
  rw [e1] at hL
  rw [e4]
  unfold wlP whP weP
  cases h : ftP k w d m with
  | false => rfl
  | true =>
    have hk := (ft_k h).1
    rw [hL h, sel_neg (by rfl)]
    simp only [if_pos]
    by_cases k1 : k = 1
    · rw [sel_pos (ieq_t k1), if_pos k1, if_pos k1]
    · rw [sel_neg (ieq_f k1), if_neg k1, if_neg k1]
      by_cases k2 : k = 2
      · rw [sel_pos (ieq_t k2), if_neg (by omega), if_pos k2, iadd64 (by omega)]
      · rw [sel_neg (ieq_f k2), if_neg k2]
        by_cases k3 : k = 3
        · rw [sel_pos (ieq_t k3), if_pos k3, isub64 (by omega)]
        · rw [sel_neg (ieq_f k3), if_neg k3]
theorem kWiS_ok (k w d m : Int) (hc : true = true) : Contract fE 69 [.agg [.int .i64 k, .int .i64 w, .int .i64 d], .int .i64 m] (.tup [.int .i64 (wlP k w d m), .int .i64 (whP k w d m), .int .i64 (weP k w d m)]) := by
  refine contract_of_body fE_ok kS2_ok 5 2 ?_
  rw [kWi_top]
  refine kWi_tree k w d m 1 4 (by decide) (by decide) _ fun h => ?_
  have := ft_k h
  have := len_pos 1 m (by omega) (by omega)
  rw [isub64 (by omega), iadd64 (by omega)]; omega
theorem yr_p (f t : Int) : (ieq (txWy f t) 0 && ieq (fxW f) 0) = yrP f t := by
  rw [Bool.eq_iff_iff, Bool.and_eq_true, ieq_iff, ieq_iff]
  unfold yrP
  rw [Bool.and_eq_true, Bool.and_eq_true, ile_iff, ile_iff, ile_iff]
  unfold txWy fxW yToTextP yFromTextP
  constructor
  · rintro ⟨h1, h2⟩
    by_cases a : -32767 ≤ f ∧ f ≤ 32767
    · by_cases b : -32767 ≤ t ∧ t ≤ 32767
      · rw [if_pos b] at h1
        by_cases c : t < f
        · rw [if_pos c] at h1; cases h1
        · omega
      · rw [if_neg b] at h1; cases h1
    · rw [if_neg a] at h2; cases h2
  · rintro ⟨h1, h2, h3⟩
    rw [if_pos (show -32767 ≤ t ∧ t ≤ 32767 by omega), if_pos (show -32767 ≤ f ∧ f ≤ 32767 by omega), if_neg (show ¬ t < f by omega)]
    constructor
    · (repeat' split) <;> rfl
    · (repeat' split) <;> rfl
theorem kRrS_ok (n : List UInt8) (f t m k w d c b v : Int) (l : List UInt8) (hc : ile (slen l) 900 = true) : Contract fE 22 [.agg [.str n, .int .i64 f, .int .i64 t, .int .i64 m, .int .i64 k, .int .i64 w, .int .i64 d, .int .i64 c, .int .i64 b, .int .i64 v, .str l]] (.bool (ruP n f t m k w d c b v l)) := by
  refine contract_of_body fE_ok kS2_ok 5 2 ?_
  rw [kRr_top, sel_pos (p_len (by have := len_p9 hc; omega))]
  unfold ruP
  rw [← yr_p]
  cases ieq (txWy f t) 0 <;> cases ieq (fxW f) 0 <;> cases ieq (ltW l) 0 <;> cases ieq (nmI n) 0 <;> cases ftP k w d m <;> cases rightC c b <;> cases ile (-10800) v <;> cases ile v 10800 <;> rfl
theorem kS3_ok : SOk fE kS3 := by
  unfold kS3
  refine SOk.cons (fun args r h => ?_) (SOk.cons (fun args r h => ?_) (kS2_ok))
  · unfold kWiS at h
    split at h
    · simp only [Option.some.injEq, Prod.mk.injEq] at h
      obtain ⟨hc, rfl⟩ := h
      exact kWiS_ok _ _ _ _ rfl
    · cases h
  · unfold kRrS at h
    split at h
    · simp only [Option.some.injEq, Prod.mk.injEq] at h
      obtain ⟨hc, rfl⟩ := h
      exact kRrS_ok _ _ _ _ _ _ _ _ _ _ _ hc
    · cases h
theorem cum_in (m : Int) (h1 : 1 ≤ m) (h2 : m ≤ 12) : 0 ≤ cumI 2001 m ∧ cumI 2001 m ≤ 334 := by
  unfold cumI
  rw [if_neg (show ¬ leapB 2001 = true by decide)]
  split <;> omega
theorem wl_in {k w d m : Int} (h : ftP k w d m = true) : -5 ≤ wlP k w d m ∧ wlP k w d m ≤ 31 ∧ -5 ≤ whP k w d m ∧ whP k w d m ≤ 37 := by
  have hk := ft_k h
  have h1 := len_pos 1 m (by omega) (by omega)
  have h4 := len_pos 4 m (by omega) (by omega)
  unfold wlP whP
  rw [if_pos h, if_pos h]
  repeat' split
  all_goals omega
theorem of_in {m k w d c : Int} (h : ftP k w d m = true) (hc : 0 ≤ c ∧ c ≤ 172800) : -600000 ≤ ofL m k w d c ∧ ofL m k w d c ≤ 40000000 ∧ -600000 ≤ ofH m k w d c ∧ ofH m k w d c ≤ 40000000 := by
  have h1 := wl_in h
  have hk := ft_k h
  have h2 := cum_in m (by omega) (by omega)
  unfold ofL ofH
  omega
theorem kOfS_ok (n : List UInt8) (f t m k w d c b v : Int) (l : List UInt8) (hc : band (ftP k w d m) (band (ile 0 c) (ile c 172800)) = true) : Contract fE 44 [.agg [.str n, .int .i64 f, .int .i64 t, .int .i64 m, .int .i64 k, .int .i64 w, .int .i64 d, .int .i64 c, .int .i64 b, .int .i64 v, .str l]] (.agg [.int .i64 (ofL m k w d c), .int .i64 (ofH m k w d c)]) := by
  obtain ⟨h1, h2⟩ := band_true hc
  rw [band_iff, ile_iff, ile_iff] at h2
  refine contract_of_body fE_ok kS3_ok 5 2 ?_
  have hk := ft_k h1
  have hw := wl_in h1
  have hcm := cum_in m (by omega) (by omega)
  have hy : ydV 2001 m 1 = cumI 2001 m + 1 := by
    unfold ydV
    rw [if_pos (validB_iff.2 ⟨by decide, by decide, by unfold valid; have := len_pos 2001 m (by omega) (by omega); omega⟩)]
    rfl
  rw [kOf_top, hy]
  unfold ofL ofH
  generalize cumI 2001 m = q at *
  generalize wlP k w d m = a at *
  generalize whP k w d m = z at *
  rw [iadd64 (a := q + 1) (b := a) (by omega), iadd64 (a := q + 1) (b := z) (by omega), isub64 (a := q + 1 + a) (by omega), isub64 (a := q + 1 + z) (by omega), imul64 (a := q + 1 + a - 2) (by omega), imul64 (a := q + 1 + z - 2) (by omega), iadd64 (by omega), iadd64 (by omega)]
  congr 3
  · congr 1; omega
  · congr 2; omega
theorem ru_ft {n : List UInt8} {f t m k w d c b v : Int} {l : List UInt8} (h : ruP n f t m k w d c b v l = true) : ftP k w d m = true ∧ (0 ≤ c ∧ c ≤ 172800) ∧ -32767 ≤ f ∧ f ≤ t ∧ t ≤ 32767 ∧ (-10800 ≤ v ∧ v ≤ 10800) := by
  unfold ruP yrP rightC at h
  simp only [Bool.and_eq_true, ile_iff, decide_eq_true_eq] at h
  obtain ⟨_, h1, h2, h3, h4, _⟩ := h
  exact ⟨h2, ⟨h3.1, h3.2.1⟩, h1.1, h1.2.1, h1.2.2, h4⟩
theorem kS4_ok : SOk fE kS4 := by
  unfold kS4
  refine SOk.cons (fun args r h => ?_) (kS3_ok)
  · unfold kOfS at h
    split at h
    · simp only [Option.some.injEq, Prod.mk.injEq] at h
      obtain ⟨hc, rfl⟩ := h
      exact kOfS_ok _ _ _ _ _ _ _ _ _ _ _ hc
    · cases h
theorem kNeS_ok (n : List UInt8) (f t m k w d c b v : Int) (l : List UInt8) (n2 : List UInt8) (f2 t2 m2 k2 w2 d2 c2 b2 v2 : Int) (l2 : List UInt8) (hc : band (ruP n f t m k w d c b v l) (ruP n2 f2 t2 m2 k2 w2 d2 c2 b2 v2 l2) = true) : Contract fE 23 [.agg [.str n, .int .i64 f, .int .i64 t, .int .i64 m, .int .i64 k, .int .i64 w, .int .i64 d, .int .i64 c, .int .i64 b, .int .i64 v, .str l], .agg [.str n2, .int .i64 f2, .int .i64 t2, .int .i64 m2, .int .i64 k2, .int .i64 w2, .int .i64 d2, .int .i64 c2, .int .i64 b2, .int .i64 v2, .str l2]] (.bool (neP f t (ofL m k w d c) (ofH m k w d c) f2 t2 (ofL m2 k2 w2 d2 c2) (ofH m2 k2 w2 d2 c2))) := by
  obtain ⟨h1, h2⟩ := band_true hc
  have h1 := ru_ft h1
  have h2 := ru_ft h2
  have o1 := of_in h1.1 h1.2.1
  have o2 := of_in h2.1 h2.2.1
  refine contract_of_body fE_ok kS4_ok 5 2 ?_
  rw [kNe_top, sel_pos (by rw [band_iff, band_iff, ile_iff, ile_iff]; exact ⟨h1.1, h1.2.1⟩), sel_pos (by rw [band_iff, band_iff, ile_iff, ile_iff]; exact ⟨h2.1, h2.2.1⟩)]
  generalize ofL m k w d c = L at *
  generalize ofH m k w d c = H at *
  generalize ofL m2 k2 w2 d2 c2 = L2 at *
  generalize ofH m2 k2 w2 d2 c2 = H2 at *
  rw [iadd64 (a := f) (b := 0) (by omega), iadd64 (a := t) (b := 0) (by omega), iadd64 (a := L) (b := 0) (by omega), iadd64 (a := L2) (b := 0) (by omega), iadd64 (a := f) (b := 1) (by omega), iadd64 (a := t) (b := 1) (by omega), iadd64 (a := f2) (b := 1) (by omega), iadd64 (a := t2) (b := 1) (by omega), iadd64 (a := L) (b := 31536000) (by omega), iadd64 (a := L2) (b := 31536000) (by omega), isub64 (a := L + 0) (by omega), isub64 (a := L2 + 0) (by omega), isub64 (a := L + 31536000) (by omega), isub64 (a := L2 + 31536000) (by omega)]
  have ea : bnot (ile 345600 (L + 31536000 - H2)) = decide (L + 31536000 - H2 < 345600) := by unfold ile bnot; rw [← decide_not]; congr 1; rw [Int.not_le]
  rw [ea]
  unfold neP
  simp only [sel_if, ile_iff, bnot_iff, Int.not_le]
  repeat' split
  all_goals (congr 2; rw [eq_comm]; first | (rw [decide_eq_true_eq]; omega) | (rw [decide_eq_false_iff_not]; omega) | (rw [Bool.eq_iff_iff, decide_eq_true_eq, decide_eq_true_eq]; omega))
theorem kS5_ok : SOk fE kS5 := by
  unfold kS5
  refine SOk.cons (fun args r h => ?_) (kS4_ok)
  · unfold kNeS at h
    split at h
    · simp only [Option.some.injEq, Prod.mk.injEq] at h
      obtain ⟨hc, rfl⟩ := h
      exact kNeS_ok _ _ _ _ _ _ _ _ _ _ _ _ _ _ _ _ _ _ _ _ _ _ hc
    · cases h
end Nt.Ev.YtheojhajckcdlaaGreatDoor.Rl

namespace Nt.Ev.YtheojhajckcdlaaGreatDoor.Oc
set_option maxRecDepth 100000
open Go Nt.Num Go.Proofs.YtheojhajckcdlaaGreatDoor
variable [MLen]
open Nt.Ev.YtheojhajckcdlaaGreatDoor
open Nt.Civil
open Nt.Ev.YtheojhajckcdlaaGreatDoor.Rl
def cdI (y m d : Int) : Int := (daysP y m d).1
def cdE (y m d : Int) : Int := (daysP y m d).2
noncomputable def oDivS : FSpec := fun a => match a with | [.int .i64 a, .int .i64 b] => some (band (band (ile (-9223372036854775808) a) (ile a 9223372036854775807)) (band (ilt 0 b) (ile b 1000000)), .tup [.int .i64 (fq a b), .int .i64 (fr a b), .int .i64 0]) | _ => none
noncomputable def oDaysS : FSpec := fun a => match a with | [.agg [.int .i64 y, .int .i64 m, .int .i64 d]] => some (true, .tup [.int .i64 (cdI y m d), .int .i64 (cdE y m d)]) | _ => none
noncomputable def oS0 : List (Nat × FSpec) := (92, oDivS) :: (94, oDaysS) :: (51, kLenS) :: (26, kFtS) :: (22, kRrS) :: []
def wkI (n : Int) : Int := (n % 7 + 4) % 7
noncomputable def oWdS : FSpec := fun a => match a with | [.int .i64 n] => some (band (ile (-9223372036854775808) n) (ile n 9223372036854775807), .int .i64 (wkI n)) | _ => none
def clI (n a b : Int) : Int := if n < a then a else if b < n then b else n
noncomputable def oClS : FSpec := fun a => match a with | [.int .i64 n, .int .i64 a, .int .i64 b] => some (ile a b, .int .i64 (clI n a b)) | _ => none
def cm1 (a b : Int) : Int := if a < b then -1 else if b < a then 1 else 0
noncomputable def oCmS : FSpec := fun a => match a with | [.int .i64 a, .int .i64 b] => some (true, .int .i64 (cm1 a b)) | _ => none
def or2 (a b : Int) : Int := if a = 0 then b else a
noncomputable def oOrS : FSpec := fun a => match a with | [.sl e [.int .i64] o [.int .i64 a, .int .i64 b]] => some (true, .int .i64 (or2 a b)) | _ => none
noncomputable def oS1 : List (Nat × FSpec) := (104, oWdS) :: (37, oClS) :: (58, oCmS) :: (57, oCmS) :: (56, oOrS) :: oS0
def bkI (n w : Int) : Int := (wkI n - w + 7) % 7
noncomputable def oBkS : FSpec := fun a => match a with | [.int .i64 n, .int .i64 w] => some (band (band (ile (-100000000) n) (ile n 100000000)) (band (ile 0 w) (ile w 6)), .int .i64 (bkI n w)) | _ => none
noncomputable def oS2 : List (Nat × FSpec) := (95, oBkS) :: oS1
def oyI (k w d y m : Int) : Int := if ftP k w d m = true ∧ -39999 ≤ y ∧ y ≤ 39999 then (if k = 1 then daysI y m 1 + lenI y m - 1 - bkI (daysI y m 1 + lenI y m - 1) w else if k = 2 then daysI y m 1 + d + 5 - bkI (daysI y m 1 + d + 5) w else if k = 3 then daysI y m 1 + d - 1 - bkI (daysI y m 1 + d - 1) w else daysI y m 1 + d - 1) else 0
def oyE (k w d y m : Int) : Int := if ftP k w d m = true then (if -39999 ≤ y ∧ y ≤ 39999 then 0 else 1) else 4
noncomputable def oDyS : FSpec := fun a => match a with | [.agg [.int .i64 k, .int .i64 w, .int .i64 d], .int .i64 y, .int .i64 m] => some (true, .tup [.int .i64 (oyI k w d y m), .int .i64 (oyE k w d y m)]) | _ => none
def soA (j : Nat) (t : Int) : Int := (Nt.Ev.YtheojhajckcdlaaGreatDoor.ofP t).1.getD j 0
def soE (t : Int) : Int := (Nt.Ev.YtheojhajckcdlaaGreatDoor.ofP t).2
noncomputable def oSoS : FSpec := fun a => match a with | [.int .i64 t] => some (band (ile (-9223372036854775808) t) (ile t 9223372036854775807), .tup [.agg [.int .i64 (soA 0 t), .int .i64 (soA 1 t), .int .i64 (soA 2 t), .int .i64 (soA 3 t), .int .i64 (soA 4 t), .int .i64 (soA 5 t)], .int .i64 (soE t)]) | _ => none
noncomputable def oS3 : List (Nat × FSpec) := (78, oDyS) :: (54, oSoS) :: oS2
def nearI (t : Int) : Int := if soE (clI t (-1099511627776) 1099511627776) = 0 then soA 0 (clI t (-1099511627776) 1099511627776) else if t < 0 then -65534 else 65534
def lsB (r n r2 n2 : Int) : Bool := decide (n < n2 ∨ n = n2 ∧ r < r2)
def nomI (m k w d c y : Int) : Int := oyI k w d y m * 86400 + c
noncomputable def oNearS : FSpec := fun a => match a with | [.int .i64 t] => some (true, .int .i64 (nearI t)) | _ => none
noncomputable def oLessS : FSpec := fun a => match a with | [.agg [.int .i64 r, .int .i64 y, .int .i64 n], .agg [.int .i64 r2, .int .i64 y2, .int .i64 n2]] => some (true, .bool (lsB r n r2 n2)) | _ => none
noncomputable def oNmS : FSpec := fun a => match a with | [.agg [.str n, .int .i64 f, .int .i64 t, .int .i64 m, .int .i64 k, .int .i64 w, .int .i64 d, .int .i64 c, .int .i64 b, .int .i64 v, .str l], .int .i64 y] => some (band (ile 0 c) (ile c 172800), .int .i64 (nomI m k w d c y)) | _ => none
noncomputable def oS4 : List (Nat × FSpec) := (30, oNearS) :: (33, oLessS) :: (55, oNmS) :: oS3
def dnY (P : Int → Bool) : Nat → Int → Option Int
 | 0, _ => none
 | n + 1, y => if P y = true then some y else dnY P n (y - 1)
def pvO (f t m k w d c p q x z : Int) : Option Int := dnY (fun y => lsB p (nomI m k w d c y) x z) ((if t < q + 2 then t else q + 2) - f + 1).toNat (if t < q + 2 then t else q + 2)
def pvB (f t m k w d c p q x z : Int) : Bool := (pvO f t m k w d c p q x z).isSome
def qvR (f t m k w d c p q x z : Int) : Int := if pvB f t m k w d c p q x z = true then p else 0
def qvY (f t m k w d c p q x z : Int) : Int := (pvO f t m k w d c p q x z).getD 0
def qvN (f t m k w d c p q x z : Int) : Int := if pvB f t m k w d c p q x z = true then nomI m k w d c (qvY f t m k w d c p q x z) else 0
noncomputable def oPvS : FSpec := fun a => match a with | [.agg [.str n, .int .i64 f, .int .i64 t, .int .i64 m, .int .i64 k, .int .i64 w, .int .i64 d, .int .i64 c, .int .i64 b, .int .i64 v, .str l], .int .i64 p, .int .i64 q, .fn fb [.box bb bo], .bxa hh [.int .i64 x, .int .i64 y, .int .i64 z]] => some (band (fb == 61 && (bb == 1000000004 && (bo == 0 && hh == 1000000000000))) (band (ruP n f t m k w d c b v l) (band (ile (-70000) q) (ile q 70000))), .out false (.tup [.agg [.int .i64 (qvR f t m k w d c p q x z), .int .i64 (qvY f t m k w d c p q x z), .int .i64 (qvN f t m k w d c p q x z)], .bool (pvB f t m k w d c p q x z)]) [[.int .i64 x, .int .i64 y, .int .i64 z]]) | _ => none
noncomputable def oS5 : List (Nat × FSpec) := (GX + 60, oPvS) :: oS4
theorem oWd_top (F : Nat) (n : Int) (K : V → Option V) :
 evBd fE (evFn fE oS0 F 2) F 104 [(V.int .i64 n)] K =
 sel (band (band (ile (-9223372036854775808) n) (ile n 9223372036854775807)) (band (ilt 0 7) (ile 7 1000000)))
 (K (V.int .i64 (irem (iadd .i64 (fr n 7) 4) 7)))
 (none) := by kernel_rfl
theorem oClamp_top (F : Nat) (n : Int) (a : Int) (b : Int) (K : V → Option V) :
 evBd fE (evFn fE oS0 F 2) F 37 [(V.int .i64 n), (V.int .i64 a), (V.int .i64 b)] K =
 sel (ilt n a)
 (K (V.int .i64 a))
 (sel (ilt b n)
 (K (V.int .i64 b))
 (K (V.int .i64 n))) := by kernel_rfl
theorem oCmp_top (F : Nat) (a : Int) (b : Int) (K : V → Option V) :
 evBd fE (evFn fE oS0 F 3) F 58 [(V.int .i64 a), (V.int .i64 b)] K =
 sel (bnot (ieq a a))
 (sel (bnot (ieq b b))
 (K (V.int .i64 0))
 (K (V.int .i64 (-1))))
 (sel (bnot (ieq b b))
 (K (V.int .i64 1))
 (sel (ilt a b)
 (K (V.int .i64 (-1)))
 (sel (ilt b a)
 (K (V.int .i64 1))
 (K (V.int .i64 0))))) := by kernel_rfl
theorem oCmp64_top (F : Nat) (a : Int) (b : Int) (K : V → Option V) :
 evBd fE (evFn fE oS0 F 3) F 57 [(V.int .i64 a), (V.int .i64 b)] K =
 sel (bnot (ieq a a))
 (sel (bnot (ieq b b))
 (K (V.int .i64 0))
 (K (V.int .i64 (-1))))
 (sel (bnot (ieq b b))
 (K (V.int .i64 1))
 (sel (ilt a b)
 (K (V.int .i64 (-1)))
 (sel (ilt b a)
 (K (V.int .i64 1))
 (K (V.int .i64 0))))) := by kernel_rfl
theorem oOr_u4_top (a : Int) (b : Int) (K : V → Option V) :
 evBd fE (evFn fE oS0 4 3) 4 56 [(V.sl 3 [(Kd.int .i64)] none [(V.int .i64 a), (V.int .i64 b)])] K =
 sel (bnot (ieq a 0))
 (K (V.int .i64 a))
 (sel (bnot (ieq b 0))
 (K (V.int .i64 b))
 (K (V.int .i64 0))) := by kernel_rfl
theorem oBk_top (F : Nat) (n : Int) (w : Int) (K : V → Option V) :
 evBd fE (evFn fE oS1 F 2) F 95 [(V.int .i64 n), (V.int .i64 w)] K =
 sel (band (ile (-9223372036854775808) n) (ile n 9223372036854775807))
 (K (V.int .i64 (irem (iadd .i64 (isub .i64 (wkI n) w) 7) 7)))
 (none) := by kernel_rfl
theorem oDy_top (F : Nat) (k : Int) (w : Int) (d : Int) (y : Int) (m : Int) (K : V → Option V) :
 evBd fE (evFn fE oS2 F 2) F 78 [(V.agg [(V.int .i64 k), (V.int .i64 w), (V.int .i64 d)]), (V.int .i64 y), (V.int .i64 m)] K =
 sel (bnot (ftP k w d m))
 (K (V.tup [(V.int .i64 0), (V.int .i64 4)]))
 (sel (ile (-39999) y)
 (sel (bnot (ile y 39999))
 (K (V.tup [(V.int .i64 0), (V.int .i64 1)]))
 (sel (band (ile (-9223372036854775808) y) (ile y 9223372036854775807))
 (sel (ieq k 1)
 (sel (band (band (ile (-100000000) (isub .i64 (iadd .i64 (cdI y m 1) (lenI y m)) 1)) (ile (isub .i64 (iadd .i64 (cdI y m 1) (lenI y m)) 1) 100000000)) (band (ile 0 w) (ile w 6)))
 (K (V.tup [(V.int .i64 (isub .i64 (isub .i64 (iadd .i64 (cdI y m 1) (lenI y m)) 1) (bkI (isub .i64 (iadd .i64 (cdI y m 1) (lenI y m)) 1) w))), (V.int .i64 (cdE y m 1))]))
 (none))
 (sel (ieq k 2)
 (sel (band (band (ile (-100000000) (isub .i64 (iadd .i64 (isub .i64 (iadd .i64 (cdI y m 1) d) 1) 7) 1)) (ile (isub .i64 (iadd .i64 (isub .i64 (iadd .i64 (cdI y m 1) d) 1) 7) 1) 100000000)) (band (ile 0 w) (ile w 6)))
 (K (V.tup [(V.int .i64 (iadd .i64 (isub .i64 (iadd .i64 (cdI y m 1) d) 1) (isub .i64 6 (bkI (isub .i64 (iadd .i64 (isub .i64 (iadd .i64 (cdI y m 1) d) 1) 7) 1) w)))), (V.int .i64 (cdE y m 1))]))
 (none))
 (sel (ieq k 3)
 (sel (band (band (ile (-100000000) (isub .i64 (iadd .i64 (cdI y m 1) d) 1)) (ile (isub .i64 (iadd .i64 (cdI y m 1) d) 1) 100000000)) (band (ile 0 w) (ile w 6)))
 (K (V.tup [(V.int .i64 (isub .i64 (isub .i64 (iadd .i64 (cdI y m 1) d) 1) (bkI (isub .i64 (iadd .i64 (cdI y m 1) d) 1) w))), (V.int .i64 (cdE y m 1))]))
 (none))
 (K (V.tup [(V.int .i64 (isub .i64 (iadd .i64 (cdI y m 1) d) 1)), (V.int .i64 (cdE y m 1))])))))
 (none)))
 (K (V.tup [(V.int .i64 0), (V.int .i64 1)]))) := by kernel_rfl
theorem oNear_top (F : Nat) (t : Int) (K : V → Option V) :
 evBd fE (evFn fE oS3 F 2) F 30 [(V.int .i64 t)] K =
 sel (band (ile (-9223372036854775808) (clI t (-1099511627776) 1099511627776)) (ile (clI t (-1099511627776) 1099511627776) 9223372036854775807))
 (sel (ieq (soE (clI t (-1099511627776) 1099511627776)) 0)
 (K (V.int .i64 (soA 0 (clI t (-1099511627776) 1099511627776))))
 (sel (ilt t 0)
 (K (V.int .i64 (-65534)))
 (K (V.int .i64 65534))))
 (none) := by kernel_rfl
theorem oLess_top (F : Nat) (r : Int) (y : Int) (n : Int) (r2 : Int) (y2 : Int) (n2 : Int) (K : V → Option V) :
 evBd fE (evFn fE oS3 F 2) F 33 [(V.agg [(V.int .i64 r), (V.int .i64 y), (V.int .i64 n)]), (V.agg [(V.int .i64 r2), (V.int .i64 y2), (V.int .i64 n2)])] K =
 K (V.bool (ilt (or2 (cm1 n n2) (cm1 r r2)) 0)) := by kernel_rfl
theorem oNm_top (F : Nat) (n : List UInt8) (f : Int) (t : Int) (m : Int) (k : Int) (w : Int) (d : Int) (c : Int) (b : Int) (v : Int) (l : List UInt8) (y : Int) (K : V → Option V) :
 evBd fE (evFn fE oS3 F 2) F 55 [(V.agg [(V.str n), (V.int .i64 f), (V.int .i64 t), (V.int .i64 m), (V.int .i64 k), (V.int .i64 w), (V.int .i64 d), (V.int .i64 c), (V.int .i64 b), (V.int .i64 v), (V.str l)]), (V.int .i64 y)] K =
 K (V.int .i64 (iadd .i64 (imul .i64 (oyI k w d y m) 86400) c)) := by kernel_rfl
noncomputable def oPv_L0 (F : Nat) (ns : List Nat) (n : Nat) (x0_0 : List UInt8) (x0_1 : Int) (x0_2 : Int) (x0_3 : Int) (x0_4 : Int) (x0_5 : Int) (x0_6 : Int) (x0_7 : Int) (x0_8 : Int) (x0_9 : Int) (x0_10 : List UInt8) (x1 : Int) (x2 : Int) (x9 : Bool) (x10 : Int) (b8_0 : Int) (b8_1 : Int) (b8_2 : Int) (b4_0 : List UInt8) (b4_1 : Int) (b4_2 : Int) (b4_3 : Int) (b4_4 : Int) (b4_5 : Int) (b4_6 : Int) (b4_7 : Int) (b4_8 : Int) (b4_9 : Int) (b4_10 : List UInt8) (b1000000004_0 : Int) (b1000000004_1 : Int) (b1000000004_2 : Int) (K : V → Option V) : Option V :=
 loopAtA fE oS4 F 3 60 [(V.nilsl), (V.nilsl), (V.nilsl), (V.nilsl), (V.bxa 0 [])] [1, 0, 1, 0] ns K n (mkSt 34 [(0, V.agg [V.str x0_0, V.int .i64 x0_1, V.int .i64 x0_2, V.int .i64 x0_3, V.int .i64 x0_4, V.int .i64 x0_5, V.int .i64 x0_6, V.int .i64 x0_7, V.int .i64 x0_8, V.int .i64 x0_9, V.str x0_10]), (1, V.int .i64 x1), (2, V.int .i64 x2), (3, (V.fn 61 [(V.box 1000000004 0)])), (4, (V.box 4 0)), (8, (V.box 8 0)), (9, V.bool x9), (10, V.int .i64 x10)] [(8, [V.int .i64 b8_0, V.int .i64 b8_1, V.int .i64 b8_2]), (4, [V.str b4_0, V.int .i64 b4_1, V.int .i64 b4_2, V.int .i64 b4_3, V.int .i64 b4_4, V.int .i64 b4_5, V.int .i64 b4_6, V.int .i64 b4_7, V.int .i64 b4_8, V.int .i64 b4_9, V.str b4_10]), (1000000004, [V.int .i64 b1000000004_0, V.int .i64 b1000000004_1, V.int .i64 b1000000004_2])])
theorem oPv_top (F : Nat) (n : List UInt8) (f : Int) (t : Int) (m : Int) (k : Int) (w : Int) (d : Int) (c : Int) (b : Int) (v : Int) (l : List UInt8) (p : Int) (q : Int) (x : Int) (y : Int) (z : Int) (K : V → Option V) :
 evBd fE (evFn fE oS4 F 3) F 60 [(V.agg [(V.str n), (V.int .i64 f), (V.int .i64 t), (V.int .i64 m), (V.int .i64 k), (V.int .i64 w), (V.int .i64 d), (V.int .i64 c), (V.int .i64 b), (V.int .i64 v), (V.str l)]), (V.int .i64 p), (V.int .i64 q), (V.fn 61 [(V.box 1000000004 0)]), (V.bxa 1000000000000 [(V.int .i64 x), (V.int .i64 y), (V.int .i64 z)])] K =
 oPv_L0 F [] F n f t m k w d c b v l p q false (imin t (iadd .i64 q 2)) 0 0 0 n f t m k w d c b v l x y z K := by kernel_rfl
theorem oPv_L0_succ (F : Nat) (n : Nat) (x0_0 : List UInt8) (x0_1 : Int) (x0_2 : Int) (x0_3 : Int) (x0_4 : Int) (x0_5 : Int) (x0_6 : Int) (x0_7 : Int) (x0_8 : Int) (x0_9 : Int) (x0_10 : List UInt8) (x1 : Int) (x2 : Int) (x9 : Bool) (x10 : Int) (b8_0 : Int) (b8_1 : Int) (b8_2 : Int) (b4_0 : List UInt8) (b4_1 : Int) (b4_2 : Int) (b4_3 : Int) (b4_4 : Int) (b4_5 : Int) (b4_6 : Int) (b4_7 : Int) (b4_8 : Int) (b4_9 : Int) (b4_10 : List UInt8) (b1000000004_0 : Int) (b1000000004_1 : Int) (b1000000004_2 : Int) (K : V → Option V) :
 oPv_L0 F [] (n + 1) x0_0 x0_1 x0_2 x0_3 x0_4 x0_5 x0_6 x0_7 x0_8 x0_9 x0_10 x1 x2 x9 x10 b8_0 b8_1 b8_2 b4_0 b4_1 b4_2 b4_3 b4_4 b4_5 b4_6 b4_7 b4_8 b4_9 b4_10 b1000000004_0 b1000000004_1 b1000000004_2 K =
 sel (ile b4_1 x10)
 (sel (band (ile 0 b4_7) (ile b4_7 172800))
 (sel (lsB x1 (nomI b4_3 b4_4 b4_5 b4_6 b4_7 x10) b1000000004_0 b1000000004_2)
 (K (V.out false (V.tup [(V.agg [(V.int .i64 x1), (V.int .i64 x10), (V.int .i64 (nomI b4_3 b4_4 b4_5 b4_6 b4_7 x10))]), (V.bool true)]) [[(V.int .i64 b1000000004_0), (V.int .i64 b1000000004_1), (V.int .i64 b1000000004_2)]]))
 (oPv_L0 F [] n x0_0 x0_1 x0_2 x0_3 x0_4 x0_5 x0_6 x0_7 x0_8 x0_9 x0_10 x1 x2 x9 (isub .i64 x10 1) b8_0 b8_1 b8_2 b4_0 b4_1 b4_2 b4_3 b4_4 b4_5 b4_6 b4_7 b4_8 b4_9 b4_10 b1000000004_0 b1000000004_1 b1000000004_2 K))
 (none))
 (K (V.out false (V.tup [(V.agg [(V.int .i64 0), (V.int .i64 0), (V.int .i64 0)]), (V.bool false)]) [[(V.int .i64 b1000000004_0), (V.int .i64 b1000000004_1), (V.int .i64 b1000000004_2)]])) := by kernel_rfl
noncomputable def oPrev_L0 (F : Nat) (ns : List Nat) (n : Nat) (x0 : List V) (x1 : List UInt8) (x2_0 : Int) (x2_1 : Int) (x2_2 : Int) (x7 : Bool) (x8 : Int) (x16 : List V) (x17 : Int) (x18 : Int) (b6_0 : Int) (b6_1 : Int) (b6_2 : Int) (b5_0 : Int) (b5_1 : Int) (b5_2 : Int) (K : V → Option V) : Option V :=
 loopAt fE oS5 F 3 38 [1, 1, 0, 1, 0] ns K n (mkSt 54 [(0, V.sl 41 [(Kd.str), (Kd.int .i64), (Kd.int .i64), (Kd.int .i64), (Kd.int .i64), (Kd.int .i64), (Kd.int .i64), (Kd.int .i64), (Kd.int .i64), (Kd.int .i64), (Kd.str)] none x0), (1, V.str x1), (2, V.agg [V.int .i64 x2_0, V.int .i64 x2_1, V.int .i64 x2_2]), (5, (V.box 5 0)), (6, (V.box 6 0)), (7, V.bool x7), (8, V.int .i64 x8), (16, V.sl 41 [(Kd.str), (Kd.int .i64), (Kd.int .i64), (Kd.int .i64), (Kd.int .i64), (Kd.int .i64), (Kd.int .i64), (Kd.int .i64), (Kd.int .i64), (Kd.int .i64), (Kd.str)] none x16), (17, V.int .i64 x17), (18, V.int .i64 x18)] [(6, [V.int .i64 b6_0, V.int .i64 b6_1, V.int .i64 b6_2]), (5, [V.int .i64 b5_0, V.int .i64 b5_1, V.int .i64 b5_2])])
theorem oPrev_top (F : Nat) (xs : List V) (s : List UInt8) (x : Int) (y : Int) (z : Int) (K : V → Option V) :
 evBd fE (evFn fE oS5 F 3) F 38 [(V.sl 41 [(Kd.str), (Kd.int .i64), (Kd.int .i64), (Kd.int .i64), (Kd.int .i64), (Kd.int .i64), (Kd.int .i64), (Kd.int .i64), (Kd.int .i64), (Kd.int .i64), (Kd.str)] none xs), (V.str s), (V.agg [(V.int .i64 x), (V.int .i64 y), (V.int .i64 z)])] K =
 oPrev_L0 F [] F xs s x y z false (nearI z) xs (llen xs) 0 0 0 0 x y z K := by kernel_rfl
theorem oPrev_L0_succ (F : Nat) (n : Nat) (x0 : List V) (x1 : List UInt8) (x2_0 : Int) (x2_1 : Int) (x2_2 : Int) (x7 : Bool) (x8 : Int) (x16 : List V) (x17 : Int) (x18 : Int) (b6_0 : Int) (b6_1 : Int) (b6_2 : Int) (b5_0 : Int) (b5_1 : Int) (b5_2 : Int) (K : V → Option V) :
 oPrev_L0 F [] (n + 1) x0 x1 x2_0 x2_1 x2_2 x7 x8 x16 x17 x18 b6_0 b6_1 b6_2 b5_0 b5_1 b5_2 K =
 sel (ilt x18 x17)
 (sel (band (ile 0 x18) (ilt x18 (llen x16)))
 (sel (bnot (seq (asStr (acell (lget x16 x18) 0)) x1))
 (oPrev_L0 F [] n x0 x1 x2_0 x2_1 x2_2 x7 x8 x16 x17 (iadd .i64 x18 1) b6_0 b6_1 b6_2 b5_0 b5_1 b5_2 K)
 (sel (ile (slen (asStr (acell (lget x16 x18) 10))) 900)
 (sel (bnot (ruP (asStr (acell (lget x16 x18) 0)) (asInt (acell (lget x16 x18) 1)) (asInt (acell (lget x16 x18) 2)) (asInt (acell (lget x16 x18) 3)) (asInt (acell (lget x16 x18) 4)) (asInt (acell (lget x16 x18) 5)) (asInt (acell (lget x16 x18) 6)) (asInt (acell (lget x16 x18) 7)) (asInt (acell (lget x16 x18) 8)) (asInt (acell (lget x16 x18) 9)) (asStr (acell (lget x16 x18) 10))))
 (oPrev_L0 F [] n x0 x1 x2_0 x2_1 x2_2 x7 x8 x16 x17 (iadd .i64 x18 1) b6_0 b6_1 b6_2 b5_0 b5_1 b5_2 K)
 (sel (band true (band (ruP (asStr (acell (lget x16 x18) 0)) (asInt (acell (lget x16 x18) 1)) (asInt (acell (lget x16 x18) 2)) (asInt (acell (lget x16 x18) 3)) (asInt (acell (lget x16 x18) 4)) (asInt (acell (lget x16 x18) 5)) (asInt (acell (lget x16 x18) 6)) (asInt (acell (lget x16 x18) 7)) (asInt (acell (lget x16 x18) 8)) (asInt (acell (lget x16 x18) 9)) (asStr (acell (lget x16 x18) 10))) (band (ile (-70000) x8) (ile x8 70000))))
 (sel (pvB (asInt (acell (lget x16 x18) 1)) (asInt (acell (lget x16 x18) 2)) (asInt (acell (lget x16 x18) 3)) (asInt (acell (lget x16 x18) 4)) (asInt (acell (lget x16 x18) 5)) (asInt (acell (lget x16 x18) 6)) (asInt (acell (lget x16 x18) 7)) x18 x8 b5_0 b5_2)
 (sel (bnot x7)
 (oPrev_L0 F [] n x0 x1 x2_0 x2_1 x2_2 true x8 x16 x17 (iadd .i64 x18 1) (qvR (asInt (acell (lget x16 x18) 1)) (asInt (acell (lget x16 x18) 2)) (asInt (acell (lget x16 x18) 3)) (asInt (acell (lget x16 x18) 4)) (asInt (acell (lget x16 x18) 5)) (asInt (acell (lget x16 x18) 6)) (asInt (acell (lget x16 x18) 7)) x18 x8 b5_0 b5_2) (qvY (asInt (acell (lget x16 x18) 1)) (asInt (acell (lget x16 x18) 2)) (asInt (acell (lget x16 x18) 3)) (asInt (acell (lget x16 x18) 4)) (asInt (acell (lget x16 x18) 5)) (asInt (acell (lget x16 x18) 6)) (asInt (acell (lget x16 x18) 7)) x18 x8 b5_0 b5_2) (qvN (asInt (acell (lget x16 x18) 1)) (asInt (acell (lget x16 x18) 2)) (asInt (acell (lget x16 x18) 3)) (asInt (acell (lget x16 x18) 4)) (asInt (acell (lget x16 x18) 5)) (asInt (acell (lget x16 x18) 6)) (asInt (acell (lget x16 x18) 7)) x18 x8 b5_0 b5_2) b5_0 b5_1 b5_2 K)
 (sel (lsB b6_0 b6_2 (qvR (asInt (acell (lget x16 x18) 1)) (asInt (acell (lget x16 x18) 2)) (asInt (acell (lget x16 x18) 3)) (asInt (acell (lget x16 x18) 4)) (asInt (acell (lget x16 x18) 5)) (asInt (acell (lget x16 x18) 6)) (asInt (acell (lget x16 x18) 7)) x18 x8 b5_0 b5_2) (qvN (asInt (acell (lget x16 x18) 1)) (asInt (acell (lget x16 x18) 2)) (asInt (acell (lget x16 x18) 3)) (asInt (acell (lget x16 x18) 4)) (asInt (acell (lget x16 x18) 5)) (asInt (acell (lget x16 x18) 6)) (asInt (acell (lget x16 x18) 7)) x18 x8 b5_0 b5_2))
 (oPrev_L0 F [] n x0 x1 x2_0 x2_1 x2_2 true x8 x16 x17 (iadd .i64 x18 1) (qvR (asInt (acell (lget x16 x18) 1)) (asInt (acell (lget x16 x18) 2)) (asInt (acell (lget x16 x18) 3)) (asInt (acell (lget x16 x18) 4)) (asInt (acell (lget x16 x18) 5)) (asInt (acell (lget x16 x18) 6)) (asInt (acell (lget x16 x18) 7)) x18 x8 b5_0 b5_2) (qvY (asInt (acell (lget x16 x18) 1)) (asInt (acell (lget x16 x18) 2)) (asInt (acell (lget x16 x18) 3)) (asInt (acell (lget x16 x18) 4)) (asInt (acell (lget x16 x18) 5)) (asInt (acell (lget x16 x18) 6)) (asInt (acell (lget x16 x18) 7)) x18 x8 b5_0 b5_2) (qvN (asInt (acell (lget x16 x18) 1)) (asInt (acell (lget x16 x18) 2)) (asInt (acell (lget x16 x18) 3)) (asInt (acell (lget x16 x18) 4)) (asInt (acell (lget x16 x18) 5)) (asInt (acell (lget x16 x18) 6)) (asInt (acell (lget x16 x18) 7)) x18 x8 b5_0 b5_2) b5_0 b5_1 b5_2 K)
 (oPrev_L0 F [] n x0 x1 x2_0 x2_1 x2_2 x7 x8 x16 x17 (iadd .i64 x18 1) b6_0 b6_1 b6_2 b5_0 b5_1 b5_2 K)))
 (oPrev_L0 F [] n x0 x1 x2_0 x2_1 x2_2 x7 x8 x16 x17 (iadd .i64 x18 1) b6_0 b6_1 b6_2 b5_0 b5_1 b5_2 K))
 (none)))
 (none)))
 (none))
 (K (V.tup [(V.agg [(V.int .i64 b6_0), (V.int .i64 b6_1), (V.int .i64 b6_2)]), (V.bool x7)])) := by kernel_rfl
end Nt.Ev.YtheojhajckcdlaaGreatDoor.Oc

namespace Nt.Ev.YtheojhajckcdlaaGreatDoor.Oc
set_option maxRecDepth 100000
open Go Go.RowKit Nt Nt.Num Go.Proofs.YtheojhajckcdlaaGreatDoor Nt.Ev.YtheojhajckcdlaaGreatDoor Nt.Civil Nt.Ev.YtheojhajckcdlaaGreatDoor.Rl
variable [MLen]
theorem oDivS_ok (a b : Int) (hc : band (band (ile (-9223372036854775808) a) (ile a 9223372036854775807)) (band (ilt 0 b) (ile b 1000000)) = true) : Contract fE 92 [.int .i64 a, .int .i64 b] (.tup [.int .i64 (fq a b), .int .i64 (fr a b), .int .i64 0]) := toPv (divS_ok a b hc)
theorem oDaysS_ok (y m d : Int) (hc : true = true) : Contract fE 94 [.agg [.int .i64 y, .int .i64 m, .int .i64 d]] (.tup [.int .i64 (cdI y m d), .int .i64 (cdE y m d)]) := toPv (vDays_ev y m d)
theorem oS0_ok : SOk fE oS0 := by
  unfold oS0
  refine SOk.cons (fun args r h => ?_) (SOk.cons (fun args r h => ?_) (SOk.cons (fun args r h => ?_) (SOk.cons (fun args r h => ?_) (SOk.cons (fun args r h => ?_) (SOk.nil)))))
  · unfold oDivS at h
    split at h
    · simp only [Option.some.injEq, Prod.mk.injEq] at h
      obtain ⟨hc, rfl⟩ := h
      exact oDivS_ok _ _ hc
    · cases h
  · unfold oDaysS at h
    split at h
    · simp only [Option.some.injEq, Prod.mk.injEq] at h
      obtain ⟨hc, rfl⟩ := h
      exact oDaysS_ok _ _ _ rfl
    · cases h
  · unfold kLenS at h
    split at h
    · simp only [Option.some.injEq, Prod.mk.injEq] at h
      obtain ⟨hc, rfl⟩ := h
      exact kLenS_ok _ _ hc
    · cases h
  · unfold kFtS at h
    split at h
    · simp only [Option.some.injEq, Prod.mk.injEq] at h
      obtain ⟨hc, rfl⟩ := h
      exact kFtS_ok _ _ _ _ rfl
    · cases h
  · unfold kRrS at h
    split at h
    · simp only [Option.some.injEq, Prod.mk.injEq] at h
      obtain ⟨hc, rfl⟩ := h
      exact kRrS_ok _ _ _ _ _ _ _ _ _ _ _ hc
    · cases h
theorem oWdS_ok (n : Int) (hc : band (ile (-9223372036854775808) n) (ile n 9223372036854775807) = true) : Contract fE 104 [.int .i64 n] (.int .i64 (wkI n)) := by
  refine contract_of_body fE_ok oS0_ok 5 2 ?_
  have e : fr n 7 = n % 7 := rfl
  rw [oWd_top, hc, sel_pos (by rfl), e, iadd64 (by omega), irem_pos (by omega)]
  rfl
theorem oClS_ok (n a b : Int) (hc : ile a b = true) : Contract fE 37 [.int .i64 n, .int .i64 a, .int .i64 b] (.int .i64 (clI n a b)) := by
  refine contract_of_body fE_ok oS0_ok 5 2 ?_
  rw [oClamp_top]
  unfold clI
  simp only [sel_if, ilt_iff]
  repeat' split
  all_goals rfl
theorem cm_tree (a b : Int) : sel (bnot (ieq a a))
      (sel (bnot (ieq b b))
        (some (V.int .i64 0))
        (some (V.int .i64 (-1))))
      (sel (bnot (ieq b b))
        (some (V.int .i64 1))
        (sel (ilt a b)
          (some (V.int .i64 (-1)))
          (sel (ilt b a)
            (some (V.int .i64 1))
            (some (V.int .i64 0))))) = some (.int .i64 (cm1 a b)) := by
  have h1 : ieq a a = true := ieq_t rfl
  have h2 : ieq b b = true := ieq_t rfl
  rw [h1, h2, sel_neg (show bnot true = false from rfl), sel_neg (show bnot true = false from rfl)]
  unfold cm1
  simp only [sel_if, ilt_iff]
  repeat' split
  all_goals rfl
theorem oCmS_ok (a b : Int) (hc : true = true) : Contract fE 58 [.int .i64 a, .int .i64 b] (.int .i64 (cm1 a b)) := by
  refine contract_of_body fE_ok oS0_ok 5 3 ?_
  rw [oCmp_top]
  exact cm_tree a b
theorem oCmS_ok_cmp_Compare_int64_ (a b : Int) (hc : true = true) : Contract fE 57 [.int .i64 a, .int .i64 b] (.int .i64 (cm1 a b)) := by
  refine contract_of_body fE_ok oS0_ok 5 3 ?_
  rw [oCmp64_top]
  exact cm_tree a b
theorem or_ev (a b : Int) : Contract fE 56 [.sl 3 [.int .i64] none [.int .i64 a, .int .i64 b]] (.int .i64 (or2 a b)) := by
  refine contract_of_body fE_ok oS0_ok 4 3 ?_
  rw [oOr_u4_top]
  unfold or2
  simp only [sel_if, bnot_iff, ieq_iff]
  repeat' split
  all_goals first | rfl | (exfalso; omega) | (congr 2; omega)
theorem oOrS_ok (e : Nat) (o : Option Nat) (a b : Int) (hc : true = true) : Contract fE 56 [.sl e [.int .i64] o [.int .i64 a, .int .i64 b]] (.int .i64 (or2 a b)) := by
  intro G w vs hG hg hp
  refine or_ev a b G w vs hG hg ?_
  obtain ⟨x, rfl, hx⟩ := PW_one hp
  refine .cons ?_ .nil
  unfold rep at hx ⊢
  exact hx
theorem oS1_ok : SOk fE oS1 := by
  unfold oS1
  refine SOk.cons (fun args r h => ?_) (SOk.cons (fun args r h => ?_) (SOk.cons (fun args r h => ?_) (SOk.cons (fun args r h => ?_) (SOk.cons (fun args r h => ?_) (oS0_ok)))))
  · unfold oWdS at h
    split at h
    · simp only [Option.some.injEq, Prod.mk.injEq] at h
      obtain ⟨hc, rfl⟩ := h
      exact oWdS_ok _ hc
    · cases h
  · unfold oClS at h
    split at h
    · simp only [Option.some.injEq, Prod.mk.injEq] at h
      obtain ⟨hc, rfl⟩ := h
      exact oClS_ok _ _ _ hc
    · cases h
  · unfold oCmS at h
    split at h
    · simp only [Option.some.injEq, Prod.mk.injEq] at h
      obtain ⟨hc, rfl⟩ := h
      exact oCmS_ok _ _ rfl
    · cases h
  · unfold oCmS at h
    split at h
    · simp only [Option.some.injEq, Prod.mk.injEq] at h
      obtain ⟨hc, rfl⟩ := h
      exact oCmS_ok_cmp_Compare_int64_ _ _ rfl
    · cases h
  · unfold oOrS at h
    split at h
    · simp only [Option.some.injEq, Prod.mk.injEq] at h
      obtain ⟨hc, rfl⟩ := h
      exact oOrS_ok _ _ _ _ rfl
    · cases h
theorem wk_in (n : Int) : 0 ≤ wkI n ∧ wkI n ≤ 6 := by unfold wkI; omega
theorem oBkS_ok (n w : Int) (hc : band (band (ile (-100000000) n) (ile n 100000000)) (band (ile 0 w) (ile w 6)) = true) : Contract fE 95 [.int .i64 n, .int .i64 w] (.int .i64 (bkI n w)) := by
  rw [band_iff, band_iff, band_iff, ile_iff, ile_iff, ile_iff, ile_iff] at hc
  obtain ⟨⟨h1, h2⟩, h3, h4⟩ := hc
  refine contract_of_body fE_ok oS1_ok 5 2 ?_
  have hw := wk_in n
  rw [oBk_top, sel_pos (p_fits ⟨by omega, by omega⟩)]
  unfold bkI
  rw [isub64 (by omega), iadd64 (by omega), irem_pos (by omega)]
theorem oS2_ok : SOk fE oS2 := by
  unfold oS2
  refine SOk.cons (fun args r h => ?_) (oS1_ok)
  · unfold oBkS at h
    split at h
    · simp only [Option.some.injEq, Prod.mk.injEq] at h
      obtain ⟨hc, rfl⟩ := h
      exact oBkS_ok _ _ hc
    · cases h
theorem bk_in (n w : Int) : 0 ≤ bkI n w ∧ bkI n w ≤ 6 := by unfold bkI; omega
theorem bk_c {n w : Int} (h1 : -100000000 ≤ n ∧ n ≤ 100000000) (h2 : 0 ≤ w ∧ w ≤ 6) : band (band (ile (-100000000) n) (ile n 100000000)) (band (ile 0 w) (ile w 6)) = true := by
  rw [band_iff, band_iff, band_iff, ile_iff, ile_iff, ile_iff, ile_iff]; exact ⟨h1, h2⟩
theorem days_lim {y m : Int} (hy : -39999 ≤ y ∧ y ≤ 39999) (hm : 1 ≤ m ∧ m ≤ 12) : -20000000 ≤ daysI y m 1 ∧ daysI y m 1 ≤ 20000000 := by
  have hl := len_pos y m hm.1 hm.2
  have hb := yd_bounds (y := y) (m := m) (d := 1) ⟨by omega, by omega⟩
  have ha : -19000000 ≤ aheadI y ∧ aheadI y ≤ 19000000 := by unfold aheadI leapsI; omega
  have hz : (if leapB y = true then (1 : Int) else 0) ≤ 1 := by split <;> omega
  unfold daysI
  omega
theorem oDyS_ok (k w d y m : Int) (hc : true = true) : Contract fE 78 [.agg [.int .i64 k, .int .i64 w, .int .i64 d], .int .i64 y, .int .i64 m] (.tup [.int .i64 (oyI k w d y m), .int .i64 (oyE k w d y m)]) := by
  refine contract_of_body fE_ok oS2_ok 5 2 ?_
  rw [oDy_top]
  unfold oyI oyE
  cases h : ftP k w d m with
  | false => rfl
  | true =>
    rw [sel_neg (show bnot true = false from rfl), if_pos (show true = true from rfl)]
    by_cases hy1 : -39999 ≤ y
    · by_cases hy2 : y ≤ 39999
      · rw [sel_pos (ile_t hy1), ile_t hy2, sel_neg (show bnot true = false from rfl), sel_pos (p_fits ⟨by omega, by omega⟩), if_pos (show -39999 ≤ y ∧ y ≤ 39999 from ⟨hy1, hy2⟩), if_pos (show true = true ∧ -39999 ≤ y ∧ y ≤ 39999 from ⟨rfl, hy1, hy2⟩)]
        have hk := ft_k h
        have hl := len_pos y m (by omega) (by omega)
        have hD := days_lim (y := y) (m := m) ⟨hy1, hy2⟩ (by omega)
        have hv : validB y m 1 = true := validB_iff.2 ⟨by omega, by omega, by unfold valid; omega⟩
        have e1 : cdI y m 1 = daysI y m 1 := by unfold cdI daysP; rw [if_pos hv]
        have e2 : cdE y m 1 = 0 := by unfold cdE daysP; rw [if_pos hv]
        rw [e1, e2]
        generalize daysI y m 1 = D at *
        generalize lenI y m = L at *
        by_cases k1 : k = 1
        · have hb := bk_in (D + L - 1) w
          rw [sel_pos (ieq_t k1), if_pos k1, iadd64 (a := D) (by omega), isub64 (a := D + L) (by omega), sel_pos (bk_c (by omega) (by omega)), isub64 (by omega)]
        · rw [sel_neg (ieq_f k1), if_neg k1, iadd64 (a := D) (b := d) (by omega), isub64 (a := D + d) (by omega)]
          by_cases k2 : k = 2
          · have hb := bk_in (D + d + 5) w
            rw [sel_pos (ieq_t k2), if_pos k2, iadd64 (a := D + d - 1) (b := 7) (by omega), isub64 (a := D + d - 1 + 7) (by omega), show D + d - 1 + 7 - 1 = D + d + 5 by omega, sel_pos (bk_c (by omega) (by omega)), isub64 (a := 6) (by omega), iadd64 (by omega), show D + d - 1 + (6 - bkI (D + d + 5) w) = D + d + 5 - bkI (D + d + 5) w by omega]
          · rw [sel_neg (ieq_f k2), if_neg k2]
            by_cases k3 : k = 3
            · have hb := bk_in (D + d - 1) w
              rw [sel_pos (ieq_t k3), if_pos k3, sel_pos (bk_c (by omega) (by omega)), isub64 (by omega)]
            · rw [sel_neg (ieq_f k3), if_neg k3]
      · rw [sel_pos (ile_t hy1), ile_f (by omega), sel_pos (show bnot false = true from rfl), if_neg (show ¬ (-39999 ≤ y ∧ y ≤ 39999) by omega), if_neg (show ¬ (true = true ∧ -39999 ≤ y ∧ y ≤ 39999) by omega)]
    · rw [sel_neg (ile_f (by omega)), if_neg (show ¬ (-39999 ≤ y ∧ y ≤ 39999) by omega), if_neg (show ¬ (true = true ∧ -39999 ≤ y ∧ y ≤ 39999) by omega)]
theorem oSoS_ok (t : Int) (hc : band (ile (-9223372036854775808) t) (ile t 9223372036854775807) = true) : Contract fE 54 [.int .i64 t] (.tup [.agg [.int .i64 (soA 0 t), .int .i64 (soA 1 t), .int .i64 (soA 2 t), .int .i64 (soA 3 t), .int .i64 (soA 4 t), .int .i64 (soA 5 t)], .int .i64 (soE t)]) := by
  have h := toPv (stOf_ev t (fits_p hc))
  have e : resO (Nt.Ev.YtheojhajckcdlaaGreatDoor.ofP t) = .tup [.agg [.int .i64 (soA 0 t), .int .i64 (soA 1 t), .int .i64 (soA 2 t), .int .i64 (soA 3 t), .int .i64 (soA 4 t), .int .i64 (soA 5 t)], .int .i64 (soE t)] := by
    unfold resO soA soE Nt.Ev.YtheojhajckcdlaaGreatDoor.ofP
    split <;> rfl
  rw [← e]
  exact h
theorem oS3_ok : SOk fE oS3 := by
  unfold oS3
  refine SOk.cons (fun args r h => ?_) (SOk.cons (fun args r h => ?_) (oS2_ok))
  · unfold oDyS at h
    split at h
    · simp only [Option.some.injEq, Prod.mk.injEq] at h
      obtain ⟨hc, rfl⟩ := h
      exact oDyS_ok _ _ _ _ _ rfl
    · cases h
  · unfold oSoS at h
    split at h
    · simp only [Option.some.injEq, Prod.mk.injEq] at h
      obtain ⟨hc, rfl⟩ := h
      exact oSoS_ok _ hc
    · cases h
theorem cl_in (t a b : Int) (h : a ≤ b) : a ≤ clI t a b ∧ clI t a b ≤ b := by unfold clI; repeat' split <;> omega
theorem oNearS_ok (t : Int) (hc : true = true) : Contract fE 30 [.int .i64 t] (.int .i64 (nearI t)) := by
  refine contract_of_body fE_ok oS3_ok 5 2 ?_
  have h := cl_in t (-1099511627776) 1099511627776 (by omega)
  rw [oNear_top, sel_pos (p_fits ⟨by omega, by omega⟩)]
  unfold nearI
  simp only [sel_if, ieq_iff, ilt_iff]
  repeat' split
  all_goals rfl
theorem near_in (t : Int) : -70000 ≤ nearI t ∧ nearI t ≤ 70000 := by
  unfold nearI
  generalize clI t (-1099511627776) 1099511627776 = u
  split
  · rename_i h
    unfold soE Nt.Ev.YtheojhajckcdlaaGreatDoor.ofP at h
    unfold soA Nt.Ev.YtheojhajckcdlaaGreatDoor.ofP
    split at h
    · rename_i h'
      rw [if_pos h']
      have := (range_year _).1 h'
      show -70000 ≤ dY (u / 86400) ∧ dY (u / 86400) ≤ 70000
      omega
    · cases h
  · split <;> omega
theorem oLessS_ok (r y n r2 y2 n2 : Int) (hc : true = true) : Contract fE 33 [.agg [.int .i64 r, .int .i64 y, .int .i64 n], .agg [.int .i64 r2, .int .i64 y2, .int .i64 n2]] (.bool (lsB r n r2 n2)) := by
  refine contract_of_body fE_ok oS3_ok 5 2 ?_
  rw [oLess_top]
  congr 2
  rw [Bool.eq_iff_iff, ilt_iff]
  unfold lsB or2 cm1
  rw [decide_eq_true_eq]
  repeat' split
  all_goals omega
theorem nom_lim (m k w d y : Int) : -30000000 ≤ oyI k w d y m ∧ oyI k w d y m ≤ 30000000 := by
  unfold oyI
  split
  · rename_i h
    have hk := ft_k h.1
    have hD := days_lim (y := y) (m := m) h.2 (by omega)
    have hl := len_pos y m (by omega) (by omega)
    have b1 := bk_in (daysI y m 1 + lenI y m - 1) w
    have b2 := bk_in (daysI y m 1 + d + 5) w
    have b3 := bk_in (daysI y m 1 + d - 1) w
    repeat' split
    all_goals omega
  · omega
theorem oNmS_ok (n : List UInt8) (f t m k w d c b v : Int) (l : List UInt8) (y : Int) (hc : band (ile 0 c) (ile c 172800) = true) : Contract fE 55 [.agg [.str n, .int .i64 f, .int .i64 t, .int .i64 m, .int .i64 k, .int .i64 w, .int .i64 d, .int .i64 c, .int .i64 b, .int .i64 v, .str l], .int .i64 y] (.int .i64 (nomI m k w d c y)) := by
  rw [band_iff, ile_iff, ile_iff] at hc
  refine contract_of_body fE_ok oS3_ok 5 2 ?_
  have := nom_lim m k w d y
  rw [oNm_top, imul64 (by omega), iadd64 (by omega)]
  rfl
theorem oS4_ok : SOk fE oS4 := by
  unfold oS4
  refine SOk.cons (fun args r h => ?_) (SOk.cons (fun args r h => ?_) (SOk.cons (fun args r h => ?_) (oS3_ok)))
  · unfold oNearS at h
    split at h
    · simp only [Option.some.injEq, Prod.mk.injEq] at h
      obtain ⟨hc, rfl⟩ := h
      exact oNearS_ok _ rfl
    · cases h
  · unfold oLessS at h
    split at h
    · simp only [Option.some.injEq, Prod.mk.injEq] at h
      obtain ⟨hc, rfl⟩ := h
      exact oLessS_ok _ _ _ _ _ _ rfl
    · cases h
  · unfold oNmS at h
    split at h
    · simp only [Option.some.injEq, Prod.mk.injEq] at h
      obtain ⟨hc, rfl⟩ := h
      exact oNmS_ok _ _ _ _ _ _ _ _ _ _ _ _ hc
    · cases h
theorem dn_t {P : Int → Bool} {r : Nat} {j : Int} (h : P j = true) : dnY P (r + 1) j = some j := by
  show (if P j = true then some j else dnY P r (j - 1)) = _
  rw [if_pos h]
theorem dn_f {P : Int → Bool} {r : Nat} {j : Int} (h : P j = false) : dnY P (r + 1) j = dnY P r (j - 1) := by
  show (if P j = true then some j else dnY P r (j - 1)) = _
  rw [if_neg (by rw [h]; simp)]
theorem pv_loop (F : Nat) (a : List UInt8) (i1 i2 i3 i4 i5 i6 i7 i8 i9 : Int) (z0 : List UInt8) (n : List UInt8) (f t m k w d c b v : Int) (l : List UInt8) (p q x y z : Int) (hc : 0 ≤ c ∧ c ≤ 172800) (hf : -32767 ≤ f) (K : V → Option V) : ∀ (r : Nat) (j : Int) (G : Nat), j ≤ 70000 → (j - f + 1).toNat = r → r < G →
    oPv_L0 F [] G a i1 i2 i3 i4 i5 i6 i7 i8 i9 z0 p q false j 0 0 0 n f t m k w d c b v l x y z K =
      K (.out false (.tup [.agg [.int .i64 (if (dnY (fun y => lsB p (nomI m k w d c y) x z) r j).isSome = true then p else 0), .int .i64 ((dnY (fun y => lsB p (nomI m k w d c y) x z) r j).getD 0), .int .i64 (if (dnY (fun y => lsB p (nomI m k w d c y) x z) r j).isSome = true then nomI m k w d c ((dnY (fun y => lsB p (nomI m k w d c y) x z) r j).getD 0) else 0)], .bool (dnY (fun y => lsB p (nomI m k w d c y) x z) r j).isSome]) [[.int .i64 x, .int .i64 y, .int .i64 z]]) := by
  intro r
  induction r with
  | zero =>
    intro j G h1 h2 h3
    obtain ⟨G, rfl⟩ := Nat.exists_eq_succ_of_ne_zero (show G ≠ 0 by omega)
    rw [oPv_L0_succ, sel_neg (ile_f (by omega))]
    rfl
  | succ r ih =>
    intro j G h1 h2 h3
    obtain ⟨G, rfl⟩ := Nat.exists_eq_succ_of_ne_zero (show G ≠ 0 by omega)
    rw [oPv_L0_succ, sel_pos (ile_t (by omega)), sel_pos (by rw [band_iff, ile_iff, ile_iff]; exact hc)]
    cases hl : lsB p (nomI m k w d c j) x z with
    | true => rw [sel_pos rfl, dn_t (P := fun y => lsB p (nomI m k w d c y) x z) hl]; rfl
    | false => rw [sel_neg rfl, isub64 (by omega), dn_f (P := fun y => lsB p (nomI m k w d c y) x z) hl, ih (j - 1) G (by omega) (by omega) (by omega)]
theorem oPvS_ok (n : List UInt8) (f t m k w d c b v : Int) (l : List UInt8) (p q : Int) (fb : Nat) (bb bo hh : Nat) (x y z : Int) (hc : band (fb == 61 && (bb == 1000000004 && (bo == 0 && hh == 1000000000000))) (band (ruP n f t m k w d c b v l) (band (ile (-70000) q) (ile q 70000))) = true) : XOk fE 60 [.agg [.str n, .int .i64 f, .int .i64 t, .int .i64 m, .int .i64 k, .int .i64 w, .int .i64 d, .int .i64 c, .int .i64 b, .int .i64 v, .str l], .int .i64 p, .int .i64 q, .fn fb [.box bb bo], .bxa hh [.int .i64 x, .int .i64 y, .int .i64 z]] (.out false (.tup [.agg [.int .i64 (qvR f t m k w d c p q x z), .int .i64 (qvY f t m k w d c p q x z), .int .i64 (qvN f t m k w d c p q x z)], .bool (pvB f t m k w d c p q x z)]) [[.int .i64 x, .int .i64 y, .int .i64 z]]) := by
  obtain ⟨h1, hq⟩ := band_true hc
  obtain ⟨h2, h3⟩ := band_true hq
  rw [band_iff, ile_iff, ile_iff] at h3
  simp only [Bool.and_eq_true, beq_iff_eq] at h1
  obtain ⟨rfl, rfl, rfl, rfl⟩ := h1
  have hr := ru_ft h2
  refine XOk.out (xc_of_body fE_ok oS4_ok 140000 3 ?_)
  have e : imin t (iadd .i64 q 2) = if t < q + 2 then t else q + 2 := by
    rw [iadd64 (by omega)]; unfold imin; split <;> omega
  rw [oPv_top, e, pv_loop 140000 n f t m k w d c b v l n f t m k w d c b v l p q x y z hr.2.1 hr.2.2.1 some ((if t < q + 2 then t else q + 2) - f + 1).toNat (if t < q + 2 then t else q + 2) 140000 (by split <;> omega) rfl (by split <;> omega)]
  rfl
theorem oS5_ok : SOk fE oS5 := by
  unfold oS5
  refine SOk.consX (fun args r h => ?_) (oS4_ok)
  · unfold oPvS at h
    split at h
    · simp only [Option.some.injEq, Prod.mk.injEq] at h
      obtain ⟨hc, rfl⟩ := h
      exact oPvS_ok _ _ _ _ _ _ _ _ _ _ _ _ _ _ _ _ _ _ _ _ hc
    · cases h
def rOk (x : V) : Bool := ile (slen (asStr (acell x 10))) 900
def ruV (e : V) : Bool := ruP (asStr (acell e 0)) (asInt (acell e 1)) (asInt (acell e 2)) (asInt (acell e 3)) (asInt (acell e 4)) (asInt (acell e 5)) (asInt (acell e 6)) (asInt (acell e 7)) (asInt (acell e 8)) (asInt (acell e 9)) (asStr (acell e 10))
def bV (e : V) (i q x z : Int) : Bool := pvB (asInt (acell e 1)) (asInt (acell e 2)) (asInt (acell e 3)) (asInt (acell e 4)) (asInt (acell e 5)) (asInt (acell e 6)) (asInt (acell e 7)) i q x z
def rV (e : V) (i q x z : Int) : Int := qvR (asInt (acell e 1)) (asInt (acell e 2)) (asInt (acell e 3)) (asInt (acell e 4)) (asInt (acell e 5)) (asInt (acell e 6)) (asInt (acell e 7)) i q x z
def yV (e : V) (i q x z : Int) : Int := qvY (asInt (acell e 1)) (asInt (acell e 2)) (asInt (acell e 3)) (asInt (acell e 4)) (asInt (acell e 5)) (asInt (acell e 6)) (asInt (acell e 7)) i q x z
def nV (e : V) (i q x z : Int) : Int := qvN (asInt (acell e 1)) (asInt (acell e 2)) (asInt (acell e 3)) (asInt (acell e 4)) (asInt (acell e 5)) (asInt (acell e 6)) (asInt (acell e 7)) i q x z
def prL (xs : List V) (s : List UInt8) (q x z : Int) : Nat → Int → Bool × Int × Int × Int → Bool × Int × Int × Int
  | 0, _, st => st
  | k + 1, i, st =>
    let e := lget xs i
    prL xs s q x z k (i + 1) (if seq (asStr (acell e 0)) s = true ∧ ruV e = true ∧ bV e i q x z = true ∧ (st.1 = false ∨ lsB st.2.1 st.2.2.2 (rV e i q x z) (nV e i q x z) = true) then (true, rV e i q x z, yV e i q x z, nV e i q x z) else st)
def prA (xs : List V) (s : List UInt8) (x z : Int) : Bool × Int × Int × Int := prL xs s (nearI z) x z xs.length 0 (false, 0, 0, 0)
theorem pr_loop (F : Nat) (xs : List V) (s : List UInt8) (x y z a0 a1 a2 q : Int) (hx : ∀ e ∈ xs, rOk e = true) (hq : -70000 ≤ q ∧ q ≤ 70000) (hn : (xs.length : Int) ≤ 4611686018427387904) (K : V → Option V) : ∀ (k : Nat) (i : Int) (st : Bool × Int × Int × Int) (G : Nat), 0 ≤ i → i + k = xs.length → k < G →
    oPrev_L0 F [] G xs s a0 a1 a2 st.1 q xs (llen xs) i st.2.1 st.2.2.1 st.2.2.2 x y z K =
      K (.tup [.agg [.int .i64 (prL xs s q x z k i st).2.1, .int .i64 (prL xs s q x z k i st).2.2.1, .int .i64 (prL xs s q x z k i st).2.2.2], .bool (prL xs s q x z k i st).1]) := by
  intro k
  induction k with
  | zero =>
    intro i st G h0 h1 h2
    obtain ⟨G, rfl⟩ := Nat.exists_eq_succ_of_ne_zero (show G ≠ 0 by omega)
    rw [oPrev_L0_succ, sel_neg (ilt_f (by rw [llen_nat]; omega))]
    rfl
  | succ k ih =>
    intro i st G h0 h1 h2
    obtain ⟨G, rfl⟩ := Nat.exists_eq_succ_of_ne_zero (show G ≠ 0 by omega)
    have hm : rOk (lget xs i) = true := by
      refine hx _ ?_
      unfold lget
      rw [List.getD_eq_getElem?_getD, List.getElem?_eq_getElem (by omega), Option.getD_some]
      exact List.getElem_mem _
    rw [oPrev_L0_succ, sel_pos (ilt_t (by rw [llen_nat]; omega)), sel_pos (by rw [band_iff, ile_iff, ilt_iff, llen_nat]; omega), iadd64 (by omega)]
    unfold prL
    have ih := fun st => ih (i + 1) st G (by omega) (by omega) (by omega)
    unfold rOk at hm
    show sel (bnot (seq (asStr (acell (lget xs i) 0)) s)) _ (sel (ile (slen (asStr (acell (lget xs i) 10))) 900) (sel (bnot (ruV (lget xs i))) _ (sel (band true (band (ruV (lget xs i)) _)) (sel (bV (lget xs i) i q x z) (sel (bnot st.1) (oPrev_L0 F [] G xs s a0 a1 a2 true q xs (llen xs) (i + 1) (rV (lget xs i) i q x z) (yV (lget xs i) i q x z) (nV (lget xs i) i q x z) x y z K) (sel (lsB st.2.1 st.2.2.2 (rV (lget xs i) i q x z) (nV (lget xs i) i q x z)) (oPrev_L0 F [] G xs s a0 a1 a2 true q xs (llen xs) (i + 1) (rV (lget xs i) i q x z) (yV (lget xs i) i q x z) (nV (lget xs i) i q x z) x y z K) _)) _) _)) _) = _
    rw [sel_pos hm]
    have ht := ih (true, rV (lget xs i) i q x z, yV (lget xs i) i q x z, nV (lget xs i) i q x z)
    have hs := ih st
    simp only at ht hs ⊢
    rw [ht, hs]
    cases h3 : seq (asStr (acell (lget xs i) 0)) s with
    | false => rw [sel_pos (show bnot false = true from rfl), if_neg (by simp)]
    | true =>
      cases h4 : ruV (lget xs i) with
      | false => rw [sel_neg (show bnot true = false from rfl), sel_pos (show bnot false = true from rfl), if_neg (by simp)]
      | true =>
        rw [sel_neg (show bnot true = false from rfl), sel_neg (show bnot true = false from rfl), sel_pos (by rw [band_iff, band_iff, band_iff, ile_iff, ile_iff]; exact ⟨rfl, rfl, hq⟩)]
        cases h5 : bV (lget xs i) i q x z with
        | false => rw [sel_neg rfl, if_neg (by simp)]
        | true =>
          rw [sel_pos rfl]
          cases h6 : st.1 with
          | false => rw [sel_pos (show bnot false = true from rfl), if_pos (by simp)]
          | true =>
            rw [sel_neg (show bnot true = false from rfl)]
            cases h7 : lsB st.2.1 st.2.2.2 (rV (lget xs i) i q x z) (nV (lget xs i) i q x z) with
            | false => rw [sel_neg rfl, if_neg (by simp)]
            | true => rw [sel_pos rfl, if_pos (by simp)]
theorem prev_ev (xs : List V) (s : List UInt8) (x y z : Int) (hx : ∀ e ∈ xs, rOk e = true) (hn : (xs.length : Int) ≤ 4611686018427387904) : Contract fE 38 [.sl 41 [.str, .int .i64, .int .i64, .int .i64, .int .i64, .int .i64, .int .i64, .int .i64, .int .i64, .int .i64, .str] none xs, .str s, .agg [.int .i64 x, .int .i64 y, .int .i64 z]] (.tup [.agg [.int .i64 (prA xs s x z).2.1, .int .i64 (prA xs s x z).2.2.1, .int .i64 (prA xs s x z).2.2.2], .bool (prA xs s x z).1]) := by
  refine contract_of_body fE_ok oS5_ok (xs.length + 5) 3 ?_
  rw [oPrev_top]
  exact pr_loop (xs.length + 5) xs s x y z x y z (nearI z) hx (near_in z) hn some xs.length 0 (false, 0, 0, 0) (xs.length + 5) (by omega) (by omega) (by omega)
theorem pr_in (xs : List V) (s : List UInt8) (q x z : Int) (N : Int) : ∀ (k : Nat) (i : Int) (st : Bool × Int × Int × Int), 0 ≤ i → i + k ≤ N → (st.1 = true → 0 ≤ st.2.1 ∧ st.2.1 < N) → (prL xs s q x z k i st).1 = true → 0 ≤ (prL xs s q x z k i st).2.1 ∧ (prL xs s q x z k i st).2.1 < N := by
  intro k
  induction k with
  | zero => intro i st _ _ h hb; exact h hb
  | succ k ih =>
    intro i st h0 h1 h hb
    unfold prL at hb ⊢
    refine ih (i + 1) _ (by omega) (by omega) ?_ hb
    intro hs
    split at hs
    · rename_i hc
      rw [if_pos hc]
      have hb' : bV (lget xs i) i q x z = true := hc.2.2.1
      have : rV (lget xs i) i q x z = i := by unfold rV qvR; unfold bV at hb'; rw [if_pos hb']
      show 0 ≤ rV (lget xs i) i q x z ∧ rV (lget xs i) i q x z < N
      omega
    · rename_i hc
      rw [if_neg hc]
      exact h hs
theorem prev_in (xs : List V) (s : List UInt8) (x z : Int) (h : (prA xs s x z).1 = true) : 0 ≤ (prA xs s x z).2.1 ∧ (prA xs s x z).2.1 < xs.length :=
  pr_in xs s (nearI z) x z xs.length xs.length 0 (false, 0, 0, 0) (by omega) (by omega) (fun h => by cases h) h
end Nt.Ev.YtheojhajckcdlaaGreatDoor.Oc
