/-
  Posix: equations of functions, as the evaluator prints them. What holds for good: days, rules that are too close, what may be; both sides. What holds for good: pairs of rules, names, what may be, and how it is written; both sides. What holds for good: how it is written; both sides.
-/
import Derived.Test.YteccmgkfmeoekaaDoorMH
import Derived.Test.YteccmgkfmeoekaaDoorMQ
import Derived.Test.YteccmgkfmeoekaaDoorMR
import Derived.Test.YteccmgkfmeoekaaDoorMI
import Derived.Test.YteccmgkfmeoekaaDoorMJ
import Derived.Test.YteccmgkfmeoekaaDoorMG
set_option linter.unusedVariables false
set_option linter.unusedSimpArgs false
set_option linter.unusedSectionVars false
namespace Nt.Ev.YteccmgkfmeoekaaDoor.Px
open Go Nt.Num Go.Proofs.YteccmgkfmeoekaaDoor
variable [MLen]
open Nt.Ev.YteccmgkfmeoekaaDoor
open Nt.Civil
abbrev nmI (s : List UInt8) : Int := Nm.nmI s
noncomputable def pNmS : FSpec := fun a => match a with | [.str s] => some (true, .int .i64 (nmI s)) | _ => none
noncomputable def pLtS : FSpec := fun a => match a with | [.str s] => some (ile (slen s) 1000, .tup [.str (ltT s), .int .i64 (ltW s)]) | _ => none
noncomputable def pCrS : FSpec := fun a => match a with | [.agg [.int .i64 n, .int .i64 b]] => some (true, .bool (rightC n b)) | _ => none
noncomputable def pLenS : FSpec := fun a => match a with | [.int .i64 y, .int .i64 m] => some (band (ile (-9223372036854775808) y) (ile y 9223372036854775807), .int .i64 (lenI y m)) | _ => none
noncomputable def pNbS : FSpec := fun a => match a with | [.agg [.int .i64 y, .int .i64 m, .int .i64 d]] => some (validB y m d, .int .i64 (daysI y m d)) | _ => none
noncomputable def pVaS : FSpec := fun a => match a with | [.agg [.int .i64 y, .int .i64 m, .int .i64 d]] => some (true, .bool (validB y m d)) | _ => none
def fxT (n : Int) : List UInt8 := (yFromTextP n).1
def fxW (n : Int) : Int := (yFromTextP n).2
def txTy (m n : Int) : List UInt8 := (yToTextP m n).1
def txWy (m n : Int) : Int := (yToTextP m n).2
noncomputable def pFxS : FSpec := fun a => match a with | [.int .i64 n] => some (true, .tup [.str (fxT n), .int .i64 (fxW n)]) | _ => none
noncomputable def pTxS : FSpec := fun a => match a with | [.int .i64 m, .int .i64 n] => some (true, .tup [.str (txTy m n), .int .i64 (txWy m n)]) | _ => none
noncomputable def pS0 : List (Nat × FSpec) := (85, pFxS) :: (84, pTxS) :: (26, pNmS) :: (86, pLtS) :: (57, pCrS) :: (95, pLenS) :: (128, pNbS) :: (103, pVaS) :: []
def onP (k w d : Int) : Bool := if k = 1 then decide (0 ≤ w ∧ w ≤ 6 ∧ d = 0) else if k = 0 then decide (w = 0 ∧ 1 ≤ d ∧ d ≤ 31) else decide ((k = 2 ∨ k = 3) ∧ 0 ≤ w ∧ w ≤ 6 ∧ 1 ≤ d ∧ d ≤ 31)
noncomputable def pYdS : FSpec := fun a => match a with | [.agg [.int .i64 y, .int .i64 m, .int .i64 d]] => some (true, .tup [.int .i64 (ydV y m d), .int .i64 (ydW y m d)]) | _ => none
noncomputable def pOnS : FSpec := fun a => match a with | [.agg [.int .i64 k, .int .i64 w, .int .i64 d]] => some (true, .bool (onP k w d)) | _ => none
noncomputable def pS1 : List (Nat × FSpec) := (121, pYdS) :: (93, pOnS) :: pS0
def ftP (k w d m : Int) : Bool := onP k w d && decide (1 ≤ m ∧ m ≤ 12 ∧ d ≤ lenI 1 m)
noncomputable def pFtS : FSpec := fun a => match a with | [.agg [.int .i64 k, .int .i64 w, .int .i64 d], .int .i64 m] => some (true, .bool (ftP k w d m)) | _ => none
noncomputable def pS2 : List (Nat × FSpec) := (56, pFtS) :: pS1
def wlP (k w d m : Int) : Int := if ftP k w d m = true then (if k = 1 then lenI 1 m - 6 else if k = 3 then d - 6 else d) else 0
def whP (k w d m : Int) : Int := if ftP k w d m = true then (if k = 1 then lenI 4 m else if k = 2 then d + 6 else d) else 0
def weP (k w d m : Int) : Int := if ftP k w d m = true then 0 else 4
noncomputable def pWiS : FSpec := fun a => match a with | [.agg [.int .i64 k, .int .i64 w, .int .i64 d], .int .i64 m] => some (true, .tup [.int .i64 (wlP k w d m), .int .i64 (whP k w d m), .int .i64 (weP k w d m)]) | _ => none
def yrP (f t : Int) : Bool := ile (-32767) f && (ile f t && ile t 32767)
def ruP (n : List UInt8) (f t m k w d c b v : Int) (l : List UInt8) : Bool := ieq (nmI n) 0 && (yrP f t && (ftP k w d m && (rightC c b && ((ile (-10800) v && ile v 10800) && ieq (ltW l) 0))))
noncomputable def pRrS : FSpec := fun a => match a with | [.agg [.str n, .int .i64 f, .int .i64 t, .int .i64 m, .int .i64 k, .int .i64 w, .int .i64 d, .int .i64 c, .int .i64 b, .int .i64 v, .str l]] => some (ile (slen l) 900, .bool (ruP n f t m k w d c b v l)) | _ => none
noncomputable def pS3 : List (Nat × FSpec) := (122, pWiS) :: (52, pRrS) :: pS2
def ofL (m k w d c : Int) : Int := (cumI 2001 m + wlP k w d m - 1) * 86400 + c
def ofH (m k w d c : Int) : Int := (cumI 2001 m + whP k w d m - 1) * 86400 + c
noncomputable def pOfS : FSpec := fun a => match a with | [.agg [.str n, .int .i64 f, .int .i64 t, .int .i64 m, .int .i64 k, .int .i64 w, .int .i64 d, .int .i64 c, .int .i64 b, .int .i64 v, .str l]] => some (band (ftP k w d m) (band (ile 0 c) (ile c 172800)), .agg [.int .i64 (ofL m k w d c), .int .i64 (ofH m k w d c)]) | _ => none
noncomputable def pS4 : List (Nat × FSpec) := (88, pOfS) :: pS3
def neP (f t l h f2 t2 l2 h2 : Int) : Bool := decide ((f ≤ t2 ∧ f2 ≤ t ∧ l2 - h < 345600 ∧ l - h2 < 345600) ∨ (f + 1 ≤ t2 ∧ f2 ≤ t + 1 ∧ 31536000 + l2 - h < 345600) ∨ (f2 + 1 ≤ t ∧ f ≤ t2 + 1 ∧ 31536000 + l - h2 < 345600))
noncomputable def pNeS : FSpec := fun a => match a with | [.agg [.str n, .int .i64 f, .int .i64 t, .int .i64 m, .int .i64 k, .int .i64 w, .int .i64 d, .int .i64 c, .int .i64 b, .int .i64 v, .str l], .agg [.str n2, .int .i64 f2, .int .i64 t2, .int .i64 m2, .int .i64 k2, .int .i64 w2, .int .i64 d2, .int .i64 c2, .int .i64 b2, .int .i64 v2, .str l2]] => some (band (ruP n f t m k w d c b v l) (ruP n2 f2 t2 m2 k2 w2 d2 c2 b2 v2 l2), .bool (neP f t (ofL m k w d c) (ofH m k w d c) f2 t2 (ofL m2 k2 w2 d2 c2) (ofH m2 k2 w2 d2 c2))) | _ => none
noncomputable def pS5 : List (Nat × FSpec) := (53, pNeS) :: pS4
def paP (n : List UInt8) (f t m k w d c b v : Int) (l : List UInt8) (n2 : List UInt8) (f2 t2 m2 k2 w2 d2 c2 b2 v2 : Int) (l2 : List UInt8) : Int := if ruP n f t m k w d c b v l = true ∧ ruP n2 f2 t2 m2 k2 w2 d2 c2 b2 v2 l2 = true then (if neP f t (ofL m k w d c) (ofH m k w d c) f2 t2 (ofL m2 k2 w2 d2 c2) (ofH m2 k2 w2 d2 c2) = true then 15 else 0) else 4
noncomputable def pPaS : FSpec := fun a => match a with | [.agg [.str n, .int .i64 f, .int .i64 t, .int .i64 m, .int .i64 k, .int .i64 w, .int .i64 d, .int .i64 c, .int .i64 b, .int .i64 v, .str l], .agg [.str n2, .int .i64 f2, .int .i64 t2, .int .i64 m2, .int .i64 k2, .int .i64 w2, .int .i64 d2, .int .i64 c2, .int .i64 b2, .int .i64 v2, .str l2]] => some (band (ile (slen l) 900) (ile (slen l2) 900), .int .i64 (paP n f t m k w d c b v l n2 f2 t2 m2 k2 w2 d2 c2 b2 v2 l2)) | _ => none
noncomputable def pS6 : List (Nat × FSpec) := (22, pPaS) :: pS5
def ltrC (c : UInt8) : Bool := (decide (65 ≤ c.toNat) && decide (c.toNat ≤ 90)) || (decide (97 ≤ c.toNat) && decide (c.toNat ≤ 122))
def namC (c : UInt8) : Bool := ltrC c || ((decide (48 ≤ c.toNat) && decide (c.toNat ≤ 57)) || (c == 43 || c == 45))
def letB (s : List UInt8) : Bool := s.all ltrC
def mayB (s : List UInt8) : Bool := (decide (3 ≤ s.length) && decide (s.length ≤ 6)) && s.all namC
def fiP (m w d c : Int) : Bool := decide (1 ≤ m ∧ m ≤ 12 ∧ 1 ≤ w ∧ w ≤ 5 ∧ 0 ≤ d ∧ d ≤ 6 ∧ 0 ≤ c ∧ c ≤ 172800)
noncomputable def pNaS : FSpec := fun a => match a with | [.str s] => some (ile (slen s) 1000, .tup [.bool (mayB s), .bool (letB s)]) | _ => none
noncomputable def pFiS : FSpec := fun a => match a with | [.agg [.int .i64 m, .int .i64 w, .int .i64 d, .int .i64 c]] => some (true, .bool (fiP m w d c)) | _ => none
noncomputable def pS7 : List (Nat × FSpec) := (78, pNaS) :: (47, pFiS) :: pS6
def wkK (m w d c : Int) : Int := if fiP m w d c = true then (if w = 5 then 1 else 2) else 0
def wkW (m w d c : Int) : Int := if fiP m w d c = true then d else 0
def wkD (m w d c : Int) : Int := if fiP m w d c = true then (if w = 5 then 0 else 7 * w - 6) else 0
def wkE (m w d c : Int) : Int := if fiP m w d c = true then 0 else 4
noncomputable def pWkS : FSpec := fun a => match a with | [.agg [.int .i64 m, .int .i64 w, .int .i64 d, .int .i64 c]] => some (true, .tup [.agg [.int .i64 (wkK m w d c), .int .i64 (wkW m w d c), .int .i64 (wkD m w d c)], .int .i64 (wkE m w d c)]) | _ => none
noncomputable def pS8 : List (Nat × FSpec) := (41, pWkS) :: pS7
def prP (m w d c m2 w2 d2 c2 v : Int) : Int := paP [80] (-32767) 32767 m (wkK m w d c) (wkW m w d c) (wkD m w d c) c 0 v [] [80] (-32767) 32767 m2 (wkK m2 w2 d2 c2) (wkW m2 w2 d2 c2) (wkD m2 w2 d2 c2) c2 0 0 []
def riP (n : List UInt8) (o : Int) (e : List UInt8) (v m w d c m2 w2 d2 c2 : Int) : Bool := if mayB n = true ∧ -54000 ≤ o ∧ o ≤ 54000 then (if e = [] then decide (v = 0 ∧ m = 0 ∧ w = 0 ∧ d = 0 ∧ c = 0 ∧ m2 = 0 ∧ w2 = 0 ∧ d2 = 0 ∧ c2 = 0) else decide (mayB e = true ∧ -10800 ≤ v ∧ v ≤ 10800 ∧ v ≠ 0 ∧ fiP m w d c = true ∧ fiP m2 w2 d2 c2 = true ∧ prP m w d c m2 w2 d2 c2 v = 0)) else false
noncomputable def pRiS : FSpec := fun a => match a with | [.agg [.str n, .int .i64 o, .str e, .int .i64 v, .int .i64 m, .int .i64 w, .int .i64 d, .int .i64 c, .int .i64 m2, .int .i64 w2, .int .i64 d2, .int .i64 c2]] => some (band (ile (slen n) 1000) (ile (slen e) 1000), .bool (riP n o e v m w d c m2 w2 d2 c2)) | _ => none
noncomputable def pS9 : List (Nat × FSpec) := (20, pRiS) :: pS8
noncomputable def bwL : V → List V | .sl _ _ _ xs => xs | _ => []
noncomputable def pNtS : FSpec := fun a => match a with | [.int .i64 n] => some (band (ile (-9223372036854775808) n) (ile n 9223372036854775807), .str (text n)) | _ => none
noncomputable def pNrS : FSpec := fun a => match a with | [.str s] => some (ile (slen s) 1000, .tup [.int .i64 (nrI s), .int .i64 (nrW s)]) | _ => none
noncomputable def pAmS : FSpec := fun a => match a with | [.str s] => some (ile (slen s) 1000, .tup [.int .i64 (rdI s), .int .i64 (rdWc s)]) | _ => none
noncomputable def pS10 : List (Nat × FSpec) := (80, pNtS) :: (118, pNrS) :: (117, pAmS) :: (GX + 69, bCpS) :: (GX + 35, bStS) :: pS9
def wrT (s : List UInt8) : List UInt8 := if letB s = true then s else [60] ++ s ++ [62]
def d2P (n : Int) : List UInt8 := [UInt8.ofNat (48 + n / 10).toNat, UInt8.ofNat (48 + n % 10).toNat]
noncomputable def ckU (n : Int) : List UInt8 := text (n / 3600) ++ (if n % 3600 = 0 then [] else [58] ++ d2P (n / 60 % 60)) ++ (if n % 60 = 0 then [] else [58] ++ d2P (n % 60))
noncomputable def ckT (n : Int) : List UInt8 := if n < 0 then [45] ++ ckU (-n) else ckU n
noncomputable def dyT (m w d c : Int) : List UInt8 := [44, 77] ++ text m ++ [46] ++ text w ++ [46] ++ text d ++ (if c = 7200 then [] else [47] ++ ckT c)
noncomputable def bxOk (x b : V) : Bool := match x, b with | .nilp, .nilsl => true | .box k off, .sl e sh (some L) xs => (k == HL && off == 0) && (e == 5 && (Kd.eqL [.int .u8] sh && L == 1000001002)) | _, _ => false
noncomputable def bxN (b : V) (t : List UInt8) : V := match b with | .sl e sh o xs => .sl e sh o (lcat xs (bytesV t)) | _ => .sl 5 [.int .u8] (some 1002) (bytesV t)
noncomputable def pwNs : FSpec := fun a => match a with | [.bxa 0 [x, b], .str s] => some (band (bxOk x b) (band (ile (slen s) 1000) (ile (llen (bwL b)) 100000)), .out false (.tup []) [[.box HL 0, bxN b (wrT s)]]) | _ => none
noncomputable def pwCs : FSpec := fun a => match a with | [.bxa 0 [.box k off, .sl e sh o xs], .int .i64 n] => some (band (bxOk (.box k off) (.sl e sh o xs)) (band (band (ile (-1000000) n) (ile n 1000000)) (ile (llen xs) 100000)), .out false (.tup []) [[.box HL 0, bxN (.sl e sh o xs) (ckT n)]]) | _ => none
noncomputable def pwDs : FSpec := fun a => match a with | [.bxa 0 [.box k off, .sl e sh o xs], .agg [.int .i64 m, .int .i64 w, .int .i64 d, .int .i64 c]] => some (band (bxOk (.box k off) (.sl e sh o xs)) (band (fiP m w d c) (ile (llen xs) 50000)), .out false (.tup []) [[.box HL 0, bxN (.sl e sh o xs) (dyT m w d c)]]) | _ => none
noncomputable def pS11 : List (Nat × FSpec) := (GX + 42, pwNs) :: (GX + 43, pwCs) :: pS10
noncomputable def pS12 : List (Nat × FSpec) := (GX + 44, pwDs) :: pS11
def cpBp (s p : List UInt8) : Bool := Lib.hasPrefix s p
def cpTp (s p : List UInt8) : List UInt8 := Lib.trimPrefix s p
def tlP (s c : List UInt8) : List UInt8 := s.dropWhile fun b => c.contains b
def twP (s c : List UInt8) : List UInt8 := s.takeWhile fun b => c.contains b
noncomputable def pTlS : FSpec := fun a => match a with | [.str s, .str c] => some (band (ile (slen s) 1000) (band (ile (slen c) 1000) (asciiBc c)), .str (tlP s c)) | _ => none
noncomputable def pCpS : FSpec := fun a => match a with | [.str s, .str p] => some (ile (slen s) 1000, .tup [.str (cpTp s p), .bool (cpBp s p)]) | _ => none
noncomputable def pS16 : List (Nat × FSpec) := (137, pTlS) :: (140, pCpS) :: pS12
noncomputable def pRnS : FSpec := fun a => match a with | [.bxa 0 [.str l], .str c] => some (band (ile (slen l) 1000) (band (ile (slen c) 1000) (asciiBc c)), .out false (.str (twP l c)) [[.str (tlP l c)]]) | _ => none
noncomputable def pSgS : FSpec := fun a => match a with | [.bxa 0 [.str l], .str c] => some (ile (slen l) 1000, .out false (.bool (cpBp l c)) [[.str (cpTp l c)]]) | _ => none
noncomputable def pS17 : List (Nat × FSpec) := (GX + 116, pRnS) :: (GX + 115, pSgS) :: pS16
abbrev ltrs : List UInt8 := [65,66,67,68,69,70,71,72,73,74,75,76,77,78,79,80,81,82,83,84,85,86,87,88,89,90,97,98,99,100,101,102,103,104,105,106,107,108,109,110,111,112,113,114,115,116,117,118,119,120,121,122]
abbrev alns : List UInt8 := [65,66,67,68,69,70,71,72,73,74,75,76,77,78,79,80,81,82,83,84,85,86,87,88,89,90,97,98,99,100,101,102,103,104,105,106,107,108,109,110,111,112,113,114,115,116,117,118,119,120,121,122,48,49,50,51,52,53,54,55,56,57,43,45]
abbrev clks : List UInt8 := [45,48,49,50,51,52,53,54,55,56,57,58]
def nmP (l : List UInt8) : Bool × List UInt8 × List UInt8 := if cpBp l [60] = true then (if cpBp (tlP (cpTp l [60]) alns) [62] = true then (true, twP (cpTp l [60]) alns, cpTp (tlP (cpTp l [60]) alns) [62]) else (false, [], cpTp (tlP (cpTp l [60]) alns) [62])) else (true, twP (cpTp l [60]) ltrs, tlP (cpTp l [60]) ltrs)
def nmQ (l : List UInt8) : Bool := (nmP l).1
def nmA (l : List UInt8) : List UInt8 := (nmP l).2.1
def nmL (l : List UInt8) : List UInt8 := (nmP l).2.2
noncomputable def pNmS2 : FSpec := fun a => match a with | [.bxa 0 [.str l]] => some (ile (slen l) 900, .cho (nmQ l) (.out false (.str (nmA l)) [[.str (nmL l)]]) (.out true (.iface 114 (.agg [])) [[.str (nmL l)]])) | _ => none
noncomputable def ckQ (l : List UInt8) : Bool := seq (twP l clks) [] || ieq (rdWc (twP l clks)) 0
noncomputable def ckN (l : List UInt8) : Int := if seq (twP l clks) [] = true then 0 else rdI (twP l clks)
def ckS (l : List UInt8) : Bool := bnot (seq (twP l clks) [])
def ckL (l : List UInt8) : List UInt8 := tlP l clks
noncomputable def pCkS : FSpec := fun a => match a with | [.bxa 0 [.str l]] => some (ile (slen l) 900, .cho (ckQ l) (.out false (.tup [.int .i64 (ckN l), .bool (ckS l)]) [[.str (ckL l)]]) (.out true (.iface 114 (.agg [])) [[.str (ckL l)]])) | _ => none
noncomputable def pS18 : List (Nat × FSpec) := (GX + 81, pNmS2) :: (GX + 82, pCkS) :: pS17
abbrev dgs : List UInt8 := [48,49,50,51,52,53,54,55,56,57]
noncomputable def numQ (a : List UInt8) : Bool := ieq (nrW a) 0 && ilt (nrI a) 100
noncomputable def dyEnd (m w d : Int) (l : List UInt8) : Bool × (Int × Int × Int × Int) × List UInt8 := if cpBp l [47] = true then (if ckQ (cpTp l [47]) = true then (if ckS (cpTp l [47]) = true then (true, (m, w, d, ckN (cpTp l [47])), ckL (cpTp l [47])) else (false, (0, 0, 0, 0), ckL (cpTp l [47]))) else (false, (0, 0, 0, 0), ckL (cpTp l [47]))) else (true, (m, w, d, 7200), cpTp l [47])
noncomputable def dyNum (l : List UInt8) (K : Int → List UInt8 → Bool × (Int × Int × Int × Int) × List UInt8) : Bool × (Int × Int × Int × Int) × List UInt8 := if numQ (twP l dgs) = true then K (nrI (twP l dgs)) (tlP l dgs) else (false, (0, 0, 0, 0), tlP l dgs)
noncomputable def dyDot (l : List UInt8) (K : List UInt8 → Bool × (Int × Int × Int × Int) × List UInt8) : Bool × (Int × Int × Int × Int) × List UInt8 := if cpBp l [46] = true then K (cpTp l [46]) else (false, (0, 0, 0, 0), cpTp l [46])
noncomputable def dyP (l : List UInt8) : Bool × (Int × Int × Int × Int) × List UInt8 := if cpBp l [44, 77] = true then dyNum (cpTp l [44, 77]) (fun m l => dyDot l fun l => dyNum l fun w l => dyDot l fun l => dyNum l fun d l => dyEnd m w d l) else (false, (0, 0, 0, 0), cpTp l [44, 77])
noncomputable def dyQ (l : List UInt8) : Bool := (dyP l).1
noncomputable def dyM (l : List UInt8) : Int := (dyP l).2.1.1
noncomputable def dyW (l : List UInt8) : Int := (dyP l).2.1.2.1
noncomputable def dyD (l : List UInt8) : Int := (dyP l).2.1.2.2.1
noncomputable def dyC (l : List UInt8) : Int := (dyP l).2.1.2.2.2
noncomputable def dyL (l : List UInt8) : List UInt8 := (dyP l).2.2
noncomputable def pDyS : FSpec := fun a => match a with | [.bxa 0 [.str l]] => some (ile (slen l) 900, .cho (dyQ l) (.out false (.agg [.int .i64 (dyM l), .int .i64 (dyW l), .int .i64 (dyD l), .int .i64 (dyC l)]) [[.str (dyL l)]]) (.out true (.iface 114 (.agg [])) [[.str (dyL l)]])) | _ => none
noncomputable def pS19 : List (Nat × FSpec) := (GX + 83, pDyS) :: pS18
abbrev PxT := List UInt8 × Int × List UInt8 × Int × Int × Int × Int × Int × Int × Int × Int × Int
def zPx : PxT := ([], 0, [], 0, 0, 0, 0, 0, 0, 0, 0, 0)
noncomputable def alP4 (n : List UInt8) (o : Int) (e : List UInt8) (v : Int) (l : List UInt8) : Bool × PxT × List UInt8 := if dyQ l = true then (if dyQ (dyL l) = true then (if dyL (dyL l) = [] then (true, (n, o, e, v, dyM l, dyW l, dyD l, dyC l, dyM (dyL l), dyW (dyL l), dyD (dyL l), dyC (dyL l)), dyL (dyL l)) else (false, zPx, dyL (dyL l))) else (false, zPx, dyL (dyL l))) else (false, zPx, dyL l)
noncomputable def alP3 (n : List UInt8) (off : Int) (e l : List UInt8) : Bool × PxT × List UInt8 := if ckQ l = true then alP4 n (-off) e (if ckS l = true then off - ckN l else 3600) (ckL l) else (false, zPx, ckL l)
noncomputable def alP2 (n : List UInt8) (off : Int) (l : List UInt8) : Bool × PxT × List UInt8 := if l = [] then (true, (n, -off, [], 0, 0, 0, 0, 0, 0, 0, 0, 0), l) else if nmQ l = true then alP3 n off (nmA l) (nmL l) else (false, zPx, nmL l)
noncomputable def alP1 (n l : List UInt8) : Bool × PxT × List UInt8 := if ckQ l = true then (if ckS l = true then alP2 n (ckN l) (ckL l) else (false, zPx, ckL l)) else (false, zPx, ckL l)
noncomputable def alP (l : List UInt8) : Bool × PxT × List UInt8 := if nmQ l = true then alP1 (nmA l) (nmL l) else (false, zPx, nmL l)
noncomputable def alQ (l : List UInt8) : Bool := (alP l).1
noncomputable def alL (l : List UInt8) : List UInt8 := (alP l).2.2
noncomputable def al0 (l : List UInt8) : List UInt8 := (alP l).2.1.1
noncomputable def al1 (l : List UInt8) : Int := (alP l).2.1.2.1
noncomputable def al2 (l : List UInt8) : List UInt8 := (alP l).2.1.2.2.1
noncomputable def al3 (l : List UInt8) : Int := (alP l).2.1.2.2.2.1
noncomputable def al4 (l : List UInt8) : Int := (alP l).2.1.2.2.2.2.1
noncomputable def al5 (l : List UInt8) : Int := (alP l).2.1.2.2.2.2.2.1
noncomputable def al6 (l : List UInt8) : Int := (alP l).2.1.2.2.2.2.2.2.1
noncomputable def al7 (l : List UInt8) : Int := (alP l).2.1.2.2.2.2.2.2.2.1
noncomputable def al8 (l : List UInt8) : Int := (alP l).2.1.2.2.2.2.2.2.2.2.1
noncomputable def al9 (l : List UInt8) : Int := (alP l).2.1.2.2.2.2.2.2.2.2.2.1
noncomputable def al10 (l : List UInt8) : Int := (alP l).2.1.2.2.2.2.2.2.2.2.2.2.1
noncomputable def al11 (l : List UInt8) : Int := (alP l).2.1.2.2.2.2.2.2.2.2.2.2.2
noncomputable def pAlS : FSpec := fun a => match a with | [.bxa 0 [.str l]] => some (ile (slen l) 900, .cho (alQ l) (.out false (.agg [.str (al0 l), .int .i64 (al1 l), .str (al2 l), .int .i64 (al3 l), .int .i64 (al4 l), .int .i64 (al5 l), .int .i64 (al6 l), .int .i64 (al7 l), .int .i64 (al8 l), .int .i64 (al9 l), .int .i64 (al10 l), .int .i64 (al11 l)]) [[.str (alL l)]]) (.out true (.iface 114 (.agg [])) [[.str (alL l)]])) | _ => none
noncomputable def txP (n : List UInt8) (o : Int) (e : List UInt8) (v m w d c m2 w2 d2 c2 : Int) : List UInt8 := wrT n ++ ckT (-o) ++ (if e = [] then [] else wrT e ++ ((if v = 3600 then [] else ckT (-o - v)) ++ (dyT m w d c ++ dyT m2 w2 d2 c2)))
noncomputable def ptT (n : List UInt8) (o : Int) (e : List UInt8) (v m w d c m2 w2 d2 c2 : Int) : List UInt8 := if riP n o e v m w d c m2 w2 d2 c2 = true then txP n o e v m w d c m2 w2 d2 c2 else []
noncomputable def ptE (n : List UInt8) (o : Int) (e : List UInt8) (v m w d c m2 w2 d2 c2 : Int) : Int := if riP n o e v m w d c m2 w2 d2 c2 = true then 0 else 4
noncomputable def pTextS : FSpec := fun a => match a with | [.agg [.str n, .int .i64 o, .str e, .int .i64 v, .int .i64 m, .int .i64 w, .int .i64 d, .int .i64 c, .int .i64 m2, .int .i64 w2, .int .i64 d2, .int .i64 c2]] => some (band (ile (slen n) 1000) (ile (slen e) 1000), .tup [.str (ptT n o e v m w d c m2 w2 d2 c2), .int .i64 (ptE n o e v m w d c m2 w2 d2 c2)]) | _ => none
noncomputable def pS20 : List (Nat × FSpec) := (GX + 50, pAlS) :: (19, pTextS) :: pS19
def tnP (s : List UInt8) : List UInt8 × List UInt8 := if s.getD 0 0 = 60 then (if s.dropWhile (fun c => c != 62) = [] then ([], s) else ((s.takeWhile fun c => c != 62).drop 1, (s.dropWhile fun c => c != 62).drop 1)) else (s.takeWhile ltrC, s.dropWhile ltrC)
def tnA (s : List UInt8) : List UInt8 := (tnP s).1
def tnB (s : List UInt8) : List UInt8 := (tnP s).2
def dcC (c : UInt8) : Bool := (decide (48 ≤ c.toNat) && decide (c.toNat ≤ 57)) || c == 58
def tcW (s : List UInt8) : List UInt8 := if s.getD 0 0 = 45 then 45 :: (s.drop 1).takeWhile dcC else s.takeWhile dcC
def tcR (s : List UInt8) : List UInt8 := if s.getD 0 0 = 45 then (s.drop 1).dropWhile dcC else s.dropWhile dcC
noncomputable def tcB (s : List UInt8) : Bool := ieq (rdWc (tcW s)) 0 && bnot (seq (tcW s) [45])
noncomputable def tcN (s : List UInt8) : Int := if tcB s = true then rdI (tcW s) else 0
noncomputable def tcL (s : List UInt8) : List UInt8 := if tcB s = true then tcR s else s
def dgC (c : UInt8) : Bool := decide (48 ≤ c.toNat) && decide (c.toNat ≤ 57)
def dA (s : List UInt8) : List UInt8 := (s.take 3).takeWhile dgC
def dR (s : List UInt8) : List UInt8 := s.drop (dA s).length
abbrev TdT := (Int × Int × Int × Int) × List UInt8 × Bool
def tdNo (s : List UInt8) : TdT := ((0, 0, 0, 0), s, false)
noncomputable def tdNum (s : List UInt8) (K : Int → List UInt8 → TdT) : TdT := if nrW (dA s) = 0 then K (nrI (dA s)) (dR s) else tdNo s
def tdDot (s : List UInt8) (K : List UInt8 → TdT) : TdT := if s.getD 0 0 = 46 then K (s.drop 1) else tdNo s
noncomputable def tdEnd (m w d : Int) (s : List UInt8) : TdT := if s.getD 0 0 = 47 then (if tcB (s.drop 1) = true then ((m, w, d, tcN (s.drop 1)), tcL (s.drop 1), true) else tdNo s) else ((m, w, d, 7200), s, true)
noncomputable def tdP (s : List UInt8) : TdT := if s.take 2 = [44, 77] then tdNum (s.drop 2) (fun m s => tdDot s fun s => tdNum s fun w s => tdDot s fun s => tdNum s fun d s => tdEnd m w d s) else tdNo s
noncomputable def tdM (s : List UInt8) : Int := (tdP s).1.1
noncomputable def tdW (s : List UInt8) : Int := (tdP s).1.2.1
noncomputable def tdD (s : List UInt8) : Int := (tdP s).1.2.2.1
noncomputable def tdC (s : List UInt8) : Int := (tdP s).1.2.2.2
noncomputable def tdL (s : List UInt8) : List UInt8 := (tdP s).2.1
noncomputable def tdB (s : List UInt8) : Bool := (tdP s).2.2
noncomputable def tkP3 (n : List UInt8) (o : Int) (e : List UInt8) (v : Int) (s : List UInt8) : PxT × Bool := ((n, o, e, v, tdM s, tdW s, tdD s, tdC s, tdM (tdL s), tdW (tdL s), tdD (tdL s), tdC (tdL s)), tdB s && (tdB (tdL s) && seq (tdL (tdL s)) []))
noncomputable def tkP2 (n : List UInt8) (o : Int) (s : List UInt8) : PxT × Bool := tkP3 n (-o) (tnA s) (if tcB (tnB s) = true then -tcN (tnB s) + o else 3600) (tcL (tnB s))
noncomputable def tkP1 (n s : List UInt8) : PxT × Bool := if tcB s = true ∧ tcL s ≠ [] then tkP2 n (tcN s) (tcL s) else ((n, -tcN s, [], 0, 0, 0, 0, 0, 0, 0, 0, 0), tcB s)
noncomputable def tkP (s : List UInt8) : PxT × Bool := tkP1 (tnA s) (tnB s)
set_option maxRecDepth 100000 in
theorem pYd_top (F : Nat) (y : Int) (m : Int) (d : Int) (K : V → Option V) :
 evBd aE (evFn aE pS0 F 2) F 121 [(V.agg [(V.int .i64 y), (V.int .i64 m), (V.int .i64 d)])] K =
 sel (bnot (validB y m d))
 (K (V.tup [(V.int .i64 0), (V.int .i64 1)]))
 (sel (validB y m d)
 (sel (validB y 1 1)
 (K (V.tup [(V.int .i64 (iadd .i64 (isub .i64 (daysI y m d) (daysI y 1 1)) 1)), (V.int .i64 0)]))
 (none))
 (none)) := by kernel_rfl
set_option maxRecDepth 100000 in
theorem pOn_top (F : Nat) (k : Int) (w : Int) (d : Int) (K : V → Option V) :
 evBd aE (evFn aE pS0 F 3) F 93 [(V.agg [(V.int .i64 k), (V.int .i64 w), (V.int .i64 d)])] K =
 sel (ieq k 1)
 (sel (ile 0 w)
 (sel (ile w 6)
 (K (V.bool (ieq d 0)))
 (K (V.bool false)))
 (K (V.bool false)))
 (sel (ieq k 0)
 (sel (ile 0 k)
 (sel (ile k 3)
 (sel (ile 0 w)
 (sel (ile w 0)
 (sel (ile 1 d)
 (K (V.bool (ile d 31)))
 (K (V.bool false)))
 (K (V.bool false)))
 (K (V.bool false)))
 (K (V.bool false)))
 (K (V.bool false)))
 (sel (ile 0 k)
 (sel (ile k 3)
 (sel (ile 0 w)
 (sel (ile w 6)
 (sel (ile 1 d)
 (K (V.bool (ile d 31)))
 (K (V.bool false)))
 (K (V.bool false)))
 (K (V.bool false)))
 (K (V.bool false)))
 (K (V.bool false)))) := by kernel_rfl
set_option maxRecDepth 100000 in
theorem pFt_top (F : Nat) (k : Int) (w : Int) (d : Int) (m : Int) (K : V → Option V) :
 evBd aE (evFn aE pS1 F 2) F 56 [(V.agg [(V.int .i64 k), (V.int .i64 w), (V.int .i64 d)]), (V.int .i64 m)] K =
 sel (onP k w d)
 (sel (ile 1 m)
 (sel (ile m 12)
 (K (V.bool (ile d (lenI 1 m))))
 (K (V.bool false)))
 (K (V.bool false)))
 (K (V.bool false)) := by kernel_rfl
set_option maxRecDepth 100000 in
theorem pWi_top (F : Nat) (k : Int) (w : Int) (d : Int) (m : Int) (K : V → Option V) :
 evBd aE (evFn aE pS2 F 2) F 122 [(V.agg [(V.int .i64 k), (V.int .i64 w), (V.int .i64 d)]), (V.int .i64 m)] K =
 sel (bnot (ftP k w d m))
 (K (V.tup [(V.int .i64 0), (V.int .i64 0), (V.int .i64 4)]))
 (sel (ieq k 1)
 (K (V.tup [(V.int .i64 (iadd .i64 (isub .i64 (lenI 1 m) 7) 1)), (V.int .i64 (lenI 4 m)), (V.int .i64 0)]))
 (sel (ieq k 2)
 (K (V.tup [(V.int .i64 d), (V.int .i64 (iadd .i64 d 6)), (V.int .i64 0)]))
 (sel (ieq k 3)
 (K (V.tup [(V.int .i64 (isub .i64 d 6)), (V.int .i64 d), (V.int .i64 0)]))
 (K (V.tup [(V.int .i64 d), (V.int .i64 d), (V.int .i64 0)]))))) := by kernel_rfl
set_option maxRecDepth 100000 in
theorem pRr_top (F : Nat) (n : List UInt8) (f : Int) (t : Int) (m : Int) (k : Int) (w : Int) (d : Int) (c : Int) (b : Int) (v : Int) (l : List UInt8) (K : V → Option V) :
 evBd aE (evFn aE pS2 F 2) F 52 [(V.agg [(V.str n), (V.int .i64 f), (V.int .i64 t), (V.int .i64 m), (V.int .i64 k), (V.int .i64 w), (V.int .i64 d), (V.int .i64 c), (V.int .i64 b), (V.int .i64 v), (V.str l)])] K =
 sel (ile (slen l) 1000)
 (sel (ieq (txWy f t) 0)
 (sel (ieq (fxW f) 0)
 (sel (ieq (ltW l) 0)
 (sel (ieq (nmI n) 0)
 (sel (ftP k w d m)
 (sel (rightC c b)
 (sel (ile (-10800) v)
 (K (V.bool (ile v 10800)))
 (K (V.bool false)))
 (K (V.bool false)))
 (K (V.bool false)))
 (K (V.bool false)))
 (K (V.bool false)))
 (K (V.bool false)))
 (K (V.bool false)))
 (none) := by kernel_rfl
set_option maxRecDepth 100000 in
theorem pOf_top (F : Nat) (n : List UInt8) (f : Int) (t : Int) (m : Int) (k : Int) (w : Int) (d : Int) (c : Int) (b : Int) (v : Int) (l : List UInt8) (K : V → Option V) :
 evBd aE (evFn aE pS3 F 2) F 88 [(V.agg [(V.str n), (V.int .i64 f), (V.int .i64 t), (V.int .i64 m), (V.int .i64 k), (V.int .i64 w), (V.int .i64 d), (V.int .i64 c), (V.int .i64 b), (V.int .i64 v), (V.str l)])] K =
 K (V.agg [(V.int .i64 (iadd .i64 (imul .i64 (isub .i64 (iadd .i64 (ydV 2001 m 1) (wlP k w d m)) 2) 86400) c)), (V.int .i64 (iadd .i64 (imul .i64 (isub .i64 (iadd .i64 (ydV 2001 m 1) (whP k w d m)) 2) 86400) c))]) := by kernel_rfl
set_option maxRecDepth 100000 in
theorem pNe_top (F : Nat) (n : List UInt8) (f : Int) (t : Int) (m : Int) (k : Int) (w : Int) (d : Int) (c : Int) (b : Int) (v : Int) (l : List UInt8) (n2 : List UInt8) (f2 : Int) (t2 : Int) (m2 : Int) (k2 : Int) (w2 : Int) (d2 : Int) (c2 : Int) (b2 : Int) (v2 : Int) (l2 : List UInt8) (K : V → Option V) :
 evBd aE (evFn aE pS4 F 2) F 53 [(V.agg [(V.str n), (V.int .i64 f), (V.int .i64 t), (V.int .i64 m), (V.int .i64 k), (V.int .i64 w), (V.int .i64 d), (V.int .i64 c), (V.int .i64 b), (V.int .i64 v), (V.str l)]), (V.agg [(V.str n2), (V.int .i64 f2), (V.int .i64 t2), (V.int .i64 m2), (V.int .i64 k2), (V.int .i64 w2), (V.int .i64 d2), (V.int .i64 c2), (V.int .i64 b2), (V.int .i64 v2), (V.str l2)])] K =
 sel (band (ftP k w d m) (band (ile 0 c) (ile c 172800)))
 (sel (band (ftP k2 w2 d2 m2) (band (ile 0 c2) (ile c2 172800)))
 (sel (ile (iadd .i64 f 0) t2)
 (sel (ile f2 (iadd .i64 t 0))
 (sel (bnot (ile 345600 (isub .i64 (iadd .i64 (ofL m2 k2 w2 d2 c2) 0) (ofH m k w d c))))
 (sel (bnot (ile 345600 (isub .i64 (iadd .i64 (ofL m k w d c) 0) (ofH m2 k2 w2 d2 c2))))
 (K (V.bool true))
 (sel (ile (iadd .i64 f 1) t2)
 (sel (ile f2 (iadd .i64 t 1))
 (sel (bnot (ile 345600 (isub .i64 (iadd .i64 (ofL m2 k2 w2 d2 c2) 31536000) (ofH m k w d c))))
 (K (V.bool true))
 (sel (ile (iadd .i64 f2 1) t)
 (sel (ile f (iadd .i64 t2 1))
 (K (V.bool (bnot (ile 345600 (isub .i64 (iadd .i64 (ofL m k w d c) 31536000) (ofH m2 k2 w2 d2 c2))))))
 (K (V.bool false)))
 (K (V.bool false))))
 (sel (ile (iadd .i64 f2 1) t)
 (sel (ile f (iadd .i64 t2 1))
 (K (V.bool (bnot (ile 345600 (isub .i64 (iadd .i64 (ofL m k w d c) 31536000) (ofH m2 k2 w2 d2 c2))))))
 (K (V.bool false)))
 (K (V.bool false))))
 (sel (ile (iadd .i64 f2 1) t)
 (sel (ile f (iadd .i64 t2 1))
 (K (V.bool (bnot (ile 345600 (isub .i64 (iadd .i64 (ofL m k w d c) 31536000) (ofH m2 k2 w2 d2 c2))))))
 (K (V.bool false)))
 (K (V.bool false)))))
 (sel (ile (iadd .i64 f 1) t2)
 (sel (ile f2 (iadd .i64 t 1))
 (sel (bnot (ile 345600 (isub .i64 (iadd .i64 (ofL m2 k2 w2 d2 c2) 31536000) (ofH m k w d c))))
 (K (V.bool true))
 (sel (ile (iadd .i64 f2 1) t)
 (sel (ile f (iadd .i64 t2 1))
 (K (V.bool (bnot (ile 345600 (isub .i64 (iadd .i64 (ofL m k w d c) 31536000) (ofH m2 k2 w2 d2 c2))))))
 (K (V.bool false)))
 (K (V.bool false))))
 (sel (ile (iadd .i64 f2 1) t)
 (sel (ile f (iadd .i64 t2 1))
 (K (V.bool (bnot (ile 345600 (isub .i64 (iadd .i64 (ofL m k w d c) 31536000) (ofH m2 k2 w2 d2 c2))))))
 (K (V.bool false)))
 (K (V.bool false))))
 (sel (ile (iadd .i64 f2 1) t)
 (sel (ile f (iadd .i64 t2 1))
 (K (V.bool (bnot (ile 345600 (isub .i64 (iadd .i64 (ofL m k w d c) 31536000) (ofH m2 k2 w2 d2 c2))))))
 (K (V.bool false)))
 (K (V.bool false)))))
 (sel (ile (iadd .i64 f 1) t2)
 (sel (ile f2 (iadd .i64 t 1))
 (sel (bnot (ile 345600 (isub .i64 (iadd .i64 (ofL m2 k2 w2 d2 c2) 31536000) (ofH m k w d c))))
 (K (V.bool true))
 (sel (ile (iadd .i64 f2 1) t)
 (sel (ile f (iadd .i64 t2 1))
 (K (V.bool (bnot (ile 345600 (isub .i64 (iadd .i64 (ofL m k w d c) 31536000) (ofH m2 k2 w2 d2 c2))))))
 (K (V.bool false)))
 (K (V.bool false))))
 (sel (ile (iadd .i64 f2 1) t)
 (sel (ile f (iadd .i64 t2 1))
 (K (V.bool (bnot (ile 345600 (isub .i64 (iadd .i64 (ofL m k w d c) 31536000) (ofH m2 k2 w2 d2 c2))))))
 (K (V.bool false)))
 (K (V.bool false))))
 (sel (ile (iadd .i64 f2 1) t)
 (sel (ile f (iadd .i64 t2 1))
 (K (V.bool (bnot (ile 345600 (isub .i64 (iadd .i64 (ofL m k w d c) 31536000) (ofH m2 k2 w2 d2 c2))))))
 (K (V.bool false)))
 (K (V.bool false)))))
 (sel (ile (iadd .i64 f 1) t2)
 (sel (ile f2 (iadd .i64 t 1))
 (sel (bnot (ile 345600 (isub .i64 (iadd .i64 (ofL m2 k2 w2 d2 c2) 31536000) (ofH m k w d c))))
 (K (V.bool true))
 (sel (ile (iadd .i64 f2 1) t)
 (sel (ile f (iadd .i64 t2 1))
 (K (V.bool (bnot (ile 345600 (isub .i64 (iadd .i64 (ofL m k w d c) 31536000) (ofH m2 k2 w2 d2 c2))))))
 (K (V.bool false)))
 (K (V.bool false))))
 (sel (ile (iadd .i64 f2 1) t)
 (sel (ile f (iadd .i64 t2 1))
 (K (V.bool (bnot (ile 345600 (isub .i64 (iadd .i64 (ofL m k w d c) 31536000) (ofH m2 k2 w2 d2 c2))))))
 (K (V.bool false)))
 (K (V.bool false))))
 (sel (ile (iadd .i64 f2 1) t)
 (sel (ile f (iadd .i64 t2 1))
 (K (V.bool (bnot (ile 345600 (isub .i64 (iadd .i64 (ofL m k w d c) 31536000) (ofH m2 k2 w2 d2 c2))))))
 (K (V.bool false)))
 (K (V.bool false)))))
 (none))
 (none) := by kernel_rfl
set_option maxRecDepth 100000 in
theorem pPa_top (F : Nat) (n : List UInt8) (f : Int) (t : Int) (m : Int) (k : Int) (w : Int) (d : Int) (c : Int) (b : Int) (v : Int) (l : List UInt8) (n2 : List UInt8) (f2 : Int) (t2 : Int) (m2 : Int) (k2 : Int) (w2 : Int) (d2 : Int) (c2 : Int) (b2 : Int) (v2 : Int) (l2 : List UInt8) (K : V → Option V) :
 evBd aE (evFn aE pS5 F 2) F 22 [(V.agg [(V.str n), (V.int .i64 f), (V.int .i64 t), (V.int .i64 m), (V.int .i64 k), (V.int .i64 w), (V.int .i64 d), (V.int .i64 c), (V.int .i64 b), (V.int .i64 v), (V.str l)]), (V.agg [(V.str n2), (V.int .i64 f2), (V.int .i64 t2), (V.int .i64 m2), (V.int .i64 k2), (V.int .i64 w2), (V.int .i64 d2), (V.int .i64 c2), (V.int .i64 b2), (V.int .i64 v2), (V.str l2)])] K =
 sel (ile (slen l) 900)
 (sel (bnot (ruP n f t m k w d c b v l))
 (K (V.int .i64 4))
 (sel (ile (slen l2) 900)
 (sel (bnot (ruP n2 f2 t2 m2 k2 w2 d2 c2 b2 v2 l2))
 (K (V.int .i64 4))
 (sel (band (ruP n f t m k w d c b v l) (ruP n2 f2 t2 m2 k2 w2 d2 c2 b2 v2 l2))
 (sel (neP f t (ofL m k w d c) (ofH m k w d c) f2 t2 (ofL m2 k2 w2 d2 c2) (ofH m2 k2 w2 d2 c2))
 (K (V.int .i64 15))
 (K (V.int .i64 0)))
 (none)))
 (none)))
 (none) := by kernel_rfl
noncomputable def pNa_L0 (F : Nat) (ns : List Nat) (n : Nat) (x0 : List UInt8) (x2 : Bool) (x3 : Bool) (x16 : List V) (x17 : Int) (x18 : Int) (K : V → Option V) : Option V :=
 loopAt aE pS6 F 2 78 [1, 1, 0, 1, 0] ns K n (mkSt 57 [(0, V.str x0), (2, V.bool x2), (3, V.bool x3), (16, V.sl 5 [(Kd.int .u8)] none x16), (17, V.int .i64 x17), (18, V.int .i64 x18)] [])
set_option maxRecDepth 100000 in
theorem pNa_top (F : Nat) (s : List UInt8) (K : V → Option V) :
 evBd aE (evFn aE pS6 F 2) F 78 [(V.str s)] K =
 sel (ile 3 (slen s))
 (sel (okStr s)
 (pNa_L0 F [] F s (ile (slen s) 6) true (bytesV s) (llen (bytesV s)) 0 K)
 (none))
 (sel (okStr s)
 (pNa_L0 F [] F s false true (bytesV s) (llen (bytesV s)) 0 K)
 (none)) := by kernel_rfl
set_option maxRecDepth 100000 in
theorem pNa_L0_succ (F : Nat) (n : Nat) (x0 : List UInt8) (x2 : Bool) (x3 : Bool) (x16 : List V) (x17 : Int) (x18 : Int) (K : V → Option V) :
 pNa_L0 F [] (n + 1) x0 x2 x3 x16 x17 x18 K =
 sel (ilt x18 x17)
 (sel (band (ile 0 x18) (ilt x18 (llen x16)))
 (sel (ile 97 (ibits .or .u8 (asInt (acell (lget x16 x18) 0)) 32))
 (sel x3
 (sel x2
 (sel (ile (ibits .or .u8 (asInt (acell (lget x16 x18) 0)) 32) 122)
 (pNa_L0 F [] n x0 true (ile (ibits .or .u8 (asInt (acell (lget x16 x18) 0)) 32) 122) x16 x17 (iadd .i64 x18 1) K)
 (sel (ile 48 (asInt (acell (lget x16 x18) 0)))
 (sel (ile (asInt (acell (lget x16 x18) 0)) 57)
 (pNa_L0 F [] n x0 true (ile (ibits .or .u8 (asInt (acell (lget x16 x18) 0)) 32) 122) x16 x17 (iadd .i64 x18 1) K)
 (sel (ieq (asInt (acell (lget x16 x18) 0)) 43)
 (pNa_L0 F [] n x0 true (ile (ibits .or .u8 (asInt (acell (lget x16 x18) 0)) 32) 122) x16 x17 (iadd .i64 x18 1) K)
 (pNa_L0 F [] n x0 (ieq (asInt (acell (lget x16 x18) 0)) 45) (ile (ibits .or .u8 (asInt (acell (lget x16 x18) 0)) 32) 122) x16 x17 (iadd .i64 x18 1) K)))
 (sel (ieq (asInt (acell (lget x16 x18) 0)) 43)
 (pNa_L0 F [] n x0 true (ile (ibits .or .u8 (asInt (acell (lget x16 x18) 0)) 32) 122) x16 x17 (iadd .i64 x18 1) K)
 (pNa_L0 F [] n x0 (ieq (asInt (acell (lget x16 x18) 0)) 45) (ile (ibits .or .u8 (asInt (acell (lget x16 x18) 0)) 32) 122) x16 x17 (iadd .i64 x18 1) K))))
 (pNa_L0 F [] n x0 false (ile (ibits .or .u8 (asInt (acell (lget x16 x18) 0)) 32) 122) x16 x17 (iadd .i64 x18 1) K))
 (sel x2
 (sel (ile (ibits .or .u8 (asInt (acell (lget x16 x18) 0)) 32) 122)
 (pNa_L0 F [] n x0 true false x16 x17 (iadd .i64 x18 1) K)
 (sel (ile 48 (asInt (acell (lget x16 x18) 0)))
 (sel (ile (asInt (acell (lget x16 x18) 0)) 57)
 (pNa_L0 F [] n x0 true false x16 x17 (iadd .i64 x18 1) K)
 (sel (ieq (asInt (acell (lget x16 x18) 0)) 43)
 (pNa_L0 F [] n x0 true false x16 x17 (iadd .i64 x18 1) K)
 (pNa_L0 F [] n x0 (ieq (asInt (acell (lget x16 x18) 0)) 45) false x16 x17 (iadd .i64 x18 1) K)))
 (sel (ieq (asInt (acell (lget x16 x18) 0)) 43)
 (pNa_L0 F [] n x0 true false x16 x17 (iadd .i64 x18 1) K)
 (pNa_L0 F [] n x0 (ieq (asInt (acell (lget x16 x18) 0)) 45) false x16 x17 (iadd .i64 x18 1) K))))
 (pNa_L0 F [] n x0 false false x16 x17 (iadd .i64 x18 1) K)))
 (sel x3
 (sel x2
 (sel (ile 48 (asInt (acell (lget x16 x18) 0)))
 (sel (ile (asInt (acell (lget x16 x18) 0)) 57)
 (pNa_L0 F [] n x0 true false x16 x17 (iadd .i64 x18 1) K)
 (sel (ieq (asInt (acell (lget x16 x18) 0)) 43)
 (pNa_L0 F [] n x0 true false x16 x17 (iadd .i64 x18 1) K)
 (pNa_L0 F [] n x0 (ieq (asInt (acell (lget x16 x18) 0)) 45) false x16 x17 (iadd .i64 x18 1) K)))
 (sel (ieq (asInt (acell (lget x16 x18) 0)) 43)
 (pNa_L0 F [] n x0 true false x16 x17 (iadd .i64 x18 1) K)
 (pNa_L0 F [] n x0 (ieq (asInt (acell (lget x16 x18) 0)) 45) false x16 x17 (iadd .i64 x18 1) K)))
 (pNa_L0 F [] n x0 false false x16 x17 (iadd .i64 x18 1) K))
 (sel x2
 (sel (ile 48 (asInt (acell (lget x16 x18) 0)))
 (sel (ile (asInt (acell (lget x16 x18) 0)) 57)
 (pNa_L0 F [] n x0 true false x16 x17 (iadd .i64 x18 1) K)
 (sel (ieq (asInt (acell (lget x16 x18) 0)) 43)
 (pNa_L0 F [] n x0 true false x16 x17 (iadd .i64 x18 1) K)
 (pNa_L0 F [] n x0 (ieq (asInt (acell (lget x16 x18) 0)) 45) false x16 x17 (iadd .i64 x18 1) K)))
 (sel (ieq (asInt (acell (lget x16 x18) 0)) 43)
 (pNa_L0 F [] n x0 true false x16 x17 (iadd .i64 x18 1) K)
 (pNa_L0 F [] n x0 (ieq (asInt (acell (lget x16 x18) 0)) 45) false x16 x17 (iadd .i64 x18 1) K)))
 (pNa_L0 F [] n x0 false false x16 x17 (iadd .i64 x18 1) K))))
 (none))
 (K (V.tup [(V.bool x2), (V.bool x3)])) := by kernel_rfl
set_option maxRecDepth 100000 in
theorem pFi_top (F : Nat) (m : Int) (w : Int) (d : Int) (c : Int) (K : V → Option V) :
 evBd aE (evFn aE pS6 F 2) F 47 [(V.agg [(V.int .i64 m), (V.int .i64 w), (V.int .i64 d), (V.int .i64 c)])] K =
 sel (ile 1 m)
 (sel (ile m 12)
 (sel (ile 1 w)
 (sel (ile w 5)
 (sel (ile 0 d)
 (sel (ile d 6)
 (sel (ile 0 c)
 (K (V.bool (ile c 172800)))
 (K (V.bool false)))
 (K (V.bool false)))
 (K (V.bool false)))
 (K (V.bool false)))
 (K (V.bool false)))
 (K (V.bool false)))
 (K (V.bool false)) := by kernel_rfl
set_option maxRecDepth 100000 in
theorem pWk_top (F : Nat) (m : Int) (w : Int) (d : Int) (c : Int) (K : V → Option V) :
 evBd aE (evFn aE pS7 F 2) F 41 [(V.agg [(V.int .i64 m), (V.int .i64 w), (V.int .i64 d), (V.int .i64 c)])] K =
 sel (bnot (fiP m w d c))
 (K (V.tup [(V.agg [(V.int .i64 0), (V.int .i64 0), (V.int .i64 0)]), (V.int .i64 4)]))
 (sel (ieq w 5)
 (K (V.tup [(V.agg [(V.int .i64 1), (V.int .i64 d), (V.int .i64 0)]), (V.int .i64 0)]))
 (K (V.tup [(V.agg [(V.int .i64 2), (V.int .i64 d), (V.int .i64 (iadd .i64 (imul .i64 (isub .i64 w 1) 7) 1))]), (V.int .i64 0)]))) := by kernel_rfl
set_option maxRecDepth 100000 in
theorem pRi_top (F : Nat) (n : List UInt8) (o : Int) (e : List UInt8) (v : Int) (m : Int) (w : Int) (d : Int) (c : Int) (m2 : Int) (w2 : Int) (d2 : Int) (c2 : Int) (K : V → Option V) :
 evBd aE (evFn aE pS8 F 3) F 20 [(V.agg [(V.str n), (V.int .i64 o), (V.str e), (V.int .i64 v), (V.int .i64 m), (V.int .i64 w), (V.int .i64 d), (V.int .i64 c), (V.int .i64 m2), (V.int .i64 w2), (V.int .i64 d2), (V.int .i64 c2)])] K =
 sel (ile (slen n) 1000)
 (sel (bnot (mayB n))
 (K (V.bool false))
 (sel (ile (-54000) o)
 (sel (bnot (ile o 54000))
 (K (V.bool false))
 (sel (seq e [])
 (K (V.bool (band (seq n n) (band (ieq o o) (band (seq e []) (band (ieq v 0) (band (band (ieq m 0) (band (ieq w 0) (band (ieq d 0) (ieq c 0)))) (band (ieq m2 0) (band (ieq w2 0) (band (ieq d2 0) (ieq c2 0)))))))))))
 (sel (ile (slen e) 1000)
 (sel (mayB e)
 (sel (ile (-10800) v)
 (sel (ile v 10800)
 (sel (bnot (ieq v 0))
 (sel (fiP m w d c)
 (sel (fiP m2 w2 d2 c2)
 (sel (band (ile (slen []) 900) (ile (slen []) 900))
 (K (V.bool (ieq (paP [80] (-32767) 32767 m (wkK m w d c) (wkW m w d c) (wkD m w d c) c 0 v [] [80] (-32767) 32767 m2 (wkK m2 w2 d2 c2) (wkW m2 w2 d2 c2) (wkD m2 w2 d2 c2) c2 0 0 []) 0)))
 (none))
 (K (V.bool false)))
 (K (V.bool false)))
 (K (V.bool false)))
 (K (V.bool false)))
 (K (V.bool false)))
 (K (V.bool false)))
 (none))))
 (K (V.bool false))))
 (none) := by kernel_rfl
set_option maxRecDepth 100000 in
theorem pwNn_top (F : Nat) (x : V) (s : List UInt8) (K : V → Option V) :
 evBd aE (evFn aE pS10 F 4) F 42 [(V.bxa 0 [(V.nilp), (V.nilsl)]), (V.str s)] K =
 sel (ile (slen s) 1000)
 (sel (bnot (letB s))
 (sel (okCat [60] s)
 (sel (okCat (scat [60] s) [62])
 (sel (okNew (bytesV (scat (scat [60] s) [62])))
 (K (V.out false (V.tup []) [[(V.box 1000000000 0), (V.sl 5 [(Kd.int .u8)] (some 1002) (bytesV (scat (scat [60] s) [62])))]]))
 (none))
 (none))
 (none))
 (sel (okNew (bytesV s))
 (K (V.out false (V.tup []) [[(V.box 1000000000 0), (V.sl 5 [(Kd.int .u8)] (some 1002) (bytesV s))]]))
 (none)))
 (none) := by kernel_rfl
set_option maxRecDepth 100000 in
theorem pwNl_top (F : Nat) (xs : List V) (s : List UInt8) (K : V → Option V) :
 evBd aE (evFn aE pS10 F 4) F 42 [(V.bxa 0 [(V.box 1000000000 0), (V.sl 5 [(Kd.int .u8)] (some 1000001002) xs)]), (V.str s)] K =
 sel (ile (slen s) 1000)
 (sel (bnot (letB s))
 (sel (okCat [60] s)
 (sel (okCat (scat [60] s) [62])
 (sel (okApp xs (bytesV (scat (scat [60] s) [62])))
 (K (V.out false (V.tup []) [[(V.box 1000000000 0), (V.sl 5 [(Kd.int .u8)] (some 1000001002) (lcat xs (bytesV (scat (scat [60] s) [62]))))]]))
 (none))
 (none))
 (none))
 (sel (okApp xs (bytesV s))
 (K (V.out false (V.tup []) [[(V.box 1000000000 0), (V.sl 5 [(Kd.int .u8)] (some 1000001002) (lcat xs (bytesV s)))]]))
 (none)))
 (none) := by kernel_rfl
noncomputable def pwC_L0 (F : Nat) (ns : List Nat) (n : Nat) (x1 : Int) (b1000000000_1 : List V) (K : V → Option V) : Option V :=
 loopAtA aE pS10 F 4 43 [(V.bxa 0 []), (V.nilsl)] [1, 1, 1, 0] ns K n (mkSt 47 [(0, (V.box 1000000000 0)), (1, V.int .i64 x1)] [(1000000000, [(V.box 1000000000 0), V.sl 5 [(Kd.int .u8)] (some 1000010001) b1000000000_1])])
set_option maxRecDepth 100000 in
theorem pwC_top (F : Nat) (xs : List V) (n : Int) (K : V → Option V) :
 evBd aE (evFn aE pS10 F 4) F 43 [(V.bxa 0 [(V.box 1000000000 0), (V.sl 5 [(Kd.int .u8)] (some 1000001002) xs)]), (V.int .i64 n)] K =
 sel (ilt n 0)
 (sel (okApp xs [(V.int .u8 45)])
 (sel (band (ile (-9223372036854775808) (iquo .i64 (isub .i64 0 n) 3600)) (ile (iquo .i64 (isub .i64 0 n) 3600) 9223372036854775807))
 (sel (okApp (lcat xs [(V.int .u8 45)]) (bytesV (text (iquo .i64 (isub .i64 0 n) 3600))))
 (pwC_L0 F [] F (irem (isub .i64 0 n) 3600) (lcat (lcat xs [(V.int .u8 45)]) (bytesV (text (iquo .i64 (isub .i64 0 n) 3600)))) K)
 (none))
 (none))
 (none))
 (sel (band (ile (-9223372036854775808) (iquo .i64 n 3600)) (ile (iquo .i64 n 3600) 9223372036854775807))
 (sel (okApp xs (bytesV (text (iquo .i64 n 3600))))
 (pwC_L0 F [] F (irem n 3600) (lcat xs (bytesV (text (iquo .i64 n 3600)))) K)
 (none))
 (none)) := by kernel_rfl
set_option maxRecDepth 100000 in
theorem pwC_L0_succ (F : Nat) (n : Nat) (x1 : Int) (b1000000000_1 : List V) (K : V → Option V) :
 pwC_L0 F [] (n + 1) x1 b1000000000_1 K =
 sel (ilt 0 x1)
 (sel (okApp b1000000000_1 [(V.int .u8 58)])
 (sel (okApp (lcat b1000000000_1 [(V.int .u8 58)]) [(V.int .u8 (icnv .u8 (iadd .i64 48 (iquo .i64 x1 600))))])
 (sel (okApp (lcat (lcat b1000000000_1 [(V.int .u8 58)]) [(V.int .u8 (icnv .u8 (iadd .i64 48 (iquo .i64 x1 600))))]) [(V.int .u8 (icnv .u8 (iadd .i64 48 (irem (iquo .i64 x1 60) 10))))])
 (pwC_L0 F [] n (imul .i64 (irem x1 60) 60) (lcat (lcat (lcat b1000000000_1 [(V.int .u8 58)]) [(V.int .u8 (icnv .u8 (iadd .i64 48 (iquo .i64 x1 600))))]) [(V.int .u8 (icnv .u8 (iadd .i64 48 (irem (iquo .i64 x1 60) 10))))]) K)
 (none))
 (none))
 (none))
 (K (V.out false (V.tup []) [[(V.box 1000000000 0), (V.sl 5 [(Kd.int .u8)] (some 1000001002) b1000000000_1)]])) := by kernel_rfl
set_option maxRecDepth 100000 in
theorem pwDa_u6_top (xs : List V) (m : Int) (w : Int) (d : Int) (c : Int) (K : V → Option V) :
 evBd aE (evFn aE pS11 6 4) 6 44 [(V.bxa 0 [(V.box 1000000000 0), (V.sl 5 [(Kd.int .u8)] (some 1000001002) xs)]), (V.agg [(V.int .i64 m), (V.int .i64 w), (V.int .i64 d), (V.int .i64 c)])] K =
 sel (okApp xs (bytesV [44, 77]))
 (sel (band (ile (-9223372036854775808) m) (ile m 9223372036854775807))
 (sel (okApp (lcat xs (bytesV [44, 77])) (bytesV (text m)))
 (sel (okApp (lcat (lcat xs (bytesV [44, 77])) (bytesV (text m))) [(V.int .u8 46)])
 (sel (band (ile (-9223372036854775808) w) (ile w 9223372036854775807))
 (sel (okApp (lcat (lcat (lcat xs (bytesV [44, 77])) (bytesV (text m))) [(V.int .u8 46)]) (bytesV (text w)))
 (sel (okApp (lcat (lcat (lcat (lcat xs (bytesV [44, 77])) (bytesV (text m))) [(V.int .u8 46)]) (bytesV (text w))) [(V.int .u8 46)])
 (sel (band (ile (-9223372036854775808) d) (ile d 9223372036854775807))
 (sel (okApp (lcat (lcat (lcat (lcat (lcat xs (bytesV [44, 77])) (bytesV (text m))) [(V.int .u8 46)]) (bytesV (text w))) [(V.int .u8 46)]) (bytesV (text d)))
 (sel (bnot (ieq c 7200))
 (sel (okApp (lcat (lcat (lcat (lcat (lcat (lcat xs (bytesV [44, 77])) (bytesV (text m))) [(V.int .u8 46)]) (bytesV (text w))) [(V.int .u8 46)]) (bytesV (text d))) [(V.int .u8 47)])
 (sel (band true (band (band (ile (-1000000) c) (ile c 1000000)) (ile (llen (lcat (lcat (lcat (lcat (lcat (lcat (lcat xs (bytesV [44, 77])) (bytesV (text m))) [(V.int .u8 46)]) (bytesV (text w))) [(V.int .u8 46)]) (bytesV (text d))) [(V.int .u8 47)])) 100000)))
 (K (V.out false (V.tup []) [[(V.box 1000000000 0), (V.sl 5 [(Kd.int .u8)] (some 1000001002) (lcat (lcat (lcat (lcat (lcat (lcat (lcat (lcat xs (bytesV [44, 77])) (bytesV (text m))) [(V.int .u8 46)]) (bytesV (text w))) [(V.int .u8 46)]) (bytesV (text d))) [(V.int .u8 47)]) (bytesV (ckT c))))]]))
 (none))
 (none))
 (K (V.out false (V.tup []) [[(V.box 1000000000 0), (V.sl 5 [(Kd.int .u8)] (some 1000001002) (lcat (lcat (lcat (lcat (lcat (lcat xs (bytesV [44, 77])) (bytesV (text m))) [(V.int .u8 46)]) (bytesV (text w))) [(V.int .u8 46)]) (bytesV (text d))))]])))
 (none))
 (none))
 (none))
 (none))
 (none))
 (none))
 (none))
 (none))
 (none) := by kernel_rfl
set_option maxRecDepth 100000 in
theorem pTx_top (F : Nat) (n : List UInt8) (o : Int) (e : List UInt8) (v : Int) (m : Int) (w : Int) (d : Int) (c : Int) (m2 : Int) (w2 : Int) (d2 : Int) (c2 : Int) (K : V → Option V) :
 evBd aE (evFn aE pS12 F 3) F 19 [(V.agg [(V.str n), (V.int .i64 o), (V.str e), (V.int .i64 v), (V.int .i64 m), (V.int .i64 w), (V.int .i64 d), (V.int .i64 c), (V.int .i64 m2), (V.int .i64 w2), (V.int .i64 d2), (V.int .i64 c2)])] K =
 sel (band (ile (slen n) 1000) (ile (slen e) 1000))
 (sel (bnot (riP n o e v m w d c m2 w2 d2 c2))
 (K (V.tup [(V.str []), (V.int .i64 4)]))
 (sel (band true (band (ile (slen n) 1000) (ile (llen []) 100000)))
 (sel (band true (band (band (ile (-1000000) (isub .i64 0 o)) (ile (isub .i64 0 o) 1000000)) (ile (llen (bytesV (wrT n))) 100000)))
 (sel (seq e [])
 (K (V.tup [(V.str (vbytes (lcat (bytesV (wrT n)) (bytesV (ckT (isub .i64 0 o)))))), (V.int .i64 0)]))
 (sel (band true (band (ile (slen e) 1000) (ile (llen (lcat (bytesV (wrT n)) (bytesV (ckT (isub .i64 0 o))))) 100000)))
 (sel (bnot (ieq v 3600))
 (sel (band true (band (band (ile (-1000000) (isub .i64 (isub .i64 0 o) v)) (ile (isub .i64 (isub .i64 0 o) v) 1000000)) (ile (llen (lcat (lcat (bytesV (wrT n)) (bytesV (ckT (isub .i64 0 o)))) (bytesV (wrT e)))) 100000)))
 (sel (band true (band (fiP m w d c) (ile (llen (lcat (lcat (lcat (bytesV (wrT n)) (bytesV (ckT (isub .i64 0 o)))) (bytesV (wrT e))) (bytesV (ckT (isub .i64 (isub .i64 0 o) v))))) 50000)))
 (sel (band true (band (fiP m2 w2 d2 c2) (ile (llen (lcat (lcat (lcat (lcat (bytesV (wrT n)) (bytesV (ckT (isub .i64 0 o)))) (bytesV (wrT e))) (bytesV (ckT (isub .i64 (isub .i64 0 o) v)))) (bytesV (dyT m w d c)))) 50000)))
 (K (V.tup [(V.str (vbytes (lcat (lcat (lcat (lcat (lcat (bytesV (wrT n)) (bytesV (ckT (isub .i64 0 o)))) (bytesV (wrT e))) (bytesV (ckT (isub .i64 (isub .i64 0 o) v)))) (bytesV (dyT m w d c))) (bytesV (dyT m2 w2 d2 c2))))), (V.int .i64 0)]))
 (none))
 (none))
 (none))
 (sel (band true (band (fiP m w d c) (ile (llen (lcat (lcat (bytesV (wrT n)) (bytesV (ckT (isub .i64 0 o)))) (bytesV (wrT e)))) 50000)))
 (sel (band true (band (fiP m2 w2 d2 c2) (ile (llen (lcat (lcat (lcat (bytesV (wrT n)) (bytesV (ckT (isub .i64 0 o)))) (bytesV (wrT e))) (bytesV (dyT m w d c)))) 50000)))
 (K (V.tup [(V.str (vbytes (lcat (lcat (lcat (lcat (bytesV (wrT n)) (bytesV (ckT (isub .i64 0 o)))) (bytesV (wrT e))) (bytesV (dyT m w d c))) (bytesV (dyT m2 w2 d2 c2))))), (V.int .i64 0)]))
 (none))
 (none)))
 (none)))
 (none))
 (none)))
 (none) := by kernel_rfl
set_option maxRecDepth 100000 in
theorem pRn_top (F : Nat) (l : List UInt8) (c : List UInt8) (K : V → Option V) :
 evBd aE (evFn aE pS16 F 2) F 116 [(V.bxa 0 [(V.str l)]), (V.str c)] K =
 sel (band (ile (slen l) 1000) (band (ile (slen c) 1000) (asciiBc c)))
 (sel (band (ile 0 (isub .i64 (slen l) (slen (tlP l c)))) (ile (isub .i64 (slen l) (slen (tlP l c))) (slen l)))
 (sel (band (ile 0 (isub .i64 (slen l) (slen (tlP l c)))) (ile (isub .i64 (slen l) (slen (tlP l c))) (slen l)))
 (K (V.out false (V.str (ssub l 0 (isub .i64 (slen l) (slen (tlP l c))))) [[(V.str (ssub l (isub .i64 (slen l) (slen (tlP l c))) (slen l)))]]))
 (none))
 (none))
 (none) := by kernel_rfl
set_option maxRecDepth 100000 in
theorem pSg_top (F : Nat) (l : List UInt8) (c : List UInt8) (K : V → Option V) :
 evBd aE (evFn aE pS16 F 2) F 115 [(V.bxa 0 [(V.str l)]), (V.str c)] K =
 sel (ile (slen l) 1000)
 (K (V.out false (V.bool (cpBp l c)) [[(V.str (cpTp l c))]]))
 (none) := by kernel_rfl
set_option maxRecDepth 100000 in
theorem pRN_top (F : Nat) (l : List UInt8) (K : V → Option V) :
 evBd aE (evFn aE pS17 F 3) F 81 [(V.bxa 0 [(V.str l)])] K =
 sel (ile (slen l) 1000)
 (sel (bnot (cpBp l [60]))
 (sel (band (ile (slen (cpTp l [60])) 1000) (band (ile (slen [65, 66, 67, 68, 69, 70, 71, 72, 73, 74, 75, 76, 77, 78, 79, 80, 81, 82, 83, 84, 85, 86, 87, 88, 89, 90, 97, 98, 99, 100, 101, 102, 103, 104, 105, 106, 107, 108, 109, 110, 111, 112, 113, 114, 115, 116, 117, 118, 119, 120, 121, 122]) 1000) (asciiBc [65, 66, 67, 68, 69, 70, 71, 72, 73, 74, 75, 76, 77, 78, 79, 80, 81, 82, 83, 84, 85, 86, 87, 88, 89, 90, 97, 98, 99, 100, 101, 102, 103, 104, 105, 106, 107, 108, 109, 110, 111, 112, 113, 114, 115, 116, 117, 118, 119, 120, 121, 122])))
 (K (V.out false (V.str (twP (cpTp l [60]) [65, 66, 67, 68, 69, 70, 71, 72, 73, 74, 75, 76, 77, 78, 79, 80, 81, 82, 83, 84, 85, 86, 87, 88, 89, 90, 97, 98, 99, 100, 101, 102, 103, 104, 105, 106, 107, 108, 109, 110, 111, 112, 113, 114, 115, 116, 117, 118, 119, 120, 121, 122])) [[(V.str (tlP (cpTp l [60]) [65, 66, 67, 68, 69, 70, 71, 72, 73, 74, 75, 76, 77, 78, 79, 80, 81, 82, 83, 84, 85, 86, 87, 88, 89, 90, 97, 98, 99, 100, 101, 102, 103, 104, 105, 106, 107, 108, 109, 110, 111, 112, 113, 114, 115, 116, 117, 118, 119, 120, 121, 122]))]]))
 (none))
 (sel (band (ile (slen (cpTp l [60])) 1000) (band (ile (slen [65, 66, 67, 68, 69, 70, 71, 72, 73, 74, 75, 76, 77, 78, 79, 80, 81, 82, 83, 84, 85, 86, 87, 88, 89, 90, 97, 98, 99, 100, 101, 102, 103, 104, 105, 106, 107, 108, 109, 110, 111, 112, 113, 114, 115, 116, 117, 118, 119, 120, 121, 122, 48, 49, 50, 51, 52, 53, 54, 55, 56, 57, 43, 45]) 1000) (asciiBc [65, 66, 67, 68, 69, 70, 71, 72, 73, 74, 75, 76, 77, 78, 79, 80, 81, 82, 83, 84, 85, 86, 87, 88, 89, 90, 97, 98, 99, 100, 101, 102, 103, 104, 105, 106, 107, 108, 109, 110, 111, 112, 113, 114, 115, 116, 117, 118, 119, 120, 121, 122, 48, 49, 50, 51, 52, 53, 54, 55, 56, 57, 43, 45])))
 (sel (ile (slen (tlP (cpTp l [60]) [65, 66, 67, 68, 69, 70, 71, 72, 73, 74, 75, 76, 77, 78, 79, 80, 81, 82, 83, 84, 85, 86, 87, 88, 89, 90, 97, 98, 99, 100, 101, 102, 103, 104, 105, 106, 107, 108, 109, 110, 111, 112, 113, 114, 115, 116, 117, 118, 119, 120, 121, 122, 48, 49, 50, 51, 52, 53, 54, 55, 56, 57, 43, 45])) 1000)
 (sel (bnot (cpBp (tlP (cpTp l [60]) [65, 66, 67, 68, 69, 70, 71, 72, 73, 74, 75, 76, 77, 78, 79, 80, 81, 82, 83, 84, 85, 86, 87, 88, 89, 90, 97, 98, 99, 100, 101, 102, 103, 104, 105, 106, 107, 108, 109, 110, 111, 112, 113, 114, 115, 116, 117, 118, 119, 120, 121, 122, 48, 49, 50, 51, 52, 53, 54, 55, 56, 57, 43, 45]) [62]))
 (K (V.out true (V.iface 114 (V.agg [])) [[(V.str (cpTp (tlP (cpTp l [60]) [65, 66, 67, 68, 69, 70, 71, 72, 73, 74, 75, 76, 77, 78, 79, 80, 81, 82, 83, 84, 85, 86, 87, 88, 89, 90, 97, 98, 99, 100, 101, 102, 103, 104, 105, 106, 107, 108, 109, 110, 111, 112, 113, 114, 115, 116, 117, 118, 119, 120, 121, 122, 48, 49, 50, 51, 52, 53, 54, 55, 56, 57, 43, 45]) [62]))]]))
 (K (V.out false (V.str (twP (cpTp l [60]) [65, 66, 67, 68, 69, 70, 71, 72, 73, 74, 75, 76, 77, 78, 79, 80, 81, 82, 83, 84, 85, 86, 87, 88, 89, 90, 97, 98, 99, 100, 101, 102, 103, 104, 105, 106, 107, 108, 109, 110, 111, 112, 113, 114, 115, 116, 117, 118, 119, 120, 121, 122, 48, 49, 50, 51, 52, 53, 54, 55, 56, 57, 43, 45])) [[(V.str (cpTp (tlP (cpTp l [60]) [65, 66, 67, 68, 69, 70, 71, 72, 73, 74, 75, 76, 77, 78, 79, 80, 81, 82, 83, 84, 85, 86, 87, 88, 89, 90, 97, 98, 99, 100, 101, 102, 103, 104, 105, 106, 107, 108, 109, 110, 111, 112, 113, 114, 115, 116, 117, 118, 119, 120, 121, 122, 48, 49, 50, 51, 52, 53, 54, 55, 56, 57, 43, 45]) [62]))]])))
 (none))
 (none)))
 (none) := by kernel_rfl
set_option maxRecDepth 100000 in
theorem pRC_top (F : Nat) (l : List UInt8) (K : V → Option V) :
 evBd aE (evFn aE pS17 F 3) F 82 [(V.bxa 0 [(V.str l)])] K =
 sel (band (ile (slen l) 1000) (band (ile (slen [45, 48, 49, 50, 51, 52, 53, 54, 55, 56, 57, 58]) 1000) (asciiBc [45, 48, 49, 50, 51, 52, 53, 54, 55, 56, 57, 58])))
 (sel (seq (twP l [45, 48, 49, 50, 51, 52, 53, 54, 55, 56, 57, 58]) [])
 (K (V.out false (V.tup [(V.int .i64 0), (V.bool false)]) [[(V.str (tlP l [45, 48, 49, 50, 51, 52, 53, 54, 55, 56, 57, 58]))]]))
 (sel (ile (slen (twP l [45, 48, 49, 50, 51, 52, 53, 54, 55, 56, 57, 58])) 1000)
 (sel (bnot (ieq (rdWc (twP l [45, 48, 49, 50, 51, 52, 53, 54, 55, 56, 57, 58])) 0))
 (K (V.out true (V.iface 114 (V.agg [])) [[(V.str (tlP l [45, 48, 49, 50, 51, 52, 53, 54, 55, 56, 57, 58]))]]))
 (K (V.out false (V.tup [(V.int .i64 (rdI (twP l [45, 48, 49, 50, 51, 52, 53, 54, 55, 56, 57, 58]))), (V.bool true)]) [[(V.str (tlP l [45, 48, 49, 50, 51, 52, 53, 54, 55, 56, 57, 58]))]])))
 (none)))
 (none) := by kernel_rfl
set_option maxRecDepth 100000 in
theorem pRD_u6_top (l : List UInt8) (K : V → Option V) :
 evBd aE (evFn aE pS18 6 3) 6 83 [(V.bxa 0 [(V.str l)])] K =
 sel (ile (slen l) 1000)
 (sel (bnot (cpBp l [44, 77]))
 (K (V.out true (V.iface 114 (V.agg [])) [[(V.str (cpTp l [44, 77]))]]))
 (sel (band (ile (slen (cpTp l [44, 77])) 1000) (band (ile 10 1000) (asciiBc [48, 49, 50, 51, 52, 53, 54, 55, 56, 57])))
 (sel (ile (slen (twP (cpTp l [44, 77]) [48, 49, 50, 51, 52, 53, 54, 55, 56, 57])) 1000)
 (sel (ieq (nrW (twP (cpTp l [44, 77]) [48, 49, 50, 51, 52, 53, 54, 55, 56, 57])) 0)
 (sel (bnot (ilt (nrI (twP (cpTp l [44, 77]) [48, 49, 50, 51, 52, 53, 54, 55, 56, 57])) 100))
 (K (V.out true (V.iface 114 (V.agg [])) [[(V.str (tlP (cpTp l [44, 77]) [48, 49, 50, 51, 52, 53, 54, 55, 56, 57]))]]))
 (sel (ile (slen (tlP (cpTp l [44, 77]) [48, 49, 50, 51, 52, 53, 54, 55, 56, 57])) 1000)
 (sel (bnot (cpBp (tlP (cpTp l [44, 77]) [48, 49, 50, 51, 52, 53, 54, 55, 56, 57]) [46]))
 (K (V.out true (V.iface 114 (V.agg [])) [[(V.str (cpTp (tlP (cpTp l [44, 77]) [48, 49, 50, 51, 52, 53, 54, 55, 56, 57]) [46]))]]))
 (sel (band (ile (slen (cpTp (tlP (cpTp l [44, 77]) [48, 49, 50, 51, 52, 53, 54, 55, 56, 57]) [46])) 1000) (band (ile 10 1000) (asciiBc [48, 49, 50, 51, 52, 53, 54, 55, 56, 57])))
 (sel (ile (slen (twP (cpTp (tlP (cpTp l [44, 77]) [48, 49, 50, 51, 52, 53, 54, 55, 56, 57]) [46]) [48, 49, 50, 51, 52, 53, 54, 55, 56, 57])) 1000)
 (sel (ieq (nrW (twP (cpTp (tlP (cpTp l [44, 77]) [48, 49, 50, 51, 52, 53, 54, 55, 56, 57]) [46]) [48, 49, 50, 51, 52, 53, 54, 55, 56, 57])) 0)
 (sel (bnot (ilt (nrI (twP (cpTp (tlP (cpTp l [44, 77]) [48, 49, 50, 51, 52, 53, 54, 55, 56, 57]) [46]) [48, 49, 50, 51, 52, 53, 54, 55, 56, 57])) 100))
 (K (V.out true (V.iface 114 (V.agg [])) [[(V.str (tlP (cpTp (tlP (cpTp l [44, 77]) [48, 49, 50, 51, 52, 53, 54, 55, 56, 57]) [46]) [48, 49, 50, 51, 52, 53, 54, 55, 56, 57]))]]))
 (sel (ile (slen (tlP (cpTp (tlP (cpTp l [44, 77]) [48, 49, 50, 51, 52, 53, 54, 55, 56, 57]) [46]) [48, 49, 50, 51, 52, 53, 54, 55, 56, 57])) 1000)
 (sel (bnot (cpBp (tlP (cpTp (tlP (cpTp l [44, 77]) [48, 49, 50, 51, 52, 53, 54, 55, 56, 57]) [46]) [48, 49, 50, 51, 52, 53, 54, 55, 56, 57]) [46]))
 (K (V.out true (V.iface 114 (V.agg [])) [[(V.str (cpTp (tlP (cpTp (tlP (cpTp l [44, 77]) [48, 49, 50, 51, 52, 53, 54, 55, 56, 57]) [46]) [48, 49, 50, 51, 52, 53, 54, 55, 56, 57]) [46]))]]))
 (sel (band (ile (slen (cpTp (tlP (cpTp (tlP (cpTp l [44, 77]) [48, 49, 50, 51, 52, 53, 54, 55, 56, 57]) [46]) [48, 49, 50, 51, 52, 53, 54, 55, 56, 57]) [46])) 1000) (band (ile 10 1000) (asciiBc [48, 49, 50, 51, 52, 53, 54, 55, 56, 57])))
 (sel (ile (slen (twP (cpTp (tlP (cpTp (tlP (cpTp l [44, 77]) [48, 49, 50, 51, 52, 53, 54, 55, 56, 57]) [46]) [48, 49, 50, 51, 52, 53, 54, 55, 56, 57]) [46]) [48, 49, 50, 51, 52, 53, 54, 55, 56, 57])) 1000)
 (sel (ieq (nrW (twP (cpTp (tlP (cpTp (tlP (cpTp l [44, 77]) [48, 49, 50, 51, 52, 53, 54, 55, 56, 57]) [46]) [48, 49, 50, 51, 52, 53, 54, 55, 56, 57]) [46]) [48, 49, 50, 51, 52, 53, 54, 55, 56, 57])) 0)
 (sel (bnot (ilt (nrI (twP (cpTp (tlP (cpTp (tlP (cpTp l [44, 77]) [48, 49, 50, 51, 52, 53, 54, 55, 56, 57]) [46]) [48, 49, 50, 51, 52, 53, 54, 55, 56, 57]) [46]) [48, 49, 50, 51, 52, 53, 54, 55, 56, 57])) 100))
 (K (V.out true (V.iface 114 (V.agg [])) [[(V.str (tlP (cpTp (tlP (cpTp (tlP (cpTp l [44, 77]) [48, 49, 50, 51, 52, 53, 54, 55, 56, 57]) [46]) [48, 49, 50, 51, 52, 53, 54, 55, 56, 57]) [46]) [48, 49, 50, 51, 52, 53, 54, 55, 56, 57]))]]))
 (sel (ile (slen (tlP (cpTp (tlP (cpTp (tlP (cpTp l [44, 77]) [48, 49, 50, 51, 52, 53, 54, 55, 56, 57]) [46]) [48, 49, 50, 51, 52, 53, 54, 55, 56, 57]) [46]) [48, 49, 50, 51, 52, 53, 54, 55, 56, 57])) 1000)
 (sel (cpBp (tlP (cpTp (tlP (cpTp (tlP (cpTp l [44, 77]) [48, 49, 50, 51, 52, 53, 54, 55, 56, 57]) [46]) [48, 49, 50, 51, 52, 53, 54, 55, 56, 57]) [46]) [48, 49, 50, 51, 52, 53, 54, 55, 56, 57]) [47])
 (sel (ile (slen (cpTp (tlP (cpTp (tlP (cpTp (tlP (cpTp l [44, 77]) [48, 49, 50, 51, 52, 53, 54, 55, 56, 57]) [46]) [48, 49, 50, 51, 52, 53, 54, 55, 56, 57]) [46]) [48, 49, 50, 51, 52, 53, 54, 55, 56, 57]) [47])) 900)
 (sel (ckQ (cpTp (tlP (cpTp (tlP (cpTp (tlP (cpTp l [44, 77]) [48, 49, 50, 51, 52, 53, 54, 55, 56, 57]) [46]) [48, 49, 50, 51, 52, 53, 54, 55, 56, 57]) [46]) [48, 49, 50, 51, 52, 53, 54, 55, 56, 57]) [47]))
 (sel (bnot (ckS (cpTp (tlP (cpTp (tlP (cpTp (tlP (cpTp l [44, 77]) [48, 49, 50, 51, 52, 53, 54, 55, 56, 57]) [46]) [48, 49, 50, 51, 52, 53, 54, 55, 56, 57]) [46]) [48, 49, 50, 51, 52, 53, 54, 55, 56, 57]) [47])))
 (K (V.out true (V.iface 114 (V.agg [])) [[(V.str (ckL (cpTp (tlP (cpTp (tlP (cpTp (tlP (cpTp l [44, 77]) [48, 49, 50, 51, 52, 53, 54, 55, 56, 57]) [46]) [48, 49, 50, 51, 52, 53, 54, 55, 56, 57]) [46]) [48, 49, 50, 51, 52, 53, 54, 55, 56, 57]) [47])))]]))
 (K (V.out false (V.agg [(V.int .i64 (nrI (twP (cpTp l [44, 77]) [48, 49, 50, 51, 52, 53, 54, 55, 56, 57]))), (V.int .i64 (nrI (twP (cpTp (tlP (cpTp l [44, 77]) [48, 49, 50, 51, 52, 53, 54, 55, 56, 57]) [46]) [48, 49, 50, 51, 52, 53, 54, 55, 56, 57]))), (V.int .i64 (nrI (twP (cpTp (tlP (cpTp (tlP (cpTp l [44, 77]) [48, 49, 50, 51, 52, 53, 54, 55, 56, 57]) [46]) [48, 49, 50, 51, 52, 53, 54, 55, 56, 57]) [46]) [48, 49, 50, 51, 52, 53, 54, 55, 56, 57]))), (V.int .i64 (ckN (cpTp (tlP (cpTp (tlP (cpTp (tlP (cpTp l [44, 77]) [48, 49, 50, 51, 52, 53, 54, 55, 56, 57]) [46]) [48, 49, 50, 51, 52, 53, 54, 55, 56, 57]) [46]) [48, 49, 50, 51, 52, 53, 54, 55, 56, 57]) [47])))]) [[(V.str (ckL (cpTp (tlP (cpTp (tlP (cpTp (tlP (cpTp l [44, 77]) [48, 49, 50, 51, 52, 53, 54, 55, 56, 57]) [46]) [48, 49, 50, 51, 52, 53, 54, 55, 56, 57]) [46]) [48, 49, 50, 51, 52, 53, 54, 55, 56, 57]) [47])))]])))
 (K (V.out true (V.iface 114 (V.agg [])) [[(V.str (ckL (cpTp (tlP (cpTp (tlP (cpTp (tlP (cpTp l [44, 77]) [48, 49, 50, 51, 52, 53, 54, 55, 56, 57]) [46]) [48, 49, 50, 51, 52, 53, 54, 55, 56, 57]) [46]) [48, 49, 50, 51, 52, 53, 54, 55, 56, 57]) [47])))]])))
 (none))
 (K (V.out false (V.agg [(V.int .i64 (nrI (twP (cpTp l [44, 77]) [48, 49, 50, 51, 52, 53, 54, 55, 56, 57]))), (V.int .i64 (nrI (twP (cpTp (tlP (cpTp l [44, 77]) [48, 49, 50, 51, 52, 53, 54, 55, 56, 57]) [46]) [48, 49, 50, 51, 52, 53, 54, 55, 56, 57]))), (V.int .i64 (nrI (twP (cpTp (tlP (cpTp (tlP (cpTp l [44, 77]) [48, 49, 50, 51, 52, 53, 54, 55, 56, 57]) [46]) [48, 49, 50, 51, 52, 53, 54, 55, 56, 57]) [46]) [48, 49, 50, 51, 52, 53, 54, 55, 56, 57]))), (V.int .i64 7200)]) [[(V.str (cpTp (tlP (cpTp (tlP (cpTp (tlP (cpTp l [44, 77]) [48, 49, 50, 51, 52, 53, 54, 55, 56, 57]) [46]) [48, 49, 50, 51, 52, 53, 54, 55, 56, 57]) [46]) [48, 49, 50, 51, 52, 53, 54, 55, 56, 57]) [47]))]])))
 (none)))
 (K (V.out true (V.iface 114 (V.agg [])) [[(V.str (tlP (cpTp (tlP (cpTp (tlP (cpTp l [44, 77]) [48, 49, 50, 51, 52, 53, 54, 55, 56, 57]) [46]) [48, 49, 50, 51, 52, 53, 54, 55, 56, 57]) [46]) [48, 49, 50, 51, 52, 53, 54, 55, 56, 57]))]])))
 (none))
 (none)))
 (none)))
 (K (V.out true (V.iface 114 (V.agg [])) [[(V.str (tlP (cpTp (tlP (cpTp l [44, 77]) [48, 49, 50, 51, 52, 53, 54, 55, 56, 57]) [46]) [48, 49, 50, 51, 52, 53, 54, 55, 56, 57]))]])))
 (none))
 (none)))
 (none)))
 (K (V.out true (V.iface 114 (V.agg [])) [[(V.str (tlP (cpTp l [44, 77]) [48, 49, 50, 51, 52, 53, 54, 55, 56, 57]))]])))
 (none))
 (none)))
 (none) := by kernel_rfl
set_option maxRecDepth 100000 in
theorem pRA_top (F : Nat) (l : List UInt8) (K : V → Option V) :
 evBd aE (evFn aE pS19 F 3) F 50 [(V.bxa 0 [(V.str l)])] K =
 sel (ile (slen l) 900)
 (sel (nmQ l)
 (sel (ile (slen (nmL l)) 900)
 (sel (ckQ (nmL l))
 (sel (bnot (ckS (nmL l)))
 (K (V.out true (V.iface 114 (V.agg [])) [[(V.str (ckL (nmL l)))]]))
 (sel (seq (ckL (nmL l)) [])
 (K (V.out false (V.agg [(V.str (nmA l)), (V.int .i64 (isub .i64 0 (ckN (nmL l)))), (V.str []), (V.int .i64 0), (V.int .i64 0), (V.int .i64 0), (V.int .i64 0), (V.int .i64 0), (V.int .i64 0), (V.int .i64 0), (V.int .i64 0), (V.int .i64 0)]) [[(V.str (ckL (nmL l)))]]))
 (sel (ile (slen (ckL (nmL l))) 900)
 (sel (nmQ (ckL (nmL l)))
 (sel (ile (slen (nmL (ckL (nmL l)))) 900)
 (sel (ckQ (nmL (ckL (nmL l))))
 (sel (ckS (nmL (ckL (nmL l))))
 (sel (ile (slen (ckL (nmL (ckL (nmL l))))) 900)
 (sel (dyQ (ckL (nmL (ckL (nmL l)))))
 (sel (ile (slen (dyL (ckL (nmL (ckL (nmL l)))))) 900)
 (sel (dyQ (dyL (ckL (nmL (ckL (nmL l))))))
 (sel (bnot (seq (dyL (dyL (ckL (nmL (ckL (nmL l)))))) []))
 (K (V.out true (V.iface 114 (V.agg [])) [[(V.str (dyL (dyL (ckL (nmL (ckL (nmL l)))))))]]))
 (K (V.out false (V.agg [(V.str (nmA l)), (V.int .i64 (isub .i64 0 (ckN (nmL l)))), (V.str (nmA (ckL (nmL l)))), (V.int .i64 (isub .i64 (ckN (nmL l)) (ckN (nmL (ckL (nmL l)))))), (V.int .i64 (dyM (ckL (nmL (ckL (nmL l)))))), (V.int .i64 (dyW (ckL (nmL (ckL (nmL l)))))), (V.int .i64 (dyD (ckL (nmL (ckL (nmL l)))))), (V.int .i64 (dyC (ckL (nmL (ckL (nmL l)))))), (V.int .i64 (dyM (dyL (ckL (nmL (ckL (nmL l))))))), (V.int .i64 (dyW (dyL (ckL (nmL (ckL (nmL l))))))), (V.int .i64 (dyD (dyL (ckL (nmL (ckL (nmL l))))))), (V.int .i64 (dyC (dyL (ckL (nmL (ckL (nmL l)))))))]) [[(V.str (dyL (dyL (ckL (nmL (ckL (nmL l)))))))]])))
 (K (V.out true (V.iface 114 (V.agg [])) [[(V.str (dyL (dyL (ckL (nmL (ckL (nmL l)))))))]])))
 (none))
 (K (V.out true (V.iface 114 (V.agg [])) [[(V.str (dyL (ckL (nmL (ckL (nmL l))))))]])))
 (none))
 (sel (ile (slen (ckL (nmL (ckL (nmL l))))) 900)
 (sel (dyQ (ckL (nmL (ckL (nmL l)))))
 (sel (ile (slen (dyL (ckL (nmL (ckL (nmL l)))))) 900)
 (sel (dyQ (dyL (ckL (nmL (ckL (nmL l))))))
 (sel (bnot (seq (dyL (dyL (ckL (nmL (ckL (nmL l)))))) []))
 (K (V.out true (V.iface 114 (V.agg [])) [[(V.str (dyL (dyL (ckL (nmL (ckL (nmL l)))))))]]))
 (K (V.out false (V.agg [(V.str (nmA l)), (V.int .i64 (isub .i64 0 (ckN (nmL l)))), (V.str (nmA (ckL (nmL l)))), (V.int .i64 3600), (V.int .i64 (dyM (ckL (nmL (ckL (nmL l)))))), (V.int .i64 (dyW (ckL (nmL (ckL (nmL l)))))), (V.int .i64 (dyD (ckL (nmL (ckL (nmL l)))))), (V.int .i64 (dyC (ckL (nmL (ckL (nmL l)))))), (V.int .i64 (dyM (dyL (ckL (nmL (ckL (nmL l))))))), (V.int .i64 (dyW (dyL (ckL (nmL (ckL (nmL l))))))), (V.int .i64 (dyD (dyL (ckL (nmL (ckL (nmL l))))))), (V.int .i64 (dyC (dyL (ckL (nmL (ckL (nmL l)))))))]) [[(V.str (dyL (dyL (ckL (nmL (ckL (nmL l)))))))]])))
 (K (V.out true (V.iface 114 (V.agg [])) [[(V.str (dyL (dyL (ckL (nmL (ckL (nmL l)))))))]])))
 (none))
 (K (V.out true (V.iface 114 (V.agg [])) [[(V.str (dyL (ckL (nmL (ckL (nmL l))))))]])))
 (none)))
 (K (V.out true (V.iface 114 (V.agg [])) [[(V.str (ckL (nmL (ckL (nmL l)))))]])))
 (none))
 (K (V.out true (V.iface 114 (V.agg [])) [[(V.str (nmL (ckL (nmL l))))]])))
 (none))))
 (K (V.out true (V.iface 114 (V.agg [])) [[(V.str (ckL (nmL l)))]])))
 (none))
 (K (V.out true (V.iface 114 (V.agg [])) [[(V.str (nmL l))]])))
 (none) := by kernel_rfl
set_option maxRecDepth 100000 in
theorem pRd_top (F : Nat) (s : List UInt8) (K : V → Option V) :
 evBd aE (evFn aE pS20 F 4) F 21 [(V.str s)] K =
 sel (ile (slen s) 900)
 (sel (alQ s)
 (sel (band (ile (slen (al0 s)) 1000) (ile (slen (al2 s)) 1000))
 (sel (ieq (ptE (al0 s) (al1 s) (al2 s) (al3 s) (al4 s) (al5 s) (al6 s) (al7 s) (al8 s) (al9 s) (al10 s) (al11 s)) 0)
 (sel (bnot (seq (ptT (al0 s) (al1 s) (al2 s) (al3 s) (al4 s) (al5 s) (al6 s) (al7 s) (al8 s) (al9 s) (al10 s) (al11 s)) s))
 (K (V.tup [(V.agg [(V.str []), (V.int .i64 0), (V.str []), (V.int .i64 0), (V.int .i64 0), (V.int .i64 0), (V.int .i64 0), (V.int .i64 0), (V.int .i64 0), (V.int .i64 0), (V.int .i64 0), (V.int .i64 0)]), (V.int .i64 4)]))
 (both
 (both
 (K (V.tup [(V.agg [(V.str (al0 s)), (V.int .i64 (al1 s)), (V.str (al2 s)), (V.int .i64 (al3 s)), (V.int .i64 (al4 s)), (V.int .i64 (al5 s)), (V.int .i64 (al6 s)), (V.int .i64 (al7 s)), (V.int .i64 (al8 s)), (V.int .i64 (al9 s)), (V.int .i64 (al10 s)), (V.int .i64 (al11 s))]), (V.int .i64 (ptE (al0 s) (al1 s) (al2 s) (al3 s) (al4 s) (al5 s) (al6 s) (al7 s) (al8 s) (al9 s) (al10 s) (al11 s)))]))
 (K (V.tup [(V.agg [(V.str (al0 s)), (V.int .i64 (al1 s)), (V.str (al2 s)), (V.int .i64 (al3 s)), (V.int .i64 (al4 s)), (V.int .i64 (al5 s)), (V.int .i64 (al6 s)), (V.int .i64 (al7 s)), (V.int .i64 (al8 s)), (V.int .i64 (al9 s)), (V.int .i64 (al10 s)), (V.int .i64 (al11 s))]), (V.int .i64 (ptE (al0 s) (al1 s) (al2 s) (al3 s) (al4 s) (al5 s) (al6 s) (al7 s) (al8 s) (al9 s) (al10 s) (al11 s)))])))
 (K (V.tup [(V.agg [(V.str (al0 s)), (V.int .i64 (al1 s)), (V.str (al2 s)), (V.int .i64 (al3 s)), (V.int .i64 (al4 s)), (V.int .i64 (al5 s)), (V.int .i64 (al6 s)), (V.int .i64 (al7 s)), (V.int .i64 (al8 s)), (V.int .i64 (al9 s)), (V.int .i64 (al10 s)), (V.int .i64 (al11 s))]), (V.int .i64 (ptE (al0 s) (al1 s) (al2 s) (al3 s) (al4 s) (al5 s) (al6 s) (al7 s) (al8 s) (al9 s) (al10 s) (al11 s)))]))))
 (K (V.tup [(V.agg [(V.str []), (V.int .i64 0), (V.str []), (V.int .i64 0), (V.int .i64 0), (V.int .i64 0), (V.int .i64 0), (V.int .i64 0), (V.int .i64 0), (V.int .i64 0), (V.int .i64 0), (V.int .i64 0)]), (V.int .i64 4)])))
 (none))
 (K (V.tup [(V.agg [(V.str []), (V.int .i64 0), (V.str []), (V.int .i64 0), (V.int .i64 0), (V.int .i64 0), (V.int .i64 0), (V.int .i64 0), (V.int .i64 0), (V.int .i64 0), (V.int .i64 0), (V.int .i64 0)]), (V.int .i64 4)])))
 (none) := by kernel_rfl
end Nt.Ev.YteccmgkfmeoekaaDoor.Px

set_option linter.unusedVariables false
set_option linter.unusedSimpArgs false
set_option linter.unusedSectionVars false
namespace Nt.Ev.YteccmgkfmeoekaaDoor.Px
set_option maxRecDepth 100000
open Go Go.RowKit Nt Nt.Num Go.Proofs.YteccmgkfmeoekaaDoor Nt.Ev.YteccmgkfmeoekaaDoor Nt.Civil
variable [MLen]
theorem toPy {f : Nat} {args : List V} {r : V} (h : Contract yE f args r) : Contract aE f args r := Contract.env (E := yE) rfl (fun n v h => by cases h) h
theorem toPv {f : Nat} {args : List V} {r : V} (h : Contract vE f args r) : Contract aE f args r := Contract.env (E := vE) rfl (fun n v h => by cases h) h
theorem toPn {f : Nat} {args : List V} {r : V} (h : Contract nE f args r) : Contract aE f args r := Contract.env (E := nE) rfl (fun n v h => by cases h) h
theorem toPo {f : Nat} {args : List V} {r : V} (h : Contract oE f args r) : Contract aE f args r := Contract.env (E := oE) rfl (fun n v h => by cases h) h
theorem toPf {f : Nat} {args : List V} {r : V} (h : Contract fE f args r) : Contract aE f args r := Contract.env (E := fE) rfl (fun n v h => by
  unfold fE at h
  unfold aE
  simp only at h ⊢
  cases e1 : n == 3 with
  | false => rw [e1] at h; cases h
  | true =>
    rw [e1] at h
    have : n = 3 := by simpa using e1
    subst this
    exact h) h
theorem len_p {s : List UInt8} (h : ile (slen s) 1000 = true) : s.length ≤ 1000 := by rw [ile_iff, slen_nat] at h; omega
theorem len_p9 {s : List UInt8} (h : ile (slen s) 900 = true) : s.length ≤ 900 := by rw [ile_iff, slen_nat] at h; omega
theorem p_len {s : List UInt8} (h : s.length ≤ 1000) : ile (slen s) 1000 = true := by rw [ile_iff, slen_nat]; omega
theorem p_len9 {s : List UInt8} (h : s.length ≤ 900) : ile (slen s) 900 = true := by rw [ile_iff, slen_nat]; omega
theorem fits_p {m : Int} (h : band (ile (-9223372036854775808) m) (ile m 9223372036854775807) = true) : Fits m := by rw [band_iff, ile_iff, ile_iff] at h; exact h
theorem pFxS_ok (n : Int) (hc : true = true) : Contract aE 85 [.int .i64 n] (.tup [.str (fxT n), .int .i64 (fxW n)]) := toPy (yFromText_ev n)
theorem pTxS_ok (m n : Int) (hc : true = true) : Contract aE 84 [.int .i64 m, .int .i64 n] (.tup [.str (txTy m n), .int .i64 (txWy m n)]) := toPy (yToText_ev m n)
theorem pNmS_ok (s : List UInt8) (hc : true = true) : Contract aE 26 [.str s] (.int .i64 (nmI s)) := toPo (Nm.nName_ev s)
theorem pLtS_ok (s : List UInt8) (hc : ile (slen s) 1000 = true) : Contract aE 86 [.str s] (.tup [.str (ltT s), .int .i64 (ltW s)]) := toPf (fLText_ev s (len_p hc))
theorem pCrS_ok (n b : Int) (hc : true = true) : Contract aE 57 [.agg [.int .i64 n, .int .i64 b]] (.bool (rightC n b)) := cRight_ev n b
theorem pLenS_ok (y m : Int) (hc : band (ile (-9223372036854775808) y) (ile y 9223372036854775807) = true) : Contract aE 95 [.int .i64 y, .int .i64 m] (.int .i64 (lenI y m)) := toPv (vLen_ev y m (fits_p hc))
theorem pNbS_ok (y m d : Int) (hc : validB y m d = true) : Contract aE 128 [.agg [.int .i64 y, .int .i64 m, .int .i64 d]] (.int .i64 (daysI y m d)) := toPv (vNumber_ev y m d hc)
theorem pVaS_ok (y m d : Int) (hc : true = true) : Contract aE 103 [.agg [.int .i64 y, .int .i64 m, .int .i64 d]] (.bool (validB y m d)) := toPv (vRight_ev y m d)
theorem pS0_ok : SOk aE pS0 := by
  unfold pS0
  refine SOk.cons (fun args r h => ?_) (SOk.cons (fun args r h => ?_) (SOk.cons (fun args r h => ?_) (SOk.cons (fun args r h => ?_) (SOk.cons (fun args r h => ?_) (SOk.cons (fun args r h => ?_) (SOk.cons (fun args r h => ?_) (SOk.cons (fun args r h => ?_) (SOk.nil))))))))
  · unfold pFxS at h
    split at h
    · simp only [Option.some.injEq, Prod.mk.injEq] at h
      obtain ⟨hc, rfl⟩ := h
      exact pFxS_ok _ rfl
    · cases h
  · unfold pTxS at h
    split at h
    · simp only [Option.some.injEq, Prod.mk.injEq] at h
      obtain ⟨hc, rfl⟩ := h
      exact pTxS_ok _ _ rfl
    · cases h
  · unfold pNmS at h
    split at h
    · simp only [Option.some.injEq, Prod.mk.injEq] at h
      obtain ⟨hc, rfl⟩ := h
      exact pNmS_ok _ rfl
    · cases h
  · unfold pLtS at h
    split at h
    · simp only [Option.some.injEq, Prod.mk.injEq] at h
      obtain ⟨hc, rfl⟩ := h
      exact pLtS_ok _ hc
    · cases h
  · unfold pCrS at h
    split at h
    · simp only [Option.some.injEq, Prod.mk.injEq] at h
      obtain ⟨hc, rfl⟩ := h
      exact pCrS_ok _ _ rfl
    · cases h
  · unfold pLenS at h
    split at h
    · simp only [Option.some.injEq, Prod.mk.injEq] at h
      obtain ⟨hc, rfl⟩ := h
      exact pLenS_ok _ _ hc
    · cases h
  · unfold pNbS at h
    split at h
    · simp only [Option.some.injEq, Prod.mk.injEq] at h
      obtain ⟨hc, rfl⟩ := h
      exact pNbS_ok _ _ _ hc
    · cases h
  · unfold pVaS at h
    split at h
    · simp only [Option.some.injEq, Prod.mk.injEq] at h
      obtain ⟨hc, rfl⟩ := h
      exact pVaS_ok _ _ _ rfl
    · cases h
theorem pYdS_ok (y m d : Int) (hc : true = true) : Contract aE 121 [.agg [.int .i64 y, .int .i64 m, .int .i64 d]] (.tup [.int .i64 (ydV y m d), .int .i64 (ydW y m d)]) := by
  refine contract_of_body aE_ok pS0_ok 5 2 ?_
  rw [pYd_top]
  unfold ydV ydW
  cases h : validB y m d with
  | false => rfl
  | true =>
    obtain ⟨h1, h2, h3⟩ := validB_iff.1 h
    have hb := yd_bounds h3
    have hm := len_month h3
    have h11 : validB y 1 1 = true := validB_iff.2 ⟨h1, h2, by unfold valid; have := len_pos y 1 (by decide) (by decide); omega⟩
    have e1 : ydI y 1 1 = 1 := rfl
    have hd : daysI y m d - daysI y 1 1 = ydI y m d - 1 := by unfold daysI; rw [e1]; omega
    have hl : (365 : Int) + (if leapB y = true then 1 else 0) ≤ 366 := by split <;> omega
    rw [sel_neg (by rfl), sel_pos rfl, sel_pos h11, isub64 (by omega), hd, iadd64 (by omega), if_pos rfl, if_pos rfl, show ydI y m d - 1 + 1 = ydI y m d by omega]
theorem pOnS_ok (k w d : Int) (hc : true = true) : Contract aE 93 [.agg [.int .i64 k, .int .i64 w, .int .i64 d]] (.bool (onP k w d)) := by
  refine contract_of_body aE_ok pS0_ok 5 3 ?_
  rw [pOn_top]
  unfold onP
  simp only [sel_if, ieq_iff, ile_iff]
  repeat' split
  all_goals first
    | (rw [decide_eq_false (by omega)]; done)
    | (exfalso; omega)
    | (congr 2; unfold ile; rw [Bool.eq_iff_iff]; simp; omega)
    | (congr 2; unfold ieq; rw [Bool.eq_iff_iff]; simp; omega)
theorem pS1_ok : SOk aE pS1 := by
  unfold pS1
  refine SOk.cons (fun args r h => ?_) (SOk.cons (fun args r h => ?_) (pS0_ok))
  · unfold pYdS at h
    split at h
    · simp only [Option.some.injEq, Prod.mk.injEq] at h
      obtain ⟨hc, rfl⟩ := h
      exact pYdS_ok _ _ _ rfl
    · cases h
  · unfold pOnS at h
    split at h
    · simp only [Option.some.injEq, Prod.mk.injEq] at h
      obtain ⟨hc, rfl⟩ := h
      exact pOnS_ok _ _ _ rfl
    · cases h
theorem pft_tree (k w d m y : Int) (hy : leapB y = false) : sel (onP k w d) (sel (ile 1 m) (sel (ile m 12) (some (V.bool (ile d (lenI y m)))) (some (V.bool false))) (some (V.bool false))) (some (V.bool false)) = some (.bool (ftP k w d m)) := by
  have e : lenI y m = lenI 1 m := by unfold lenI; rw [hy]; rfl
  rw [e]
  unfold ftP
  cases h0 : onP k w d with
  | false => rfl
  | true =>
    by_cases h1 : 1 ≤ m
    · by_cases h2 : m ≤ 12
      · rw [sel_pos rfl, sel_pos (ile_t h1), sel_pos (ile_t h2)]
        congr 2
        rw [Bool.true_and, Bool.eq_iff_iff, ile_iff, decide_eq_true_eq]
        exact ⟨fun h => ⟨h1, h2, h⟩, fun h => h.2.2⟩
      · rw [sel_pos rfl, sel_pos (ile_t h1), sel_neg (ile_f (by omega))]
        congr 2
        rw [Bool.true_and, eq_comm, decide_eq_false_iff_not]; omega
    · rw [sel_pos rfl, sel_neg (ile_f (by omega))]
      congr 2
      rw [Bool.true_and, eq_comm, decide_eq_false_iff_not]; omega
theorem pFtS_ok (k w d m : Int) (hc : true = true) : Contract aE 56 [.agg [.int .i64 k, .int .i64 w, .int .i64 d], .int .i64 m] (.bool (ftP k w d m)) := by
  refine contract_of_body aE_ok pS1_ok 5 2 ?_
  rw [pFt_top]
  exact pft_tree k w d m 1 (by decide)
theorem pS2_ok : SOk aE pS2 := by
  unfold pS2
  refine SOk.cons (fun args r h => ?_) (pS1_ok)
  · unfold pFtS at h
    split at h
    · simp only [Option.some.injEq, Prod.mk.injEq] at h
      obtain ⟨hc, rfl⟩ := h
      exact pFtS_ok _ _ _ _ rfl
    · cases h
theorem on_k {k w d : Int} (h : onP k w d = true) : (k = 1 ∧ d = 0 ∧ 0 ≤ w ∧ w ≤ 6) ∨ (k = 0 ∧ w = 0 ∧ 1 ≤ d ∧ d ≤ 31) ∨ ((k = 2 ∨ k = 3) ∧ 0 ≤ w ∧ w ≤ 6 ∧ 1 ≤ d ∧ d ≤ 31) := by
  unfold onP at h
  split at h
  · rw [decide_eq_true_eq] at h; omega
  · split at h
    · rw [decide_eq_true_eq] at h; omega
    · rw [decide_eq_true_eq] at h; omega
theorem ft_k {k w d m : Int} (h : ftP k w d m = true) : ((k = 1 ∧ d = 0 ∧ 0 ≤ w ∧ w ≤ 6) ∨ (k = 0 ∧ w = 0 ∧ 1 ≤ d ∧ d ≤ 31) ∨ ((k = 2 ∨ k = 3) ∧ 0 ≤ w ∧ w ≤ 6 ∧ 1 ≤ d ∧ d ≤ 31)) ∧ 1 ≤ m ∧ m ≤ 12 ∧ d ≤ lenI 1 m := by
  unfold ftP at h
  rw [Bool.and_eq_true, decide_eq_true_eq] at h
  exact ⟨on_k h.1, h.2⟩
theorem pWi_tree (k w d m y z : Int) (hy : leapB y = false) (hz : leapB z = true) (L : Int) (hL : ftP k w d m = true → L = lenI y m - 6) : sel (bnot (ftP k w d m))
      (some (V.tup [(V.int .i64 0), (V.int .i64 0), (V.int .i64 4)]))
      (sel (ieq k 1)
        (some (V.tup [(V.int .i64 L), (V.int .i64 (lenI z m)), (V.int .i64 0)]))
        (sel (ieq k 2)
          (some (V.tup [(V.int .i64 d), (V.int .i64 (iadd .i64 d 6)), (V.int .i64 0)]))
          (sel (ieq k 3)
            (some (V.tup [(V.int .i64 (isub .i64 d 6)), (V.int .i64 d), (V.int .i64 0)]))
            (some (V.tup [(V.int .i64 d), (V.int .i64 d), (V.int .i64 0)]))))) = some (.tup [.int .i64 (wlP k w d m), .int .i64 (whP k w d m), .int .i64 (weP k w d m)]) := by
  have e1 : lenI y m = lenI 1 m := by unfold lenI; rw [hy]; rfl
  have e4 : lenI z m = lenI 4 m := by unfold lenI; rw [hz]; rfl
  rw [e1] at hL
  rw [e4]
  unfold wlP whP weP
  cases h : ftP k w d m with
  | false => rfl
  | true =>
    have hk := (ft_k h).1
    rw [hL h, sel_neg (by rfl)]
    simp only [if_pos]
    by_cases k1 : k = 1
    · rw [sel_pos (ieq_t k1), if_pos k1, if_pos k1]
    · rw [sel_neg (ieq_f k1), if_neg k1, if_neg k1]
      by_cases k2 : k = 2
      · rw [sel_pos (ieq_t k2), if_neg (by omega), if_pos k2, iadd64 (by omega)]
      · rw [sel_neg (ieq_f k2), if_neg k2]
        by_cases k3 : k = 3
        · rw [sel_pos (ieq_t k3), if_pos k3, isub64 (by omega)]
        · rw [sel_neg (ieq_f k3), if_neg k3]
theorem pWiS_ok (k w d m : Int) (hc : true = true) : Contract aE 122 [.agg [.int .i64 k, .int .i64 w, .int .i64 d], .int .i64 m] (.tup [.int .i64 (wlP k w d m), .int .i64 (whP k w d m), .int .i64 (weP k w d m)]) := by
  refine contract_of_body aE_ok pS2_ok 5 2 ?_
  rw [pWi_top]
  refine pWi_tree k w d m 1 4 (by decide) (by decide) _ fun h => ?_
  have := ft_k h
  have := len_pos 1 m (by omega) (by omega)
  rw [isub64 (by omega), iadd64 (by omega)]; omega
theorem yr_p (f t : Int) : (ieq (txWy f t) 0 && ieq (fxW f) 0) = yrP f t := by
  rw [Bool.eq_iff_iff, Bool.and_eq_true, ieq_iff, ieq_iff]
  unfold yrP
  rw [Bool.and_eq_true, Bool.and_eq_true, ile_iff, ile_iff, ile_iff]
  unfold txWy fxW yToTextP yFromTextP
  constructor
  · rintro ⟨h1, h2⟩
    by_cases a : -32767 ≤ f ∧ f ≤ 32767
    · by_cases b : -32767 ≤ t ∧ t ≤ 32767
      · rw [if_pos b] at h1
        by_cases c : t < f
        · rw [if_pos c] at h1; cases h1
        · omega
      · rw [if_neg b] at h1; cases h1
    · rw [if_neg a] at h2; cases h2
  · rintro ⟨h1, h2, h3⟩
    rw [if_pos (show -32767 ≤ t ∧ t ≤ 32767 by omega), if_pos (show -32767 ≤ f ∧ f ≤ 32767 by omega), if_neg (show ¬ t < f by omega)]
    constructor
    · (repeat' split) <;> rfl
    · (repeat' split) <;> rfl
theorem pRrS_ok (n : List UInt8) (f t m k w d c b v : Int) (l : List UInt8) (hc : ile (slen l) 900 = true) : Contract aE 52 [.agg [.str n, .int .i64 f, .int .i64 t, .int .i64 m, .int .i64 k, .int .i64 w, .int .i64 d, .int .i64 c, .int .i64 b, .int .i64 v, .str l]] (.bool (ruP n f t m k w d c b v l)) := by
  refine contract_of_body aE_ok pS2_ok 5 2 ?_
  rw [pRr_top, sel_pos (p_len (by have := len_p9 hc; omega))]
  unfold ruP
  rw [← yr_p]
  cases ieq (txWy f t) 0 <;> cases ieq (fxW f) 0 <;> cases ieq (ltW l) 0 <;> cases ieq (nmI n) 0 <;> cases ftP k w d m <;> cases rightC c b <;> cases ile (-10800) v <;> cases ile v 10800 <;> rfl
theorem pS3_ok : SOk aE pS3 := by
  unfold pS3
  refine SOk.cons (fun args r h => ?_) (SOk.cons (fun args r h => ?_) (pS2_ok))
  · unfold pWiS at h
    split at h
    · simp only [Option.some.injEq, Prod.mk.injEq] at h
      obtain ⟨hc, rfl⟩ := h
      exact pWiS_ok _ _ _ _ rfl
    · cases h
  · unfold pRrS at h
    split at h
    · simp only [Option.some.injEq, Prod.mk.injEq] at h
      obtain ⟨hc, rfl⟩ := h
      exact pRrS_ok _ _ _ _ _ _ _ _ _ _ _ hc
    · cases h
theorem cum_in (m : Int) (h1 : 1 ≤ m) (h2 : m ≤ 12) : 0 ≤ cumI 2001 m ∧ cumI 2001 m ≤ 334 := by
  unfold cumI
  rw [if_neg (show ¬ leapB 2001 = true by decide)]
  split <;> omega
theorem wl_in {k w d m : Int} (h : ftP k w d m = true) : -5 ≤ wlP k w d m ∧ wlP k w d m ≤ 31 ∧ -5 ≤ whP k w d m ∧ whP k w d m ≤ 37 := by
  have hk := ft_k h
  have h1 := len_pos 1 m (by omega) (by omega)
  have h4 := len_pos 4 m (by omega) (by omega)
  unfold wlP whP
  rw [if_pos h, if_pos h]
  repeat' split
  all_goals omega
theorem of_in {m k w d c : Int} (h : ftP k w d m = true) (hc : 0 ≤ c ∧ c ≤ 172800) : -600000 ≤ ofL m k w d c ∧ ofL m k w d c ≤ 40000000 ∧ -600000 ≤ ofH m k w d c ∧ ofH m k w d c ≤ 40000000 := by
  have h1 := wl_in h
  have hk := ft_k h
  have h2 := cum_in m (by omega) (by omega)
  unfold ofL ofH
  omega
theorem pOfS_ok (n : List UInt8) (f t m k w d c b v : Int) (l : List UInt8) (hc : band (ftP k w d m) (band (ile 0 c) (ile c 172800)) = true) : Contract aE 88 [.agg [.str n, .int .i64 f, .int .i64 t, .int .i64 m, .int .i64 k, .int .i64 w, .int .i64 d, .int .i64 c, .int .i64 b, .int .i64 v, .str l]] (.agg [.int .i64 (ofL m k w d c), .int .i64 (ofH m k w d c)]) := by
  obtain ⟨h1, h2⟩ := band_true hc
  rw [band_iff, ile_iff, ile_iff] at h2
  refine contract_of_body aE_ok pS3_ok 5 2 ?_
  have hk := ft_k h1
  have hw := wl_in h1
  have hcm := cum_in m (by omega) (by omega)
  have hy : ydV 2001 m 1 = cumI 2001 m + 1 := by
    unfold ydV
    rw [if_pos (validB_iff.2 ⟨by decide, by decide, by unfold valid; have := len_pos 2001 m (by omega) (by omega); omega⟩)]
    rfl
  rw [pOf_top, hy]
  unfold ofL ofH
  generalize cumI 2001 m = q at *
  generalize wlP k w d m = a at *
  generalize whP k w d m = z at *
  rw [iadd64 (a := q + 1) (b := a) (by omega), iadd64 (a := q + 1) (b := z) (by omega), isub64 (a := q + 1 + a) (by omega), isub64 (a := q + 1 + z) (by omega), imul64 (a := q + 1 + a - 2) (by omega), imul64 (a := q + 1 + z - 2) (by omega), iadd64 (by omega), iadd64 (by omega)]
  congr 3
  · congr 1; omega
  · congr 2; omega
theorem ru_ft {n : List UInt8} {f t m k w d c b v : Int} {l : List UInt8} (h : ruP n f t m k w d c b v l = true) : ftP k w d m = true ∧ (0 ≤ c ∧ c ≤ 172800) ∧ -32767 ≤ f ∧ f ≤ t ∧ t ≤ 32767 ∧ (-10800 ≤ v ∧ v ≤ 10800) := by
  unfold ruP yrP rightC at h
  simp only [Bool.and_eq_true, ile_iff, decide_eq_true_eq] at h
  obtain ⟨_, h1, h2, h3, h4, _⟩ := h
  exact ⟨h2, ⟨h3.1, h3.2.1⟩, h1.1, h1.2.1, h1.2.2, h4⟩
theorem pS4_ok : SOk aE pS4 := by
  unfold pS4
  refine SOk.cons (fun args r h => ?_) (pS3_ok)
  · unfold pOfS at h
    split at h
    · simp only [Option.some.injEq, Prod.mk.injEq] at h
      obtain ⟨hc, rfl⟩ := h
      exact pOfS_ok _ _ _ _ _ _ _ _ _ _ _ hc
    · cases h
theorem pNeS_ok (n : List UInt8) (f t m k w d c b v : Int) (l : List UInt8) (n2 : List UInt8) (f2 t2 m2 k2 w2 d2 c2 b2 v2 : Int) (l2 : List UInt8) (hc : band (ruP n f t m k w d c b v l) (ruP n2 f2 t2 m2 k2 w2 d2 c2 b2 v2 l2) = true) : Contract aE 53 [.agg [.str n, .int .i64 f, .int .i64 t, .int .i64 m, .int .i64 k, .int .i64 w, .int .i64 d, .int .i64 c, .int .i64 b, .int .i64 v, .str l], .agg [.str n2, .int .i64 f2, .int .i64 t2, .int .i64 m2, .int .i64 k2, .int .i64 w2, .int .i64 d2, .int .i64 c2, .int .i64 b2, .int .i64 v2, .str l2]] (.bool (neP f t (ofL m k w d c) (ofH m k w d c) f2 t2 (ofL m2 k2 w2 d2 c2) (ofH m2 k2 w2 d2 c2))) := by
  obtain ⟨h1, h2⟩ := band_true hc
  have h1 := ru_ft h1
  have h2 := ru_ft h2
  have o1 := of_in h1.1 h1.2.1
  have o2 := of_in h2.1 h2.2.1
  refine contract_of_body aE_ok pS4_ok 5 2 ?_
  rw [pNe_top, sel_pos (by rw [band_iff, band_iff, ile_iff, ile_iff]; exact ⟨h1.1, h1.2.1⟩), sel_pos (by rw [band_iff, band_iff, ile_iff, ile_iff]; exact ⟨h2.1, h2.2.1⟩)]
  generalize ofL m k w d c = L at *
  generalize ofH m k w d c = H at *
  generalize ofL m2 k2 w2 d2 c2 = L2 at *
  generalize ofH m2 k2 w2 d2 c2 = H2 at *
  rw [iadd64 (a := f) (b := 0) (by omega), iadd64 (a := t) (b := 0) (by omega), iadd64 (a := L) (b := 0) (by omega), iadd64 (a := L2) (b := 0) (by omega), iadd64 (a := f) (b := 1) (by omega), iadd64 (a := t) (b := 1) (by omega), iadd64 (a := f2) (b := 1) (by omega), iadd64 (a := t2) (b := 1) (by omega), iadd64 (a := L) (b := 31536000) (by omega), iadd64 (a := L2) (b := 31536000) (by omega), isub64 (a := L + 0) (by omega), isub64 (a := L2 + 0) (by omega), isub64 (a := L + 31536000) (by omega), isub64 (a := L2 + 31536000) (by omega)]
  have ea : bnot (ile 345600 (L + 31536000 - H2)) = decide (L + 31536000 - H2 < 345600) := by unfold ile bnot; rw [← decide_not]; congr 1; rw [Int.not_le]
  rw [ea]
  unfold neP
  simp only [sel_if, ile_iff, bnot_iff, Int.not_le]
  repeat' split
  all_goals (congr 2; rw [eq_comm]; first | (rw [decide_eq_true_eq]; omega) | (rw [decide_eq_false_iff_not]; omega) | (rw [Bool.eq_iff_iff, decide_eq_true_eq, decide_eq_true_eq]; omega))
theorem pS5_ok : SOk aE pS5 := by
  unfold pS5
  refine SOk.cons (fun args r h => ?_) (pS4_ok)
  · unfold pNeS at h
    split at h
    · simp only [Option.some.injEq, Prod.mk.injEq] at h
      obtain ⟨hc, rfl⟩ := h
      exact pNeS_ok _ _ _ _ _ _ _ _ _ _ _ _ _ _ _ _ _ _ _ _ _ _ hc
    · cases h
end Nt.Ev.YteccmgkfmeoekaaDoor.Px

set_option linter.unusedVariables false
set_option linter.unusedSimpArgs false
set_option linter.unusedSectionVars false
namespace Nt.Ev.YteccmgkfmeoekaaDoor.Px
set_option maxRecDepth 100000
open Go Go.RowKit Nt Nt.Num Go.Proofs.YteccmgkfmeoekaaDoor Nt.Ev.YteccmgkfmeoekaaDoor Nt.Civil
variable [MLen]
theorem pPaS_ok (n : List UInt8) (f t m k w d c b v : Int) (l : List UInt8) (n2 : List UInt8) (f2 t2 m2 k2 w2 d2 c2 b2 v2 : Int) (l2 : List UInt8) (hc : band (ile (slen l) 900) (ile (slen l2) 900) = true) : Contract aE 22 [.agg [.str n, .int .i64 f, .int .i64 t, .int .i64 m, .int .i64 k, .int .i64 w, .int .i64 d, .int .i64 c, .int .i64 b, .int .i64 v, .str l], .agg [.str n2, .int .i64 f2, .int .i64 t2, .int .i64 m2, .int .i64 k2, .int .i64 w2, .int .i64 d2, .int .i64 c2, .int .i64 b2, .int .i64 v2, .str l2]] (.int .i64 (paP n f t m k w d c b v l n2 f2 t2 m2 k2 w2 d2 c2 b2 v2 l2)) := by
  obtain ⟨h1, h2⟩ := band_true hc
  refine contract_of_body aE_ok pS5_ok 5 2 ?_
  rw [pPa_top, h1, h2]
  unfold paP
  cases ruP n f t m k w d c b v l <;> cases ruP n2 f2 t2 m2 k2 w2 d2 c2 b2 v2 l2 <;> cases neP f t (ofL m k w d c) (ofH m k w d c) f2 t2 (ofL m2 k2 w2 d2 c2) (ofH m2 k2 w2 d2 c2) <;> rfl
theorem pS6_ok : SOk aE pS6 := by
  unfold pS6
  refine SOk.cons (fun args r h => ?_) (pS5_ok)
  · unfold pPaS at h
    split at h
    · simp only [Option.some.injEq, Prod.mk.injEq] at h
      obtain ⟨hc, rfl⟩ := h
      exact pPaS_ok _ _ _ _ _ _ _ _ _ _ _ _ _ _ _ _ _ _ _ _ _ _ hc
    · cases h
theorem pNa_step (s : List UInt8) (F n k : Nat) (hk : k < s.length) (hs : s.length ≤ 1000) (x2 x3 : Bool) (K : V → Option V) : pNa_L0 F [] (n + 1) s x2 x3 (bytesV s) (llen (bytesV s)) (k : Int) K =
    pNa_L0 F [] n s (x2 && namC s[k]) (x3 && ltrC s[k]) (bytesV s) (llen (bytesV s)) ((k + 1 : Nat) : Int) K := by
  have hl : (bytesV s).length = s.length := by unfold bytesV; rw [List.length_map]
  have e : asInt (acell (lget (bytesV s) (k : Int)) 0) = ((s[k].toNat : Nat) : Int) := by
    rw [lget_nat]
    unfold bytesV
    rw [List.getD_eq_getElem?_getD, List.getElem?_map, List.getElem?_eq_getElem hk]
    rfl
  have e43 : ieq ((s[k].toNat : Nat) : Int) 43 = (s[k] == 43) := Nm.u8_ieq s[k] 43
  have e45 : ieq ((s[k].toNat : Nat) : Int) 45 = (s[k] == 45) := Nm.u8_ieq s[k] 45
  have e48 : ile 48 ((s[k].toNat : Nat) : Int) = decide (48 ≤ s[k].toNat) := Nm.u8_ile s[k] 48
  have e57 : ile ((s[k].toNat : Nat) : Int) 57 = decide (s[k].toNat ≤ 57) := Nm.u8_ile' s[k] 57
  have hL := Nm.ibits_letter s[k]
  rw [pNa_L0_succ, sel_pos (ilt_t (by rw [llen_nat, hl]; omega)), sel_pos (by rw [band_iff, ile_iff, ilt_iff, llen_nat, hl]; omega), e, e43, e45, e48, e57, iadd64 (by omega), show (k : Int) + 1 = ((k + 1 : Nat) : Int) by omega]
  unfold namC ltrC
  rw [← hL]
  generalize ile 97 (ibits .or .u8 ((s[k].toNat : Nat) : Int) 32) = b1
  generalize ile (ibits .or .u8 ((s[k].toNat : Nat) : Int) 32) 122 = b2
  generalize decide (48 ≤ s[k].toNat) = b5
  generalize decide (s[k].toNat ≤ 57) = b6
  generalize (s[k] == 43) = b7
  generalize (s[k] == 45) = b8
  cases x2 <;> cases x3 <;> cases b1 <;> cases b2 <;> cases b5 <;> cases b6 <;> cases b7 <;> rfl
theorem pNa_loop (s : List UInt8) (F : Nat) (hs : s.length ≤ 1000) (K : V → Option V) : ∀ (n k : Nat) (x2 x3 : Bool), k ≤ s.length → s.length - k < n →
    pNa_L0 F [] n s x2 x3 (bytesV s) (llen (bytesV s)) (k : Int) K = K (.tup [.bool (x2 && (s.drop k).all namC), .bool (x3 && (s.drop k).all ltrC)]) := by
  intro n
  induction n with
  | zero => intro k _ _ _ h; omega
  | succ n ih =>
    intro k x2 x3 hk hn
    by_cases h : k < s.length
    · rw [pNa_step s F n k h hs, ih (k + 1) _ _ (by omega) (by omega), List.drop_eq_getElem_cons h, List.all_cons, List.all_cons, Bool.and_assoc, Bool.and_assoc]
    · have hl : (bytesV s).length = s.length := by unfold bytesV; rw [List.length_map]
      rw [pNa_L0_succ, sel_neg (ilt_f (by rw [llen_nat, hl]; omega)), List.drop_of_length_le (by omega)]
      simp
theorem pNaS_ok (s : List UInt8) (hc : ile (slen s) 1000 = true) : Contract aE 78 [.str s] (.tup [.bool (mayB s), .bool (letB s)]) := by
  have hs := len_p hc
  refine contract_of_body aE_ok pS6_ok 1002 2 ?_
  have ho : okStr s = true := by unfold okStr nle; exact decide_eq_true (by omega)
  have h0 := pNa_loop s 1002 hs some 1002 0
  rw [pNa_top, ho]
  have z : ((0 : Nat) : Int) = 0 := rfl
  rw [z] at h0
  unfold mayB letB
  by_cases h3 : 3 ≤ s.length
  · rw [sel_pos (ile_t (by rw [slen_nat]; omega)), sel_pos rfl, h0 _ _ (by omega) (by omega), List.drop_zero, decide_eq_true h3]
    congr 3
    · congr 1
      rw [Bool.true_and]
      congr 1
      unfold ile
      rw [slen_nat]
      congr 1
      rw [eq_iff_iff]; omega
  · rw [sel_neg (ile_f (by rw [slen_nat]; omega)), sel_pos rfl, h0 _ _ (by omega) (by omega), List.drop_zero, decide_eq_false h3]
    simp
theorem fi_tree (m w d c : Int) : sel (ile 1 m)
      (sel (ile m 12)
        (sel (ile 1 w)
          (sel (ile w 5)
            (sel (ile 0 d)
              (sel (ile d 6)
                (sel (ile 0 c)
                  (some (V.bool (ile c 172800)))
                  (some (V.bool false)))
                (some (V.bool false)))
              (some (V.bool false)))
            (some (V.bool false)))
          (some (V.bool false)))
        (some (V.bool false)))
      (some (V.bool false)) = some (.bool (fiP m w d c)) := by
  unfold fiP
  simp only [sel_if, ile_iff]
  repeat' split
  all_goals (congr 2; rw [Bool.eq_iff_iff, decide_eq_true_eq]; simp only [ile_iff, Bool.false_eq_true, false_iff, not_and]; omega)
theorem pFiS_ok (m w d c : Int) (hc : true = true) : Contract aE 47 [.agg [.int .i64 m, .int .i64 w, .int .i64 d, .int .i64 c]] (.bool (fiP m w d c)) := by
  refine contract_of_body aE_ok pS6_ok 5 2 ?_
  rw [pFi_top]; exact fi_tree m w d c
theorem pS7_ok : SOk aE pS7 := by
  unfold pS7
  refine SOk.cons (fun args r h => ?_) (SOk.cons (fun args r h => ?_) (pS6_ok))
  · unfold pNaS at h
    split at h
    · simp only [Option.some.injEq, Prod.mk.injEq] at h
      obtain ⟨hc, rfl⟩ := h
      exact pNaS_ok _ hc
    · cases h
  · unfold pFiS at h
    split at h
    · simp only [Option.some.injEq, Prod.mk.injEq] at h
      obtain ⟨hc, rfl⟩ := h
      exact pFiS_ok _ _ _ _ rfl
    · cases h
theorem fi_in {m w d c : Int} (h : fiP m w d c = true) : 1 ≤ m ∧ m ≤ 12 ∧ 1 ≤ w ∧ w ≤ 5 ∧ 0 ≤ d ∧ d ≤ 6 ∧ 0 ≤ c ∧ c ≤ 172800 := by unfold fiP at h; exact of_decide_eq_true h
theorem wk_tree (m w d c q : Int) (hq : fiP m w d c = true → q = 7 * w - 6) : sel (bnot (fiP m w d c))
      (some (V.tup [(V.agg [(V.int .i64 0), (V.int .i64 0), (V.int .i64 0)]), (V.int .i64 4)]))
      (sel (ieq w 5)
        (some (V.tup [(V.agg [(V.int .i64 1), (V.int .i64 d), (V.int .i64 0)]), (V.int .i64 0)]))
        (some (V.tup [(V.agg [(V.int .i64 2), (V.int .i64 d), (V.int .i64 q)]), (V.int .i64 0)]))) = some (.tup [.agg [.int .i64 (wkK m w d c), .int .i64 (wkW m w d c), .int .i64 (wkD m w d c)], .int .i64 (wkE m w d c)]) := by
  unfold wkK wkW wkD wkE
  cases h : fiP m w d c with
  | false => rfl
  | true =>
    rw [hq h, sel_neg (by rfl)]
    by_cases h5 : w = 5
    · rw [sel_pos (ieq_t h5)]; simp [h5]
    · rw [sel_neg (ieq_f h5)]; simp [h5]
theorem pWkS_ok (m w d c : Int) (hc : true = true) : Contract aE 41 [.agg [.int .i64 m, .int .i64 w, .int .i64 d, .int .i64 c]] (.tup [.agg [.int .i64 (wkK m w d c), .int .i64 (wkW m w d c), .int .i64 (wkD m w d c)], .int .i64 (wkE m w d c)]) := by
  refine contract_of_body aE_ok pS7_ok 5 2 ?_
  rw [pWk_top]
  refine wk_tree m w d c _ fun h => ?_
  have := fi_in h
  rw [isub64 (by omega), imul64 (by omega), iadd64 (by omega)]; omega
theorem pS8_ok : SOk aE pS8 := by
  unfold pS8
  refine SOk.cons (fun args r h => ?_) (pS7_ok)
  · unfold pWkS at h
    split at h
    · simp only [Option.some.injEq, Prod.mk.injEq] at h
      obtain ⟨hc, rfl⟩ := h
      exact pWkS_ok _ _ _ _ rfl
    · cases h
theorem seq_self (n : List UInt8) : seq n n = true := by rw [seq_iff]
theorem ri_eq (n : List UInt8) (o : Int) (e : List UInt8) (v m w d c m2 w2 d2 c2 : Int) : riP n o e v m w d c m2 w2 d2 c2 =
    (mayB n && (ile (-54000) o && (ile o 54000 && sel (seq e []) (band (seq n n) (band (ieq o o) (band (seq e []) (band (ieq v 0) (band (band (ieq m 0) (band (ieq w 0) (band (ieq d 0) (ieq c 0)))) (band (ieq m2 0) (band (ieq w2 0) (band (ieq d2 0) (ieq c2 0)))))))))
      (mayB e && (ile (-10800) v && (ile v 10800 && (bnot (ieq v 0) && (fiP m w d c && (fiP m2 w2 d2 c2 && ieq (prP m w d c m2 w2 d2 c2 v) 0))))))))) := by
  unfold riP
  rw [seq_self, ieq_t (rfl : o = o)]
  by_cases h : mayB n = true ∧ -54000 ≤ o ∧ o ≤ 54000
  · rw [if_pos h, h.1, ile_t h.2.1, ile_t h.2.2, Bool.true_and, Bool.true_and, Bool.true_and]
    by_cases he : e = []
    · have hq : seq e [] = true := by rw [seq_iff]; exact he
      rw [if_pos he, hq, sel_pos rfl, Bool.eq_iff_iff, decide_eq_true_eq]
      simp only [band_iff, ieq_iff, true_and, and_assoc]
    · have hq : seq e [] = false := by cases q : seq e [] with | false => rfl | true => rw [seq_iff] at q; exact absurd q he
      rw [if_neg he, hq, sel_neg rfl, Bool.eq_iff_iff, decide_eq_true_eq]
      simp only [Bool.and_eq_true, ile_iff, bnot_iff, ieq_iff]
  · rw [if_neg h]
    cases h1 : mayB n with
    | false => rfl
    | true =>
      by_cases h2 : -54000 ≤ o
      · have h3 : ¬ o ≤ 54000 := fun q => h ⟨h1, h2, q⟩
        rw [ile_f (show (54000 : Int) < o by omega)]; simp
      · rw [ile_f (show o < -54000 by omega)]; simp
theorem pRiS_ok (n : List UInt8) (o : Int) (e : List UInt8) (v m w d c m2 w2 d2 c2 : Int) (hc : band (ile (slen n) 1000) (ile (slen e) 1000) = true) : Contract aE 20 [.agg [.str n, .int .i64 o, .str e, .int .i64 v, .int .i64 m, .int .i64 w, .int .i64 d, .int .i64 c, .int .i64 m2, .int .i64 w2, .int .i64 d2, .int .i64 c2]] (.bool (riP n o e v m w d c m2 w2 d2 c2)) := by
  obtain ⟨h1, h2⟩ := band_true hc
  refine contract_of_body aE_ok pS8_ok 5 3 ?_
  rw [pRi_top, sel_pos h1, sel_pos h2, sel_pos (show band (ile (slen []) 900) (ile (slen []) 900) = true from rfl), ri_eq]
  have ep : prP m w d c m2 w2 d2 c2 v = paP [80] (-32767) 32767 m (wkK m w d c) (wkW m w d c) (wkD m w d c) c 0 v [] [80] (-32767) 32767 m2 (wkK m2 w2 d2 c2) (wkW m2 w2 d2 c2) (wkD m2 w2 d2 c2) c2 0 0 [] := rfl
  rw [← ep]
  cases mayB n <;> cases ile (-54000) o <;> cases ile o 54000 <;> cases seq e [] <;> cases mayB e <;> cases ile (-10800) v <;> cases ile v 10800 <;> try rfl
  all_goals (cases ieq v 0 <;> cases fiP m w d c <;> cases fiP m2 w2 d2 c2 <;> rfl)
theorem pS9_ok : SOk aE pS9 := by
  unfold pS9
  refine SOk.cons (fun args r h => ?_) (pS8_ok)
  · unfold pRiS at h
    split at h
    · simp only [Option.some.injEq, Prod.mk.injEq] at h
      obtain ⟨hc, rfl⟩ := h
      exact pRiS_ok _ _ _ _ _ _ _ _ _ _ _ _ hc
    · cases h
end Nt.Ev.YteccmgkfmeoekaaDoor.Px

set_option linter.unusedVariables false
set_option linter.unusedSimpArgs false
set_option linter.unusedSectionVars false
namespace Nt.Ev.YteccmgkfmeoekaaDoor.Px
set_option maxRecDepth 100000
open Go Go.RowKit Nt Nt.Num Go.Proofs.YteccmgkfmeoekaaDoor Nt.Ev.YteccmgkfmeoekaaDoor Nt.Civil
variable [MLen]
theorem bCpS_ok (x b : V) (hc : bcOk x = true) : XOk aE 69 [.bxa 0 [x, b]] (.out false (.tup []) [[.box HL 0, b]]) := XOk.env (E := oE) rfl (fun n v h => by cases h) (Nt.Ev.YteccmgkfmeoekaaDoor.bCpS_ok x b hc)
theorem bStS_ok (x b : V) (hc : band (bcOk x) (bbOk b) = true) : XOk aE 35 [.bxa 0 [x, b]] (.out false (.str (bbS b)) [[x, bbN b]]) := XOk.env (E := oE) rfl (fun n v h => by cases h) (Nt.Ev.YteccmgkfmeoekaaDoor.bStS_ok x b hc)
theorem pNtS_ok (n : Int) (hc : band (ile (-9223372036854775808) n) (ile n 9223372036854775807) = true) : Contract aE 80 [.int .i64 n] (.str (text n)) := toPn (nText_ev n (fits_p hc))
theorem pNrS_ok (s : List UInt8) (hc : ile (slen s) 1000 = true) : Contract aE 118 [.str s] (.tup [.int .i64 (nrI s), .int .i64 (nrW s)]) := toPn (nRead_c s (len_p hc))
theorem pAmS_ok (s : List UInt8) (hc : ile (slen s) 1000 = true) : Contract aE 117 [.str s] (.tup [.int .i64 (rdI s), .int .i64 (rdWc s)]) := aread_ev s (len_p hc)
theorem pS10_ok : SOk aE pS10 := by
  unfold pS10
  refine SOk.cons (fun args r h => ?_) (SOk.cons (fun args r h => ?_) (SOk.cons (fun args r h => ?_) (SOk.consX (fun args r h => ?_) (SOk.consX (fun args r h => ?_) (pS9_ok)))))
  · unfold pNtS at h
    split at h
    · simp only [Option.some.injEq, Prod.mk.injEq] at h
      obtain ⟨hc, rfl⟩ := h
      exact pNtS_ok _ hc
    · cases h
  · unfold pNrS at h
    split at h
    · simp only [Option.some.injEq, Prod.mk.injEq] at h
      obtain ⟨hc, rfl⟩ := h
      exact pNrS_ok _ hc
    · cases h
  · unfold pAmS at h
    split at h
    · simp only [Option.some.injEq, Prod.mk.injEq] at h
      obtain ⟨hc, rfl⟩ := h
      exact pAmS_ok _ hc
    · cases h
  · unfold bCpS at h
    split at h
    · simp only [Option.some.injEq, Prod.mk.injEq] at h
      obtain ⟨hc, rfl⟩ := h
      exact bCpS_ok _ _ hc
    · cases h
  · unfold bStS at h
    split at h
    · simp only [Option.some.injEq, Prod.mk.injEq] at h
      obtain ⟨hc, rfl⟩ := h
      exact bStS_ok _ _ hc
    · cases h
theorem bx_cases {x b : V} (h : bxOk x b = true) : (x = .nilp ∧ b = .nilsl) ∨ ∃ xs, x = .box HL 0 ∧ b = .sl 5 [.int .u8] (some 1000001002) xs := by
  unfold bxOk at h
  split at h
  · exact .inl ⟨rfl, rfl⟩
  · rename_i k off e sh L xs
    simp only [Bool.and_eq_true, beq_iff_eq] at h
    obtain ⟨⟨rfl, rfl⟩, rfl, h3, rfl⟩ := h
    have h3 := Kd.eqL_sound _ _ h3
    subst h3
    exact .inr ⟨xs, rfl, rfl⟩
  · cases h
theorem wr_len (s : List UInt8) : (wrT s).length ≤ s.length + 2 := by
  unfold wrT
  split
  · omega
  · simp
theorem p_app {xs : List V} {t : List UInt8} (h : xs.length + t.length ≤ 16777216) : okApp xs (bytesV t) = true := by
  rw [okApp_iff]; unfold bytesV; rw [List.length_map]; exact h
theorem p_cat {a b : List UInt8} (h : a.length + b.length ≤ 1152921504606846976) : okCat a b = true := by rw [okCat_iff]; exact h
theorem sc (a b : List UInt8) : scat a b = a ++ b := rfl
theorem llen_in {xs : List V} (h : ile (llen xs) 100000 = true) : xs.length ≤ 100000 := by rw [ile_iff, llen_nat] at h; omega
theorem pwNs_ok (x b : V) (s : List UInt8) (hc : band (bxOk x b) (band (ile (slen s) 1000) (ile (llen (bwL b)) 100000)) = true) : XOk aE 42 [.bxa 0 [x, b], .str s] (.out false (.tup []) [[.box HL 0, bxN b (wrT s)]]) := by
  obtain ⟨h1, hq⟩ := band_true hc
  obtain ⟨h2, hq3⟩ := band_true hq
  have hs := len_p h2
  have h3 := llen_in hq3
  clear hq hq3
  have hw := wr_len s
  rcases bx_cases h1 with ⟨rfl, rfl⟩ | ⟨xs, rfl, rfl⟩
  · refine XOk.out (xc_of_body aE_ok pS10_ok 5 4 ?_)
    rw [pwNn_top 5 .nilp s, h2, sel_pos rfl]
    unfold wrT
    cases hl : letB s with
    | true => rw [sel_neg (show bnot true = false from rfl), sel_pos (bnew s (by omega))]; rfl
    | false =>
      rw [sel_pos (show bnot false = true from rfl), sel_pos (p_cat (by simp; omega)), sel_pos (p_cat (by rw [sc]; simp; omega)), sel_pos (bnew _ (by rw [sc, sc]; simp; omega))]; rfl
  · refine XOk.out (xc_of_body aE_ok pS10_ok 5 4 ?_)
    have h3 : xs.length ≤ 100000 := h3
    have e := pwNl_top 5 xs s some
    rw [h2] at e
    refine e.trans ?_
    rw [sel_pos rfl]
    unfold wrT
    cases hl : letB s with
    | true => rw [sel_neg (show bnot true = false from rfl), sel_pos (p_app (by omega))]; rfl
    | false =>
      rw [sel_pos (show bnot false = true from rfl), sel_pos (p_cat (by simp; omega)), sel_pos (p_cat (by rw [sc]; simp; omega)), sel_pos (p_app (by rw [sc, sc]; simp; omega))]; rfl
theorem dgV (q : Int) (h0 : 0 ≤ q) (h9 : q ≤ 9) : [(V.int .u8 (icnv .u8 (iadd .i64 48 q)))] = bytesV [UInt8.ofNat (48 + q).toNat] := by
  rw [iadd64 (by omega)]
  obtain ⟨k, rfl⟩ : ∃ k : Nat, q = (k : Int) := ⟨q.toNat, by omega⟩
  have hk : k ≤ 9 := by omega
  have : ∀ k : Fin 10, [(V.int .u8 (icnv .u8 (48 + ((k.val : Nat) : Int))))] = bytesV [UInt8.ofNat (48 + ((k.val : Nat) : Int)).toNat] := by
    intro k
    match k with
    | ⟨0, _⟩ => rfl | ⟨1, _⟩ => rfl | ⟨2, _⟩ => rfl | ⟨3, _⟩ => rfl | ⟨4, _⟩ => rfl | ⟨5, _⟩ => rfl | ⟨6, _⟩ => rfl | ⟨7, _⟩ => rfl | ⟨8, _⟩ => rfl | ⟨9, _⟩ => rfl
  exact this ⟨k, by omega⟩
theorem pc1 (xs : List V) (x : Int) (h0 : 0 < x) (h1 : x < 3600) : lcat (lcat (lcat xs [(V.int .u8 58)]) [(V.int .u8 (icnv .u8 (iadd .i64 48 (iquo .i64 x 600))))]) [(V.int .u8 (icnv .u8 (iadd .i64 48 (irem (iquo .i64 x 60) 10))))] = lcat xs (bytesV ([58] ++ d2P (x / 60))) := by
  rw [iquo64 (a := x) (b := 600) (by omega) (by omega) (by omega), iquo64 (a := x) (b := 60) (by omega) (by omega) (by omega), irem_pos (a := x / 60) (b := 10) (by omega), dgV (x / 600) (by omega) (by omega), dgV (x / 60 % 10) (by omega) (by omega), show [(V.int .u8 58)] = bytesV [58] from rfl]
  unfold d2P lcat bytesV
  rw [show x / 600 = x / 60 / 10 by omega]
  simp
theorem d2_len (n : Int) : (d2P n).length = 2 := rfl
theorem pwC_end (F n : Nat) (x : Int) (hx : x ≤ 0) (xs : List V) (K : V → Option V) : pwC_L0 F [] (n + 1) x xs K = K (.out false (.tup []) [[.box HL 0, .sl 5 [.int .u8] (some 1000001002) xs]]) := by
  rw [pwC_L0_succ, sel_neg (ilt_f hx)]; rfl
theorem pwC_go (F n : Nat) (x : Int) (h0 : 0 < x) (h1 : x < 3600) (xs : List V) (hl : xs.length ≤ 200000) (K : V → Option V) : pwC_L0 F [] (n + 1) x xs K = pwC_L0 F [] n (x % 60 * 60) (lcat xs (bytesV ([58] ++ d2P (x / 60)))) K := by
  rw [pwC_L0_succ, sel_pos (ilt_t h0), sel_pos (by rw [okApp_iff]; simp; omega), sel_pos (by rw [okApp_iff]; unfold lcat; simp; omega), sel_pos (by rw [okApp_iff]; unfold lcat; simp; omega), pc1 xs x h0 h1, irem_pos (by omega), imul64 (by omega)]
theorem ck_rest (F n : Nat) (x : Int) (h0 : 0 ≤ x) (h1 : x < 3600) (xs : List V) (hl : xs.length ≤ 150000) (K : V → Option V) : pwC_L0 F [] (n + 3) x xs K = K (.out false (.tup []) [[.box HL 0, .sl 5 [.int .u8] (some 1000001002) (lcat xs (bytesV ((if x = 0 then [] else [58] ++ d2P (x / 60)) ++ (if x % 60 = 0 then [] else [58] ++ d2P (x % 60)))))]]) := by
  by_cases hx : x = 0
  · subst hx
    rw [pwC_end F (n + 2) 0 (by omega)]
    congr 6
    simp [lcat, bytesV]
  · rw [pwC_go F (n + 2) x (by omega) h1 xs (by omega), if_neg hx]
    by_cases hy : x % 60 = 0
    · rw [hy, pwC_end F (n + 1) (0 * 60) (by omega), if_pos rfl, List.append_nil]
    · rw [pwC_go F (n + 1) (x % 60 * 60) (by omega) (by omega) _ (by unfold lcat bytesV; simp [d2_len]; omega), pwC_end F n _ (by omega), if_neg hy]
      congr 6
      rw [show x % 60 * 60 / 60 = x % 60 by omega]
      unfold lcat bytesV
      simp
theorem tx_len (n : Int) (h : -9223372036854775808 ≤ n ∧ n ≤ 9223372036854775807) : (text n).length ≤ 40 := by
  have := (text_len n h).1
  omega
theorem cku_len (n : Int) (h : 0 ≤ n ∧ n ≤ 1000000) : (ckU n).length ≤ 50 := by
  have := tx_len (n / 3600) (by omega)
  unfold ckU
  simp only [List.length_append]
  have a : ∀ (p : Prop) [Decidable p] (q : Int), (if p then ([] : List UInt8) else [58] ++ d2P q).length ≤ 3 := fun p _ q => by split <;> simp [d2_len]
  have := a (n % 3600 = 0) (n / 60 % 60)
  have := a (n % 60 = 0) (n % 60)
  omega
theorem ckt_len (n : Int) (h : -1000000 ≤ n ∧ n ≤ 1000000) : (ckT n).length ≤ 51 := by
  unfold ckT
  split
  · have := cku_len (-n) (by omega)
    simp only [List.length_append, List.length_cons, List.length_nil]; omega
  · have := cku_len n (by omega); omega
theorem ck_one (F : Nat) (hF : 3 ≤ F) (n : Int) (h0 : 0 ≤ n) (h1 : n ≤ 1000000) (xs : List V) (hl : xs.length ≤ 140000) (K : V → Option V) :
    sel (band (ile (-9223372036854775808) (iquo .i64 n 3600)) (ile (iquo .i64 n 3600) 9223372036854775807))
        (sel (okApp xs (bytesV (text (iquo .i64 n 3600))))
          (pwC_L0 F [] F (irem n 3600) (lcat xs (bytesV (text (iquo .i64 n 3600)))) K)
          (none))
        (none) = K (.out false (.tup []) [[.box HL 0, .sl 5 [.int .u8] (some 1000001002) (lcat xs (bytesV (ckU n)))]]) := by
  obtain ⟨f, rfl⟩ : ∃ f, F = f + 3 := ⟨F - 3, by omega⟩
  have ht := tx_len (n / 3600) (by omega)
  rw [iquo64 (a := n) (b := 3600) h0 (by omega) (by omega), irem_pos (a := n) (b := 3600) (by omega), sel_pos (by rw [band_iff, ile_iff, ile_iff]; omega), sel_pos (p_app (by omega)), ck_rest (f + 3) f (n % 3600) (by omega) (by omega) _ (by unfold lcat bytesV; simp; omega)]
  congr 6
  unfold ckU lcat bytesV
  rw [show n % 3600 / 60 = n / 60 % 60 by omega, show n % 3600 % 60 = n % 60 by omega]
  simp
theorem pwCs_ok (k off e : Nat) (sh : List Kd) (o : Option Nat) (xs : List V) (n : Int) (hc : band (bxOk (.box k off) (.sl e sh o xs)) (band (band (ile (-1000000) n) (ile n 1000000)) (ile (llen xs) 100000)) = true) : XOk aE 43 [.bxa 0 [.box k off, .sl e sh o xs], .int .i64 n] (.out false (.tup []) [[.box HL 0, bxN (.sl e sh o xs) (ckT n)]]) := by
  obtain ⟨h1, h2⟩ := band_true hc
  obtain ⟨h2, h3⟩ := band_true h2
  rw [band_iff, ile_iff, ile_iff] at h2
  have h3 := llen_in h3
  rcases bx_cases h1 with ⟨h, _⟩ | ⟨ys, hx, hb⟩
  · cases h
  rw [hx, hb]
  cases hb
  refine XOk.out (xc_of_body aE_ok pS10_ok 5 4 ?_)
  refine (pwC_top 5 xs n some).trans ?_
  unfold ckT
  by_cases hn : n < 0
  · have en : isub .i64 0 n = -n := by rw [isub64 (by omega)]; omega
    rw [sel_pos (ilt_t hn), sel_pos (by rw [okApp_iff]; simp; omega), en, ck_one 5 (by decide) (-n) (by omega) (by omega) _ (by unfold lcat; simp; omega), if_pos hn]
    unfold bxN lcat bytesV
    simp
  · rw [sel_neg (ilt_f (by omega)), ck_one 5 (by decide) n (by omega) (by omega) xs (by omega), if_neg hn]
    rfl
theorem pS11_ok : SOk aE pS11 := by
  unfold pS11
  refine SOk.consX (fun args r h => ?_) (SOk.consX (fun args r h => ?_) (pS10_ok))
  · unfold pwNs at h
    split at h
    · simp only [Option.some.injEq, Prod.mk.injEq] at h
      obtain ⟨hc, rfl⟩ := h
      exact pwNs_ok _ _ _ hc
    · cases h
  · unfold pwCs at h
    split at h
    · simp only [Option.some.injEq, Prod.mk.injEq] at h
      obtain ⟨hc, rfl⟩ := h
      exact pwCs_ok _ _ _ _ _ _ _ hc
    · cases h
theorem dy_len (m w d c : Int) (h : fiP m w d c = true) : (dyT m w d c).length ≤ 250 := by
  have := fi_in h
  have h1 := tx_len m (by omega)
  have h2 := tx_len w (by omega)
  have h3 := tx_len d (by omega)
  have h4 := ckt_len c (by omega)
  unfold dyT
  simp only [List.length_append, List.length_cons, List.length_nil]
  have : (if c = 7200 then ([] : List UInt8) else [47] ++ ckT c).length ≤ 52 := by
    split
    · simp
    · simp only [List.length_append, List.length_cons, List.length_nil]; omega
  omega
theorem pwDs_ok (k off e : Nat) (sh : List Kd) (o : Option Nat) (xs : List V) (m w d c : Int) (hc : band (bxOk (.box k off) (.sl e sh o xs)) (band (fiP m w d c) (ile (llen xs) 50000)) = true) : XOk aE 44 [.bxa 0 [.box k off, .sl e sh o xs], .agg [.int .i64 m, .int .i64 w, .int .i64 d, .int .i64 c]] (.out false (.tup []) [[.box HL 0, bxN (.sl e sh o xs) (dyT m w d c)]]) := by
  obtain ⟨h1, h2⟩ := band_true hc
  obtain ⟨h2, h3⟩ := band_true h2
  have h3 : xs.length ≤ 50000 := by rw [ile_iff, llen_nat] at h3; omega
  rcases bx_cases h1 with ⟨h, _⟩ | ⟨ys, hx, hb⟩
  · cases h
  rw [hx, hb]
  cases hb
  have hf := fi_in h2
  have t1 := tx_len m (by omega)
  have t2 := tx_len w (by omega)
  have t3 := tx_len d (by omega)
  refine XOk.out (xc_of_body aE_ok pS11_ok 6 4 ?_)
  refine (pwDa_u6_top xs m w d c some).trans ?_
  have e46 : [(V.int .u8 46)] = bytesV [46] := rfl
  have e47 : [(V.int .u8 47)] = bytesV [47] := rfl
  have cc : ∀ (ys : List V) (a b : List UInt8), lcat (lcat ys (bytesV a)) (bytesV b) = lcat ys (bytesV (a ++ b)) := fun ys a b => by unfold lcat bytesV; simp
  rw [e46, e47]
  simp only [cc]
  have ll : ∀ a : List UInt8, (lcat xs (bytesV a)).length = xs.length + a.length := fun a => by unfold lcat bytesV; simp
  have bI : ∀ x : Int, (-9223372036854775808 ≤ x ∧ x ≤ 9223372036854775807) → band (ile (-9223372036854775808) x) (ile x 9223372036854775807) = true := fun x h => by rw [band_iff, ile_iff, ile_iff]; exact h
  have pa : ∀ a b : List UInt8, a.length + b.length ≤ 1000 → okApp (lcat xs (bytesV a)) (bytesV b) = true := fun a b h => p_app (by rw [ll]; omega)
  rw [sel_pos (p_app (by simp; omega)), sel_pos (bI m (by omega)), sel_pos (pa _ _ (by simp; omega)), sel_pos (pa _ _ (by simp; omega)), sel_pos (bI w (by omega)), sel_pos (pa _ _ (by simp; omega)), sel_pos (pa _ _ (by simp; omega)), sel_pos (bI d (by omega)), sel_pos (pa _ _ (by simp; omega))]
  unfold dyT
  by_cases h7 : c = 7200
  · rw [sel_neg (by rw [ieq_t h7]; rfl), if_pos h7, List.append_nil]; rfl
  · rw [sel_pos (by rw [ieq_f h7]; rfl), sel_pos (pa _ _ (by simp; omega)), sel_pos (by rw [band_iff, band_iff, band_iff, ile_iff, ile_iff, ile_iff, llen_nat, ll]; simp only [List.length_append, List.length_cons, List.length_nil]; exact ⟨trivial, by omega, by omega⟩), if_neg h7]
    simp only [List.append_assoc]
    rfl
theorem pS12_ok : SOk aE pS12 := by
  unfold pS12
  refine SOk.consX (fun args r h => ?_) (pS11_ok)
  · unfold pwDs at h
    split at h
    · simp only [Option.some.injEq, Prod.mk.injEq] at h
      obtain ⟨hc, rfl⟩ := h
      exact pwDs_ok _ _ _ _ _ _ _ _ _ _ hc
    · cases h
theorem ri_in {n : List UInt8} {o : Int} {e : List UInt8} {v m w d c m2 w2 d2 c2 : Int} (h : riP n o e v m w d c m2 w2 d2 c2 = true) : n.length ≤ 6 ∧ (-54000 ≤ o ∧ o ≤ 54000) ∧ (e ≠ [] → e.length ≤ 6 ∧ -10800 ≤ v ∧ v ≤ 10800 ∧ fiP m w d c = true ∧ fiP m2 w2 d2 c2 = true) := by
  unfold riP at h
  split at h
  · rename_i h0
    obtain ⟨h1, h2, h3⟩ := h0
    have hn : n.length ≤ 6 := by
      unfold mayB at h1
      rw [Bool.and_eq_true, Bool.and_eq_true, decide_eq_true_eq, decide_eq_true_eq] at h1
      exact h1.1.2
    refine ⟨hn, ⟨h2, h3⟩, fun he => ?_⟩
    rw [if_neg he, decide_eq_true_eq] at h
    obtain ⟨g1, g2, g3, g4, g5, g6, g7⟩ := h
    have hn : e.length ≤ 6 := by
      unfold mayB at g1
      rw [Bool.and_eq_true, Bool.and_eq_true, decide_eq_true_eq, decide_eq_true_eq] at g1
      exact g1.1.2
    exact ⟨hn, g2, g3, g5, g6⟩
  · cases h
theorem lb (a : List UInt8) : (bytesV a).length = a.length := by unfold bytesV; rw [List.length_map]
theorem pTx_ev (n : List UInt8) (o : Int) (e : List UInt8) (v m w d c m2 w2 d2 c2 : Int) (hn : n.length ≤ 1000) (he : e.length ≤ 1000) : Contract aE 19 [.agg [.str n, .int .i64 o, .str e, .int .i64 v, .int .i64 m, .int .i64 w, .int .i64 d, .int .i64 c, .int .i64 m2, .int .i64 w2, .int .i64 d2, .int .i64 c2]] (.tup [.str (ptT n o e v m w d c m2 w2 d2 c2), .int .i64 (ptE n o e v m w d c m2 w2 d2 c2)]) := by
  refine contract_of_body aE_ok pS12_ok 5 3 ?_
  rw [pTx_top, sel_pos (by rw [band_iff]; exact ⟨p_len hn, p_len he⟩)]
  unfold ptT ptE
  cases h : riP n o e v m w d c m2 w2 d2 c2 with
  | false => rfl
  | true =>
    obtain ⟨h1, h2, h3⟩ := ri_in h
    have w1 := wr_len n
    have c1 := ckt_len (-o) (by omega)
    have eo : isub .i64 0 o = -o := by rw [isub64 (by omega)]; omega
    have lI : ∀ a : List UInt8, a.length ≤ 2000 → ile (llen (bytesV a)) 100000 = true := fun a h => by rw [ile_iff, llen_nat, lb]; omega
    have lJ : ∀ a : List UInt8, a.length ≤ 2000 → ile (llen (bytesV a)) 50000 = true := fun a h => by rw [ile_iff, llen_nat, lb]; omega
    have fI : ∀ x : Int, -1000000 ≤ x → x ≤ 1000000 → band (ile (-1000000) x) (ile x 1000000) = true := fun x a b => by rw [band_iff, ile_iff, ile_iff]; exact ⟨a, b⟩
    have bt : ∀ a : Bool, a = true → band true a = true := fun a h => h
    have b2 : ∀ a b : Bool, a = true → b = true → band a b = true := fun a b h k => by rw [h, k]; rfl
    rw [sel_neg (by rfl), if_pos rfl, if_pos rfl, eo, sel_pos (bt _ (b2 _ _ (p_len hn) (by rfl))), sel_pos (bt _ (b2 _ _ (fI _ (by omega) (by omega)) (lI _ (by omega))))]
    simp only [bcat, bvb]
    unfold txP
    by_cases hE : e = []
    · rw [sel_pos (by rw [seq_iff]; exact hE), if_pos hE, List.append_nil]
    · obtain ⟨k1, k2, k3, k4, k5⟩ := h3 hE
      have wl2 := wr_len e
      have y1 := dy_len m w d c k4
      have y2 := dy_len m2 w2 d2 c2 k5
      have cl2 := ckt_len (-o - v) (by omega)
      have hq : seq e [] = false := by cases q : seq e [] with | false => rfl | true => rw [seq_iff] at q; exact absurd q hE
      rw [sel_neg hq, if_neg hE, isub64 (a := -o) (b := v) (by omega), sel_pos (bt _ (b2 _ _ (p_len he) (lI _ (by simp only [List.length_append]; omega))))]
      by_cases hv : v = 3600
      · rw [sel_neg (by rw [ieq_t hv]; rfl), if_pos hv, sel_pos (bt _ (b2 _ _ k4 (lJ _ (by simp only [List.length_append]; omega)))), sel_pos (bt _ (b2 _ _ k5 (lJ _ (by simp only [List.length_append]; omega))))]
        simp only [List.append_assoc, List.nil_append]
      · rw [sel_pos (by rw [ieq_f hv]; rfl), if_neg hv, sel_pos (bt _ (b2 _ _ (fI _ (by omega) (by omega)) (lI _ (by simp only [List.length_append]; omega)))), sel_pos (bt _ (b2 _ _ k4 (lJ _ (by simp only [List.length_append]; omega)))), sel_pos (bt _ (b2 _ _ k5 (lJ _ (by simp only [List.length_append]; omega))))]
        simp only [List.append_assoc]
end Nt.Ev.YteccmgkfmeoekaaDoor.Px
