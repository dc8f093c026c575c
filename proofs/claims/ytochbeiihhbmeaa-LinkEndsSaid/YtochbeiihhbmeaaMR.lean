/-
  Name: equations of functions, as the evaluator prints them. Names: both sides. Links: where one comes out, plain. Link: equations of functions, as the evaluator prints them. A map that a call makes, with strings as keys: string elements read as a function to Option, bool elements as a set. link.Follow, walked: a map of names, and the names that one has met. Links: both sides as contracts. LinkLaw: equations of functions, as the evaluator prints them. Links: the two statements.
-/
import Derived.Test.YtochbeiihhbmeaaMC
import Derived.Test.YtochbeiihhbmeaaMS
import Derived.Maps.OwnSet
import Derived.Maps.OwnOps
import Derived.Maps.StringElems
import Derived.StringKeys
import Derived.WalkKit
import Derived.Maps.Own
import Derived.Test.YtochbeiihhbmeaaMZ
set_option linter.unusedVariables false
set_option linter.unusedSimpArgs false
set_option linter.unusedSectionVars false
namespace Nt.Ev.Ytochbeiihhbmeaa.Nm
open Go Nt.Num Go.Proofs.Ytochbeiihhbmeaa
def idxN (s : List UInt8) (c : Int) : Int := Go.Lib.indexByte s c.toNat.toUInt8
def fstC (c : UInt8) : Bool := (decide (65 ≤ c.toNat) && decide (c.toNat ≤ 90)) || (decide (97 ≤ c.toNat) && decide (c.toNat ≤ 122)) || c == 95
def othC (c : UInt8) : Bool := (decide (48 ≤ c.toNat) && decide (c.toNat ≤ 57)) || c == 45 || c == 43 || c == 47 || c == 46
def nmC (k : Nat) (c : UInt8) : Bool := fstC c || (decide (0 < k) && othC c)
def nmF : Nat → List UInt8 → Bool | _, [] => true | k, c :: t => nmC k c && nmF (k + 1) t
def nmI (s : List UInt8) : Int := if 64 < s.length then 9 else if nmF 0 s = true ∧ s ≠ [] then 0 else 10
noncomputable def nByS : FSpec := fun a => match a with | [.str s, .int .u8 c] => some (true, .int .i64 (idxN s c)) | _ => none
noncomputable def nS0 : List (Nat × FSpec) := (38, nByS) :: []
noncomputable def nName_L0 (F : Nat) (ns : List Nat) (n : Nat) (x0 : List UInt8) (x2 : Int) (x9 : List V) (x10 : Int) (x11 : Int) (K : V → Option V) : Option V :=
 loopAt oE nS0 F 2 34 [1, 1, 0, 1, 0] ns K n (mkSt 48 [(0, V.str x0), (2, V.int .i64 x2), (9, V.sl 5 [(Kd.int .u8)] none x9), (10, V.int .i64 x10), (11, V.int .i64 x11)] [])
set_option maxRecDepth 100000 in
theorem nName_top (F : Nat) (s : List UInt8) (K : V → Option V) :
 evBd oE (evFn oE nS0 F 2) F 34 [(V.str s)] K =
 sel (ilt 64 (slen s))
 (K (V.int .i64 9))
 (sel (okStr s)
 (nName_L0 F [] F s 0 (bytesV s) (llen (bytesV s)) 0 K)
 (none)) := by kernel_rfl
set_option maxRecDepth 100000 in
theorem nName_L0_succ (F : Nat) (n : Nat) (x0 : List UInt8) (x2 : Int) (x9 : List V) (x10 : Int) (x11 : Int) (K : V → Option V) :
 nName_L0 F [] (n + 1) x0 x2 x9 x10 x11 K =
 sel (ilt x11 x10)
 (sel (band (ile 0 x11) (ilt x11 (llen x9)))
 (sel (ile 97 (ibits .or .u8 (asInt (acell (lget x9 x11) 0)) 32))
 (sel (ile (ibits .or .u8 (asInt (acell (lget x9 x11) 0)) 32) 122)
 (nName_L0 F [] n x0 x2 x9 x10 (iadd .i64 x11 1) K)
 (sel (ieq (asInt (acell (lget x9 x11) 0)) 95)
 (nName_L0 F [] n x0 x2 x9 x10 (iadd .i64 x11 1) K)
 (sel (ilt 0 x11)
 (sel (ile 48 (asInt (acell (lget x9 x11) 0)))
 (sel (ile (asInt (acell (lget x9 x11) 0)) 57)
 (nName_L0 F [] n x0 x2 x9 x10 (iadd .i64 x11 1) K)
 (sel (ile 0 (idxN [45, 43, 47, 46] (asInt (acell (lget x9 x11) 0))))
 (nName_L0 F [] n x0 x2 x9 x10 (iadd .i64 x11 1) K)
 (K (V.int .i64 10))))
 (sel (ile 0 (idxN [45, 43, 47, 46] (asInt (acell (lget x9 x11) 0))))
 (nName_L0 F [] n x0 x2 x9 x10 (iadd .i64 x11 1) K)
 (K (V.int .i64 10))))
 (K (V.int .i64 10)))))
 (sel (ieq (asInt (acell (lget x9 x11) 0)) 95)
 (nName_L0 F [] n x0 x2 x9 x10 (iadd .i64 x11 1) K)
 (sel (ilt 0 x11)
 (sel (ile 48 (asInt (acell (lget x9 x11) 0)))
 (sel (ile (asInt (acell (lget x9 x11) 0)) 57)
 (nName_L0 F [] n x0 x2 x9 x10 (iadd .i64 x11 1) K)
 (sel (ile 0 (idxN [45, 43, 47, 46] (asInt (acell (lget x9 x11) 0))))
 (nName_L0 F [] n x0 x2 x9 x10 (iadd .i64 x11 1) K)
 (K (V.int .i64 10))))
 (sel (ile 0 (idxN [45, 43, 47, 46] (asInt (acell (lget x9 x11) 0))))
 (nName_L0 F [] n x0 x2 x9 x10 (iadd .i64 x11 1) K)
 (K (V.int .i64 10))))
 (K (V.int .i64 10)))))
 (none))
 (sel (seq x0 [])
 (K (V.int .i64 10))
 (K (V.int .i64 0))) := by kernel_rfl
noncomputable def nName21_L0 (F : Nat) (ns : List Nat) (n : Nat) (x0 : List UInt8) (x2 : Int) (x3 : Int) (K : V → Option V) : Option V :=
 loopAt oE nS0 F 2 35 [1, 1, 0, 1, 0] ns K n (mkSt 71 [(0, V.str x0), (2, V.int .i64 x2), (3, V.int .i64 x3)] [])
set_option maxRecDepth 100000 in
theorem nName21_top (F : Nat) (s : List UInt8) (K : V → Option V) :
 evBd oE (evFn oE nS0 F 2) F 35 [(V.str s)] K =
 sel (ilt 64 (slen s))
 (K (V.int .i64 9))
 (nName21_L0 F [] F s 0 0 K) := by kernel_rfl
set_option maxRecDepth 100000 in
theorem nName21_L0_succ (F : Nat) (n : Nat) (x0 : List UInt8) (x2 : Int) (x3 : Int) (K : V → Option V) :
 nName21_L0 F [] (n + 1) x0 x2 x3 K =
 sel (ilt x3 (slen x0))
 (sel (band (ile 0 x3) (ilt x3 (slen x0)))
 (sel (ile 65 (sat x0 x3))
 (sel (ile (sat x0 x3) 90)
 (sel (ile 48 (sat x0 x3))
 (sel (ile (sat x0 x3) 57)
 (nName21_L0 F [] n x0 x2 (iadd .i64 x3 1) K)
 (sel (ieq (sat x0 x3) 45)
 (nName21_L0 F [] n x0 x2 (iadd .i64 x3 1) K)
 (sel (ieq (sat x0 x3) 43)
 (nName21_L0 F [] n x0 x2 (iadd .i64 x3 1) K)
 (sel (ieq (sat x0 x3) 47)
 (nName21_L0 F [] n x0 x2 (iadd .i64 x3 1) K)
 (nName21_L0 F [] n x0 x2 (iadd .i64 x3 1) K)))))
 (sel (ieq (sat x0 x3) 45)
 (nName21_L0 F [] n x0 x2 (iadd .i64 x3 1) K)
 (sel (ieq (sat x0 x3) 43)
 (nName21_L0 F [] n x0 x2 (iadd .i64 x3 1) K)
 (sel (ieq (sat x0 x3) 47)
 (nName21_L0 F [] n x0 x2 (iadd .i64 x3 1) K)
 (nName21_L0 F [] n x0 x2 (iadd .i64 x3 1) K)))))
 (sel (ile 97 (sat x0 x3))
 (sel (ile (sat x0 x3) 122)
 (sel (ile 48 (sat x0 x3))
 (sel (ile (sat x0 x3) 57)
 (nName21_L0 F [] n x0 x2 (iadd .i64 x3 1) K)
 (sel (ieq (sat x0 x3) 45)
 (nName21_L0 F [] n x0 x2 (iadd .i64 x3 1) K)
 (sel (ieq (sat x0 x3) 43)
 (nName21_L0 F [] n x0 x2 (iadd .i64 x3 1) K)
 (sel (ieq (sat x0 x3) 47)
 (nName21_L0 F [] n x0 x2 (iadd .i64 x3 1) K)
 (nName21_L0 F [] n x0 x2 (iadd .i64 x3 1) K)))))
 (sel (ieq (sat x0 x3) 45)
 (nName21_L0 F [] n x0 x2 (iadd .i64 x3 1) K)
 (sel (ieq (sat x0 x3) 43)
 (nName21_L0 F [] n x0 x2 (iadd .i64 x3 1) K)
 (sel (ieq (sat x0 x3) 47)
 (nName21_L0 F [] n x0 x2 (iadd .i64 x3 1) K)
 (nName21_L0 F [] n x0 x2 (iadd .i64 x3 1) K)))))
 (sel (ile 48 (sat x0 x3))
 (sel (ile (sat x0 x3) 57)
 (sel (bnot (ieq (sat x0 x3) 95))
 (sel (ieq x3 0)
 (K (V.int .i64 10))
 (nName21_L0 F [] n x0 x2 (iadd .i64 x3 1) K))
 (nName21_L0 F [] n x0 x2 (iadd .i64 x3 1) K))
 (sel (ieq (sat x0 x3) 45)
 (sel (bnot (ieq (sat x0 x3) 95))
 (sel (ieq x3 0)
 (K (V.int .i64 10))
 (nName21_L0 F [] n x0 x2 (iadd .i64 x3 1) K))
 (nName21_L0 F [] n x0 x2 (iadd .i64 x3 1) K))
 (sel (ieq (sat x0 x3) 43)
 (sel (bnot (ieq (sat x0 x3) 95))
 (sel (ieq x3 0)
 (K (V.int .i64 10))
 (nName21_L0 F [] n x0 x2 (iadd .i64 x3 1) K))
 (nName21_L0 F [] n x0 x2 (iadd .i64 x3 1) K))
 (sel (ieq (sat x0 x3) 47)
 (sel (bnot (ieq (sat x0 x3) 95))
 (sel (ieq x3 0)
 (K (V.int .i64 10))
 (nName21_L0 F [] n x0 x2 (iadd .i64 x3 1) K))
 (nName21_L0 F [] n x0 x2 (iadd .i64 x3 1) K))
 (sel (bnot (ieq (sat x0 x3) 95))
 (sel (ieq x3 0)
 (K (V.int .i64 10))
 (sel (bnot (ieq (sat x0 x3) 46))
 (K (V.int .i64 10))
 (nName21_L0 F [] n x0 x2 (iadd .i64 x3 1) K)))
 (nName21_L0 F [] n x0 x2 (iadd .i64 x3 1) K))))))
 (sel (ieq (sat x0 x3) 45)
 (sel (bnot (ieq (sat x0 x3) 95))
 (sel (ieq x3 0)
 (K (V.int .i64 10))
 (nName21_L0 F [] n x0 x2 (iadd .i64 x3 1) K))
 (nName21_L0 F [] n x0 x2 (iadd .i64 x3 1) K))
 (sel (ieq (sat x0 x3) 43)
 (sel (bnot (ieq (sat x0 x3) 95))
 (sel (ieq x3 0)
 (K (V.int .i64 10))
 (nName21_L0 F [] n x0 x2 (iadd .i64 x3 1) K))
 (nName21_L0 F [] n x0 x2 (iadd .i64 x3 1) K))
 (sel (ieq (sat x0 x3) 47)
 (sel (bnot (ieq (sat x0 x3) 95))
 (sel (ieq x3 0)
 (K (V.int .i64 10))
 (nName21_L0 F [] n x0 x2 (iadd .i64 x3 1) K))
 (nName21_L0 F [] n x0 x2 (iadd .i64 x3 1) K))
 (sel (bnot (ieq (sat x0 x3) 95))
 (sel (ieq x3 0)
 (K (V.int .i64 10))
 (sel (bnot (ieq (sat x0 x3) 46))
 (K (V.int .i64 10))
 (nName21_L0 F [] n x0 x2 (iadd .i64 x3 1) K)))
 (nName21_L0 F [] n x0 x2 (iadd .i64 x3 1) K)))))))
 (sel (ile 48 (sat x0 x3))
 (sel (ile (sat x0 x3) 57)
 (sel (bnot (ieq (sat x0 x3) 95))
 (sel (ieq x3 0)
 (K (V.int .i64 10))
 (nName21_L0 F [] n x0 x2 (iadd .i64 x3 1) K))
 (nName21_L0 F [] n x0 x2 (iadd .i64 x3 1) K))
 (sel (ieq (sat x0 x3) 45)
 (sel (bnot (ieq (sat x0 x3) 95))
 (sel (ieq x3 0)
 (K (V.int .i64 10))
 (nName21_L0 F [] n x0 x2 (iadd .i64 x3 1) K))
 (nName21_L0 F [] n x0 x2 (iadd .i64 x3 1) K))
 (sel (ieq (sat x0 x3) 43)
 (sel (bnot (ieq (sat x0 x3) 95))
 (sel (ieq x3 0)
 (K (V.int .i64 10))
 (nName21_L0 F [] n x0 x2 (iadd .i64 x3 1) K))
 (nName21_L0 F [] n x0 x2 (iadd .i64 x3 1) K))
 (sel (ieq (sat x0 x3) 47)
 (sel (bnot (ieq (sat x0 x3) 95))
 (sel (ieq x3 0)
 (K (V.int .i64 10))
 (nName21_L0 F [] n x0 x2 (iadd .i64 x3 1) K))
 (nName21_L0 F [] n x0 x2 (iadd .i64 x3 1) K))
 (sel (bnot (ieq (sat x0 x3) 95))
 (sel (ieq x3 0)
 (K (V.int .i64 10))
 (sel (bnot (ieq (sat x0 x3) 46))
 (K (V.int .i64 10))
 (nName21_L0 F [] n x0 x2 (iadd .i64 x3 1) K)))
 (nName21_L0 F [] n x0 x2 (iadd .i64 x3 1) K))))))
 (sel (ieq (sat x0 x3) 45)
 (sel (bnot (ieq (sat x0 x3) 95))
 (sel (ieq x3 0)
 (K (V.int .i64 10))
 (nName21_L0 F [] n x0 x2 (iadd .i64 x3 1) K))
 (nName21_L0 F [] n x0 x2 (iadd .i64 x3 1) K))
 (sel (ieq (sat x0 x3) 43)
 (sel (bnot (ieq (sat x0 x3) 95))
 (sel (ieq x3 0)
 (K (V.int .i64 10))
 (nName21_L0 F [] n x0 x2 (iadd .i64 x3 1) K))
 (nName21_L0 F [] n x0 x2 (iadd .i64 x3 1) K))
 (sel (ieq (sat x0 x3) 47)
 (sel (bnot (ieq (sat x0 x3) 95))
 (sel (ieq x3 0)
 (K (V.int .i64 10))
 (nName21_L0 F [] n x0 x2 (iadd .i64 x3 1) K))
 (nName21_L0 F [] n x0 x2 (iadd .i64 x3 1) K))
 (sel (bnot (ieq (sat x0 x3) 95))
 (sel (ieq x3 0)
 (K (V.int .i64 10))
 (sel (bnot (ieq (sat x0 x3) 46))
 (K (V.int .i64 10))
 (nName21_L0 F [] n x0 x2 (iadd .i64 x3 1) K)))
 (nName21_L0 F [] n x0 x2 (iadd .i64 x3 1) K))))))))
 (sel (ile 97 (sat x0 x3))
 (sel (ile (sat x0 x3) 122)
 (sel (ile 48 (sat x0 x3))
 (sel (ile (sat x0 x3) 57)
 (nName21_L0 F [] n x0 x2 (iadd .i64 x3 1) K)
 (sel (ieq (sat x0 x3) 45)
 (nName21_L0 F [] n x0 x2 (iadd .i64 x3 1) K)
 (sel (ieq (sat x0 x3) 43)
 (nName21_L0 F [] n x0 x2 (iadd .i64 x3 1) K)
 (sel (ieq (sat x0 x3) 47)
 (nName21_L0 F [] n x0 x2 (iadd .i64 x3 1) K)
 (nName21_L0 F [] n x0 x2 (iadd .i64 x3 1) K)))))
 (sel (ieq (sat x0 x3) 45)
 (nName21_L0 F [] n x0 x2 (iadd .i64 x3 1) K)
 (sel (ieq (sat x0 x3) 43)
 (nName21_L0 F [] n x0 x2 (iadd .i64 x3 1) K)
 (sel (ieq (sat x0 x3) 47)
 (nName21_L0 F [] n x0 x2 (iadd .i64 x3 1) K)
 (nName21_L0 F [] n x0 x2 (iadd .i64 x3 1) K)))))
 (sel (ile 48 (sat x0 x3))
 (sel (ile (sat x0 x3) 57)
 (sel (bnot (ieq (sat x0 x3) 95))
 (sel (ieq x3 0)
 (K (V.int .i64 10))
 (nName21_L0 F [] n x0 x2 (iadd .i64 x3 1) K))
 (nName21_L0 F [] n x0 x2 (iadd .i64 x3 1) K))
 (sel (ieq (sat x0 x3) 45)
 (sel (bnot (ieq (sat x0 x3) 95))
 (sel (ieq x3 0)
 (K (V.int .i64 10))
 (nName21_L0 F [] n x0 x2 (iadd .i64 x3 1) K))
 (nName21_L0 F [] n x0 x2 (iadd .i64 x3 1) K))
 (sel (ieq (sat x0 x3) 43)
 (sel (bnot (ieq (sat x0 x3) 95))
 (sel (ieq x3 0)
 (K (V.int .i64 10))
 (nName21_L0 F [] n x0 x2 (iadd .i64 x3 1) K))
 (nName21_L0 F [] n x0 x2 (iadd .i64 x3 1) K))
 (sel (ieq (sat x0 x3) 47)
 (sel (bnot (ieq (sat x0 x3) 95))
 (sel (ieq x3 0)
 (K (V.int .i64 10))
 (nName21_L0 F [] n x0 x2 (iadd .i64 x3 1) K))
 (nName21_L0 F [] n x0 x2 (iadd .i64 x3 1) K))
 (sel (bnot (ieq (sat x0 x3) 95))
 (sel (ieq x3 0)
 (K (V.int .i64 10))
 (sel (bnot (ieq (sat x0 x3) 46))
 (K (V.int .i64 10))
 (nName21_L0 F [] n x0 x2 (iadd .i64 x3 1) K)))
 (nName21_L0 F [] n x0 x2 (iadd .i64 x3 1) K))))))
 (sel (ieq (sat x0 x3) 45)
 (sel (bnot (ieq (sat x0 x3) 95))
 (sel (ieq x3 0)
 (K (V.int .i64 10))
 (nName21_L0 F [] n x0 x2 (iadd .i64 x3 1) K))
 (nName21_L0 F [] n x0 x2 (iadd .i64 x3 1) K))
 (sel (ieq (sat x0 x3) 43)
 (sel (bnot (ieq (sat x0 x3) 95))
 (sel (ieq x3 0)
 (K (V.int .i64 10))
 (nName21_L0 F [] n x0 x2 (iadd .i64 x3 1) K))
 (nName21_L0 F [] n x0 x2 (iadd .i64 x3 1) K))
 (sel (ieq (sat x0 x3) 47)
 (sel (bnot (ieq (sat x0 x3) 95))
 (sel (ieq x3 0)
 (K (V.int .i64 10))
 (nName21_L0 F [] n x0 x2 (iadd .i64 x3 1) K))
 (nName21_L0 F [] n x0 x2 (iadd .i64 x3 1) K))
 (sel (bnot (ieq (sat x0 x3) 95))
 (sel (ieq x3 0)
 (K (V.int .i64 10))
 (sel (bnot (ieq (sat x0 x3) 46))
 (K (V.int .i64 10))
 (nName21_L0 F [] n x0 x2 (iadd .i64 x3 1) K)))
 (nName21_L0 F [] n x0 x2 (iadd .i64 x3 1) K)))))))
 (sel (ile 48 (sat x0 x3))
 (sel (ile (sat x0 x3) 57)
 (sel (bnot (ieq (sat x0 x3) 95))
 (sel (ieq x3 0)
 (K (V.int .i64 10))
 (nName21_L0 F [] n x0 x2 (iadd .i64 x3 1) K))
 (nName21_L0 F [] n x0 x2 (iadd .i64 x3 1) K))
 (sel (ieq (sat x0 x3) 45)
 (sel (bnot (ieq (sat x0 x3) 95))
 (sel (ieq x3 0)
 (K (V.int .i64 10))
 (nName21_L0 F [] n x0 x2 (iadd .i64 x3 1) K))
 (nName21_L0 F [] n x0 x2 (iadd .i64 x3 1) K))
 (sel (ieq (sat x0 x3) 43)
 (sel (bnot (ieq (sat x0 x3) 95))
 (sel (ieq x3 0)
 (K (V.int .i64 10))
 (nName21_L0 F [] n x0 x2 (iadd .i64 x3 1) K))
 (nName21_L0 F [] n x0 x2 (iadd .i64 x3 1) K))
 (sel (ieq (sat x0 x3) 47)
 (sel (bnot (ieq (sat x0 x3) 95))
 (sel (ieq x3 0)
 (K (V.int .i64 10))
 (nName21_L0 F [] n x0 x2 (iadd .i64 x3 1) K))
 (nName21_L0 F [] n x0 x2 (iadd .i64 x3 1) K))
 (sel (bnot (ieq (sat x0 x3) 95))
 (sel (ieq x3 0)
 (K (V.int .i64 10))
 (sel (bnot (ieq (sat x0 x3) 46))
 (K (V.int .i64 10))
 (nName21_L0 F [] n x0 x2 (iadd .i64 x3 1) K)))
 (nName21_L0 F [] n x0 x2 (iadd .i64 x3 1) K))))))
 (sel (ieq (sat x0 x3) 45)
 (sel (bnot (ieq (sat x0 x3) 95))
 (sel (ieq x3 0)
 (K (V.int .i64 10))
 (nName21_L0 F [] n x0 x2 (iadd .i64 x3 1) K))
 (nName21_L0 F [] n x0 x2 (iadd .i64 x3 1) K))
 (sel (ieq (sat x0 x3) 43)
 (sel (bnot (ieq (sat x0 x3) 95))
 (sel (ieq x3 0)
 (K (V.int .i64 10))
 (nName21_L0 F [] n x0 x2 (iadd .i64 x3 1) K))
 (nName21_L0 F [] n x0 x2 (iadd .i64 x3 1) K))
 (sel (ieq (sat x0 x3) 47)
 (sel (bnot (ieq (sat x0 x3) 95))
 (sel (ieq x3 0)
 (K (V.int .i64 10))
 (nName21_L0 F [] n x0 x2 (iadd .i64 x3 1) K))
 (nName21_L0 F [] n x0 x2 (iadd .i64 x3 1) K))
 (sel (bnot (ieq (sat x0 x3) 95))
 (sel (ieq x3 0)
 (K (V.int .i64 10))
 (sel (bnot (ieq (sat x0 x3) 46))
 (K (V.int .i64 10))
 (nName21_L0 F [] n x0 x2 (iadd .i64 x3 1) K)))
 (nName21_L0 F [] n x0 x2 (iadd .i64 x3 1) K))))))))
 (none))
 (sel (seq x0 [])
 (K (V.int .i64 10))
 (K (V.int .i64 0))) := by kernel_rfl
end Nt.Ev.Ytochbeiihhbmeaa.Nm

set_option linter.unusedVariables false
set_option linter.unusedSimpArgs false
set_option linter.unusedSectionVars false
namespace Nt.Ev.Ytochbeiihhbmeaa.Nm
open Go Go.RowKit Nt Nt.Num Go.Proofs.Ytochbeiihhbmeaa
theorem nByS_ok (s : List UInt8) (c : Int) (hc : true = true) : Contract oE 38 [.str s, .int .u8 c] (.int .i64 (idxN s c)) := by
  refine contract_old fun G w vs hG hg hp => ?_
  obtain ⟨x, y, rfl, hx, hy⟩ := PW_two hp
  unfold rep at hx hy
  subst hx; subst hy
  refine (Go.Proofs.Try.strings_IndexByte ⟨s.toArray⟩ c w).mono ?_
  rintro e w' ⟨rfl, rfl⟩
  exact ⟨_, rfl, .refl _ _, res_int _ _⟩
theorem nS0_ok : SOk oE nS0 := by
  unfold nS0
  refine SOk.cons (fun args r h => ?_) (SOk.nil)
  · unfold nByS at h
    split at h
    · simp only [Option.some.injEq, Prod.mk.injEq] at h
      obtain ⟨hc, rfl⟩ := h
      exact nByS_ok _ _ rfl
    · cases h
theorem ibits_letter (c : UInt8) : (ile 97 (ibits .or .u8 ((c.toNat : Nat) : Int) 32) && ile (ibits .or .u8 ((c.toNat : Nat) : Int) 32) 122) = ((decide (65 ≤ c.toNat) && decide (c.toNat ≤ 90)) || (decide (97 ≤ c.toNat) && decide (c.toNat ≤ 122))) := by
  have h : ∀ n : Fin 256, (ile 97 (ibits .or .u8 ((n.val : Nat) : Int) 32) && ile (ibits .or .u8 ((n.val : Nat) : Int) 32) 122) = ((decide (65 ≤ n.val) && decide (n.val ≤ 90)) || (decide (97 ≤ n.val) && decide (n.val ≤ 122))) := by decide +kernel
  exact h ⟨c.toNat, c.toNat_lt⟩
theorem idx_oth (c : UInt8) : ile 0 (idxN [45, 43, 47, 46] ((c.toNat : Nat) : Int)) = (c == 45 || c == 43 || c == 47 || c == 46) := by
  have h : ∀ n : Fin 256, ile 0 (idxN [45, 43, 47, 46] ((n.val : Nat) : Int)) = (UInt8.ofNat n == 45 || UInt8.ofNat n == 43 || UInt8.ofNat n == 47 || UInt8.ofNat n == 46) := by decide +kernel
  have := h ⟨c.toNat, c.toNat_lt⟩
  simpa using this
theorem u8_ieq (c d : UInt8) : ieq ((c.toNat : Nat) : Int) ((d.toNat : Nat) : Int) = (c == d) := by
  rw [Bool.eq_iff_iff, ieq_iff, beq_iff_eq, ← UInt8.toNat_inj]; omega
theorem u8_ile (c : UInt8) (a : Nat) : ile (a : Int) ((c.toNat : Nat) : Int) = decide (a ≤ c.toNat) := by
  rw [Bool.eq_iff_iff, ile_iff, decide_eq_true_eq]; omega
theorem u8_ile' (c : UInt8) (a : Nat) : ile ((c.toNat : Nat) : Int) (a : Int) = decide (c.toNat ≤ a) := by
  rw [Bool.eq_iff_iff, ile_iff, decide_eq_true_eq]; omega
theorem nName_step (s : List UInt8) (x2 : Int) (F n k : Nat) (hk : k < s.length) (hs : s.length ≤ 64) : nName_L0 F [] (n + 1) s x2 (bytesV s) (llen (bytesV s)) (k : Int) some =
    if nmC k (s[k]) = true then nName_L0 F [] n s x2 (bytesV s) (llen (bytesV s)) ((k + 1 : Nat) : Int) some else some (.int .i64 10) := by
  have hl : (bytesV s).length = s.length := by unfold bytesV; rw [List.length_map]
  have e : asInt (acell (lget (bytesV s) (k : Int)) 0) = ((s[k].toNat : Nat) : Int) := by
    rw [lget_nat]
    unfold bytesV
    rw [List.getD_eq_getElem?_getD, List.getElem?_map, List.getElem?_eq_getElem hk]
    rfl
  have e95 : ieq ((s[k].toNat : Nat) : Int) 95 = (s[k] == 95) := u8_ieq s[k] 95
  have e48 : ile 48 ((s[k].toNat : Nat) : Int) = decide (48 ≤ s[k].toNat) := u8_ile s[k] 48
  have e57 : ile ((s[k].toNat : Nat) : Int) 57 = decide (s[k].toNat ≤ 57) := u8_ile' s[k] 57
  have e0 : ilt 0 (k : Int) = decide (0 < k) := by rw [Bool.eq_iff_iff, ilt_iff, decide_eq_true_eq]; omega
  have hL := ibits_letter s[k]
  rw [nName_L0_succ, sel_pos (ilt_t (by rw [llen_nat, hl]; omega)), sel_pos (by rw [band_iff, ile_iff, ilt_iff, llen_nat, hl]; omega), e, e95, e48, e57, e0, idx_oth, iadd64 (by omega), show (k : Int) + 1 = ((k + 1 : Nat) : Int) by omega]
  unfold nmC fstC othC
  rw [← hL]
  generalize nName_L0 F [] n s x2 (bytesV s) (llen (bytesV s)) ((k + 1 : Nat) : Int) some = N
  generalize ile 97 (ibits .or .u8 ((s[k].toNat : Nat) : Int) 32) = b1
  generalize ile (ibits .or .u8 ((s[k].toNat : Nat) : Int) 32) 122 = b2
  generalize (s[k] == 95) = b3
  generalize decide (0 < k) = b4
  generalize decide (48 ≤ s[k].toNat) = b5
  generalize decide (s[k].toNat ≤ 57) = b6
  generalize (s[k] == 45) = b7
  generalize (s[k] == 43) = b8
  generalize (s[k] == 47) = b9
  generalize (s[k] == 46) = b10
  cases b1 <;> cases b2 <;> cases b3 <;> cases b4 <;> cases b5 <;> cases b6 <;> cases b7 <;> cases b8 <;> cases b9 <;> cases b10 <;> rfl
theorem nName_loop (s : List UInt8) (x2 : Int) (F : Nat) (hs : s.length ≤ 64) : ∀ (n k : Nat), k ≤ s.length → s.length - k < n →
    nName_L0 F [] n s x2 (bytesV s) (llen (bytesV s)) (k : Int) some = some (.int .i64 (if nmF k (s.drop k) = true then (if s = [] then 10 else 0) else 10)) := by
  intro n
  induction n with
  | zero => intro k _ h; omega
  | succ n ih =>
    intro k hk hn
    by_cases h : k < s.length
    · rw [nName_step s x2 F n k h hs, List.drop_eq_getElem_cons h]
      show _ = some (V.int .i64 (if (nmC k s[k] && nmF (k + 1) (s.drop (k + 1))) = true then _ else _))
      cases hc : nmC k s[k] with
      | true => rw [if_pos rfl, ih (k + 1) (by omega) (by omega), Bool.true_and]
      | false => rw [if_neg (by decide), Bool.false_and, if_neg (by decide)]
    · have hl : (bytesV s).length = s.length := by unfold bytesV; rw [List.length_map]
      rw [nName_L0_succ, sel_neg (ilt_f (by rw [llen_nat, hl]; omega)), List.drop_of_length_le (by omega), if_pos (show nmF k [] = true from rfl), sel_if]
      by_cases h0 : s = []
      · rw [if_pos (by rw [seq_iff]; exact h0), if_pos h0]
      · rw [if_neg (by rw [seq_iff]; exact h0), if_neg h0]
theorem nm_fin (s : List UInt8) : (if nmF 0 s = true then (if s = [] then (10 : Int) else 0) else 10) = if nmF 0 s = true ∧ s ≠ [] then 0 else 10 := by
  by_cases h : nmF 0 s = true
  · rw [if_pos h]
    by_cases h0 : s = []
    · rw [if_pos h0, if_neg (fun e => e.2 h0)]
    · rw [if_neg h0, if_pos ⟨h, h0⟩]
  · rw [if_neg h, if_neg (fun e => h e.1)]
theorem nName_ev (s : List UInt8) : Contract oE 34 [.str s] (.int .i64 (nmI s)) := by
  refine contract_of_body oE_ok nS0_ok 100 2 ?_
  rw [nName_top]
  unfold nmI
  by_cases h : 64 < s.length
  · rw [sel_pos (ilt_t (by rw [slen_nat]; omega)), if_pos h]
  · rw [sel_neg (ilt_f (by rw [slen_nat]; omega)), if_neg h, sel_pos (by rw [okStr_iff]; omega)]
    have := nName_loop s 0 100 (by omega) 100 0 (by omega) (by omega)
    rw [List.drop_zero, nm_fin] at this
    exact this
theorem sel_fun (f : Bool → Option V) (c a b : Bool) : sel c (f a) (f b) = f (sel c a b) := by cases c <;> rfl
theorem rName_step (s : List UInt8) (x2 : Int) (F n k : Nat) (hk : k < s.length) (hs : s.length ≤ 64) : nName21_L0 F [] (n + 1) s x2 (k : Int) some =
    if nmC k (s[k]) = true then nName21_L0 F [] n s x2 ((k + 1 : Nat) : Int) some else some (.int .i64 10) := by
  have e : sat s (k : Int) = ((s[k].toNat : Nat) : Int) := by
    rw [sat_nat, List.getD_eq_getElem?_getD, List.getElem?_eq_getElem hk]; rfl
  have hb : band (ile 0 (k : Int)) (ilt (k : Int) (slen s)) = true := by rw [band_iff, ile_iff, ilt_iff, slen_nat]; omega
  have hz : ieq (k : Int) 0 = !decide (0 < k) := by
    rw [Bool.eq_iff_iff, ieq_iff, Bool.not_eq_true', decide_eq_false_iff_not]; omega
  rw [nName21_L0_succ, sel_pos (ilt_t (by rw [slen_nat]; omega)), sel_pos hb, e, iadd64 (by omega), show (k : Int) + 1 = ((k + 1 : Nat) : Int) by omega, hz]
  unfold nmC
  generalize nName21_L0 F [] n s x2 ((k + 1 : Nat) : Int) some = N
  generalize some (V.int .i64 10) = X
  obtain ⟨f, h1, h2⟩ : ∃ f : Bool → Option V, f true = N ∧ f false = X := ⟨fun b => sel b N X, rfl, rfl⟩
  subst h1; subst h2
  have hr : ∀ b : Bool, (if b = true then f true else f false) = f b := fun b => by cases b <;> rfl
  rw [hr]
  simp only [sel_fun f]
  congr 1
  generalize decide (0 < k) = z
  generalize s[k] = c
  clear hz e hb hr
  obtain ⟨⟨m⟩⟩ := c
  revert m z
  decide +kernel
theorem rName_loop (s : List UInt8) (x2 : Int) (F : Nat) (hs : s.length ≤ 64) : ∀ (n k : Nat), k ≤ s.length → s.length - k < n →
    nName21_L0 F [] n s x2 (k : Int) some = some (.int .i64 (if nmF k (s.drop k) = true then (if s = [] then 10 else 0) else 10)) := by
  intro n
  induction n with
  | zero => intro k _ h; omega
  | succ n ih =>
    intro k hk hn
    by_cases h : k < s.length
    · rw [rName_step s x2 F n k h hs, List.drop_eq_getElem_cons h]
      show _ = some (V.int .i64 (if (nmC k s[k] && nmF (k + 1) (s.drop (k + 1))) = true then _ else _))
      cases hc : nmC k s[k] with
      | true => rw [if_pos rfl, ih (k + 1) (by omega) (by omega), Bool.true_and]
      | false => rw [if_neg (by decide), Bool.false_and, if_neg (by decide)]
    · rw [nName21_L0_succ, sel_neg (ilt_f (by rw [slen_nat]; omega)), List.drop_of_length_le (by omega), if_pos (show nmF k [] = true from rfl), sel_if]
      by_cases h0 : s = []
      · rw [if_pos (by rw [seq_iff]; exact h0), if_pos h0]
      · rw [if_neg (by rw [seq_iff]; exact h0), if_neg h0]
theorem rName_ev (s : List UInt8) : Contract oE 35 [.str s] (.int .i64 (nmI s)) := by
  refine contract_of_body oE_ok nS0_ok 100 2 ?_
  rw [nName21_top]
  unfold nmI
  by_cases h : 64 < s.length
  · rw [sel_pos (ilt_t (by rw [slen_nat]; omega)), if_pos h]
  · rw [sel_neg (ilt_f (by rw [slen_nat]; omega)), if_neg h]
    have := rName_loop s 0 100 (by omega) 100 0 (by omega) (by omega)
    rw [List.drop_zero, nm_fin] at this
    exact this
end Nt.Ev.Ytochbeiihhbmeaa.Nm

set_option linter.unusedVariables false
set_option linter.unusedSimpArgs false
namespace Nt.Ev.Ytochbeiihhbmeaa.Lk
open Go Nt Nt.Num
abbrev Bs := List UInt8
def stepP : List (Bs × Bs) → Bs → Option Bs
  | [], _ => none
  | (t, m) :: r, n => if m = n then some t else stepP r n
def lkOf (xs : List V) : List (Bs × Bs) := xs.map fun x => (asStr (acell x 0), asStr (acell x 1))
noncomputable def stT (xs : List V) (n : List UInt8) : List UInt8 := (stepP (lkOf xs) n).getD []
noncomputable def stB (xs : List V) (n : List UInt8) : Bool := (stepP (lkOf xs) n).isSome
def rfP (l : List (Bs × Bs)) : Nat → Bs → Option Bs
  | 0, _ => none
  | k + 1, n => match stepP l n with | none => some n | some t => rfP l k t
def flP (l : List (Bs × Bs)) (n : Bs) : Option Bs := rfP l (l.length + 1) n
noncomputable def flT (xs : List V) (n : List UInt8) : List UInt8 := (flP (lkOf xs) n).getD []
noncomputable def flE (xs : List V) (n : List UInt8) : Int := if (flP (lkOf xs) n).isSome then 0 else 13
noncomputable def lkS (xs : List V) (n : List UInt8) : Bool := decide (xs.length ≤ 4000000) && decide (n.length ≤ maxLen) && (lkOf xs).all (fun p => decide (p.1.length ≤ maxLen) && decide (p.2.length ≤ maxLen))
theorem lkS_iff {xs : List V} {n : List UInt8} : lkS xs n = true ↔ xs.length ≤ 4000000 ∧ n.length ≤ maxLen ∧ ∀ p ∈ lkOf xs, p.1.length ≤ maxLen ∧ p.2.length ≤ maxLen := by
  unfold lkS
  simp [List.all_eq_true, and_assoc]
theorem step_mem {l : List (Bs × Bs)} {n t : Bs} (h : stepP l n = some t) : (t, n) ∈ l := by
  induction l with
  | nil => exact nomatch h
  | cons p r ih =>
    obtain ⟨q, m⟩ := p
    unfold stepP at h
    split at h
    · rename_i e; cases h; subst e; simp
    · exact List.mem_cons_of_mem _ (ih h)
theorem step_name {l : List (Bs × Bs)} {n t : Bs} (h : stepP l n = some t) : n ∈ l.map Prod.snd := List.mem_map.2 ⟨_, step_mem h, rfl⟩
theorem step_snoc (l : List (Bs × Bs)) (t m n : Bs) : stepP (l ++ [(t, m)]) n = match stepP l n with | some x => some x | none => if m = n then some t else none := by
  induction l with
  | nil => rfl
  | cons p r ih =>
    obtain ⟨q, k⟩ := p
    show (if k = n then some q else stepP (r ++ [(t, m)]) n) = match (if k = n then some q else stepP r n) with | some x => some x | none => _
    by_cases e : k = n
    · rw [if_pos e, if_pos e]
    · rw [if_neg e, if_neg e, ih]
theorem nodup_len {α : Type} [DecidableEq α] : ∀ (l m : List α), l.Nodup → (∀ x ∈ l, x ∈ m) → l.length ≤ m.length
  | [], _, _, _ => Nat.zero_le _
  | x :: r, m, hn, hs => by
    have hx : x ∈ m := hs x (by simp)
    have h := nodup_len r (m.erase x) (List.nodup_cons.1 hn).2 (fun y hy => by
      have hne : y ≠ x := fun e => (List.nodup_cons.1 hn).1 (by rw [← e]; exact hy)
      exact (List.mem_erase_of_ne hne).2 (hs y (List.mem_cons_of_mem _ hy)))
    rw [List.length_erase_of_mem hx] at h
    have : 0 < m.length := List.length_pos_of_mem hx
    rw [List.length_cons]
    omega
def MetOk (l : List (Bs × Bs)) (met : List Bs) (n : Bs) : Prop := met.Nodup ∧ ∀ m ∈ met, ∃ t, stepP l m = some t ∧ (t ∈ met ∨ t = n)
theorem met_loop {l : List (Bs × Bs)} {met : List Bs} (h : ∀ m ∈ met, ∃ t, stepP l m = some t ∧ t ∈ met) : ∀ (k : Nat) (n : Bs), n ∈ met → rfP l k n = none := by
  intro k
  induction k with
  | zero => intro n _; rfl
  | succ k ih =>
    intro n hn
    obtain ⟨t, ht, htm⟩ := h n hn
    unfold rfP
    rw [ht]
    exact ih t htm
theorem MetOk.le {l : List (Bs × Bs)} {met : List Bs} {n : Bs} (h : MetOk l met n) : met.length ≤ l.length := by
  have := nodup_len met (l.map Prod.snd) h.1 (fun x hx => by obtain ⟨t, ht, _⟩ := h.2 x hx; exact step_name ht)
  rwa [List.length_map] at this
theorem MetOk.looped {l : List (Bs × Bs)} {met : List Bs} {n : Bs} (h : MetOk l met n) (hn : n ∈ met) (k : Nat) : rfP l k n = none := by
  refine met_loop (met := met) (fun m hm => ?_) k n hn
  obtain ⟨t, ht, h1 | h1⟩ := h.2 m hm
  · exact ⟨t, ht, h1⟩
  · exact ⟨t, ht, h1 ▸ hn⟩
theorem MetOk.step {l : List (Bs × Bs)} {met : List Bs} {n t : Bs} (h : MetOk l met n) (hn : n ∉ met) (ht : stepP l n = some t) : MetOk l (n :: met) t := by
  refine ⟨List.nodup_cons.2 ⟨hn, h.1⟩, fun m hm => ?_⟩
  rcases List.mem_cons.1 hm with rfl | hm
  · exact ⟨t, ht, .inr rfl⟩
  · obtain ⟨u, hu, h1 | h1⟩ := h.2 m hm
    · exact ⟨u, hu, .inl (List.mem_cons_of_mem _ h1)⟩
    · exact ⟨u, hu, .inl (h1 ▸ by simp)⟩
theorem fl_stop {l : List (Bs × Bs)} {met : List Bs} {n n0 : Bs} (h : MetOk l met n) (he : flP l n0 = rfP l (l.length + 1 - met.length) n) (hs : stepP l n = none) : flP l n0 = some n := by
  have := h.le
  rw [he, show l.length + 1 - met.length = (l.length - met.length) + 1 by omega]
  unfold rfP
  rw [hs]
theorem fl_go {l : List (Bs × Bs)} {met : List Bs} {n n0 t : Bs} (h : MetOk l met n) (he : flP l n0 = rfP l (l.length + 1 - met.length) n) (hs : stepP l n = some t) : flP l n0 = rfP l (l.length + 1 - (n :: met).length) t := by
  have := h.le
  rw [he, show l.length + 1 - met.length = (l.length - met.length) + 1 by omega, List.length_cons, show l.length + 1 - (met.length + 1) = l.length - met.length by omega]
  conv => lhs; unfold rfP
  rw [hs]
theorem lk_len (xs : List V) : (lkOf xs).length = xs.length := by unfold lkOf; simp
end Nt.Ev.Ytochbeiihhbmeaa.Lk

set_option linter.unusedVariables false
set_option linter.unusedSimpArgs false
set_option linter.unusedSectionVars false
namespace Nt.Ev.Ytochbeiihhbmeaa.Lk
open Go Nt.Num Go.Proofs.Ytochbeiihhbmeaa
open Nt.Ev.Ytochbeiihhbmeaa.Nm
noncomputable def kNaS : FSpec := fun a => match a with | [.str s] => some (true, .int .i64 (nmI s)) | _ => none
def or2 (a b : Int) : Int := sel (ieq a 0) b a
noncomputable def kOrS : FSpec := fun a => match a with | [.sl e [.int .i64] o [.int .i64 a, .int .i64 b]] => some (true, .int .i64 (or2 a b)) | _ => none
noncomputable def kS0 : List (Nat × FSpec) := (33, kOrS) :: (34, kNaS) :: (35, kNaS) :: []
noncomputable def kStS : FSpec := fun a => match a with | [.sl 37 [.str, .str] none xs, .str n] => some (ile (llen xs) 4000000, .tup [.str (stT xs n), .bool (stB xs n)]) | _ => none
noncomputable def kS1 : List (Nat × FSpec) := (36, kStS) :: kS0
noncomputable def kOr_L0 (F : Nat) (ns : List Nat) (n : Nat) (x0 : List V) (x2 : Int) (x6 : List V) (x7 : Int) (x8 : Int) (K : V → Option V) : Option V :=
 loopAt oE oS F 2 33 [1, 1, 0, 1, 0] ns K n (mkSt 18 [(0, V.sl 26 [(Kd.int .i64)] none x0), (2, V.int .i64 x2), (3, V.int .i64 0), (6, V.sl 26 [(Kd.int .i64)] none x6), (7, V.int .i64 x7), (8, V.int .i64 x8)] [])
set_option maxRecDepth 100000 in
theorem kOr_top (F : Nat) (a : Int) (b : Int) (K : V → Option V) :
 evBd oE (evFn oE oS F 2) F 33 [(V.sl 26 [(Kd.int .i64)] none [(V.int .i64 a), (V.int .i64 b)])] K =
 kOr_L0 F [] F [(V.int .i64 a), (V.int .i64 b)] 0 [(V.int .i64 a), (V.int .i64 b)] (llen [(V.int .i64 a), (V.int .i64 b)]) 0 K := by kernel_rfl
set_option maxRecDepth 100000 in
theorem kOr_L0_succ (F : Nat) (n : Nat) (x0 : List V) (x2 : Int) (x6 : List V) (x7 : Int) (x8 : Int) (K : V → Option V) :
 kOr_L0 F [] (n + 1) x0 x2 x6 x7 x8 K =
 sel (ilt x8 x7)
 (sel (band (ile 0 x8) (ilt x8 (llen x6)))
 (sel (bnot (ieq (asInt (acell (lget x6 x8) 0)) 0))
 (K (V.int .i64 (asInt (acell (lget x6 x8) 0))))
 (kOr_L0 F [] n x0 x2 x6 x7 (iadd .i64 x8 1) K))
 (none))
 (K (V.int .i64 0)) := by kernel_rfl
set_option maxRecDepth 100000 in
theorem kRead_top (F : Nat) (xs : List V) (K : V → Option V) :
 evBd oE (evFn oE kS0 F 3) F 19 [(V.sl 9 [(Kd.str)] none xs)] K =
 sel (ilt (llen xs) 2)
 (K (V.tup [(V.agg [(V.str []), (V.str [])]), (V.int .i64 5)]))
 (sel (ilt 2 (llen xs))
 (K (V.tup [(V.agg [(V.str []), (V.str [])]), (V.int .i64 6)]))
 (sel (band (ile 0 0) (ilt 0 (llen xs)))
 (sel (band (ile 0 1) (ilt 1 (llen xs)))
 (sel (bnot (ieq (or2 (nmI (asStr (acell (lget xs 0) 0))) (nmI (asStr (acell (lget xs 1) 0)))) 0))
 (K (V.tup [(V.agg [(V.str []), (V.str [])]), (V.int .i64 (or2 (nmI (asStr (acell (lget xs 0) 0))) (nmI (asStr (acell (lget xs 1) 0)))))]))
 (sel (seq (asStr (acell (lget xs 0) 0)) (asStr (acell (lget xs 1) 0)))
 (K (V.tup [(V.agg [(V.str []), (V.str [])]), (V.int .i64 13)]))
 (K (V.tup [(V.agg [(V.str (asStr (acell (lget xs 0) 0))), (V.str (asStr (acell (lget xs 1) 0)))]), (V.int .i64 0)]))))
 (none))
 (none))) := by kernel_rfl
noncomputable def kRead23_L0 (F : Nat) (ns : List Nat) (n : Nat) (x0 : List V) (x3 : Int) (x15 : List V) (x16 : Int) (x17 : Int) (b2_0 : List UInt8) (b2_1 : List UInt8) (K : V → Option V) : Option V :=
 loopAt oE kS0 F 3 20 [1, 1, 1, 0, 1, 0] ns K n (mkSt 43 [(0, V.sl 9 [(Kd.str)] none x0), (2, (V.box 2 0)), (3, V.int .i64 x3), (15, V.sl 9 [(Kd.str)] none x15), (16, V.int .i64 x16), (17, V.int .i64 x17)] [(2, [V.str b2_0, V.str b2_1])])
set_option maxRecDepth 100000 in
theorem kRead23_top (F : Nat) (xs : List V) (K : V → Option V) :
 evBd oE (evFn oE kS0 F 3) F 20 [(V.sl 9 [(Kd.str)] none xs)] K =
 sel (ilt (llen xs) 2)
 (K (V.tup [(V.agg [(V.str []), (V.str [])]), (V.int .i64 5)]))
 (sel (ilt 2 (llen xs))
 (K (V.tup [(V.agg [(V.str []), (V.str [])]), (V.int .i64 6)]))
 (kRead23_L0 F [] F xs 0 xs (llen xs) 0 [] [] K)) := by kernel_rfl
set_option maxRecDepth 100000 in
theorem kRead23_L0_succ (F : Nat) (n : Nat) (x0 : List V) (x3 : Int) (x15 : List V) (x16 : Int) (x17 : Int) (b2_0 : List UInt8) (b2_1 : List UInt8) (K : V → Option V) :
 kRead23_L0 F [] (n + 1) x0 x3 x15 x16 x17 b2_0 b2_1 K =
 sel (ilt x17 x16)
 (sel (band (ile 0 x17) (ilt x17 (llen x15)))
 (sel (bnot (ieq (nmI (asStr (acell (lget x15 x17) 0))) 0))
 (K (V.tup [(V.agg [(V.str []), (V.str [])]), (V.int .i64 (nmI (asStr (acell (lget x15 x17) 0))))]))
 (kRead23_L0 F [] n x0 x3 x15 x16 (iadd .i64 x17 1) b2_0 b2_1 K))
 (none))
 (sel (band (ile 0 0) (ilt 0 (llen x0)))
 (sel (band (ile 0 1) (ilt 1 (llen x0)))
 (sel (seq (asStr (acell (lget x0 0) 0)) (asStr (acell (lget x0 1) 0)))
 (K (V.tup [(V.agg [(V.str []), (V.str [])]), (V.int .i64 13)]))
 (sel (band (ile 0 0) (ilt 0 (llen x0)))
 (sel (band (ile 0 1) (ilt 1 (llen x0)))
 (K (V.tup [(V.agg [(V.str (asStr (acell (lget x0 0) 0))), (V.str (asStr (acell (lget x0 1) 0)))]), (V.int .i64 0)]))
 (none))
 (none)))
 (none))
 (none)) := by kernel_rfl
set_option maxRecDepth 100000 in
theorem kRight_top (F : Nat) (t : List UInt8) (n : List UInt8) (K : V → Option V) :
 evBd oE (evFn oE kS0 F 4) F 25 [(V.agg [(V.str t), (V.str n)])] K =
 sel (ilt (llen [(V.str t), (V.str n)]) 2)
 (K (V.bool (ieq 5 0)))
 (sel (ilt 2 (llen [(V.str t), (V.str n)]))
 (K (V.bool (ieq 6 0)))
 (sel (band (ile 0 0) (ilt 0 (llen [(V.str t), (V.str n)])))
 (sel (band (ile 0 1) (ilt 1 (llen [(V.str t), (V.str n)])))
 (sel (bnot (ieq (or2 (nmI t) (nmI n)) 0))
 (K (V.bool (ieq (or2 (nmI t) (nmI n)) 0)))
 (sel (seq t n)
 (K (V.bool (ieq 13 0)))
 (K (V.bool (ieq 0 0)))))
 (none))
 (none))) := by kernel_rfl
set_option maxRecDepth 100000 in
theorem kRight23_top (F : Nat) (t : List UInt8) (n : List UInt8) (K : V → Option V) :
 evBd oE (evFn oE kS0 F 3) F 26 [(V.agg [(V.str t), (V.str n)])] K =
 sel (ieq (nmI t) 0)
 (sel (ieq (nmI n) 0)
 (K (V.bool (bnot (seq t n))))
 (K (V.bool false)))
 (K (V.bool false)) := by kernel_rfl
set_option maxRecDepth 100000 in
theorem kFields_top (F : Nat) (t : List UInt8) (n : List UInt8) (K : V → Option V) :
 evBd oE (evFn oE kS0 F 5) F 21 [(V.agg [(V.str t), (V.str n)])] K =
 sel (ilt (llen [(V.str t), (V.str n)]) 2)
 (K (V.tup [(V.sl 9 [(Kd.str)] (some 0) []), (V.int .i64 4)]))
 (sel (ilt 2 (llen [(V.str t), (V.str n)]))
 (K (V.tup [(V.sl 9 [(Kd.str)] (some 0) []), (V.int .i64 4)]))
 (sel (band (ile 0 0) (ilt 0 (llen [(V.str t), (V.str n)])))
 (sel (band (ile 0 1) (ilt 1 (llen [(V.str t), (V.str n)])))
 (sel (bnot (ieq (or2 (nmI t) (nmI n)) 0))
 (sel (bnot (ieq (or2 (nmI t) (nmI n)) 0))
 (K (V.tup [(V.sl 9 [(Kd.str)] (some 0) []), (V.int .i64 4)]))
 (K (V.tup [(V.sl 9 [(Kd.str)] (some 0) [(V.str t), (V.str n)]), (V.int .i64 0)])))
 (sel (seq t n)
 (K (V.tup [(V.sl 9 [(Kd.str)] (some 0) []), (V.int .i64 4)]))
 (K (V.tup [(V.sl 9 [(Kd.str)] (some 0) [(V.str t), (V.str n)]), (V.int .i64 0)]))))
 (none))
 (none))) := by kernel_rfl
set_option maxRecDepth 100000 in
theorem kFields23_top (F : Nat) (t : List UInt8) (n : List UInt8) (K : V → Option V) :
 evBd oE (evFn oE kS0 F 4) F 22 [(V.agg [(V.str t), (V.str n)])] K =
 sel (ieq (nmI t) 0)
 (sel (ieq (nmI n) 0)
 (sel (bnot (bnot (seq t n)))
 (K (V.tup [(V.sl 9 [(Kd.str)] (some 0) []), (V.int .i64 4)]))
 (K (V.tup [(V.sl 9 [(Kd.str)] (some 0) [(V.str t), (V.str n)]), (V.int .i64 0)])))
 (K (V.tup [(V.sl 9 [(Kd.str)] (some 0) []), (V.int .i64 4)])))
 (K (V.tup [(V.sl 9 [(Kd.str)] (some 0) []), (V.int .i64 4)])) := by kernel_rfl
noncomputable def kStep_L0 (F : Nat) (ns : List Nat) (n : Nat) (x0 : List V) (x1 : List UInt8) (x4 : List UInt8) (x5 : Bool) (x8 : List V) (x9 : Int) (x10 : Int) (K : V → Option V) : Option V :=
 loopAt oE kS0 F 2 36 [1, 0, 1, 0] ns K n (mkSt 21 [(0, V.sl 37 [(Kd.str), (Kd.str)] none x0), (1, V.str x1), (4, V.str x4), (5, V.bool x5), (8, V.sl 37 [(Kd.str), (Kd.str)] none x8), (9, V.int .i64 x9), (10, V.int .i64 x10)] [])
set_option maxRecDepth 100000 in
theorem kStep_top (F : Nat) (xs : List V) (n : List UInt8) (K : V → Option V) :
 evBd oE (evFn oE kS0 F 2) F 36 [(V.sl 37 [(Kd.str), (Kd.str)] none xs), (V.str n)] K =
 kStep_L0 F [] F xs n [] false xs (llen xs) 0 K := by kernel_rfl
set_option maxRecDepth 100000 in
theorem kStep_L0_succ (F : Nat) (n : Nat) (x0 : List V) (x1 : List UInt8) (x4 : List UInt8) (x5 : Bool) (x8 : List V) (x9 : Int) (x10 : Int) (K : V → Option V) :
 kStep_L0 F [] (n + 1) x0 x1 x4 x5 x8 x9 x10 K =
 sel (ilt x10 x9)
 (sel (band (ile 0 x10) (ilt x10 (llen x8)))
 (sel (seq (asStr (acell (lget x8 x10) 1)) x1)
 (K (V.tup [(V.str (asStr (acell (lget x8 x10) 0))), (V.bool true)]))
 (kStep_L0 F [] n x0 x1 x4 x5 x8 x9 (iadd .i64 x10 1) K))
 (none))
 (K (V.tup [(V.str []), (V.bool false)])) := by kernel_rfl
noncomputable def kFollow23_L0 (F : Nat) (ns : List Nat) (n : Nat) (x0 : List V) (x1 : List UInt8) (x4 : List UInt8) (x5 : Int) (x6 : Int) (K : V → Option V) : Option V :=
 loopAt oE kS1 F 2 24 [1, 0, 1, 0] ns K n (mkSt 25 [(0, V.sl 37 [(Kd.str), (Kd.str)] none x0), (1, V.str x1), (4, V.str x4), (5, V.int .i64 x5), (6, V.int .i64 x6)] [])
set_option maxRecDepth 100000 in
theorem kFollow23_top (F : Nat) (xs : List V) (n : List UInt8) (K : V → Option V) :
 evBd oE (evFn oE kS1 F 2) F 24 [(V.sl 37 [(Kd.str), (Kd.str)] none xs), (V.str n)] K =
 kFollow23_L0 F [] F xs n [] 0 0 K := by kernel_rfl
set_option maxRecDepth 100000 in
theorem kFollow23_L0_succ (F : Nat) (n : Nat) (x0 : List V) (x1 : List UInt8) (x4 : List UInt8) (x5 : Int) (x6 : Int) (K : V → Option V) :
 kFollow23_L0 F [] (n + 1) x0 x1 x4 x5 x6 K =
 sel (ile x6 (llen x0))
 (sel (ile (llen x0) 4000000)
 (sel (bnot (stB x0 x1))
 (K (V.tup [(V.str x1), (V.int .i64 0)]))
 (kFollow23_L0 F [] n x0 (stT x0 x1) x4 x5 (iadd .i64 x6 1) K))
 (none))
 (K (V.tup [(V.str []), (V.int .i64 13)])) := by kernel_rfl
end Nt.Ev.Ytochbeiihhbmeaa.Lk

set_option linter.unusedVariables false
set_option linter.unusedSimpArgs false
namespace Nt.Maps
open Go Go.Maps Go.RowKit Go.WideMaps
abbrev DU := DataW Unit
def RelTo (D : DU) (f : List UInt8 → Option (List UInt8)) : Prop := ∀ (l : List UInt8) (z : DU), D.atKey (.string l) z = match f l with | none => z | some t => .lit (.string t)
def RelIn (D : DU) (f : List UInt8 → Bool) : Prop := ∀ (l : List UInt8) (z : DU), D.atKey (.string l) z = if f l = true then .lit (.bool true) else z
def entries (w : World) (b : Nat) : Nat := match w.heap[b]? with | some (.map es _) => es.size | _ => 0
def OwnTo (w : World) (P : Program) (k e : TypeId) (b n : Nat) (f : List UInt8 → Option (List UInt8)) : Prop := ∃ D : DU, w.ownsMap P k (plainElem P e) b n D ∧ RelTo D f
def OwnIn (w : World) (P : Program) (k e : TypeId) (b n : Nat) (f : List UInt8 → Bool) : Prop := ∃ D : DU, w.ownsMap P k (plainElem P e) b n D ∧ RelIn D f ∧ Maps.size D = n
variable {P : Program} {k e t : TypeId} {w : World} {b n : Nat} {f : List UInt8 → Option (List UInt8)} {g : List UInt8 → Bool}
theorem OwnTo.made (w : World) (P : Program) (k e : TypeId) : OwnTo (w.alloc (.map #[] 0)) P k e w.heap.size 0 (fun _ => none) := ⟨_, World.ownsMap_made _ _ _ _, fun _ _ => rfl⟩
theorem OwnIn.made (w : World) (P : Program) (k e : TypeId) : OwnIn (w.alloc (.map #[] 0)) P k e w.heap.size 0 (fun _ => false) := ⟨_, World.ownsMap_made _ _ _ _, fun _ _ => rfl, rfl⟩
theorem OwnTo.lt (h : OwnTo w P k e b n f) : b < w.heap.size := h.elim fun _ h => h.1.lt
theorem OwnIn.lt (h : OwnIn w P k e b n g) : b < w.heap.size := h.elim fun _ h => h.1.lt
theorem OwnTo.kept {w' : World} {row : Option Nat} (h : OwnTo w P k e b n f) (hg : w.grownBy w' row) (hne : some b ≠ row) : OwnTo w' P k e b n f := h.elim fun D h => ⟨D, h.1.kept hg hne, h.2⟩
theorem OwnIn.kept {w' : World} {row : Option Nat} (h : OwnIn w P k e b n g) (hg : w.grownBy w' row) (hne : some b ≠ row) : OwnIn w' P k e b n g := h.elim fun D h => ⟨D, h.1.kept hg hne, h.2⟩
theorem OwnTo.alloc (h : OwnTo w P k e b n f) (o : Obj) : OwnTo (w.alloc o) P k e b n f := h.elim fun D h => ⟨D, h.1.alloc o, h.2⟩
theorem OwnIn.alloc (h : OwnIn w P k e b n g) (o : Obj) : OwnIn (w.alloc o) P k e b n g := h.elim fun D h => ⟨D, h.1.alloc o, h.2⟩
theorem rel_put_to {D : DU} (hD : IsMap D) (h : RelTo D f) (l x : List UInt8) : RelTo (D.put (.string l) (.lit (.string x))) (fun y => if y = l then some x else f y) := by
  intro y z
  by_cases e : y = l
  · subst e
    rw [atKey_put_same hD (show WideAt.IsKeyLit (.string y) from trivial)]; show _ = _; simp
  · rw [atKey_put_other (fun q => e (by cases q; rfl)), h y z]; simp [e]
theorem rel_put_in {D : DU} (hD : IsMap D) (h : RelIn D g) (l : List UInt8) : RelIn (D.put (.string l) (.lit (.bool true))) (fun y => if y = l then true else g y) := by
  intro y z
  by_cases e : y = l
  · subst e
    rw [atKey_put_same hD (show WideAt.IsKeyLit (.string y) from trivial)]; show _ = _; simp
  · rw [atKey_put_other (fun q => e (by cases q; rfl)), h y z]; simp [e]
theorem has_in {D : DU} (h : RelIn D g) (l : List UInt8) : Maps.has D (.string l) = g l := by
  cases hf : g l with
  | false => exact Maps.has_false_of_atKey fun z => by rw [h l z, hf]; rfl
  | true => exact Maps.has_true_of_atKey fun z => by rw [h l z, hf]; rfl
theorem OwnIn.entries (h : OwnIn w P k e b n g) : entries w b = n := by
  obtain ⟨D, ⟨es, clock, hb, F, hs, rfl⟩, _, hn⟩ := h
  unfold Nt.Maps.entries
  rw [hb, ← hn]
  show es.size = List.length _
  rw [length_sorted]; simp
theorem has_to {D : DU} (h : RelTo D f) (l : List UInt8) : Maps.has D (.string l) = (f l).isSome := by
  cases hf : f l with
  | none => exact Maps.has_false_of_atKey fun z => by rw [h l z, hf]
  | some x => exact Maps.has_true_of_atKey fun z => by rw [h l z, hf]
theorem key_of (hk : P.underlying k = some .string) (l : List UInt8) (hl : l.length ≤ maxLen) : keyOf P k (.string ⟨l.toArray⟩) = some (.string l) := by
  have := keyOf_string_mk (P := P) hk (s := ⟨l.toArray⟩) (by simpa [ByteArray.size] using hl)
  simpa using this
section
variable {ops : Array Oper} {rest : List Oper} {o : Oper} {a : Act} {Q : Exit → Act → World → Prop}
theorem plainElem_bool_inv (he : P.underlying e = some .bool) {v : Value} {z : DU × List MemPlace} (h : plainElem P e v = some z) : ∃ x, v = .bool x ∧ z = (.lit (.bool x), []) := by
  unfold plainElem at h
  rw [he] at h
  cases v <;> simp at h
  exact ⟨_, rfl, h.symm⟩
theorem wpList_look_to (hg : o.guard = none) (m x : Operand) (t : TypeId) (hop : o.op = Op.lookup t m x true) (k e : TypeId) (hk : P.underlying k = some .string) (ht : P.underlying t = some (.map k e)) (he : P.underlying e = some .string)
    (hz : (zeroValue e).run P w = .ok (.string ⟨#[]⟩) w) (b n : Nat) (f : List UInt8 → Option (List UInt8)) (hm : a.eval m = .map (some b)) (hown : OwnTo w P k e b n f) (l : List UInt8) (hl : l.length ≤ maxLen) (hx : a.eval x = .string ⟨l.toArray⟩)
    (hK : wpList P ops Q rest (a.put o.dst (.tuple #[.string ⟨((f l).getD []).toArray⟩, .bool (f l).isSome])) w) : wpList P ops Q (o :: rest) a w := by
  obtain ⟨D, hD, hR⟩ := hown
  refine wpList_lookup_own_ok w hg m x t hop k e (string_keyed hk) ht (plainElem P e) hz (.lit (.string [])) [] (plainElem_string he (s := ⟨#[]⟩) (Nat.zero_le _)) b n D hm hD _ (.string l) hx (key_of hk l hl) fun v ps hv => ?_
  obtain ⟨s, rfl, hs, _⟩ := plainElem_string_inv he hv
  have h1 := congrArg Prod.fst hs
  simp only at h1
  rw [hR l] at h1
  rw [has_to hR]
  have h2 : s = ⟨((f l).getD []).toArray⟩ := by
    cases hf : f l with
    | none => rw [hf] at h1; simp at h1; rcases s with ⟨⟨q⟩⟩; simp at h1; subst h1; rfl
    | some x => rw [hf] at h1; simp at h1; subst h1; simp
  rw [h2]
  exact hK
theorem wpList_look_in (hg : o.guard = none) (m x : Operand) (t : TypeId) (hop : o.op = Op.lookup t m x false) (k e : TypeId) (hk : P.underlying k = some .string) (ht : P.underlying t = some (.map k e)) (he : P.underlying e = some .bool)
    (hz : (zeroValue e).run P w = .ok (.bool false) w) (b n : Nat) (g : List UInt8 → Bool) (hm : a.eval m = .map (some b)) (hown : OwnIn w P k e b n g) (l : List UInt8) (hl : l.length ≤ maxLen) (hx : a.eval x = .string ⟨l.toArray⟩)
    (hK : wpList P ops Q rest (a.put o.dst (.bool (g l))) w) : wpList P ops Q (o :: rest) a w := by
  obtain ⟨D, hD, hR, _⟩ := hown
  refine wpList_plain hg fun K' hK' => ?_
  obtain ⟨v, ps, hrun, hv⟩ := hD.lookup (string_keyed hk) ht hz (plainElem_bool he false) (key_of hk l hl)
  obtain ⟨c, rfl, hc⟩ := plainElem_bool_inv he hv
  have h1 := congrArg Prod.fst hc
  simp only at h1
  rw [hR l] at h1
  have h2 : g l = c := by cases hgl : g l <;> rw [hgl] at h1 <;> simpa using h1
  unfold Oper.wp
  simp [execOp, hop, hm, hx, hrun, Result.andThen]
  exact hK' _ _ (by rw [← h2]; exact hK)
theorem wpList_put_to (hg : o.guard = none) (m x v : Operand) (t : TypeId) (hop : o.op = Op.mapUpdate t m x v) (k e : TypeId) (hk : P.underlying k = some .string) (ht : P.underlying t = some (.map k e)) (he : P.underlying e = some .string)
    (b n : Nat) (hn : n < maxLen) (f : List UInt8 → Option (List UInt8)) (hm : a.eval m = .map (some b)) (hown : OwnTo w P k e b n f) (l s : List UInt8) (hl : l.length ≤ maxLen) (hs : s.length ≤ maxLen) (hx : a.eval x = .string ⟨l.toArray⟩) (hv : a.eval v = .string ⟨s.toArray⟩)
    (hK : ∀ w', OwnTo w' P k e b (n + 1) (fun y => if y = l then some s else f y) → w.grownBy w' (some b) → wpList P ops Q rest (a.put o.dst undef) w') : wpList P ops Q (o :: rest) a w := by
  obtain ⟨D, hD, hR⟩ := hown
  refine wpList_mapUpdate_own w hg m x v t hop k e (string_keyed hk) ht (plainElem P e) b n D hm hD hn _ _ (.string l) hx hv (key_of hk l hl) (.lit (.string s)) [] ?_ fun w' h1 h2 => hK w' ⟨_, h1, rel_put_to hD.isMap hR l s⟩ h2
  have := plainElem_string (H := Unit) he (s := ⟨s.toArray⟩) (by simpa [ByteArray.size] using hs)
  simpa using this
theorem wpList_put_in (hg : o.guard = none) (m x v : Operand) (t : TypeId) (hop : o.op = Op.mapUpdate t m x v) (k e : TypeId) (hk : P.underlying k = some .string) (ht : P.underlying t = some (.map k e)) (he : P.underlying e = some .bool)
    (b n : Nat) (hn : n < maxLen) (g : List UInt8 → Bool) (hm : a.eval m = .map (some b)) (hown : OwnIn w P k e b n g) (l : List UInt8) (hgl : g l = false) (hl : l.length ≤ maxLen) (hx : a.eval x = .string ⟨l.toArray⟩) (hv : a.eval v = .bool true)
    (hK : ∀ w', OwnIn w' P k e b (n + 1) (fun y => if y = l then true else g y) → w.grownBy w' (some b) → wpList P ops Q rest (a.put o.dst undef) w') : wpList P ops Q (o :: rest) a w := by
  obtain ⟨D, hD, hR, hn'⟩ := hown
  refine wpList_mapUpdate_own w hg m x v t hop k e (string_keyed hk) ht (plainElem P e) b n D hm hD hn _ _ (.string l) hx hv (key_of hk l hl) (.lit (.bool true)) [] (plainElem_bool he true) fun w' h1 h2 => hK w' ⟨_, h1, rel_put_in hD.isMap hR l, ?_⟩ h2
  rw [Maps.size_put (hD.tidy (string_keyed hk)), has_in hR, hgl, hn']
  rfl
end
end Nt.Maps

set_option linter.unusedVariables false
set_option linter.unusedSimpArgs false
namespace Go.Proofs.Ytochbeiihhbmeaa
open Go Go.RowKit Go.Shelf Nt Nt.Maps Nt.Ev.Ytochbeiihhbmeaa.Lk
abbrev bsOf (l : List UInt8) : Value := .string ⟨l.toArray⟩
theorem zeroS (w : World) : (zeroValue 9).run Try.prog w = .ok (.string ⟨#[]⟩) w := by kernel_rfl
theorem zeroB (w : World) : (zeroValue 4).run Try.prog w = .ok (.bool false) w := by kernel_rfl
theorem step_take (L : List (Bs × Bs)) (k : Nat) (hk : k < L.length) (y : Bs) : stepP (L.take (k + 1)) y = match stepP (L.take k) y with | some x => some x | none => if (L[k]).2 = y then some (L[k]).1 else none := by
  rw [List.take_succ_eq_append_getElem hk]
  exact step_snoc _ _ _ _
def outF (r : Option Bs) : Value := .tuple #[bsOf (r.getD []), .int .i64 (if r.isSome then 0 else 13)]
def FlAt (L : List (Bs × Bs)) (n : Bs) (met : List Bs) (x : Bs) : Prop := flP L n = rfP L (L.length + 1 - met.length) x
def FlIs (L : List (Bs × Bs)) (n : Bs) (r : Option Bs) : Prop := flP L n = r
set_option maxRecDepth 100000 in
set_option maxHeartbeats 1000000 in
theorem follow_walk (L : List (Bs × Bs)) (n : Bs) (p : Option Addr) (cap : Nat) (w : World) (hL : L.length ≤ 4000000) (hn : n.length ≤ maxLen) (hs : ∀ q ∈ L, q.1.length ≤ maxLen ∧ q.2.length ≤ maxLen)
    (hc : ∀ (j : Nat) (h : j < L.length), ∃ b off, p = some ⟨b, off, none⟩ ∧ b < w.heap.size ∧ w.cell? ⟨b, off + j * 2, none⟩ = some (bsOf (L[j]).1) ∧ w.cell? ⟨b, off + j * 2 + 1, none⟩ = some (bsOf (L[j]).2)) :
    Calls Try.prog 23 #[.slice p L.length cap, bsOf n] w fun e w' => e = .returned (outF (flP L n)) ∧ Below w.heap.size w w' := by
  have hmm := @run_makeMap Try.prog
  go_enter Try.func23, Try.ntmps23
  go_wp2
  go_loopw [17] (fun i wr => ∃ k : Nat, k ≤ L.length ∧ i = .int .i64 k ∧ OwnTo wr Try.prog 9 9 w.heap.size k (stepP (L.take k)) ∧ Below w.heap.size w wr)
    (fun i _ => L.length - (intOf i).toNat)
  case atStart => exact ⟨0, Nat.zero_le _, rfl, by simpa [stepP] using OwnTo.made w Try.prog 9 9, (Below.refl _ _).alloc (Nat.le_refl _) _⟩
  case round =>
    obtain ⟨k, hk, rfl, hown, hnx⟩ := hrel
    by_cases hlt : k < L.length
    · obtain ⟨b, off, rfl, hb, hc0, hc1⟩ := hc k hlt
      obtain ⟨t, ht⟩ : ∃ t, (L[k]).1 = t := ⟨_, rfl⟩
      obtain ⟨m, hm⟩ : ∃ m, (L[k]).2 = m := ⟨_, rfl⟩
      have hsz := hs L[k] (List.getElem_mem hlt)
      have hst := step_take L k hlt
      rw [ht, hm] at hst hsz
      rw [ht] at hc0
      rw [hm] at hc1
      have c0 := (hnx.cell hb).trans hc0
      have c1 := (hnx.cell hb).trans hc1
      clear hc0 hc1 ht hm
      have hoa : OwnTo (wr.alloc (Obj.cells #[bsOf t, bsOf m] 37)) Try.prog 9 9 w.heap.size k (stepP (L.take k)) := hown.alloc _
      have hBa : Below w.heap.size w (wr.alloc (Obj.cells #[bsOf t, bsOf m] 37)) := hnx.alloc hnx.size _
      cases hf : stepP (L.take k) m with
      | some x =>
        have hx : stepP (L.take (k + 1)) = stepP (L.take k) := by
          funext y
          rw [hst]
          cases hy : stepP (L.take k) y with
          | some z => rfl
          | none =>
            show (if m = y then some t else none) = none
            rw [if_neg (fun e => by rw [← e, hf] at hy; exact nomatch hy)]
        rw [← hx] at hoa
        have hoa := hoa.elim fun D h => (⟨D, h.1.mono (Nat.le_succ k), h.2⟩ : OwnTo _ _ _ _ _ (k + 1) _)
        clear hst
        go_wp2_with (first
          | (at_lookup; refine wpList_look_to rfl _ _ 63 rfl 9 9 Try.underlying9 Try.underlying63 Try.underlying9 (zeroS _) w.heap.size k (stepP (L.take k)) rfl (hown.alloc _) m (by first | omega | (unfold maxLen; omega)) rfl ?_; rw [hf])
          | go_in)
        exact ⟨⟨k + 1, by omega, by go_num, hoa, hBa⟩, by simp [intOf]; omega⟩
      | none =>
        have hx : stepP (L.take (k + 1)) = fun y => if y = m then some t else stepP (L.take k) y := by
          funext y
          rw [hst]
          by_cases e : y = m
          · rw [if_pos e, e, hf]; simp
          · rw [if_neg e]
            cases hy : stepP (L.take k) y with
            | some z => rfl
            | none =>
              show (if m = y then some t else none) = none
              rw [if_neg (fun e' => e e'.symm)]
        clear hst
        go_wp2_with (first
          | (at_lookup; refine wpList_look_to rfl _ _ 63 rfl 9 9 Try.underlying9 Try.underlying63 Try.underlying9 (zeroS _) w.heap.size k (stepP (L.take k)) rfl (hown.alloc _) m (by first | omega | (unfold maxLen; omega)) rfl ?_; rw [hf])
          | (at_mapUpdate; refine wpList_put_to rfl _ _ _ 63 rfl 9 9 Try.underlying9 Try.underlying63 Try.underlying9 w.heap.size k (by first | omega | (unfold maxLen; omega)) _ rfl hoa m t (by first | omega | (unfold maxLen; omega)) (by first | omega | (unfold maxLen; omega)) rfl rfl ?_)
          | go_in)
        intro w1 ho1 hg1
        rw [← hx] at ho1
        have hB1 := hBa.grown hg1 hBa.size (fun j hj => by cases hj; exact Nat.le_refl _)
        clear hoa hBa hown hnx
        go_wp2
        exact ⟨⟨k + 1, by omega, by go_num, ho1, hB1⟩, by simp [intOf]; omega⟩
    · have hkl : k = L.length := by omega
      subst hkl
      rw [List.take_of_length_le (Nat.le_refl _)] at hown
      clear hc
      go_wp2
      obtain ⟨B2, hB2⟩ : ∃ B2, wr.heap.size = B2 := ⟨_, rfl⟩
      rw [hB2]
      have hlt2 := hown.lt
      rw [hB2] at hlt2
      go_loopw [1] (fun i wq => ∃ (met : List Bs) (x : Bs), i = bsOf x ∧ MetOk L met x ∧ FlAt L n met x ∧ x.length ≤ maxLen ∧ OwnTo wq Try.prog 9 9 w.heap.size L.length (stepP L) ∧ OwnIn wq Try.prog 9 4 B2 met.length (fun y => met.contains y) ∧ Below w.heap.size w wq)
        (fun _ wq => L.length + 1 - entries wq B2)
      case atStart =>
        refine ⟨[], n, rfl, ⟨List.nodup_nil, fun m h => nomatch h⟩, rfl, hn, hown.alloc _, ?_, hnx.alloc hnx.size _⟩
        have := OwnIn.made wr Try.prog 9 4
        rw [hB2] at this
        exact this
      case round =>
        clear hown hnx hmm
        obtain ⟨met, x, rfl, hok, hfl, hxl, hto, hin, hnx⟩ := hrel
        have hle := hok.le
        cases hmx : met.contains x with
        | true =>
          have hfn : FlIs L n none := (show flP L n = _ from hfl).trans (hok.looped (by simpa using hmx) _)
          go_wp2_with (first
            | (at_lookup; refine wpList_look_in rfl _ _ 65 rfl 9 4 Try.underlying9 Try.underlying65 Try.underlying4 (zeroB _) B2 met.length (fun y => met.contains y) rfl hin x (by first | omega | (unfold maxLen; omega)) rfl ?_; rw [hmx])
            | go_in)
          go_ret2
          exact ⟨by rw [show flP L n = _ from hfn]; rfl, hnx⟩
        | false =>
          have hxm : x ∉ met := by simpa using hmx
          cases hst : stepP L x with
          | none =>
            have hfn : FlIs L n (some x) := fl_stop hok hfl hst
            go_wp2_with (first
              | (at_lookup; refine wpList_look_in rfl _ _ 65 rfl 9 4 Try.underlying9 Try.underlying65 Try.underlying4 (zeroB _) B2 met.length (fun y => met.contains y) rfl hin x (by first | omega | (unfold maxLen; omega)) rfl ?_; rw [hmx])
              | (at_mapUpdate; refine wpList_put_in rfl _ _ _ 65 rfl 9 4 Try.underlying9 Try.underlying65 Try.underlying4 B2 met.length (by first | omega | (unfold maxLen; omega)) _ rfl hin x hmx (by first | omega | (unfold maxLen; omega)) rfl rfl ?_)
              | go_in)
            intro w1 hin1 hg1
            have hto1 := hto.kept hg1 (fun e => by cases e; omega)
            have hB1 := hnx.grown hg1 hnx.size (fun j hj => by cases hj; omega)
            go_wp2_with (first
              | (at_lookup; refine wpList_look_to rfl _ _ 63 rfl 9 9 Try.underlying9 Try.underlying63 Try.underlying9 (zeroS _) w.heap.size L.length (stepP L) rfl hto1 x (by first | omega | (unfold maxLen; omega)) rfl ?_; rw [hst])
              | go_in)
            go_ret2
            exact ⟨by rw [show flP L n = _ from hfn]; rfl, hB1⟩
          | some t =>
            have hok2 := hok.step hxm hst
            have hfl2 : FlAt L n (x :: met) t := fl_go hok hfl hst
            have htl : t.length ≤ maxLen := (hs _ (step_mem hst)).1
            go_wp2_with (first
              | (at_lookup; refine wpList_look_in rfl _ _ 65 rfl 9 4 Try.underlying9 Try.underlying65 Try.underlying4 (zeroB _) B2 met.length (fun y => met.contains y) rfl hin x (by first | omega | (unfold maxLen; omega)) rfl ?_; rw [hmx])
              | (at_mapUpdate; refine wpList_put_in rfl _ _ _ 65 rfl 9 4 Try.underlying9 Try.underlying65 Try.underlying4 B2 met.length (by first | omega | (unfold maxLen; omega)) _ rfl hin x hmx (by first | omega | (unfold maxLen; omega)) rfl rfl ?_)
              | go_in)
            intro w1 hin1 hg1
            have hto1 := hto.kept hg1 (fun e => by cases e; omega)
            have hB1 := hnx.grown hg1 hnx.size (fun j hj => by cases hj; omega)
            have hin1 : OwnIn w1 Try.prog 9 4 B2 (met.length + 1) (fun y => (x :: met).contains y) := by
              refine (congrArg (OwnIn w1 Try.prog 9 4 B2 (met.length + 1)) ?_).mp hin1
              funext y
              simp [List.contains_cons]
            go_wp2_with (first
              | (at_lookup; refine wpList_look_to rfl _ _ 63 rfl 9 9 Try.underlying9 Try.underlying63 Try.underlying9 (zeroS _) w.heap.size L.length (stepP L) rfl hto1 x (by first | omega | (unfold maxLen; omega)) rfl ?_; rw [hst])
              | go_in)
            refine ⟨⟨x :: met, t, rfl, hok2, hfl2, htl, hto1, hin1, hB1⟩, ?_⟩
            rw [hin.entries, hin1.entries]
            omega
end Go.Proofs.Ytochbeiihhbmeaa

set_option linter.unusedVariables false
set_option linter.unusedSimpArgs false
set_option linter.unusedSectionVars false
namespace Nt.Ev.Ytochbeiihhbmeaa.Lk
open Go Go.RowKit Nt Nt.Num Nt.Ev.Ytochbeiihhbmeaa.Nm Go.Proofs.Ytochbeiihhbmeaa
theorem kNaS_ok (s : List UInt8) (hc : true = true) : Contract oE 34 [.str s] (.int .i64 (nmI s)) := nName_ev s
theorem kNaS_ok_noontideref21_Name (s : List UInt8) (hc : true = true) : Contract oE 35 [.str s] (.int .i64 (nmI s)) := rName_ev s
theorem kOr_ev (a b : Int) : Contract oE 33 [.sl 26 [.int .i64] none [.int .i64 a, .int .i64 b]] (.int .i64 (or2 a b)) := by
  refine contract_of_body oE_ok oS_ok 5 2 ?_
  rw [kOr_top, kOr_L0_succ, kOr_L0_succ, kOr_L0_succ]
  have e : sel (bnot (ieq a 0)) (some (V.int .i64 a)) (sel (bnot (ieq b 0)) (some (V.int .i64 b)) (some (V.int .i64 0))) = some (.int .i64 (or2 a b)) := by
    unfold or2
    simp only [sel_if, bnot_iff, ieq_iff]
    repeat' split
    all_goals first | rfl | (exfalso; omega) | (congr 2; omega)
  exact e
theorem kOrS_ok (e : Nat) (o : Option Nat) (a b : Int) (hc : true = true) : Contract oE 33 [.sl e [.int .i64] o [.int .i64 a, .int .i64 b]] (.int .i64 (or2 a b)) := by
  intro G w vs hG hg hp
  refine kOr_ev a b G w vs hG hg ?_
  obtain ⟨x, rfl, hx⟩ := PW_one hp
  refine .cons ?_ .nil
  unfold rep at hx ⊢
  exact hx
theorem kS0_ok : SOk oE kS0 := by
  unfold kS0
  refine SOk.cons (fun args r h => ?_) (SOk.cons (fun args r h => ?_) (SOk.cons (fun args r h => ?_) (SOk.nil)))
  · unfold kOrS at h
    split at h
    · simp only [Option.some.injEq, Prod.mk.injEq] at h
      obtain ⟨hc, rfl⟩ := h
      exact kOrS_ok _ _ _ _ rfl
    · cases h
  · unfold kNaS at h
    split at h
    · simp only [Option.some.injEq, Prod.mk.injEq] at h
      obtain ⟨hc, rfl⟩ := h
      exact kNaS_ok _ rfl
    · cases h
  · unfold kNaS at h
    split at h
    · simp only [Option.some.injEq, Prod.mk.injEq] at h
      obtain ⟨hc, rfl⟩ := h
      exact kNaS_ok_noontideref21_Name _ rfl
    · cases h
noncomputable def lrE (xs : List V) : Int := if llen xs < 2 then 5 else if 2 < llen xs then 6 else
  let t := asStr (acell (lget xs 0) 0); let n := asStr (acell (lget xs 1) 0)
  if or2 (nmI t) (nmI n) ≠ 0 then or2 (nmI t) (nmI n) else if t = n then 13 else 0
noncomputable def lrT (xs : List V) : List UInt8 := if lrE xs = 0 then asStr (acell (lget xs 0) 0) else []
noncomputable def lrN (xs : List V) : List UInt8 := if lrE xs = 0 then asStr (acell (lget xs 1) 0) else []
theorem or2_zero (a b : Int) : or2 a b = 0 ↔ a = 0 ∧ b = 0 := by unfold or2; simp only [sel_if, ieq_iff]; split <;> omega
theorem kRead_ev (xs : List V) : Contract oE 19 [.sl 9 [.str] none xs] (.tup [.agg [.str (lrT xs), .str (lrN xs)], .int .i64 (lrE xs)]) := by
  refine contract_of_body oE_ok kS0_ok 5 3 ?_
  rw [kRead_top]
  unfold lrT lrN
  have h0 : band (ile 0 0) (ilt 0 (llen xs)) = decide (0 < llen xs) := by rw [Bool.eq_iff_iff, band_iff, ile_iff, ilt_iff, decide_eq_true_eq]; omega
  have h1 : band (ile 0 1) (ilt 1 (llen xs)) = decide (1 < llen xs) := by rw [Bool.eq_iff_iff, band_iff, ile_iff, ilt_iff, decide_eq_true_eq]; omega
  rw [h0, h1]
  unfold lrE
  simp only [sel_if, ilt_iff, bnot_iff, ieq_iff, seq_iff, decide_eq_true_eq]
  repeat' split
  all_goals first | rfl | omega | (exfalso; omega) | skip
  all_goals simp_all
theorem kRead23_ev (xs : List V) : Contract oE 20 [.sl 9 [.str] none xs] (.tup [.agg [.str (lrT xs), .str (lrN xs)], .int .i64 (lrE xs)]) := by
  refine contract_of_body oE_ok kS0_ok 5 3 ?_
  rw [kRead23_top]
  unfold lrT lrN
  by_cases c1 : llen xs < 2
  · rw [sel_pos (ilt_t c1)]
    unfold lrE
    rw [if_pos c1]; rfl
  · rw [sel_neg (ilt_f (by omega))]
    by_cases c2 : 2 < llen xs
    · rw [sel_pos (ilt_t c2)]
      unfold lrE
      rw [if_neg c1, if_pos c2]; rfl
    · rw [sel_neg (ilt_f (by omega))]
      have e : llen xs = 2 := by omega
      rw [kRead23_L0_succ, kRead23_L0_succ, kRead23_L0_succ, e]
      have e0 : iadd .i64 0 1 = 1 := by decide +kernel
      have e1 : iadd .i64 1 1 = 2 := by decide +kernel
      rw [e0, e1]
      unfold lrE
      rw [e]
      simp only [sel_if, ilt_iff, ile_iff, band_iff, bnot_iff, ieq_iff, seq_iff, or2_zero]
      unfold or2
      simp only [sel_if, ieq_iff]
      by_cases a : nmI (asStr (acell (lget xs 0) 0)) = 0 <;> by_cases b : nmI (asStr (acell (lget xs 1) 0)) = 0 <;> by_cases c : asStr (acell (lget xs 0) 0) = asStr (acell (lget xs 1) 0)
      all_goals simp [a, b, c]
noncomputable def rgB (t n : List UInt8) : Bool := decide (nmI t = 0 ∧ nmI n = 0 ∧ t ≠ n)
theorem llen2 (t n : List UInt8) : llen [V.str t, V.str n] = 2 := rfl
theorem kRight_ev (t n : List UInt8) : Contract oE 25 [.agg [.str t, .str n]] (.bool (rgB t n)) := by
  refine contract_of_body oE_ok kS0_ok 5 4 ?_
  rw [kRight_top, llen2]
  unfold rgB
  have hb : ∀ b c : Bool, (b = true ↔ c = true) → some (V.bool b) = some (V.bool c) := fun b c h => by rw [Bool.eq_iff_iff.2 h]
  simp only [sel_if, ilt_iff, ile_iff, band_iff, bnot_iff, ieq_iff, seq_iff, or2_zero]
  repeat' split
  all_goals first | omega | skip
  all_goals (apply hb; rw [decide_eq_true_eq, ieq_iff]; simp_all [or2_zero])
theorem kRight23_ev (t n : List UInt8) : Contract oE 26 [.agg [.str t, .str n]] (.bool (rgB t n)) := by
  refine contract_of_body oE_ok kS0_ok 5 3 ?_
  rw [kRight23_top]
  unfold rgB
  have hb : ∀ b c : Bool, (b = true ↔ c = true) → some (V.bool b) = some (V.bool c) := fun b c h => by rw [Bool.eq_iff_iff.2 h]
  simp only [sel_if, ieq_iff]
  repeat' split
  all_goals (apply hb; rw [decide_eq_true_eq]; simp_all [bnot_iff, seq_iff])
noncomputable def fdL (t n : List UInt8) : List V := if rgB t n = true then [.str t, .str n] else []
noncomputable def fdE (t n : List UInt8) : Int := if rgB t n = true then 0 else 4
theorem kFields_ev (t n : List UInt8) : Contract oE 21 [.agg [.str t, .str n]] (.tup [.sl 9 [.str] (some 0) (fdL t n), .int .i64 (fdE t n)]) := by
  refine contract_of_body oE_ok kS0_ok 5 5 ?_
  rw [kFields_top, llen2]
  unfold fdL fdE rgB
  simp only [sel_if, ilt_iff, ile_iff, band_iff, bnot_iff, ieq_iff, seq_iff, or2_zero, decide_eq_true_eq]
  repeat' split
  all_goals first | rfl | omega | skip
  all_goals simp_all
theorem kFields23_ev (t n : List UInt8) : Contract oE 22 [.agg [.str t, .str n]] (.tup [.sl 9 [.str] (some 0) (fdL t n), .int .i64 (fdE t n)]) := by
  refine contract_of_body oE_ok kS0_ok 5 4 ?_
  rw [kFields23_top]
  unfold fdL fdE rgB
  simp only [sel_if, bnot_iff, ieq_iff, seq_iff, decide_eq_true_eq]
  repeat' split
  all_goals first | rfl | omega | skip
  all_goals simp_all
theorem lk_drop (xs : List V) (k : Nat) (h : k < xs.length) : (lkOf xs).drop k = (asStr (acell (lget xs (k : Int)) 0), asStr (acell (lget xs (k : Int)) 1)) :: (lkOf xs).drop (k + 1) := by
  have hl : k < (lkOf xs).length := by rw [lk_len]; exact h
  rw [List.drop_eq_getElem_cons hl, lget_nat]
  congr 1
  simp [lkOf, h]
theorem step_loop (xs : List V) (x : List UInt8) (F : Nat) (hx : xs.length ≤ 4000000) : ∀ (j k n : Nat), k + j = xs.length → j < n →
    kStep_L0 F [] n xs x [] false xs (llen xs) (k : Int) some = some (.tup [.str ((stepP ((lkOf xs).drop k) x).getD []), .bool (stepP ((lkOf xs).drop k) x).isSome]) := by
  intro j
  induction j with
  | zero =>
    intro k n hk hn
    obtain ⟨n, rfl⟩ : ∃ m, n = m + 1 := ⟨n - 1, by omega⟩
    rw [kStep_L0_succ, sel_neg (ilt_f (by rw [llen_nat]; omega)), List.drop_of_length_le (by rw [lk_len]; omega)]
    rfl
  | succ j ih =>
    intro k n hk hn
    obtain ⟨n, rfl⟩ : ∃ m, n = m + 1 := ⟨n - 1, by omega⟩
    rw [kStep_L0_succ, sel_pos (ilt_t (by rw [llen_nat]; omega)), sel_pos (by rw [band_iff, ile_iff, ilt_iff, llen_nat]; omega), lk_drop xs k (by omega)]
    unfold stepP
    by_cases e : asStr (acell (lget xs (k : Int)) 1) = x
    · rw [sel_pos (by rw [seq_iff]; exact e), if_pos e]
      rfl
    · rw [sel_neg (by rw [← Bool.not_eq_true, seq_iff]; exact e), if_neg e, iadd64 (by omega), show (k : Int) + 1 = ((k + 1 : Nat) : Int) by omega]
      exact ih (k + 1) n (by omega) (by omega)
theorem kStS_ok (xs : List V) (n : List UInt8) (hc : ile (llen xs) 4000000 = true) : Contract oE 36 [.sl 37 [.str, .str] none xs, .str n] (.tup [.str (stT xs n), .bool (stB xs n)]) := by
  rw [ile_iff, llen_nat] at hc
  refine contract_of_body oE_ok kS0_ok (xs.length + 2) 2 ?_
  rw [kStep_top]
  exact step_loop xs n _ (by omega) xs.length 0 _ (by omega) (by omega)
theorem kS1_ok : SOk oE kS1 := by
  unfold kS1
  refine SOk.cons (fun args r h => ?_) (kS0_ok)
  · unfold kStS at h
    split at h
    · simp only [Option.some.injEq, Prod.mk.injEq] at h
      obtain ⟨hc, rfl⟩ := h
      exact kStS_ok _ _ hc
    · cases h
theorem fol_loop (xs : List V) (F : Nat) (hx : xs.length ≤ 4000000) : ∀ (j i n : Nat) (x : List UInt8), i + j = xs.length + 1 → j < n →
    kFollow23_L0 F [] n xs x [] 0 (i : Int) some = some (.tup [.str ((rfP (lkOf xs) j x).getD []), .int .i64 (if (rfP (lkOf xs) j x).isSome then 0 else 13)]) := by
  intro j
  induction j with
  | zero =>
    intro i n x hk hn
    obtain ⟨n, rfl⟩ : ∃ m, n = m + 1 := ⟨n - 1, by omega⟩
    rw [kFollow23_L0_succ, sel_neg (by rw [← Bool.not_eq_true, ile_iff, llen_nat]; omega)]
    rfl
  | succ j ih =>
    intro i n x hk hn
    obtain ⟨n, rfl⟩ : ∃ m, n = m + 1 := ⟨n - 1, by omega⟩
    rw [kFollow23_L0_succ, sel_pos (by rw [ile_iff, llen_nat]; omega), sel_pos (by rw [ile_iff, llen_nat]; omega), iadd64 (by omega), show (i : Int) + 1 = ((i + 1 : Nat) : Int) by omega]
    unfold rfP stB stT
    cases h : stepP (lkOf xs) x with
    | none => rfl
    | some t =>
      rw [sel_neg (by rfl)]
      exact ih (i + 1) n t (by omega) (by omega)
theorem kFollow23_ev (xs : List V) (n : List UInt8) (hx : xs.length ≤ 4000000) : Contract oE 24 [.sl 37 [.str, .str] none xs, .str n] (.tup [.str (flT xs n), .int .i64 (flE xs n)]) := by
  refine contract_of_body oE_ok kS1_ok (xs.length + 3) 2 ?_
  rw [kFollow23_top]
  have := fol_loop xs (xs.length + 3) hx (xs.length + 1) 0 (xs.length + 3) n (by omega) (by omega)
  unfold flT flE flP
  rw [lk_len]
  exact this
theorem fits_link {x : V} (h : fitsE [.str, .str] x = true) : ∃ a b, x = .agg [.str a, .str b] := by
  unfold fitsE at h
  have hl := fitsL_len _ _ h
  cases x with
  | agg cs =>
    have h : fitsL [Kd.str, Kd.str] cs = true := h
    obtain ⟨y, t, rfl, h1, h2⟩ := fitsL_cons h
    obtain ⟨z, u, rfl, h3, h4⟩ := fitsL_cons h2
    obtain rfl := fitsL_nil h4
    obtain ⟨a, rfl⟩ := fits_str h1
    obtain ⟨b, rfl⟩ := fits_str h3
    exact ⟨a, b, rfl⟩
  | _ => exact absurd hl (by simp [V.cells])
theorem link_cells {G : Known} {w : World} (hG : GOk G w) {e : Nat} {o : Option Nat} {xs : List V} {v : Value} (h : rep G (.sl e [.str, .str] o xs) v) :
    ∃ p cap, v = .slice p (lkOf xs).length cap ∧ ∀ (j : Nat) (h : j < (lkOf xs).length), ∃ b off, p = some ⟨b, off, none⟩ ∧ b < w.heap.size ∧ w.cell? ⟨b, off + j * 2, none⟩ = some (bsOf ((lkOf xs)[j]).1) ∧ w.cell? ⟨b, off + j * 2 + 1, none⟩ = some (bsOf ((lkOf xs)[j]).2) := by
  unfold rep at h
  obtain ⟨p, cap, rfl, _, h⟩ := h
  refine ⟨p, cap, by rw [lk_len], fun j hj => ?_⟩
  rw [lk_len] at hj
  rcases h with h | ⟨b, off, l, rfl, hGb, hE⟩
  · rw [h] at hj; exact absurd hj (by simp)
  · refine ⟨b, off, rfl, known_lt hG hGb, ?_⟩
    obtain ⟨hf, u, hu, hcs⟩ := repE_get _ _ hE j _ (List.getElem?_eq_getElem hj)
    obtain ⟨a, c, hac⟩ := fits_link hf
    have hj' : j < (lkOf xs).length := by rw [lk_len]; exact hj
    have e1 : (lkOf xs)[j] = (a, c) := by
      simp only [lkOf, List.getElem_map, hac]
      rfl
    rw [e1]
    rw [hac] at hu
    unfold rep at hu
    obtain ⟨ws, rfl, hu⟩ := hu
    unfold repL at hu
    obtain ⟨v1, t1, rfl, h1, hu⟩ := hu
    unfold repL at hu
    obtain ⟨v2, t2, rfl, h2, hu⟩ := hu
    unfold repL at hu
    subst hu
    unfold rep at h1 h2
    subst h1; subst h2
    have hcs : List.take 2 (List.drop (j * 2) (List.drop off l)) = [bsOf a, bsOf c] := hcs
    have g0 := congrArg (fun q => q[0]?) hcs
    have g1 := congrArg (fun q => q[1]?) hcs
    simp only [List.getElem?_take, List.getElem?_drop] at g0 g1
    constructor
    · refine known_cell hG hGb ?_
      rw [show off + j * 2 = off + (j * 2 + 0) by omega]
      simpa using g0
    · refine known_cell hG hGb ?_
      rw [show off + j * 2 + 1 = off + (j * 2 + 1) by omega]
      simpa using g1
theorem kFollow_ev (xs : List V) (n : List UInt8) (hc : lkS xs n = true) (e : Nat) (o : Option Nat) : Contract oE 23 [.sl e [.str, .str] o xs, .str n] (.tup [.str (flT xs n), .int .i64 (flE xs n)]) := by
  obtain ⟨h1, h2, h3⟩ := lkS_iff.1 hc
  refine contract_old fun G w vs hG hg hp => ?_
  obtain ⟨x, y, rfl, hx, hy⟩ := PW_two hp
  unfold rep at hy
  subst hy
  obtain ⟨p, cap, rfl, hcl⟩ := link_cells hG hx
  refine (follow_walk (lkOf xs) n p cap w (by rw [lk_len]; omega) h2 h3 hcl).mono ?_
  rintro e w' ⟨rfl, hB⟩
  exact ⟨_, rfl, hB, res_two (same_str _) (same_int _ _)⟩
end Nt.Ev.Ytochbeiihhbmeaa.Lk

set_option linter.unusedVariables false
set_option linter.unusedSimpArgs false
set_option linter.unusedSectionVars false
namespace Nt.Ev.Ytochbeiihhbmeaa.Lk
open Go Nt.Num Go.Proofs.Ytochbeiihhbmeaa
open Nt.Ev.Ytochbeiihhbmeaa.Nm
noncomputable def xsOf : V → List V | .sl _ _ _ xs => xs | _ => []
noncomputable def isLk : V → Bool | .nilsl => true | .sl e sh o xs => e == 37 && Kd.eqL [.str, .str] sh | _ => false
noncomputable def kRdS : FSpec := fun a => match a with | [.sl 9 [.str] o xs] => some (true, .tup [.agg [.str (lrT xs), .str (lrN xs)], .int .i64 (lrE xs)]) | _ => none
noncomputable def kRgS : FSpec := fun a => match a with | [.agg [.str t, .str n]] => some (true, .bool (rgB t n)) | _ => none
noncomputable def kFdS : FSpec := fun a => match a with | [.agg [.str t, .str n]] => some (true, .tup [.sl 9 [.str] (some 0) (fdL t n), .int .i64 (fdE t n)]) | _ => none
noncomputable def kFlS : FSpec := fun a => match a with | [l, .str n] => some (band (isLk l) (lkS (xsOf l) n), .tup [.str (flT (xsOf l) n), .int .i64 (flE (xsOf l) n)]) | _ => none
noncomputable def kF2S : FSpec := fun a => match a with | [.sl 37 [.str, .str] o xs, .str n] => some (ile (llen xs) 4000000, .tup [.str (flT xs n), .int .i64 (flE xs n)]) | _ => none
noncomputable def kSmS : FSpec := fun a => match a with | [.sl 9 [.str] o xs, .sl 9 [.str] p ys] => some (ile (llen xs) 1000000000, .bool (sameL xs ys)) | _ => none
noncomputable def kLvS : FSpec := fun a => match a with | [] => some (true, .bool true) | _ => none
noncomputable def kLd : List (Nat × FSpec) := (19, kRdS) :: (20, kRdS) :: (25, kRgS) :: (26, kRgS) :: (21, kFdS) :: (22, kFdS) :: (23, kFlS) :: (24, kF2S) :: (9, kSmS) :: []
noncomputable def kL : List (Nat × FSpec) := (18, kLvS) :: kLd
noncomputable def l23T_L0 (F : Nat) (ns : List Nat) (n : Nat) (x0 : List V) (x1_0 : List UInt8) (x1_1 : List UInt8) (x2 : List V) (x3 : List UInt8) (x8 : Bool) (x44 : List V) (x45 : Int) (x46 : Int) (b5_0 : List UInt8) (b5_1 : List UInt8) (K : V → Option V) : Option V :=
 loopAt oE kL F 2 6 [1, 1, 0, 1, 0] ns K n (mkSt 125 [(0, V.sl 9 [(Kd.str)] none x0), (1, V.agg [V.str x1_0, V.str x1_1]), (2, V.sl 37 [(Kd.str), (Kd.str)] none x2), (3, V.str x3), (5, (V.box 5 0)), (8, V.bool x8), (11, V.tup []), (12, V.tup []), (13, V.tup []), (14, V.tup []), (15, V.tup []), (16, V.tup []), (17, V.tup []), (18, V.tup []), (19, V.tup []), (20, V.tup []), (21, V.tup []), (22, V.tup []), (44, V.sl 9 [(Kd.str)] none x44), (45, V.int .i64 x45), (46, V.int .i64 x46)] [(5, [V.str b5_0, V.str b5_1])])
set_option maxRecDepth 100000 in
theorem l23T_top (F : Nat) (ws : List V) (t : List UInt8) (n : List UInt8) (xs : List V) (s : List UInt8) (K : V → Option V) :
 evBd oE (evFn oE kL F 2) F 6 [(V.sl 9 [(Kd.str)] none ws), (V.agg [(V.str t), (V.str n)]), (V.sl 37 [(Kd.str), (Kd.str)] none xs), (V.str s)] K =
 sel (ilt 40 (llen ws))
 (K (V.bool true))
 (sel (ilt 60 (llen xs))
 (K (V.bool true))
 (sel (ilt 500 (slen t))
 (K (V.bool true))
 (sel (ilt 500 (slen n))
 (K (V.bool true))
 (l23T_L0 F [] F ws t n xs s false ws (llen ws) 0 t n K)))) := by kernel_rfl
set_option maxRecDepth 100000 in
theorem l23T_L0_succ (F : Nat) (n : Nat) (x0 : List V) (x1_0 : List UInt8) (x1_1 : List UInt8) (x2 : List V) (x3 : List UInt8) (x8 : Bool) (x44 : List V) (x45 : Int) (x46 : Int) (b5_0 : List UInt8) (b5_1 : List UInt8) (K : V → Option V) :
 l23T_L0 F [] (n + 1) x0 x1_0 x1_1 x2 x3 x8 x44 x45 x46 b5_0 b5_1 K =
 sel (ilt x46 x45)
 (sel (band (ile 0 x46) (ilt x46 (llen x44)))
 (sel (ilt 300 (slen (asStr (acell (lget x44 x46) 0))))
 (K (V.bool true))
 (l23T_L0 F [] n x0 x1_0 x1_1 x2 x3 x8 x44 x45 (iadd .i64 x46 1) b5_0 b5_1 K))
 (none))
 (sel (band true (lkS x2 x3))
 (sel (ile (llen x2) 4000000)
 (sel (band (seq (lrT x0) (lrT x0)) (seq (lrN x0) (lrN x0)))
 (sel (ieq (lrE x0) (lrE x0))
 (sel (ile (llen (fdL b5_0 b5_1)) 1000000000)
 (sel (sameL (fdL b5_0 b5_1) (fdL b5_0 b5_1))
 (sel (ieq (fdE b5_0 b5_1) (fdE b5_0 b5_1))
 (sel (seq (flT x2 x3) (flT x2 x3))
 (sel (ieq (flE x2 x3) (flE x2 x3))
 (sel (beq (rgB b5_0 b5_1) (rgB b5_0 b5_1))
 (K (V.bool true))
 (K (V.bool false)))
 (K (V.bool false)))
 (K (V.bool false)))
 (K (V.bool false)))
 (K (V.bool false)))
 (none))
 (K (V.bool false)))
 (K (V.bool false)))
 (none))
 (none)) := by kernel_rfl
noncomputable def l23E_L0 (F : Nat) (ns : List Nat) (n : Nat) (x0_0 : List UInt8) (x0_1 : List UInt8) (x1 : List V) (x2 : List UInt8) (x6 : Bool) (x7 : List V) (x8 : Int) (x10 : Int) (x11 : List UInt8) (x12 : Int) (x70 : List V) (x71 : Int) (x72 : Int) (b9_0 : List UInt8) (b9_1 : List UInt8) (b3_0 : List UInt8) (b3_1 : List UInt8) (K : V → Option V) : Option V :=
 loopAt oE kL F 2 7 [1, 1, 1, 1, 1, 1, 1, 0, 1, 0] ns K n (mkSt 133 [(0, V.agg [V.str x0_0, V.str x0_1]), (1, V.sl 37 [(Kd.str), (Kd.str)] none x1), (2, V.str x2), (3, (V.box 3 0)), (6, V.bool x6), (7, V.sl 9 [(Kd.str)] (some 7) x7), (8, V.int .i64 x8), (9, (V.box 9 0)), (10, V.int .i64 x10), (11, V.str x11), (12, V.int .i64 x12), (70, V.sl 37 [(Kd.str), (Kd.str)] none x70), (71, V.int .i64 x71), (72, V.int .i64 x72)] [(9, [V.str b9_0, V.str b9_1]), (3, [V.str b3_0, V.str b3_1])])
set_option maxRecDepth 100000 in
theorem l23E_top (F : Nat) (t : List UInt8) (n : List UInt8) (xs : List V) (s : List UInt8) (K : V → Option V) :
 evBd oE (evFn oE kL F 2) F 7 [(V.agg [(V.str t), (V.str n)]), (V.sl 37 [(Kd.str), (Kd.str)] none xs), (V.str s)] K =
 sel (ilt 60 (llen xs))
 (K (V.bool true))
 (sel (ilt 500 (slen t))
 (K (V.bool true))
 (sel (ilt 500 (slen n))
 (K (V.bool true))
 (sel (bnot (beq (ieq (fdE t n) 0) (rgB t n)))
 (K (V.bool false))
 (sel (ieq (fdE t n) 0)
 (sel (bnot (band (seq (lrT (fdL t n)) t) (seq (lrN (fdL t n)) n)))
 (K (V.bool false))
 (sel (bnot (ieq (lrE (fdL t n)) 0))
 (K (V.bool false))
 (sel (band true (lkS xs s))
 (l23E_L0 F [] F t n xs s false (fdL t n) (fdE t n) (lrE (fdL t n)) (flT xs s) (flE xs s) xs (llen xs) 0 (lrT (fdL t n)) (lrN (fdL t n)) t n K)
 (none))))
 (sel (band true (lkS xs s))
 (l23E_L0 F [] F t n xs s false (fdL t n) (fdE t n) (lrE (fdL t n)) (flT xs s) (flE xs s) xs (llen xs) 0 (lrT (fdL t n)) (lrN (fdL t n)) t n K)
 (none)))))) := by kernel_rfl
set_option maxRecDepth 100000 in
theorem l23E_L0_succ (F : Nat) (n : Nat) (x0_0 : List UInt8) (x0_1 : List UInt8) (x1 : List V) (x2 : List UInt8) (x6 : Bool) (x7 : List V) (x8 : Int) (x10 : Int) (x11 : List UInt8) (x12 : Int) (x70 : List V) (x71 : Int) (x72 : Int) (b9_0 : List UInt8) (b9_1 : List UInt8) (b3_0 : List UInt8) (b3_1 : List UInt8) (K : V → Option V) :
 l23E_L0 F [] (n + 1) x0_0 x0_1 x1 x2 x6 x7 x8 x10 x11 x12 x70 x71 x72 b9_0 b9_1 b3_0 b3_1 K =
 sel (ilt x72 x71)
 (sel (band (ile 0 x72) (ilt x72 (llen x70)))
 (sel (ieq x12 0)
 (sel (seq (asStr (acell (lget x70 x72) 1)) x11)
 (K (V.bool false))
 (sel (bnot (seq (asStr (acell (lget x70 x72) 1)) x2))
 (l23E_L0 F [] n x0_0 x0_1 x1 x2 x6 x7 x8 x10 x11 x12 x70 x71 (iadd .i64 x72 1) b9_0 b9_1 b3_0 b3_1 K)
 (sel (band true (lkS x1 (asStr (acell (lget x70 x72) 0))))
 (sel (okApp [] x1)
 (sel (okApp (lcat [] x1) [(V.agg [(V.str [101, 108, 115, 101]), (V.str x2)])])
 (sel (band true (lkS (lcat (lcat [] x1) [(V.agg [(V.str [101, 108, 115, 101]), (V.str x2)])]) x2))
 (sel (seq (flT x1 (asStr (acell (lget x70 x72) 0))) x11)
 (sel (ieq (flE x1 (asStr (acell (lget x70 x72) 0))) x12)
 (sel (seq (flT (lcat (lcat [] x1) [(V.agg [(V.str [101, 108, 115, 101]), (V.str x2)])]) x2) x11)
 (K (V.bool (ieq (flE (lcat (lcat [] x1) [(V.agg [(V.str [101, 108, 115, 101]), (V.str x2)])]) x2) x12)))
 (K (V.bool false)))
 (K (V.bool false)))
 (K (V.bool false)))
 (none))
 (none))
 (none))
 (none))))
 (sel (bnot (seq (asStr (acell (lget x70 x72) 1)) x2))
 (l23E_L0 F [] n x0_0 x0_1 x1 x2 x6 x7 x8 x10 x11 x12 x70 x71 (iadd .i64 x72 1) b9_0 b9_1 b3_0 b3_1 K)
 (sel (band true (lkS x1 (asStr (acell (lget x70 x72) 0))))
 (sel (okApp [] x1)
 (sel (okApp (lcat [] x1) [(V.agg [(V.str [101, 108, 115, 101]), (V.str x2)])])
 (sel (band true (lkS (lcat (lcat [] x1) [(V.agg [(V.str [101, 108, 115, 101]), (V.str x2)])]) x2))
 (sel (seq (flT x1 (asStr (acell (lget x70 x72) 0))) x11)
 (sel (ieq (flE x1 (asStr (acell (lget x70 x72) 0))) x12)
 (sel (seq (flT (lcat (lcat [] x1) [(V.agg [(V.str [101, 108, 115, 101]), (V.str x2)])]) x2) x11)
 (K (V.bool (ieq (flE (lcat (lcat [] x1) [(V.agg [(V.str [101, 108, 115, 101]), (V.str x2)])]) x2) x12)))
 (K (V.bool false)))
 (K (V.bool false)))
 (K (V.bool false)))
 (none))
 (none))
 (none))
 (none))))
 (none))
 (sel (seq x11 x2)
 (K (V.bool (ieq x12 0)))
 (K (V.bool false))) := by kernel_rfl
end Nt.Ev.Ytochbeiihhbmeaa.Lk

set_option linter.unusedVariables false
set_option linter.unusedSimpArgs false
set_option linter.unusedSectionVars false
namespace Nt.Ev.Ytochbeiihhbmeaa.Lk
open Go Go.RowKit Nt Nt.Num Nt.Ev.Ytochbeiihhbmeaa.Nm Go.Proofs.Ytochbeiihhbmeaa
theorem contract_o1 {E : Env} {f e : Nat} {sh : List Kd} {o : Option Nat} {xs : List V} {r : V} (h : Contract E f [.sl e sh none xs] r) : Contract E f [.sl e sh o xs] r := by
  intro G w vs hG hg hp
  obtain ⟨x, rfl, hx⟩ := PW_one hp
  exact h G w _ hG hg (.cons (by unfold rep at hx ⊢; exact hx) .nil)
theorem contract_o2 {E : Env} {f e : Nat} {sh : List Kd} {o : Option Nat} {xs : List V} {y r : V} (h : Contract E f [.sl e sh none xs, y] r) : Contract E f [.sl e sh o xs, y] r := by
  intro G w vs hG hg hp
  obtain ⟨a, b, rfl, hx, hy⟩ := PW_two hp
  exact h G w _ hG hg (.cons (by unfold rep at hx ⊢; exact hx) (.cons hy .nil))
theorem contract_o3 {E : Env} {f e : Nat} {sh sh' : List Kd} {e' : Nat} {o p : Option Nat} {xs ys : List V} {r : V} (h : Contract E f [.sl e sh none xs, .sl e' sh' none ys] r) : Contract E f [.sl e sh o xs, .sl e' sh' p ys] r := by
  intro G w vs hG hg hp
  obtain ⟨a, b, rfl, hx, hy⟩ := PW_two hp
  exact h G w _ hG hg (.cons (by unfold rep at hx ⊢; exact hx) (.cons (by unfold rep at hy ⊢; exact hy) .nil))
theorem kRdS_ok (o : Option Nat) (xs : List V) (hc : true = true) : Contract oE 19 [.sl 9 [.str] o xs] (.tup [.agg [.str (lrT xs), .str (lrN xs)], .int .i64 (lrE xs)]) := contract_o1 (kRead_ev xs)
theorem kRdS_ok_noontideref23_Read (o : Option Nat) (xs : List V) (hc : true = true) : Contract oE 20 [.sl 9 [.str] o xs] (.tup [.agg [.str (lrT xs), .str (lrN xs)], .int .i64 (lrE xs)]) := contract_o1 (kRead23_ev xs)
theorem kRgS_ok (t n : List UInt8) (hc : true = true) : Contract oE 25 [.agg [.str t, .str n]] (.bool (rgB t n)) := kRight_ev t n
theorem kRgS_ok_noontideref23_Right (t n : List UInt8) (hc : true = true) : Contract oE 26 [.agg [.str t, .str n]] (.bool (rgB t n)) := kRight23_ev t n
theorem kFdS_ok (t n : List UInt8) (hc : true = true) : Contract oE 21 [.agg [.str t, .str n]] (.tup [.sl 9 [.str] (some 0) (fdL t n), .int .i64 (fdE t n)]) := kFields_ev t n
theorem kFdS_ok_noontideref23_Fields (t n : List UInt8) (hc : true = true) : Contract oE 22 [.agg [.str t, .str n]] (.tup [.sl 9 [.str] (some 0) (fdL t n), .int .i64 (fdE t n)]) := kFields23_ev t n
theorem eqL_strs : ∀ {sh : List Kd}, Kd.eqL [.str, .str] sh = true → sh = [.str, .str] := by
  intro sh h
  match sh, h with
  | [.str, .str], _ => rfl
theorem kFlS_ok (l : V) (n : List UInt8) (hc : band (isLk l) (lkS (xsOf l) n) = true) : Contract oE 23 [l, .str n] (.tup [.str (flT (xsOf l) n), .int .i64 (flE (xsOf l) n)]) := by
  rw [band_iff] at hc
  obtain ⟨h1, h2⟩ := hc
  cases l with
  | sl e sh o xs =>
    have h3 : Kd.eqL [.str, .str] sh = true := by
      have h1 : (e == 37 && Kd.eqL [.str, .str] sh) = true := h1
      rw [Bool.and_eq_true] at h1
      exact h1.2
    obtain rfl := eqL_strs h3
    exact kFollow_ev xs n h2 e o
  | nilsl =>
    have := kFollow_ev [] n h2 0 none
    intro G w vs hG hg hp
    obtain ⟨a, b, rfl, hx, hy⟩ := PW_two hp
    refine this G w _ hG hg (.cons ?_ (.cons hy .nil))
    unfold rep at hx ⊢
    exact ⟨none, 0, hx, Nat.le_refl _, .inl rfl⟩
  | _ => exact nomatch h1
theorem kF2S_ok (o : Option Nat) (xs : List V) (n : List UInt8) (hc : ile (llen xs) 4000000 = true) : Contract oE 24 [.sl 37 [.str, .str] o xs, .str n] (.tup [.str (flT xs n), .int .i64 (flE xs n)]) :=
  contract_o2 (kFollow23_ev xs n (by rw [ile_iff, llen_nat] at hc; omega))
theorem kSmS_ok (o : Option Nat) (xs : List V) (p : Option Nat) (ys : List V) (hc : ile (llen xs) 1000000000 = true) : Contract oE 9 [.sl 9 [.str] o xs, .sl 9 [.str] p ys] (.bool (sameL xs ys)) :=
  contract_o3 (vSame_ev xs ys (by rw [ile_iff, llen_nat] at hc; omega))
theorem kLd_ok : SOk oE kLd := by
  unfold kLd
  refine SOk.cons (fun args r h => ?_) (SOk.cons (fun args r h => ?_) (SOk.cons (fun args r h => ?_) (SOk.cons (fun args r h => ?_) (SOk.cons (fun args r h => ?_) (SOk.cons (fun args r h => ?_) (SOk.cons (fun args r h => ?_) (SOk.cons (fun args r h => ?_) (SOk.cons (fun args r h => ?_) (SOk.nil)))))))))
  · unfold kRdS at h
    split at h
    · simp only [Option.some.injEq, Prod.mk.injEq] at h
      obtain ⟨hc, rfl⟩ := h
      exact kRdS_ok _ _ rfl
    · cases h
  · unfold kRdS at h
    split at h
    · simp only [Option.some.injEq, Prod.mk.injEq] at h
      obtain ⟨hc, rfl⟩ := h
      exact kRdS_ok_noontideref23_Read _ _ rfl
    · cases h
  · unfold kRgS at h
    split at h
    · simp only [Option.some.injEq, Prod.mk.injEq] at h
      obtain ⟨hc, rfl⟩ := h
      exact kRgS_ok _ _ rfl
    · cases h
  · unfold kRgS at h
    split at h
    · simp only [Option.some.injEq, Prod.mk.injEq] at h
      obtain ⟨hc, rfl⟩ := h
      exact kRgS_ok_noontideref23_Right _ _ rfl
    · cases h
  · unfold kFdS at h
    split at h
    · simp only [Option.some.injEq, Prod.mk.injEq] at h
      obtain ⟨hc, rfl⟩ := h
      exact kFdS_ok _ _ rfl
    · cases h
  · unfold kFdS at h
    split at h
    · simp only [Option.some.injEq, Prod.mk.injEq] at h
      obtain ⟨hc, rfl⟩ := h
      exact kFdS_ok_noontideref23_Fields _ _ rfl
    · cases h
  · unfold kFlS at h
    split at h
    · simp only [Option.some.injEq, Prod.mk.injEq] at h
      obtain ⟨hc, rfl⟩ := h
      exact kFlS_ok _ _ hc
    · cases h
  · unfold kF2S at h
    split at h
    · simp only [Option.some.injEq, Prod.mk.injEq] at h
      obtain ⟨hc, rfl⟩ := h
      exact kF2S_ok _ _ _ hc
    · cases h
  · unfold kSmS at h
    split at h
    · simp only [Option.some.injEq, Prod.mk.injEq] at h
      obtain ⟨hc, rfl⟩ := h
      exact kSmS_ok _ _ _ _ hc
    · cases h
set_option maxRecDepth 100000 in
theorem kLvS_ok (hc : true = true) : Contract oE 18 [] (.bool true) := by
  refine contract_of_body oE_ok kLd_ok 60 4 ?_
  kernel_rfl
theorem kL_ok : SOk oE kL := by
  unfold kL
  refine SOk.cons (fun args r h => ?_) (kLd_ok)
  · unfold kLvS at h
    split at h
    · simp only [Option.some.injEq, Prod.mk.injEq] at h
      obtain ⟨hc, rfl⟩ := h
      exact kLvS_ok  rfl
    · cases h
theorem rf_more {l : List (Bs × Bs)} : ∀ (j : Nat) (met : List Bs) (n : Bs), MetOk l met n → l.length - met.length ≤ j → ∀ k, l.length + 1 - met.length ≤ k → rfP l k n = rfP l (l.length + 1 - met.length) n := by
  intro j
  induction j with
  | zero =>
    intro met n h hj k hk
    have hle := h.le
    by_cases hn : n ∈ met
    · rw [h.looped hn, h.looped hn]
    · obtain ⟨k, rfl⟩ : ∃ m, k = m + 1 := ⟨k - 1, by omega⟩
      rw [show l.length + 1 - met.length = 0 + 1 by omega]
      cases hs : stepP l n with
      | none => unfold rfP; rw [hs]
      | some t =>
        have := (h.step hn hs).le
        rw [List.length_cons] at this
        omega
  | succ j ih =>
    intro met n h hj k hk
    have hle := h.le
    by_cases hn : n ∈ met
    · rw [h.looped hn, h.looped hn]
    · obtain ⟨k, rfl⟩ : ∃ m, k = m + 1 := ⟨k - 1, by omega⟩
      obtain ⟨d, hd⟩ : ∃ d, l.length + 1 - met.length = d + 1 := ⟨l.length - met.length, by omega⟩
      rw [hd]
      cases hs : stepP l n with
      | none => unfold rfP; rw [hs]
      | some t =>
        have h2 := h.step hn hs
        have := h2.le
        have := ih (n :: met) t h2 (by rw [List.length_cons]; omega) k (by rw [List.length_cons]; omega)
        unfold rfP
        rw [hs]
        show rfP l k t = rfP l d t
        rw [this, List.length_cons, show l.length + 1 - (met.length + 1) = d by omega]
theorem met_nil (l : List (Bs × Bs)) (n : Bs) : MetOk l [] n := ⟨List.nodup_nil, fun m h => nomatch h⟩
theorem fl_step {l : List (Bs × Bs)} {n t : Bs} (h : stepP l n = some t) : flP l t = flP l n := by
  have h1 := (met_nil l n).step (by simp) h
  have h2 := rf_more l.length [n] t h1 (by simp) (l.length + 1) (by simp)
  unfold flP
  rw [h2]
  conv => rhs; unfold rfP
  rw [h]
  rfl
theorem rf_end {l : List (Bs × Bs)} : ∀ (k : Nat) (n e : Bs), rfP l k n = some e → stepP l e = none := by
  intro k
  induction k with
  | zero => intro n e h; exact nomatch h
  | succ k ih =>
    intro n e h
    unfold rfP at h
    cases hs : stepP l n with
    | none => rw [hs] at h; cases h; exact hs
    | some t => rw [hs] at h; exact ih t e h
theorem step_more {l : List (Bs × Bs)} {n t : Bs} (x : Bs) (h : stepP l n = some t) (y : Bs) : stepP (l ++ [(x, n)]) y = stepP l y := by
  rw [step_snoc]
  cases hy : stepP l y with
  | some z => rfl
  | none =>
    show (if n = y then some x else none) = none
    rw [if_neg]
    intro e
    rw [← e, h] at hy
    exact nomatch hy
theorem rf_ext {l m : List (Bs × Bs)} (h : ∀ y, stepP m y = stepP l y) : ∀ (k : Nat) (n : Bs), rfP m k n = rfP l k n := by
  intro k
  induction k with
  | zero => intro n; rfl
  | succ k ih =>
    intro n
    unfold rfP
    rw [h n]
    cases stepP l n with
    | none => rfl
    | some t => exact ih t
theorem fl_more {l : List (Bs × Bs)} {n t : Bs} (x : Bs) (h : stepP l n = some t) : flP (l ++ [(x, n)]) n = flP l n := by
  unfold flP
  rw [rf_ext (step_more x h), List.length_append]
  exact rf_more l.length [] n (met_nil l n) (by simp) _ (by simp)
theorem step_none {l : List (Bs × Bs)} {n : Bs} (h : stepP l n = none) : ∀ p ∈ l, p.2 ≠ n := by
  induction l with
  | nil => intro p hp; exact nomatch hp
  | cons q r ih =>
    obtain ⟨t, m⟩ := q
    unfold stepP at h
    by_cases e : m = n
    · rw [if_pos e] at h; exact nomatch h
    · rw [if_neg e] at h
      intro p hp
      rcases List.mem_cons.1 hp with rfl | hp
      · exact e
      · exact ih h p hp
theorem step_at {l : List (Bs × Bs)} {n : Bs} : ∀ {k : Nat} (hk : k < l.length), (∀ i (hi : i < l.length), i < k → (l[i]).2 ≠ n) → (l[k]).2 = n → stepP l n = some (l[k]).1 := by
  induction l with
  | nil => intro k hk; exact absurd hk (by simp)
  | cons q r ih =>
    intro k hk h1 h2
    obtain ⟨t, m⟩ := q
    unfold stepP
    cases k with
    | zero =>
      rw [if_pos (show m = n from h2)]; rfl
    | succ k =>
      rw [if_neg (show ¬ m = n from h1 0 (by simp) (by omega))]
      exact ih (by simpa using hk) (fun i hi hik => h1 (i + 1) (by simpa using hi) (by omega)) h2
theorem step_no {l : List (Bs × Bs)} {n : Bs} (h : ∀ i (hi : i < l.length), (l[i]).2 ≠ n) : stepP l n = none := by
  cases hs : stepP l n with
  | none => rfl
  | some t =>
    obtain ⟨i, hi, e⟩ := List.getElem_of_mem (step_mem hs)
    exact absurd (by rw [e]) (h i hi)
theorem lk_snoc (xs : List V) (t n : List UInt8) : lkOf (lcat (lcat [] xs) [V.agg [.str t, .str n]]) = lkOf xs ++ [(t, n)] := by
  unfold lcat lkOf
  rw [List.nil_append, List.map_append]
  rfl
theorem lk_ok {xs : List V} {s : List UInt8} (hx : ∀ x ∈ xs, ∃ a b, x = .agg [.str a, .str b] ∧ a.length ≤ maxLen ∧ b.length ≤ maxLen) (hl : xs.length ≤ 60) (hs : s.length ≤ maxLen) : lkS xs s = true := by
  refine lkS_iff.2 ⟨by omega, hs, fun p hp => ?_⟩
  obtain ⟨x, hxm, rfl⟩ := List.mem_map.1 hp
  obtain ⟨a, b, rfl, h1, h2⟩ := hx x hxm
  exact ⟨h1, h2⟩
theorem fd_len (t n : List UInt8) : ile (llen (fdL t n)) 1000000000 = true := by
  unfold fdL
  split
  · exact ile_t (by rw [llen2]; omega)
  · decide
theorem t_loop (ws : List V) (t n : List UInt8) (xs : List V) (s : List UInt8) (x8 : Bool) (F : Nat) (hx : lkS xs s = true) (hw : ws.length ≤ 40) : ∀ (j i k : Nat), i + j = ws.length → j < k →
    l23T_L0 F [] k ws t n xs s x8 ws (llen ws) (i : Int) t n some = some (.bool true) := by
  intro j
  induction j with
  | zero =>
    intro i k h1 h2
    obtain ⟨k, rfl⟩ : ∃ m, k = m + 1 := ⟨k - 1, by omega⟩
    have hl := (lkS_iff.1 hx).1
    rw [l23T_L0_succ, sel_neg (ilt_f (by rw [llen_nat]; omega)), sel_pos (by rw [band_iff]; exact ⟨rfl, hx⟩), sel_pos (ile_t (by rw [llen_nat]; omega)), sel_pos (by rw [band_iff, seq_iff, seq_iff]; exact ⟨rfl, rfl⟩),
      sel_pos (by rw [ieq_iff]), sel_pos (fd_len t n), sel_pos (sameL_refl _), sel_pos (by rw [ieq_iff]), sel_pos (by rw [seq_iff]), sel_pos (by rw [ieq_iff]), sel_pos (by rw [beq_iff])]
  | succ j ih =>
    intro i k h1 h2
    obtain ⟨k, rfl⟩ : ∃ m, k = m + 1 := ⟨k - 1, by omega⟩
    rw [l23T_L0_succ, sel_pos (ilt_t (by rw [llen_nat]; omega)), sel_pos (by rw [band_iff, ile_iff, ilt_iff, llen_nat]; omega), sel_if]
    split
    · rfl
    · rw [iadd64 (by omega), show (i : Int) + 1 = ((i + 1 : Nat) : Int) by omega]
      exact ih (i + 1) k (by omega) (by omega)
theorem lk_T (ws : List V) (t n : List UInt8) (xs : List V) (s : List UInt8) (hx : ∀ x ∈ xs, ∃ a b, x = .agg [.str a, .str b] ∧ a.length ≤ maxLen ∧ b.length ≤ maxLen) (hs : s.length ≤ maxLen) :
    Contract oE 6 [.sl 9 [.str] none ws, .agg [.str t, .str n], .sl 37 [.str, .str] none xs, .str s] (.bool true) := by
  refine contract_of_body oE_ok kL_ok 50 2 ?_
  rw [l23T_top]
  by_cases c1 : 40 < llen ws
  · rw [sel_pos (ilt_t c1)]
  rw [sel_neg (ilt_f (by omega))]
  by_cases c2 : 60 < llen xs
  · rw [sel_pos (ilt_t c2)]
  rw [sel_neg (ilt_f (by omega)), sel_if]
  split
  · rfl
  rw [sel_if]
  split
  · rfl
  rw [llen_nat] at c1 c2
  exact t_loop ws t n xs s false _ (lk_ok hx (by omega) hs) (by omega) ws.length 0 50 (by omega) (by omega)
theorem e_loop (t n : List UInt8) (xs : List V) (s : List UInt8) (y : List V) (y1 y2 : Int) (b1 b2 b3 b4 : List UInt8) (F : Nat) (hx : ∀ x ∈ xs, ∃ a b, x = .agg [.str a, .str b] ∧ a.length ≤ maxLen ∧ b.length ≤ maxLen) (hl : xs.length ≤ 60) (hs : s.length ≤ maxLen) :
    ∀ (j i k : Nat), i + j = xs.length → j < k → (∀ q (hq : q < (lkOf xs).length), q < i → ((lkOf xs)[q]).2 ≠ s) →
    l23E_L0 F [] k t n xs s false y y1 y2 (flT xs s) (flE xs s) xs (llen xs) (i : Int) b1 b2 b3 b4 some = some (.bool true) := by
  intro j
  induction j with
  | zero =>
    intro i k h1 h2 h3
    obtain ⟨k, rfl⟩ : ∃ m, k = m + 1 := ⟨k - 1, by omega⟩
    have hno := step_no (n := s) (fun q hq => h3 q hq (by rw [lk_len] at hq; omega))
    have hf : flP (lkOf xs) s = some s := by unfold flP rfP; rw [hno]
    rw [l23E_L0_succ, sel_neg (ilt_f (by rw [llen_nat]; omega))]
    unfold flT flE
    rw [hf, sel_pos (by rw [seq_iff]; rfl)]
    rfl
  | succ j ih =>
    intro i k h1 h2 h3
    obtain ⟨k, rfl⟩ : ∃ m, k = m + 1 := ⟨k - 1, by omega⟩
    have hi : i < xs.length := by omega
    have hi' : i < (lkOf xs).length := by rw [lk_len]; exact hi
    have hd := lk_drop xs i hi
    rw [List.drop_eq_getElem_cons hi'] at hd
    have hd := (List.cons.inj hd).1
    have hb : band (ile 0 (i : Int)) (ilt (i : Int) (llen xs)) = true := by rw [band_iff, ile_iff, ilt_iff, llen_nat]; omega
    have eI : iadd .i64 (i : Int) 1 = ((i + 1 : Nat) : Int) := by rw [iadd64 (by omega)]; omega
    rw [l23E_L0_succ, sel_pos (ilt_t (by rw [llen_nat]; omega)), sel_pos hb, eI]
    obtain ⟨tg, htg⟩ : ∃ a, a = asStr (acell (lget xs (i : Int)) 0) := ⟨_, rfl⟩
    obtain ⟨nm, hnm⟩ : ∃ a, a = asStr (acell (lget xs (i : Int)) 1) := ⟨_, rfl⟩
    rw [← htg, ← hnm] at hd ⊢
    have hnext : nm ≠ s → l23E_L0 F [] k t n xs s false y y1 y2 (flT xs s) (flE xs s) xs (llen xs) ((i + 1 : Nat) : Int) b1 b2 b3 b4 some = some (.bool true) := fun hne =>
      ih (i + 1) k (by omega) (by omega) (fun q hq hqi => by
        by_cases e : q = i
        · subst e; rw [hd]; exact hne
        · exact h3 q hq (by omega))
    have hok := lk_ok hx hl hs
    have hlast : nm = s → sel (band true (lkS xs tg)) (sel (okApp [] xs) (sel (okApp (lcat [] xs) [V.agg [V.str [101, 108, 115, 101], V.str s]]) (sel (band true (lkS (lcat (lcat [] xs) [V.agg [V.str [101, 108, 115, 101], V.str s]]) s))
        (sel (seq (flT xs tg) (flT xs s)) (sel (ieq (flE xs tg) (flE xs s)) (sel (seq (flT (lcat (lcat [] xs) [V.agg [V.str [101, 108, 115, 101], V.str s]]) s) (flT xs s)) (some (V.bool (ieq (flE (lcat (lcat [] xs) [V.agg [V.str [101, 108, 115, 101], V.str s]]) s) (flE xs s)))) (some (.bool false))) (some (.bool false))) (some (.bool false))) none) none) none) none = some (.bool true) := by
      intro e
      have hst := step_at hi' (fun q hq hqi => h3 q hq hqi) (by rw [hd]; exact e)
      rw [hd] at hst
      have f1 := fl_step hst
      have f2 := fl_more [101, 108, 115, 101] hst
      have htl : tg.length ≤ maxLen := ((lkS_iff.1 hok).2.2 _ (step_mem hst)).1
      have hok3 : lkS (lcat (lcat [] xs) [V.agg [V.str [101, 108, 115, 101], V.str s]]) s = true := by
        refine lkS_iff.2 ⟨by simp [lcat]; omega, hs, fun p hp => ?_⟩
        rw [lk_snoc] at hp
        rcases List.mem_append.1 hp with hp | hp
        · exact (lkS_iff.1 hok).2.2 p hp
        · simp only [List.mem_cons, List.mem_nil_iff, or_false] at hp
          subst hp
          exact ⟨(show 4 ≤ maxLen by decide), hs⟩
      have g1 : flT xs tg = flT xs s := by unfold flT; rw [f1]
      have g2 : flE xs tg = flE xs s := by unfold flE; rw [f1]
      have g3 : flT (lcat (lcat [] xs) [V.agg [V.str [101, 108, 115, 101], V.str s]]) s = flT xs s := by unfold flT; rw [lk_snoc, f2]
      have g4 : flE (lcat (lcat [] xs) [V.agg [V.str [101, 108, 115, 101], V.str s]]) s = flE xs s := by unfold flE; rw [lk_snoc, f2]
      rw [g1, g2, g3, g4, sel_pos (by rw [band_iff]; exact ⟨rfl, lk_ok hx hl htl⟩), sel_pos (by rw [okApp_iff]; simp; omega), sel_pos (by rw [okApp_iff]; simp [lcat]; omega), sel_pos (by rw [band_iff]; exact ⟨rfl, hok3⟩),
        sel_pos (by rw [seq_iff]), sel_pos (by rw [ieq_iff]), sel_pos (by rw [seq_iff])]
      have : ieq (flE xs s) (flE xs s) = true := by rw [ieq_iff]
      rw [this]
    have hgo : sel (bnot (seq nm s)) (l23E_L0 F [] k t n xs s false y y1 y2 (flT xs s) (flE xs s) xs (llen xs) ((i + 1 : Nat) : Int) b1 b2 b3 b4 some) (sel (band true (lkS xs tg)) (sel (okApp [] xs) (sel (okApp (lcat [] xs) [V.agg [V.str [101, 108, 115, 101], V.str s]]) (sel (band true (lkS (lcat (lcat [] xs) [V.agg [V.str [101, 108, 115, 101], V.str s]]) s))
        (sel (seq (flT xs tg) (flT xs s)) (sel (ieq (flE xs tg) (flE xs s)) (sel (seq (flT (lcat (lcat [] xs) [V.agg [V.str [101, 108, 115, 101], V.str s]]) s) (flT xs s)) (some (V.bool (ieq (flE (lcat (lcat [] xs) [V.agg [V.str [101, 108, 115, 101], V.str s]]) s) (flE xs s)))) (some (.bool false))) (some (.bool false))) (some (.bool false))) none) none) none) none) = some (.bool true) := by
      by_cases e : nm = s
      · rw [sel_neg (by rw [← Bool.not_eq_true, bnot_iff, Classical.not_not, seq_iff]; exact e)]
        exact hlast e
      · rw [sel_pos (by rw [bnot_iff, seq_iff]; exact e)]
        exact hnext e
    by_cases hE : flE xs s = 0
    · rw [sel_pos (by rw [ieq_iff]; exact hE)]
      have hne : nm ≠ flT xs s := by
        intro e
        unfold flE at hE
        cases hf : flP (lkOf xs) s with
        | none => rw [hf] at hE; exact absurd hE (by decide)
        | some e' =>
          have h5 := step_none (rf_end _ _ _ hf) _ (List.getElem_mem hi')
          rw [hd] at h5
          exact h5 (by rw [e]; unfold flT; rw [hf]; rfl)
      rw [sel_neg (by rw [← Bool.not_eq_true, seq_iff]; exact hne)]
      exact hgo
    · rw [sel_neg (by rw [← Bool.not_eq_true, ieq_iff]; exact hE)]
      exact hgo
theorem lk_E (t n : List UInt8) (xs : List V) (s : List UInt8) (hx : ∀ x ∈ xs, ∃ a b, x = .agg [.str a, .str b] ∧ a.length ≤ maxLen ∧ b.length ≤ maxLen) (hs : s.length ≤ maxLen) :
    Contract oE 7 [.agg [.str t, .str n], .sl 37 [.str, .str] none xs, .str s] (.bool true) := by
  refine contract_of_body oE_ok kL_ok 70 2 ?_
  rw [l23E_top]
  by_cases c2 : 60 < llen xs
  · rw [sel_pos (ilt_t c2)]
  rw [sel_neg (ilt_f (by omega)), sel_if]
  split
  · rfl
  rw [sel_if]
  split
  · rfl
  rw [llen_nat] at c2
  have hok := lk_ok hx (by omega) hs
  have hloop := fun b1 b2 => e_loop t n xs s (fdL t n) (fdE t n) (lrE (fdL t n)) b1 b2 t n 70 hx (by omega) hs xs.length 0 70 (by omega) (by omega) (fun q hq h => absurd h (by omega))
  cases hr : rgB t n with
  | true =>
    have h1 : fdE t n = 0 := by unfold fdE; rw [if_pos hr]
    have h2 : fdL t n = [.str t, .str n] := by unfold fdL; rw [if_pos hr]
    unfold rgB at hr
    rw [decide_eq_true_eq] at hr
    have h3 : lrE [.str t, .str n] = 0 := by
      unfold lrE
      have e0 : asStr (acell (lget [V.str t, V.str n] 0) 0) = t := rfl
      have e1 : asStr (acell (lget [V.str t, V.str n] 1) 0) = n := rfl
      rw [llen2]
      simp only [e0, e1]
      rw [if_neg (by decide), if_neg (by decide), if_neg (by rw [Decidable.not_not, or2_zero]; exact ⟨hr.1, hr.2.1⟩), if_neg hr.2.2]
    have h4 : lrT [.str t, .str n] = t := by unfold lrT; rw [if_pos h3]; rfl
    have h5 : lrN [.str t, .str n] = n := by unfold lrN; rw [if_pos h3]; rfl
    have hb : bnot (beq (ieq (fdE t n) 0) true) = false := by rw [h1]; rfl
    rw [hb, sel_neg rfl, sel_pos (by rw [h1]; rfl), sel_neg (by rw [h2, h4, h5, ← Bool.not_eq_true, bnot_iff, Classical.not_not, band_iff, seq_iff, seq_iff]; exact ⟨rfl, rfl⟩), sel_neg (by rw [h2, h3]; rfl), sel_pos (by rw [band_iff]; exact ⟨rfl, hok⟩)]
    exact hloop _ _
  | false =>
    have h1 : fdE t n = 4 := by unfold fdE; rw [if_neg (by rw [hr]; decide)]
    have hb : bnot (beq (ieq (fdE t n) 0) false) = false := by rw [h1]; rfl
    rw [hb, sel_neg rfl, sel_neg (by rw [h1]; rfl), sel_pos (by rw [band_iff]; exact ⟨rfl, hok⟩)]
    exact hloop _ _
theorem links_of {P : Program} {xs : List V} (h : ∀ x ∈ xs, ∃ ys, x = .agg ys ∧ fitsL [Kd.str, Kd.str] ys = true ∧ ∀ y ∈ ys, okC P y) : ∀ x ∈ xs, ∃ a b, x = .agg [.str a, .str b] ∧ a.length ≤ maxLen ∧ b.length ≤ maxLen := by
  intro x hx
  obtain ⟨ys, rfl, h1, h2⟩ := h x hx
  obtain ⟨y, t, rfl, k1, k2⟩ := fitsL_cons h1
  obtain ⟨z, u, rfl, k3, k4⟩ := fitsL_cons k2
  obtain rfl := fitsL_nil k4
  obtain ⟨a, rfl⟩ := fits_str k1
  obtain ⟨b, rfl⟩ := fits_str k3
  have h3 := h2 (.str a) (by simp)
  have h4 := h2 (.str b) (by simp)
  unfold okC at h3 h4
  exact ⟨a, b, rfl, h3, h4⟩
theorem size_len {a : ByteArray} (h : a.size ≤ maxLen) : a.data.toList.length ≤ maxLen := by rw [Array.length_toList]; exact h
end Nt.Ev.Ytochbeiihhbmeaa.Lk
