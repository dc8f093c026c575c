/-
  Name: equations of functions, as the evaluator prints them. Names: both sides. Links: where one comes out, plain. Link: equations of functions, as the evaluator prints them. A map that a call makes, with strings as keys: string elements read as a function to Option, bool elements as a set. link.Follow, walked: a map of names, and the names that one has met. Links: both sides as contracts.
-/
import Derived.Test.YtjkfndcpiihniaaGreatDoorMC
import Derived.Test.YtjkfndcpiihniaaGreatDoorMS
import Derived.Maps.OwnSet
import Derived.Maps.OwnOps
import Derived.Maps.StringElems
import Derived.StringKeys
import Derived.WalkKit
import Derived.Maps.Own
import Derived.Test.YtjkfndcpiihniaaGreatDoorMZ
set_option linter.unusedVariables false
set_option linter.unusedSimpArgs false
set_option linter.unusedSectionVars false
namespace Nt.Ev.YtjkfndcpiihniaaGreatDoor.Nm
set_option maxRecDepth 100000
open Go Nt.Num Go.Proofs.YtjkfndcpiihniaaGreatDoor
def idxN (s : List UInt8) (c : Int) : Int := Go.Lib.indexByte s c.toNat.toUInt8
def fstC (c : UInt8) : Bool := (decide (65 ≤ c.toNat) && decide (c.toNat ≤ 90)) || (decide (97 ≤ c.toNat) && decide (c.toNat ≤ 122)) || c == 95
def othC (c : UInt8) : Bool := (decide (48 ≤ c.toNat) && decide (c.toNat ≤ 57)) || c == 45 || c == 43 || c == 47 || c == 46
def nmC (k : Nat) (c : UInt8) : Bool := fstC c || (decide (0 < k) && othC c)
def nmF : Nat → List UInt8 → Bool | _, [] => true | k, c :: t => nmC k c && nmF (k + 1) t
def nmI (s : List UInt8) : Int := if 64 < s.length then 9 else if nmF 0 s = true ∧ s ≠ [] then 0 else 10
noncomputable def nByS : FSpec := fun a => match a with | [.str s, .int .u8 c] => some (true, .int .i64 (idxN s c)) | _ => none
noncomputable def nS0 : List (Nat × FSpec) := (76, nByS) :: []
noncomputable def nName_L0 (F : Nat) (ns : List Nat) (n : Nat) (x0 : List UInt8) (x2 : Int) (x9 : List V) (x10 : Int) (x11 : Int) (K : V → Option V) : Option V :=
 loopAt oE nS0 F 2 46 [1, 1, 0, 1, 0] ns K n (mkSt 48 [(0, V.str x0), (2, V.int .i64 x2), (9, V.sl 5 [(Kd.int .u8)] none x9), (10, V.int .i64 x10), (11, V.int .i64 x11)] [])
theorem nName_top (F : Nat) (s : List UInt8) (K : V → Option V) :
 evBd oE (evFn oE nS0 F 2) F 46 [(V.str s)] K =
 sel (ilt 64 (slen s))
 (K (V.int .i64 9))
 (sel (okStr s)
 (nName_L0 F [] F s 0 (bytesV s) (llen (bytesV s)) 0 K)
 (none)) := by kernel_rfl
theorem nName_L0_succ (F : Nat) (n : Nat) (x0 : List UInt8) (x2 : Int) (x9 : List V) (x10 : Int) (x11 : Int) (K : V → Option V) :
 nName_L0 F [] (n + 1) x0 x2 x9 x10 x11 K =
 sel (ilt x11 x10)
 (sel (band (ile 0 x11) (ilt x11 (llen x9)))
 (sel (ile 97 (ibits .or .u8 (asInt (acell (lget x9 x11) 0)) 32))
 (sel (ile (ibits .or .u8 (asInt (acell (lget x9 x11) 0)) 32) 122)
 (nName_L0 F [] n x0 x2 x9 x10 (iadd .i64 x11 1) K)
 (sel (ieq (asInt (acell (lget x9 x11) 0)) 95)
 (nName_L0 F [] n x0 x2 x9 x10 (iadd .i64 x11 1) K)
 (sel (ilt 0 x11)
 (sel (ile 48 (asInt (acell (lget x9 x11) 0)))
 (sel (ile (asInt (acell (lget x9 x11) 0)) 57)
 (nName_L0 F [] n x0 x2 x9 x10 (iadd .i64 x11 1) K)
 (sel (ile 0 (idxN [45, 43, 47, 46] (asInt (acell (lget x9 x11) 0))))
 (nName_L0 F [] n x0 x2 x9 x10 (iadd .i64 x11 1) K)
 (K (V.int .i64 10))))
 (sel (ile 0 (idxN [45, 43, 47, 46] (asInt (acell (lget x9 x11) 0))))
 (nName_L0 F [] n x0 x2 x9 x10 (iadd .i64 x11 1) K)
 (K (V.int .i64 10))))
 (K (V.int .i64 10)))))
 (sel (ieq (asInt (acell (lget x9 x11) 0)) 95)
 (nName_L0 F [] n x0 x2 x9 x10 (iadd .i64 x11 1) K)
 (sel (ilt 0 x11)
 (sel (ile 48 (asInt (acell (lget x9 x11) 0)))
 (sel (ile (asInt (acell (lget x9 x11) 0)) 57)
 (nName_L0 F [] n x0 x2 x9 x10 (iadd .i64 x11 1) K)
 (sel (ile 0 (idxN [45, 43, 47, 46] (asInt (acell (lget x9 x11) 0))))
 (nName_L0 F [] n x0 x2 x9 x10 (iadd .i64 x11 1) K)
 (K (V.int .i64 10))))
 (sel (ile 0 (idxN [45, 43, 47, 46] (asInt (acell (lget x9 x11) 0))))
 (nName_L0 F [] n x0 x2 x9 x10 (iadd .i64 x11 1) K)
 (K (V.int .i64 10))))
 (K (V.int .i64 10)))))
 (none))
 (sel (seq x0 [])
 (K (V.int .i64 10))
 (K (V.int .i64 0))) := by kernel_rfl
noncomputable def nName21_L0 (F : Nat) (ns : List Nat) (n : Nat) (x0 : List UInt8) (x2 : Int) (x3 : Int) (K : V → Option V) : Option V :=
 loopAt oE nS0 F 2 25 [1, 1, 0, 1, 0] ns K n (mkSt 71 [(0, V.str x0), (2, V.int .i64 x2), (3, V.int .i64 x3)] [])
theorem nName21_top (F : Nat) (s : List UInt8) (K : V → Option V) :
 evBd oE (evFn oE nS0 F 2) F 25 [(V.str s)] K =
 sel (ilt 64 (slen s))
 (K (V.int .i64 9))
 (nName21_L0 F [] F s 0 0 K) := by kernel_rfl
theorem nName21_L0_succ (F : Nat) (n : Nat) (x0 : List UInt8) (x2 : Int) (x3 : Int) (K : V → Option V) :
 nName21_L0 F [] (n + 1) x0 x2 x3 K =
 sel (ilt x3 (slen x0))
 (sel (band (ile 0 x3) (ilt x3 (slen x0)))
 (sel (ile 65 (sat x0 x3))
 (sel (ile (sat x0 x3) 90)
 (sel (ile 48 (sat x0 x3))
 (sel (ile (sat x0 x3) 57)
 (nName21_L0 F [] n x0 x2 (iadd .i64 x3 1) K)
 (sel (ieq (sat x0 x3) 45)
 (nName21_L0 F [] n x0 x2 (iadd .i64 x3 1) K)
 (sel (ieq (sat x0 x3) 43)
 (nName21_L0 F [] n x0 x2 (iadd .i64 x3 1) K)
 (sel (ieq (sat x0 x3) 47)
 (nName21_L0 F [] n x0 x2 (iadd .i64 x3 1) K)
 (nName21_L0 F [] n x0 x2 (iadd .i64 x3 1) K)))))
 (sel (ieq (sat x0 x3) 45)
 (nName21_L0 F [] n x0 x2 (iadd .i64 x3 1) K)
 (sel (ieq (sat x0 x3) 43)
 (nName21_L0 F [] n x0 x2 (iadd .i64 x3 1) K)
 (sel (ieq (sat x0 x3) 47)
 (nName21_L0 F [] n x0 x2 (iadd .i64 x3 1) K)
 (nName21_L0 F [] n x0 x2 (iadd .i64 x3 1) K)))))
 (sel (ile 97 (sat x0 x3))
 (sel (ile (sat x0 x3) 122)
 (sel (ile 48 (sat x0 x3))
 (sel (ile (sat x0 x3) 57)
 (nName21_L0 F [] n x0 x2 (iadd .i64 x3 1) K)
 (sel (ieq (sat x0 x3) 45)
 (nName21_L0 F [] n x0 x2 (iadd .i64 x3 1) K)
 (sel (ieq (sat x0 x3) 43)
 (nName21_L0 F [] n x0 x2 (iadd .i64 x3 1) K)
 (sel (ieq (sat x0 x3) 47)
 (nName21_L0 F [] n x0 x2 (iadd .i64 x3 1) K)
 (nName21_L0 F [] n x0 x2 (iadd .i64 x3 1) K)))))
 (sel (ieq (sat x0 x3) 45)
 (nName21_L0 F [] n x0 x2 (iadd .i64 x3 1) K)
 (sel (ieq (sat x0 x3) 43)
 (nName21_L0 F [] n x0 x2 (iadd .i64 x3 1) K)
 (sel (ieq (sat x0 x3) 47)
 (nName21_L0 F [] n x0 x2 (iadd .i64 x3 1) K)
 (nName21_L0 F [] n x0 x2 (iadd .i64 x3 1) K)))))
 (sel (ile 48 (sat x0 x3))
 (sel (ile (sat x0 x3) 57)
 (sel (bnot (ieq (sat x0 x3) 95))
 (sel (ieq x3 0)
 (K (V.int .i64 10))
 (nName21_L0 F [] n x0 x2 (iadd .i64 x3 1) K))
 (nName21_L0 F [] n x0 x2 (iadd .i64 x3 1) K))
 (sel (ieq (sat x0 x3) 45)
 (sel (bnot (ieq (sat x0 x3) 95))
 (sel (ieq x3 0)
 (K (V.int .i64 10))
 (nName21_L0 F [] n x0 x2 (iadd .i64 x3 1) K))
 (nName21_L0 F [] n x0 x2 (iadd .i64 x3 1) K))
 (sel (ieq (sat x0 x3) 43)
 (sel (bnot (ieq (sat x0 x3) 95))
 (sel (ieq x3 0)
 (K (V.int .i64 10))
 (nName21_L0 F [] n x0 x2 (iadd .i64 x3 1) K))
 (nName21_L0 F [] n x0 x2 (iadd .i64 x3 1) K))
 (sel (ieq (sat x0 x3) 47)
 (sel (bnot (ieq (sat x0 x3) 95))
 (sel (ieq x3 0)
 (K (V.int .i64 10))
 (nName21_L0 F [] n x0 x2 (iadd .i64 x3 1) K))
 (nName21_L0 F [] n x0 x2 (iadd .i64 x3 1) K))
 (sel (bnot (ieq (sat x0 x3) 95))
 (sel (ieq x3 0)
 (K (V.int .i64 10))
 (sel (bnot (ieq (sat x0 x3) 46))
 (K (V.int .i64 10))
 (nName21_L0 F [] n x0 x2 (iadd .i64 x3 1) K)))
 (nName21_L0 F [] n x0 x2 (iadd .i64 x3 1) K))))))
 (sel (ieq (sat x0 x3) 45)
 (sel (bnot (ieq (sat x0 x3) 95))
 (sel (ieq x3 0)
 (K (V.int .i64 10))
 (nName21_L0 F [] n x0 x2 (iadd .i64 x3 1) K))
 (nName21_L0 F [] n x0 x2 (iadd .i64 x3 1) K))
 (sel (ieq (sat x0 x3) 43)
 (sel (bnot (ieq (sat x0 x3) 95))
 (sel (ieq x3 0)
 (K (V.int .i64 10))
 (nName21_L0 F [] n x0 x2 (iadd .i64 x3 1) K))
 (nName21_L0 F [] n x0 x2 (iadd .i64 x3 1) K))
 (sel (ieq (sat x0 x3) 47)
 (sel (bnot (ieq (sat x0 x3) 95))
 (sel (ieq x3 0)
 (K (V.int .i64 10))
 (nName21_L0 F [] n x0 x2 (iadd .i64 x3 1) K))
 (nName21_L0 F [] n x0 x2 (iadd .i64 x3 1) K))
 (sel (bnot (ieq (sat x0 x3) 95))
 (sel (ieq x3 0)
 (K (V.int .i64 10))
 (sel (bnot (ieq (sat x0 x3) 46))
 (K (V.int .i64 10))
 (nName21_L0 F [] n x0 x2 (iadd .i64 x3 1) K)))
 (nName21_L0 F [] n x0 x2 (iadd .i64 x3 1) K)))))))
 (sel (ile 48 (sat x0 x3))
 (sel (ile (sat x0 x3) 57)
 (sel (bnot (ieq (sat x0 x3) 95))
 (sel (ieq x3 0)
 (K (V.int .i64 10))
 (nName21_L0 F [] n x0 x2 (iadd .i64 x3 1) K))
 (nName21_L0 F [] n x0 x2 (iadd .i64 x3 1) K))
 (sel (ieq (sat x0 x3) 45)
 (sel (bnot (ieq (sat x0 x3) 95))
 (sel (ieq x3 0)
 (K (V.int .i64 10))
 (nName21_L0 F [] n x0 x2 (iadd .i64 x3 1) K))
 (nName21_L0 F [] n x0 x2 (iadd .i64 x3 1) K))
 (sel (ieq (sat x0 x3) 43)
 (sel (bnot (ieq (sat x0 x3) 95))
 (sel (ieq x3 0)
 (K (V.int .i64 10))
 (nName21_L0 F [] n x0 x2 (iadd .i64 x3 1) K))
 (nName21_L0 F [] n x0 x2 (iadd .i64 x3 1) K))
 (sel (ieq (sat x0 x3) 47)
 (sel (bnot (ieq (sat x0 x3) 95))
 (sel (ieq x3 0)
 (K (V.int .i64 10))
 (nName21_L0 F [] n x0 x2 (iadd .i64 x3 1) K))
 (nName21_L0 F [] n x0 x2 (iadd .i64 x3 1) K))
 (sel (bnot (ieq (sat x0 x3) 95))
 (sel (ieq x3 0)
 (K (V.int .i64 10))
 (sel (bnot (ieq (sat x0 x3) 46))
 (K (V.int .i64 10))
 (nName21_L0 F [] n x0 x2 (iadd .i64 x3 1) K)))
 (nName21_L0 F [] n x0 x2 (iadd .i64 x3 1) K))))))
 (sel (ieq (sat x0 x3) 45)
 (sel (bnot (ieq (sat x0 x3) 95))
 (sel (ieq x3 0)
 (K (V.int .i64 10))
 (nName21_L0 F [] n x0 x2 (iadd .i64 x3 1) K))
 (nName21_L0 F [] n x0 x2 (iadd .i64 x3 1) K))
 (sel (ieq (sat x0 x3) 43)
 (sel (bnot (ieq (sat x0 x3) 95))
 (sel (ieq x3 0)
 (K (V.int .i64 10))
 (nName21_L0 F [] n x0 x2 (iadd .i64 x3 1) K))
 (nName21_L0 F [] n x0 x2 (iadd .i64 x3 1) K))
 (sel (ieq (sat x0 x3) 47)
 (sel (bnot (ieq (sat x0 x3) 95))
 (sel (ieq x3 0)
 (K (V.int .i64 10))
 (nName21_L0 F [] n x0 x2 (iadd .i64 x3 1) K))
 (nName21_L0 F [] n x0 x2 (iadd .i64 x3 1) K))
 (sel (bnot (ieq (sat x0 x3) 95))
 (sel (ieq x3 0)
 (K (V.int .i64 10))
 (sel (bnot (ieq (sat x0 x3) 46))
 (K (V.int .i64 10))
 (nName21_L0 F [] n x0 x2 (iadd .i64 x3 1) K)))
 (nName21_L0 F [] n x0 x2 (iadd .i64 x3 1) K))))))))
 (sel (ile 97 (sat x0 x3))
 (sel (ile (sat x0 x3) 122)
 (sel (ile 48 (sat x0 x3))
 (sel (ile (sat x0 x3) 57)
 (nName21_L0 F [] n x0 x2 (iadd .i64 x3 1) K)
 (sel (ieq (sat x0 x3) 45)
 (nName21_L0 F [] n x0 x2 (iadd .i64 x3 1) K)
 (sel (ieq (sat x0 x3) 43)
 (nName21_L0 F [] n x0 x2 (iadd .i64 x3 1) K)
 (sel (ieq (sat x0 x3) 47)
 (nName21_L0 F [] n x0 x2 (iadd .i64 x3 1) K)
 (nName21_L0 F [] n x0 x2 (iadd .i64 x3 1) K)))))
 (sel (ieq (sat x0 x3) 45)
 (nName21_L0 F [] n x0 x2 (iadd .i64 x3 1) K)
 (sel (ieq (sat x0 x3) 43)
 (nName21_L0 F [] n x0 x2 (iadd .i64 x3 1) K)
 (sel (ieq (sat x0 x3) 47)
 (nName21_L0 F [] n x0 x2 (iadd .i64 x3 1) K)
 (nName21_L0 F [] n x0 x2 (iadd .i64 x3 1) K)))))
 (sel (ile 48 (sat x0 x3))
 (sel (ile (sat x0 x3) 57)
 (sel (bnot (ieq (sat x0 x3) 95))
 (sel (ieq x3 0)
 (K (V.int .i64 10))
 (nName21_L0 F [] n x0 x2 (iadd .i64 x3 1) K))
 (nName21_L0 F [] n x0 x2 (iadd .i64 x3 1) K))
 (sel (ieq (sat x0 x3) 45)
 (sel (bnot (ieq (sat x0 x3) 95))
 (sel (ieq x3 0)
 (K (V.int .i64 10))
 (nName21_L0 F [] n x0 x2 (iadd .i64 x3 1) K))
 (nName21_L0 F [] n x0 x2 (iadd .i64 x3 1) K))
 (sel (ieq (sat x0 x3) 43)
 (sel (bnot (ieq (sat x0 x3) 95))
 (sel (ieq x3 0)
 (K (V.int .i64 10))
 (nName21_L0 F [] n x0 x2 (iadd .i64 x3 1) K))
 (nName21_L0 F [] n x0 x2 (iadd .i64 x3 1) K))
 (sel (ieq (sat x0 x3) 47)
 (sel (bnot (ieq (sat x0 x3) 95))
 (sel (ieq x3 0)
 (K (V.int .i64 10))
 (nName21_L0 F [] n x0 x2 (iadd .i64 x3 1) K))
 (nName21_L0 F [] n x0 x2 (iadd .i64 x3 1) K))
 (sel (bnot (ieq (sat x0 x3) 95))
 (sel (ieq x3 0)
 (K (V.int .i64 10))
 (sel (bnot (ieq (sat x0 x3) 46))
 (K (V.int .i64 10))
 (nName21_L0 F [] n x0 x2 (iadd .i64 x3 1) K)))
 (nName21_L0 F [] n x0 x2 (iadd .i64 x3 1) K))))))
 (sel (ieq (sat x0 x3) 45)
 (sel (bnot (ieq (sat x0 x3) 95))
 (sel (ieq x3 0)
 (K (V.int .i64 10))
 (nName21_L0 F [] n x0 x2 (iadd .i64 x3 1) K))
 (nName21_L0 F [] n x0 x2 (iadd .i64 x3 1) K))
 (sel (ieq (sat x0 x3) 43)
 (sel (bnot (ieq (sat x0 x3) 95))
 (sel (ieq x3 0)
 (K (V.int .i64 10))
 (nName21_L0 F [] n x0 x2 (iadd .i64 x3 1) K))
 (nName21_L0 F [] n x0 x2 (iadd .i64 x3 1) K))
 (sel (ieq (sat x0 x3) 47)
 (sel (bnot (ieq (sat x0 x3) 95))
 (sel (ieq x3 0)
 (K (V.int .i64 10))
 (nName21_L0 F [] n x0 x2 (iadd .i64 x3 1) K))
 (nName21_L0 F [] n x0 x2 (iadd .i64 x3 1) K))
 (sel (bnot (ieq (sat x0 x3) 95))
 (sel (ieq x3 0)
 (K (V.int .i64 10))
 (sel (bnot (ieq (sat x0 x3) 46))
 (K (V.int .i64 10))
 (nName21_L0 F [] n x0 x2 (iadd .i64 x3 1) K)))
 (nName21_L0 F [] n x0 x2 (iadd .i64 x3 1) K)))))))
 (sel (ile 48 (sat x0 x3))
 (sel (ile (sat x0 x3) 57)
 (sel (bnot (ieq (sat x0 x3) 95))
 (sel (ieq x3 0)
 (K (V.int .i64 10))
 (nName21_L0 F [] n x0 x2 (iadd .i64 x3 1) K))
 (nName21_L0 F [] n x0 x2 (iadd .i64 x3 1) K))
 (sel (ieq (sat x0 x3) 45)
 (sel (bnot (ieq (sat x0 x3) 95))
 (sel (ieq x3 0)
 (K (V.int .i64 10))
 (nName21_L0 F [] n x0 x2 (iadd .i64 x3 1) K))
 (nName21_L0 F [] n x0 x2 (iadd .i64 x3 1) K))
 (sel (ieq (sat x0 x3) 43)
 (sel (bnot (ieq (sat x0 x3) 95))
 (sel (ieq x3 0)
 (K (V.int .i64 10))
 (nName21_L0 F [] n x0 x2 (iadd .i64 x3 1) K))
 (nName21_L0 F [] n x0 x2 (iadd .i64 x3 1) K))
 (sel (ieq (sat x0 x3) 47)
 (sel (bnot (ieq (sat x0 x3) 95))
 (sel (ieq x3 0)
 (K (V.int .i64 10))
 (nName21_L0 F [] n x0 x2 (iadd .i64 x3 1) K))
 (nName21_L0 F [] n x0 x2 (iadd .i64 x3 1) K))
 (sel (bnot (ieq (sat x0 x3) 95))
 (sel (ieq x3 0)
 (K (V.int .i64 10))
 (sel (bnot (ieq (sat x0 x3) 46))
 (K (V.int .i64 10))
 (nName21_L0 F [] n x0 x2 (iadd .i64 x3 1) K)))
 (nName21_L0 F [] n x0 x2 (iadd .i64 x3 1) K))))))
 (sel (ieq (sat x0 x3) 45)
 (sel (bnot (ieq (sat x0 x3) 95))
 (sel (ieq x3 0)
 (K (V.int .i64 10))
 (nName21_L0 F [] n x0 x2 (iadd .i64 x3 1) K))
 (nName21_L0 F [] n x0 x2 (iadd .i64 x3 1) K))
 (sel (ieq (sat x0 x3) 43)
 (sel (bnot (ieq (sat x0 x3) 95))
 (sel (ieq x3 0)
 (K (V.int .i64 10))
 (nName21_L0 F [] n x0 x2 (iadd .i64 x3 1) K))
 (nName21_L0 F [] n x0 x2 (iadd .i64 x3 1) K))
 (sel (ieq (sat x0 x3) 47)
 (sel (bnot (ieq (sat x0 x3) 95))
 (sel (ieq x3 0)
 (K (V.int .i64 10))
 (nName21_L0 F [] n x0 x2 (iadd .i64 x3 1) K))
 (nName21_L0 F [] n x0 x2 (iadd .i64 x3 1) K))
 (sel (bnot (ieq (sat x0 x3) 95))
 (sel (ieq x3 0)
 (K (V.int .i64 10))
 (sel (bnot (ieq (sat x0 x3) 46))
 (K (V.int .i64 10))
 (nName21_L0 F [] n x0 x2 (iadd .i64 x3 1) K)))
 (nName21_L0 F [] n x0 x2 (iadd .i64 x3 1) K))))))))
 (none))
 (sel (seq x0 [])
 (K (V.int .i64 10))
 (K (V.int .i64 0))) := by kernel_rfl
end Nt.Ev.YtjkfndcpiihniaaGreatDoor.Nm

namespace Nt.Ev.YtjkfndcpiihniaaGreatDoor.Nm
open Go Go.RowKit Nt Nt.Num Go.Proofs.YtjkfndcpiihniaaGreatDoor
theorem nByS_ok (s : List UInt8) (c : Int) (hc : true = true) : Contract oE 76 [.str s, .int .u8 c] (.int .i64 (idxN s c)) := by
  refine contract_old fun G w vs hG hg hp => ?_
  obtain ⟨x, y, rfl, hx, hy⟩ := PW_two hp
  unfold rep at hx hy
  subst hx; subst hy
  refine (Go.Proofs.Tryz.strings_IndexByte ⟨s.toArray⟩ c w).mono ?_
  rintro e w' ⟨rfl, rfl⟩
  exact ⟨_, rfl, .refl _ _, res_int _ _⟩
theorem nS0_ok : SOk oE nS0 := by
  unfold nS0
  refine SOk.cons (fun args r h => ?_) (SOk.nil)
  · unfold nByS at h
    split at h
    · simp only [Option.some.injEq, Prod.mk.injEq] at h
      obtain ⟨hc, rfl⟩ := h
      exact nByS_ok _ _ rfl
    · cases h
theorem ibits_letter (c : UInt8) : (ile 97 (ibits .or .u8 ((c.toNat : Nat) : Int) 32) && ile (ibits .or .u8 ((c.toNat : Nat) : Int) 32) 122) = ((decide (65 ≤ c.toNat) && decide (c.toNat ≤ 90)) || (decide (97 ≤ c.toNat) && decide (c.toNat ≤ 122))) := by
  have h : ∀ n : Fin 256, (ile 97 (ibits .or .u8 ((n.val : Nat) : Int) 32) && ile (ibits .or .u8 ((n.val : Nat) : Int) 32) 122) = ((decide (65 ≤ n.val) && decide (n.val ≤ 90)) || (decide (97 ≤ n.val) && decide (n.val ≤ 122))) := by decide +kernel
  exact h ⟨c.toNat, c.toNat_lt⟩
theorem idx_oth (c : UInt8) : ile 0 (idxN [45, 43, 47, 46] ((c.toNat : Nat) : Int)) = (c == 45 || c == 43 || c == 47 || c == 46) := by
  have h : ∀ n : Fin 256, ile 0 (idxN [45, 43, 47, 46] ((n.val : Nat) : Int)) = (UInt8.ofNat n == 45 || UInt8.ofNat n == 43 || UInt8.ofNat n == 47 || UInt8.ofNat n == 46) := by decide +kernel
  have := h ⟨c.toNat, c.toNat_lt⟩
  simpa using this
theorem u8_ieq (c d : UInt8) : ieq ((c.toNat : Nat) : Int) ((d.toNat : Nat) : Int) = (c == d) := by
  rw [Bool.eq_iff_iff, ieq_iff, beq_iff_eq, ← UInt8.toNat_inj]; omega
theorem u8_ile (c : UInt8) (a : Nat) : ile (a : Int) ((c.toNat : Nat) : Int) = decide (a ≤ c.toNat) := by
  rw [Bool.eq_iff_iff, ile_iff, decide_eq_true_eq]; omega
theorem u8_ile' (c : UInt8) (a : Nat) : ile ((c.toNat : Nat) : Int) (a : Int) = decide (c.toNat ≤ a) := by
  rw [Bool.eq_iff_iff, ile_iff, decide_eq_true_eq]; omega
theorem nName_step (s : List UInt8) (x2 : Int) (F n k : Nat) (hk : k < s.length) (hs : s.length ≤ 64) : nName_L0 F [] (n + 1) s x2 (bytesV s) (llen (bytesV s)) (k : Int) some =
    if nmC k (s[k]) = true then nName_L0 F [] n s x2 (bytesV s) (llen (bytesV s)) ((k + 1 : Nat) : Int) some else some (.int .i64 10) := by
  have hl : (bytesV s).length = s.length := by unfold bytesV; rw [List.length_map]
  have e : asInt (acell (lget (bytesV s) (k : Int)) 0) = ((s[k].toNat : Nat) : Int) := by
    rw [lget_nat]
    unfold bytesV
    rw [List.getD_eq_getElem?_getD, List.getElem?_map, List.getElem?_eq_getElem hk]
    rfl
  have e95 : ieq ((s[k].toNat : Nat) : Int) 95 = (s[k] == 95) := u8_ieq s[k] 95
  have e48 : ile 48 ((s[k].toNat : Nat) : Int) = decide (48 ≤ s[k].toNat) := u8_ile s[k] 48
  have e57 : ile ((s[k].toNat : Nat) : Int) 57 = decide (s[k].toNat ≤ 57) := u8_ile' s[k] 57
  have e0 : ilt 0 (k : Int) = decide (0 < k) := by rw [Bool.eq_iff_iff, ilt_iff, decide_eq_true_eq]; omega
  have hL := ibits_letter s[k]
  rw [nName_L0_succ, sel_pos (ilt_t (by rw [llen_nat, hl]; omega)), sel_pos (by rw [band_iff, ile_iff, ilt_iff, llen_nat, hl]; omega), e, e95, e48, e57, e0, idx_oth, iadd64 (by omega), show (k : Int) + 1 = ((k + 1 : Nat) : Int) by omega]
  unfold nmC fstC othC
  rw [← hL]
  generalize nName_L0 F [] n s x2 (bytesV s) (llen (bytesV s)) ((k + 1 : Nat) : Int) some = N
  generalize ile 97 (ibits .or .u8 ((s[k].toNat : Nat) : Int) 32) = b1
  generalize ile (ibits .or .u8 ((s[k].toNat : Nat) : Int) 32) 122 = b2
  generalize (s[k] == 95) = b3
  generalize decide (0 < k) = b4
  generalize decide (48 ≤ s[k].toNat) = b5
  generalize decide (s[k].toNat ≤ 57) = b6
  generalize (s[k] == 45) = b7
  generalize (s[k] == 43) = b8
  generalize (s[k] == 47) = b9
  generalize (s[k] == 46) = b10
  cases b1 <;> cases b2 <;> cases b3 <;> cases b4 <;> cases b5 <;> cases b6 <;> cases b7 <;> cases b8 <;> cases b9 <;> cases b10 <;> rfl
theorem nName_loop (s : List UInt8) (x2 : Int) (F : Nat) (hs : s.length ≤ 64) : ∀ (n k : Nat), k ≤ s.length → s.length - k < n →
    nName_L0 F [] n s x2 (bytesV s) (llen (bytesV s)) (k : Int) some = some (.int .i64 (if nmF k (s.drop k) = true then (if s = [] then 10 else 0) else 10)) := by
  intro n
  induction n with
  | zero => intro k _ h; omega
  | succ n ih =>
    intro k hk hn
    by_cases h : k < s.length
    · rw [nName_step s x2 F n k h hs, List.drop_eq_getElem_cons h]
      show _ = some (V.int .i64 (if (nmC k s[k] && nmF (k + 1) (s.drop (k + 1))) = true then _ else _))
      cases hc : nmC k s[k] with
      | true => rw [if_pos rfl, ih (k + 1) (by omega) (by omega), Bool.true_and]
      | false => rw [if_neg (by decide), Bool.false_and, if_neg (by decide)]
    · have hl : (bytesV s).length = s.length := by unfold bytesV; rw [List.length_map]
      rw [nName_L0_succ, sel_neg (ilt_f (by rw [llen_nat, hl]; omega)), List.drop_of_length_le (by omega), if_pos (show nmF k [] = true from rfl), sel_if]
      by_cases h0 : s = []
      · rw [if_pos (by rw [seq_iff]; exact h0), if_pos h0]
      · rw [if_neg (by rw [seq_iff]; exact h0), if_neg h0]
theorem nm_fin (s : List UInt8) : (if nmF 0 s = true then (if s = [] then (10 : Int) else 0) else 10) = if nmF 0 s = true ∧ s ≠ [] then 0 else 10 := by
  by_cases h : nmF 0 s = true
  · rw [if_pos h]
    by_cases h0 : s = []
    · rw [if_pos h0, if_neg (fun e => e.2 h0)]
    · rw [if_neg h0, if_pos ⟨h, h0⟩]
  · rw [if_neg h, if_neg (fun e => h e.1)]
theorem nName_ev (s : List UInt8) : Contract oE 46 [.str s] (.int .i64 (nmI s)) := by
  refine contract_of_body oE_ok nS0_ok 100 2 ?_
  rw [nName_top]
  unfold nmI
  by_cases h : 64 < s.length
  · rw [sel_pos (ilt_t (by rw [slen_nat]; omega)), if_pos h]
  · rw [sel_neg (ilt_f (by rw [slen_nat]; omega)), if_neg h, sel_pos (by rw [okStr_iff]; omega)]
    have := nName_loop s 0 100 (by omega) 100 0 (by omega) (by omega)
    rw [List.drop_zero, nm_fin] at this
    exact this
theorem sel_fun (f : Bool → Option V) (c a b : Bool) : sel c (f a) (f b) = f (sel c a b) := by cases c <;> rfl
theorem rName_step (s : List UInt8) (x2 : Int) (F n k : Nat) (hk : k < s.length) (hs : s.length ≤ 64) : nName21_L0 F [] (n + 1) s x2 (k : Int) some =
    if nmC k (s[k]) = true then nName21_L0 F [] n s x2 ((k + 1 : Nat) : Int) some else some (.int .i64 10) := by
  have e : sat s (k : Int) = ((s[k].toNat : Nat) : Int) := by
    rw [sat_nat, List.getD_eq_getElem?_getD, List.getElem?_eq_getElem hk]; rfl
  have hb : band (ile 0 (k : Int)) (ilt (k : Int) (slen s)) = true := by rw [band_iff, ile_iff, ilt_iff, slen_nat]; omega
  have hz : ieq (k : Int) 0 = !decide (0 < k) := by
    rw [Bool.eq_iff_iff, ieq_iff, Bool.not_eq_true', decide_eq_false_iff_not]; omega
  rw [nName21_L0_succ, sel_pos (ilt_t (by rw [slen_nat]; omega)), sel_pos hb, e, iadd64 (by omega), show (k : Int) + 1 = ((k + 1 : Nat) : Int) by omega, hz]
  unfold nmC
  generalize nName21_L0 F [] n s x2 ((k + 1 : Nat) : Int) some = N
  generalize some (V.int .i64 10) = X
  obtain ⟨f, h1, h2⟩ : ∃ f : Bool → Option V, f true = N ∧ f false = X := ⟨fun b => sel b N X, rfl, rfl⟩
  subst h1; subst h2
  have hr : ∀ b : Bool, (if b = true then f true else f false) = f b := fun b => by cases b <;> rfl
  rw [hr]
  simp only [sel_fun f]
  congr 1
  generalize decide (0 < k) = z
  generalize s[k] = c
  clear hz e hb hr
  obtain ⟨⟨m⟩⟩ := c
  revert m z
  decide +kernel
theorem rName_loop (s : List UInt8) (x2 : Int) (F : Nat) (hs : s.length ≤ 64) : ∀ (n k : Nat), k ≤ s.length → s.length - k < n →
    nName21_L0 F [] n s x2 (k : Int) some = some (.int .i64 (if nmF k (s.drop k) = true then (if s = [] then 10 else 0) else 10)) := by
  intro n
  induction n with
  | zero => intro k _ h; omega
  | succ n ih =>
    intro k hk hn
    by_cases h : k < s.length
    · rw [rName_step s x2 F n k h hs, List.drop_eq_getElem_cons h]
      show _ = some (V.int .i64 (if (nmC k s[k] && nmF (k + 1) (s.drop (k + 1))) = true then _ else _))
      cases hc : nmC k s[k] with
      | true => rw [if_pos rfl, ih (k + 1) (by omega) (by omega), Bool.true_and]
      | false => rw [if_neg (by decide), Bool.false_and, if_neg (by decide)]
    · rw [nName21_L0_succ, sel_neg (ilt_f (by rw [slen_nat]; omega)), List.drop_of_length_le (by omega), if_pos (show nmF k [] = true from rfl), sel_if]
      by_cases h0 : s = []
      · rw [if_pos (by rw [seq_iff]; exact h0), if_pos h0]
      · rw [if_neg (by rw [seq_iff]; exact h0), if_neg h0]
theorem rName_ev (s : List UInt8) : Contract oE 25 [.str s] (.int .i64 (nmI s)) := by
  refine contract_of_body oE_ok nS0_ok 100 2 ?_
  rw [nName21_top]
  unfold nmI
  by_cases h : 64 < s.length
  · rw [sel_pos (ilt_t (by rw [slen_nat]; omega)), if_pos h]
  · rw [sel_neg (ilt_f (by rw [slen_nat]; omega)), if_neg h]
    have := rName_loop s 0 100 (by omega) 100 0 (by omega) (by omega)
    rw [List.drop_zero, nm_fin] at this
    exact this
end Nt.Ev.YtjkfndcpiihniaaGreatDoor.Nm

namespace Nt.Ev.YtjkfndcpiihniaaGreatDoor.Lk
open Go Nt Nt.Num
abbrev Bs := List UInt8
def stepP : List (Bs × Bs) → Bs → Option Bs
  | [], _ => none
  | (t, m) :: r, n => if m = n then some t else stepP r n
def MetOk (l : List (Bs × Bs)) (met : List Bs) (n : Bs) : Prop := met.Nodup ∧ ∀ m ∈ met, ∃ t, stepP l m = some t ∧ (t ∈ met ∨ t = n)
theorem MetOk.step {l : List (Bs × Bs)} {met : List Bs} {n t : Bs} (h : MetOk l met n) (hn : n ∉ met) (ht : stepP l n = some t) : MetOk l (n :: met) t := by
  refine ⟨List.nodup_cons.2 ⟨hn, h.1⟩, fun m hm => ?_⟩
  rcases List.mem_cons.1 hm with rfl | hm
  · exact ⟨t, ht, .inr rfl⟩
  · obtain ⟨u, hu, h1 | h1⟩ := h.2 m hm
    · exact ⟨u, hu, .inl (List.mem_cons_of_mem _ h1)⟩
    · exact ⟨u, hu, .inl (h1 ▸ by simp)⟩
end Nt.Ev.YtjkfndcpiihniaaGreatDoor.Lk

namespace Nt.Ev.YtjkfndcpiihniaaGreatDoor.Lk
set_option maxRecDepth 100000
open Go Nt.Num Go.Proofs.YtjkfndcpiihniaaGreatDoor
open Nt.Ev.YtjkfndcpiihniaaGreatDoor.Nm
noncomputable def kNaS : FSpec := fun a => match a with | [.str s] => some (true, .int .i64 (nmI s)) | _ => none
def or2 (a b : Int) : Int := sel (ieq a 0) b a
noncomputable def kOrS : FSpec := fun a => match a with | [.sl e [.int .i64] o [.int .i64 a, .int .i64 b]] => some (true, .int .i64 (or2 a b)) | _ => none
noncomputable def kS0 : List (Nat × FSpec) := (43, kOrS) :: (46, kNaS) :: (25, kNaS) :: []
noncomputable def kS1 : List (Nat × FSpec) := kS0
noncomputable def kOr_L0 (F : Nat) (ns : List Nat) (n : Nat) (x0 : List V) (x2 : Int) (x6 : List V) (x7 : Int) (x8 : Int) (K : V → Option V) : Option V :=
 loopAt oE oS F 2 43 [1, 1, 0, 1, 0] ns K n (mkSt 18 [(0, V.sl 29 [(Kd.int .i64)] none x0), (2, V.int .i64 x2), (3, V.int .i64 0), (6, V.sl 29 [(Kd.int .i64)] none x6), (7, V.int .i64 x7), (8, V.int .i64 x8)] [])
theorem kOr_top (F : Nat) (a : Int) (b : Int) (K : V → Option V) :
 evBd oE (evFn oE oS F 2) F 43 [(V.sl 29 [(Kd.int .i64)] none [(V.int .i64 a), (V.int .i64 b)])] K =
 kOr_L0 F [] F [(V.int .i64 a), (V.int .i64 b)] 0 [(V.int .i64 a), (V.int .i64 b)] (llen [(V.int .i64 a), (V.int .i64 b)]) 0 K := by kernel_rfl
theorem kOr_L0_succ (F : Nat) (n : Nat) (x0 : List V) (x2 : Int) (x6 : List V) (x7 : Int) (x8 : Int) (K : V → Option V) :
 kOr_L0 F [] (n + 1) x0 x2 x6 x7 x8 K =
 sel (ilt x8 x7)
 (sel (band (ile 0 x8) (ilt x8 (llen x6)))
 (sel (bnot (ieq (asInt (acell (lget x6 x8) 0)) 0))
 (K (V.int .i64 (asInt (acell (lget x6 x8) 0))))
 (kOr_L0 F [] n x0 x2 x6 x7 (iadd .i64 x8 1) K))
 (none))
 (K (V.int .i64 0)) := by kernel_rfl
theorem kRight23_top (F : Nat) (t : List UInt8) (n : List UInt8) (K : V → Option V) :
 evBd oE (evFn oE kS0 F 3) F 27 [(V.agg [(V.str t), (V.str n)])] K =
 sel (ieq (nmI t) 0)
 (sel (ieq (nmI n) 0)
 (K (V.bool (bnot (seq t n))))
 (K (V.bool false)))
 (K (V.bool false)) := by kernel_rfl
theorem kFields_top (F : Nat) (t : List UInt8) (n : List UInt8) (K : V → Option V) :
 evBd oE (evFn oE kS0 F 5) F 18 [(V.agg [(V.str t), (V.str n)])] K =
 sel (ilt (llen [(V.str t), (V.str n)]) 2)
 (K (V.tup [(V.sl 9 [(Kd.str)] (some 0) []), (V.int .i64 4)]))
 (sel (ilt 2 (llen [(V.str t), (V.str n)]))
 (K (V.tup [(V.sl 9 [(Kd.str)] (some 0) []), (V.int .i64 4)]))
 (sel (band (ile 0 0) (ilt 0 (llen [(V.str t), (V.str n)])))
 (sel (band (ile 0 1) (ilt 1 (llen [(V.str t), (V.str n)])))
 (sel (bnot (ieq (or2 (nmI t) (nmI n)) 0))
 (sel (bnot (ieq (or2 (nmI t) (nmI n)) 0))
 (K (V.tup [(V.sl 9 [(Kd.str)] (some 0) []), (V.int .i64 4)]))
 (K (V.tup [(V.sl 9 [(Kd.str)] (some 0) [(V.str t), (V.str n)]), (V.int .i64 0)])))
 (sel (seq t n)
 (K (V.tup [(V.sl 9 [(Kd.str)] (some 0) []), (V.int .i64 4)]))
 (K (V.tup [(V.sl 9 [(Kd.str)] (some 0) [(V.str t), (V.str n)]), (V.int .i64 0)]))))
 (none))
 (none))) := by kernel_rfl
theorem kFields23_top (F : Nat) (t : List UInt8) (n : List UInt8) (K : V → Option V) :
 evBd oE (evFn oE kS0 F 4) F 23 [(V.agg [(V.str t), (V.str n)])] K =
 sel (ieq (nmI t) 0)
 (sel (ieq (nmI n) 0)
 (sel (bnot (bnot (seq t n)))
 (K (V.tup [(V.sl 9 [(Kd.str)] (some 0) []), (V.int .i64 4)]))
 (K (V.tup [(V.sl 9 [(Kd.str)] (some 0) [(V.str t), (V.str n)]), (V.int .i64 0)])))
 (K (V.tup [(V.sl 9 [(Kd.str)] (some 0) []), (V.int .i64 4)])))
 (K (V.tup [(V.sl 9 [(Kd.str)] (some 0) []), (V.int .i64 4)])) := by kernel_rfl
end Nt.Ev.YtjkfndcpiihniaaGreatDoor.Lk

namespace Nt.Maps
open Go Go.Maps Go.RowKit Go.WideMaps
abbrev DU := DataW Unit
def RelTo (D : DU) (f : List UInt8 → Option (List UInt8)) : Prop := ∀ (l : List UInt8) (z : DU), D.atKey (.string l) z = match f l with | none => z | some t => .lit (.string t)
def RelIn (D : DU) (f : List UInt8 → Bool) : Prop := ∀ (l : List UInt8) (z : DU), D.atKey (.string l) z = if f l = true then .lit (.bool true) else z
def OwnTo (w : World) (P : Program) (k e : TypeId) (b n : Nat) (f : List UInt8 → Option (List UInt8)) : Prop := ∃ D : DU, w.ownsMap P k (plainElem P e) b n D ∧ RelTo D f
def OwnIn (w : World) (P : Program) (k e : TypeId) (b n : Nat) (f : List UInt8 → Bool) : Prop := ∃ D : DU, w.ownsMap P k (plainElem P e) b n D ∧ RelIn D f ∧ Maps.size D = n
variable {P : Program} {k e t : TypeId} {w : World} {b n : Nat} {f : List UInt8 → Option (List UInt8)} {g : List UInt8 → Bool}
theorem OwnTo.lt (h : OwnTo w P k e b n f) : b < w.heap.size := h.elim fun _ h => h.1.lt
theorem OwnIn.lt (h : OwnIn w P k e b n g) : b < w.heap.size := h.elim fun _ h => h.1.lt
theorem OwnTo.alloc (h : OwnTo w P k e b n f) (o : Obj) : OwnTo (w.alloc o) P k e b n f := h.elim fun D h => ⟨D, h.1.alloc o, h.2⟩
theorem OwnIn.alloc (h : OwnIn w P k e b n g) (o : Obj) : OwnIn (w.alloc o) P k e b n g := h.elim fun D h => ⟨D, h.1.alloc o, h.2⟩
theorem OwnTo.setCell (h : OwnTo w P k e b n f) {a : Addr} (ha : b ≠ a.block) (u : Value) : OwnTo (w.setCell a u) P k e b n f := h.elim fun D h => ⟨D, h.1.setCell ha u, h.2⟩
theorem OwnIn.setCell (h : OwnIn w P k e b n g) {a : Addr} (ha : b ≠ a.block) (u : Value) : OwnIn (w.setCell a u) P k e b n g := h.elim fun D h => ⟨D, h.1.setCell ha u, h.2⟩
section
variable {ops : Array Oper} {rest : List Oper} {o : Oper} {a : Act} {Q : Exit → Act → World → Prop}
end
end Nt.Maps

namespace Go.Proofs.YtjkfndcpiihniaaGreatDoor
open Go Go.RowKit Go.Shelf Nt Nt.Maps Nt.Ev.YtjkfndcpiihniaaGreatDoor.Lk
end Go.Proofs.YtjkfndcpiihniaaGreatDoor

namespace Nt.Ev.YtjkfndcpiihniaaGreatDoor.Lk
open Go Go.RowKit Nt Nt.Num Nt.Ev.YtjkfndcpiihniaaGreatDoor.Nm Go.Proofs.YtjkfndcpiihniaaGreatDoor
theorem kNaS_ok (s : List UInt8) (hc : true = true) : Contract oE 46 [.str s] (.int .i64 (nmI s)) := nName_ev s
theorem kNaS_ok_noontideref21_Name (s : List UInt8) (hc : true = true) : Contract oE 25 [.str s] (.int .i64 (nmI s)) := rName_ev s
theorem kOr_ev (a b : Int) : Contract oE 43 [.sl 29 [.int .i64] none [.int .i64 a, .int .i64 b]] (.int .i64 (or2 a b)) := by
  refine contract_of_body oE_ok oS_ok 5 2 ?_
  rw [kOr_top, kOr_L0_succ, kOr_L0_succ, kOr_L0_succ]
  have e : sel (bnot (ieq a 0)) (some (V.int .i64 a)) (sel (bnot (ieq b 0)) (some (V.int .i64 b)) (some (V.int .i64 0))) = some (.int .i64 (or2 a b)) := by
    unfold or2
    simp only [sel_if, bnot_iff, ieq_iff]
    repeat' split
    all_goals first | rfl | (exfalso; omega) | (congr 2; omega)
  exact e
theorem kOrS_ok (e : Nat) (o : Option Nat) (a b : Int) (hc : true = true) : Contract oE 43 [.sl e [.int .i64] o [.int .i64 a, .int .i64 b]] (.int .i64 (or2 a b)) := by
  intro G w vs hG hg hp
  refine kOr_ev a b G w vs hG hg ?_
  obtain ⟨x, rfl, hx⟩ := PW_one hp
  refine .cons ?_ .nil
  unfold rep at hx ⊢
  exact hx
theorem kS0_ok : SOk oE kS0 := by
  unfold kS0
  refine SOk.cons (fun args r h => ?_) (SOk.cons (fun args r h => ?_) (SOk.cons (fun args r h => ?_) (SOk.nil)))
  · unfold kOrS at h
    split at h
    · simp only [Option.some.injEq, Prod.mk.injEq] at h
      obtain ⟨hc, rfl⟩ := h
      exact kOrS_ok _ _ _ _ rfl
    · cases h
  · unfold kNaS at h
    split at h
    · simp only [Option.some.injEq, Prod.mk.injEq] at h
      obtain ⟨hc, rfl⟩ := h
      exact kNaS_ok _ rfl
    · cases h
  · unfold kNaS at h
    split at h
    · simp only [Option.some.injEq, Prod.mk.injEq] at h
      obtain ⟨hc, rfl⟩ := h
      exact kNaS_ok_noontideref21_Name _ rfl
    · cases h
theorem or2_zero (a b : Int) : or2 a b = 0 ↔ a = 0 ∧ b = 0 := by unfold or2; simp only [sel_if, ieq_iff]; split <;> omega
noncomputable def rgB (t n : List UInt8) : Bool := decide (nmI t = 0 ∧ nmI n = 0 ∧ t ≠ n)
theorem llen2 (t n : List UInt8) : llen [V.str t, V.str n] = 2 := rfl
theorem kRight23_ev (t n : List UInt8) : Contract oE 27 [.agg [.str t, .str n]] (.bool (rgB t n)) := by
  refine contract_of_body oE_ok kS0_ok 5 3 ?_
  rw [kRight23_top]
  unfold rgB
  have hb : ∀ b c : Bool, (b = true ↔ c = true) → some (V.bool b) = some (V.bool c) := fun b c h => by rw [Bool.eq_iff_iff.2 h]
  simp only [sel_if, ieq_iff]
  repeat' split
  all_goals (apply hb; rw [decide_eq_true_eq]; simp_all [bnot_iff, seq_iff])
noncomputable def fdL (t n : List UInt8) : List V := if rgB t n = true then [.str t, .str n] else []
noncomputable def fdE (t n : List UInt8) : Int := if rgB t n = true then 0 else 4
theorem kFields_ev (t n : List UInt8) : Contract oE 18 [.agg [.str t, .str n]] (.tup [.sl 9 [.str] (some 0) (fdL t n), .int .i64 (fdE t n)]) := by
  refine contract_of_body oE_ok kS0_ok 5 5 ?_
  rw [kFields_top, llen2]
  unfold fdL fdE rgB
  simp only [sel_if, ilt_iff, ile_iff, band_iff, bnot_iff, ieq_iff, seq_iff, or2_zero, decide_eq_true_eq]
  repeat' split
  all_goals first | rfl | omega | skip
  all_goals simp_all
theorem kFields23_ev (t n : List UInt8) : Contract oE 23 [.agg [.str t, .str n]] (.tup [.sl 9 [.str] (some 0) (fdL t n), .int .i64 (fdE t n)]) := by
  refine contract_of_body oE_ok kS0_ok 5 4 ?_
  rw [kFields23_top]
  unfold fdL fdE rgB
  simp only [sel_if, bnot_iff, ieq_iff, seq_iff, decide_eq_true_eq]
  repeat' split
  all_goals first | rfl | omega | skip
  all_goals simp_all
theorem kS1_ok : SOk oE kS1 := by
  unfold kS1
  refine kS0_ok
end Nt.Ev.YtjkfndcpiihniaaGreatDoor.Lk
