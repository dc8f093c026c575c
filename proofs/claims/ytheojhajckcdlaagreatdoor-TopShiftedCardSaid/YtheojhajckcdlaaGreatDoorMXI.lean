/-
  OccNx: equations of functions, as the evaluator prints them. The first occurrence behind something. Chain: equations of functions, as the evaluator prints them. When rules change something, by universal time: the last one at a second; instants. The last occurrence ahead of something is the greatest one; the last one at a second does not hang on where the walk begins. Force: equations of functions, as the evaluator prints them. What holds in an era: a view's value, the first one, the one at a second; rules without those that make it hold.
-/
import Derived.Test.YtheojhajckcdlaaGreatDoorMXD
import Derived.Test.YtheojhajckcdlaaGreatDoorMXE
set_option linter.unusedVariables false
set_option linter.unusedSimpArgs false
set_option linter.unusedSectionVars false
namespace Nt.Ev.YtheojhajckcdlaaGreatDoor.On
set_option maxRecDepth 100000
open Go Nt.Num Go.Proofs.YtheojhajckcdlaaGreatDoor
variable [MLen]
open Nt.Ev.YtheojhajckcdlaaGreatDoor
open Nt.Civil
open Nt.Ev.YtheojhajckcdlaaGreatDoor.Rl
open Nt.Ev.YtheojhajckcdlaaGreatDoor.Oc
def upY (P : Int → Bool) : Nat → Int → Option Int
 | 0, _ => none
 | n + 1, y => if P y = true then some y else upY P n (y + 1)
def nvO (f t m k w d c p q x z : Int) : Option Int := upY (fun y => lsB x z p (nomI m k w d c y)) (t - (if f ≤ q - 2 then q - 2 else f) + 1).toNat (if f ≤ q - 2 then q - 2 else f)
def nvB (f t m k w d c p q x z : Int) : Bool := (nvO f t m k w d c p q x z).isSome
def nvR (f t m k w d c p q x z : Int) : Int := if nvB f t m k w d c p q x z = true then p else 0
def nvY (f t m k w d c p q x z : Int) : Int := (nvO f t m k w d c p q x z).getD 0
def nvN (f t m k w d c p q x z : Int) : Int := if nvB f t m k w d c p q x z = true then nomI m k w d c (nvY f t m k w d c p q x z) else 0
noncomputable def nNxS : FSpec := fun a => match a with | [.agg [.str n, .int .i64 f, .int .i64 t, .int .i64 m, .int .i64 k, .int .i64 w, .int .i64 d, .int .i64 c, .int .i64 b, .int .i64 v, .str l], .int .i64 p, .int .i64 q, .fn fb [.box bb bo], .bxa hh [.int .i64 x, .int .i64 y, .int .i64 z]] => some (band (fb == 32 && (bb == 1000000004 && (bo == 0 && hh == 1000000000000))) (band (ruP n f t m k w d c b v l) (band (ile (-70000) q) (ile q 70000))), .out false (.tup [.agg [.int .i64 (nvR f t m k w d c p q x z), .int .i64 (nvY f t m k w d c p q x z), .int .i64 (nvN f t m k w d c p q x z)], .bool (nvB f t m k w d c p q x z)]) [[.int .i64 x, .int .i64 y, .int .i64 z]]) | _ => none
noncomputable def nS5 : List (Nat × FSpec) := (GX + 31, nNxS) :: oS4
noncomputable def nNx_L0 (F : Nat) (ns : List Nat) (n : Nat) (x0_0 : List UInt8) (x0_1 : Int) (x0_2 : Int) (x0_3 : Int) (x0_4 : Int) (x0_5 : Int) (x0_6 : Int) (x0_7 : Int) (x0_8 : Int) (x0_9 : Int) (x0_10 : List UInt8) (x1 : Int) (x2 : Int) (x9 : Bool) (x10 : Int) (b8_0 : Int) (b8_1 : Int) (b8_2 : Int) (b4_0 : List UInt8) (b4_1 : Int) (b4_2 : Int) (b4_3 : Int) (b4_4 : Int) (b4_5 : Int) (b4_6 : Int) (b4_7 : Int) (b4_8 : Int) (b4_9 : Int) (b4_10 : List UInt8) (b1000000004_0 : Int) (b1000000004_1 : Int) (b1000000004_2 : Int) (K : V → Option V) : Option V :=
 loopAtA fE oS4 F 3 31 [(V.nilsl), (V.nilsl), (V.nilsl), (V.nilsl), (V.bxa 0 [])] [1, 0, 1, 0] ns K n (mkSt 34 [(0, V.agg [V.str x0_0, V.int .i64 x0_1, V.int .i64 x0_2, V.int .i64 x0_3, V.int .i64 x0_4, V.int .i64 x0_5, V.int .i64 x0_6, V.int .i64 x0_7, V.int .i64 x0_8, V.int .i64 x0_9, V.str x0_10]), (1, V.int .i64 x1), (2, V.int .i64 x2), (3, (V.fn 32 [(V.box 1000000004 0)])), (4, (V.box 4 0)), (8, (V.box 8 0)), (9, V.bool x9), (10, V.int .i64 x10)] [(8, [V.int .i64 b8_0, V.int .i64 b8_1, V.int .i64 b8_2]), (4, [V.str b4_0, V.int .i64 b4_1, V.int .i64 b4_2, V.int .i64 b4_3, V.int .i64 b4_4, V.int .i64 b4_5, V.int .i64 b4_6, V.int .i64 b4_7, V.int .i64 b4_8, V.int .i64 b4_9, V.str b4_10]), (1000000004, [V.int .i64 b1000000004_0, V.int .i64 b1000000004_1, V.int .i64 b1000000004_2])])
theorem nNx_top (F : Nat) (n : List UInt8) (f : Int) (t : Int) (m : Int) (k : Int) (w : Int) (d : Int) (c : Int) (b : Int) (v : Int) (l : List UInt8) (p : Int) (q : Int) (x : Int) (y : Int) (z : Int) (K : V → Option V) :
 evBd fE (evFn fE oS4 F 3) F 31 [(V.agg [(V.str n), (V.int .i64 f), (V.int .i64 t), (V.int .i64 m), (V.int .i64 k), (V.int .i64 w), (V.int .i64 d), (V.int .i64 c), (V.int .i64 b), (V.int .i64 v), (V.str l)]), (V.int .i64 p), (V.int .i64 q), (V.fn 32 [(V.box 1000000004 0)]), (V.bxa 1000000000000 [(V.int .i64 x), (V.int .i64 y), (V.int .i64 z)])] K =
 nNx_L0 F [] F n f t m k w d c b v l p q false (imax f (isub .i64 q 2)) 0 0 0 n f t m k w d c b v l x y z K := by kernel_rfl
theorem nNx_L0_succ (F : Nat) (n : Nat) (x0_0 : List UInt8) (x0_1 : Int) (x0_2 : Int) (x0_3 : Int) (x0_4 : Int) (x0_5 : Int) (x0_6 : Int) (x0_7 : Int) (x0_8 : Int) (x0_9 : Int) (x0_10 : List UInt8) (x1 : Int) (x2 : Int) (x9 : Bool) (x10 : Int) (b8_0 : Int) (b8_1 : Int) (b8_2 : Int) (b4_0 : List UInt8) (b4_1 : Int) (b4_2 : Int) (b4_3 : Int) (b4_4 : Int) (b4_5 : Int) (b4_6 : Int) (b4_7 : Int) (b4_8 : Int) (b4_9 : Int) (b4_10 : List UInt8) (b1000000004_0 : Int) (b1000000004_1 : Int) (b1000000004_2 : Int) (K : V → Option V) :
 nNx_L0 F [] (n + 1) x0_0 x0_1 x0_2 x0_3 x0_4 x0_5 x0_6 x0_7 x0_8 x0_9 x0_10 x1 x2 x9 x10 b8_0 b8_1 b8_2 b4_0 b4_1 b4_2 b4_3 b4_4 b4_5 b4_6 b4_7 b4_8 b4_9 b4_10 b1000000004_0 b1000000004_1 b1000000004_2 K =
 sel (ile x10 b4_2)
 (sel (band (ile 0 b4_7) (ile b4_7 172800))
 (sel (lsB b1000000004_0 b1000000004_2 x1 (nomI b4_3 b4_4 b4_5 b4_6 b4_7 x10))
 (K (V.out false (V.tup [(V.agg [(V.int .i64 x1), (V.int .i64 x10), (V.int .i64 (nomI b4_3 b4_4 b4_5 b4_6 b4_7 x10))]), (V.bool true)]) [[(V.int .i64 b1000000004_0), (V.int .i64 b1000000004_1), (V.int .i64 b1000000004_2)]]))
 (nNx_L0 F [] n x0_0 x0_1 x0_2 x0_3 x0_4 x0_5 x0_6 x0_7 x0_8 x0_9 x0_10 x1 x2 x9 (iadd .i64 x10 1) b8_0 b8_1 b8_2 b4_0 b4_1 b4_2 b4_3 b4_4 b4_5 b4_6 b4_7 b4_8 b4_9 b4_10 b1000000004_0 b1000000004_1 b1000000004_2 K))
 (none))
 (K (V.out false (V.tup [(V.agg [(V.int .i64 0), (V.int .i64 0), (V.int .i64 0)]), (V.bool false)]) [[(V.int .i64 b1000000004_0), (V.int .i64 b1000000004_1), (V.int .i64 b1000000004_2)]])) := by kernel_rfl
noncomputable def nNext_L0 (F : Nat) (ns : List Nat) (n : Nat) (x0 : List V) (x1 : List UInt8) (x2_0 : Int) (x2_1 : Int) (x2_2 : Int) (x7 : Bool) (x8 : Int) (x16 : List V) (x17 : Int) (x18 : Int) (b6_0 : Int) (b6_1 : Int) (b6_2 : Int) (b5_0 : Int) (b5_1 : Int) (b5_2 : Int) (K : V → Option V) : Option V :=
 loopAt fE nS5 F 3 17 [1, 1, 0, 1, 0] ns K n (mkSt 54 [(0, V.sl 41 [(Kd.str), (Kd.int .i64), (Kd.int .i64), (Kd.int .i64), (Kd.int .i64), (Kd.int .i64), (Kd.int .i64), (Kd.int .i64), (Kd.int .i64), (Kd.int .i64), (Kd.str)] none x0), (1, V.str x1), (2, V.agg [V.int .i64 x2_0, V.int .i64 x2_1, V.int .i64 x2_2]), (5, (V.box 5 0)), (6, (V.box 6 0)), (7, V.bool x7), (8, V.int .i64 x8), (16, V.sl 41 [(Kd.str), (Kd.int .i64), (Kd.int .i64), (Kd.int .i64), (Kd.int .i64), (Kd.int .i64), (Kd.int .i64), (Kd.int .i64), (Kd.int .i64), (Kd.int .i64), (Kd.str)] none x16), (17, V.int .i64 x17), (18, V.int .i64 x18)] [(6, [V.int .i64 b6_0, V.int .i64 b6_1, V.int .i64 b6_2]), (5, [V.int .i64 b5_0, V.int .i64 b5_1, V.int .i64 b5_2])])
theorem nNext_top (F : Nat) (xs : List V) (s : List UInt8) (x : Int) (y : Int) (z : Int) (K : V → Option V) :
 evBd fE (evFn fE nS5 F 3) F 17 [(V.sl 41 [(Kd.str), (Kd.int .i64), (Kd.int .i64), (Kd.int .i64), (Kd.int .i64), (Kd.int .i64), (Kd.int .i64), (Kd.int .i64), (Kd.int .i64), (Kd.int .i64), (Kd.str)] none xs), (V.str s), (V.agg [(V.int .i64 x), (V.int .i64 y), (V.int .i64 z)])] K =
 nNext_L0 F [] F xs s x y z false (nearI z) xs (llen xs) 0 0 0 0 x y z K := by kernel_rfl
theorem nNext_L0_succ (F : Nat) (n : Nat) (x0 : List V) (x1 : List UInt8) (x2_0 : Int) (x2_1 : Int) (x2_2 : Int) (x7 : Bool) (x8 : Int) (x16 : List V) (x17 : Int) (x18 : Int) (b6_0 : Int) (b6_1 : Int) (b6_2 : Int) (b5_0 : Int) (b5_1 : Int) (b5_2 : Int) (K : V → Option V) :
 nNext_L0 F [] (n + 1) x0 x1 x2_0 x2_1 x2_2 x7 x8 x16 x17 x18 b6_0 b6_1 b6_2 b5_0 b5_1 b5_2 K =
 sel (ilt x18 x17)
 (sel (band (ile 0 x18) (ilt x18 (llen x16)))
 (sel (bnot (seq (asStr (acell (lget x16 x18) 0)) x1))
 (nNext_L0 F [] n x0 x1 x2_0 x2_1 x2_2 x7 x8 x16 x17 (iadd .i64 x18 1) b6_0 b6_1 b6_2 b5_0 b5_1 b5_2 K)
 (sel (ile (slen (asStr (acell (lget x16 x18) 10))) 900)
 (sel (bnot (ruP (asStr (acell (lget x16 x18) 0)) (asInt (acell (lget x16 x18) 1)) (asInt (acell (lget x16 x18) 2)) (asInt (acell (lget x16 x18) 3)) (asInt (acell (lget x16 x18) 4)) (asInt (acell (lget x16 x18) 5)) (asInt (acell (lget x16 x18) 6)) (asInt (acell (lget x16 x18) 7)) (asInt (acell (lget x16 x18) 8)) (asInt (acell (lget x16 x18) 9)) (asStr (acell (lget x16 x18) 10))))
 (nNext_L0 F [] n x0 x1 x2_0 x2_1 x2_2 x7 x8 x16 x17 (iadd .i64 x18 1) b6_0 b6_1 b6_2 b5_0 b5_1 b5_2 K)
 (sel (band true (band (ruP (asStr (acell (lget x16 x18) 0)) (asInt (acell (lget x16 x18) 1)) (asInt (acell (lget x16 x18) 2)) (asInt (acell (lget x16 x18) 3)) (asInt (acell (lget x16 x18) 4)) (asInt (acell (lget x16 x18) 5)) (asInt (acell (lget x16 x18) 6)) (asInt (acell (lget x16 x18) 7)) (asInt (acell (lget x16 x18) 8)) (asInt (acell (lget x16 x18) 9)) (asStr (acell (lget x16 x18) 10))) (band (ile (-70000) x8) (ile x8 70000))))
 (sel (nvB (asInt (acell (lget x16 x18) 1)) (asInt (acell (lget x16 x18) 2)) (asInt (acell (lget x16 x18) 3)) (asInt (acell (lget x16 x18) 4)) (asInt (acell (lget x16 x18) 5)) (asInt (acell (lget x16 x18) 6)) (asInt (acell (lget x16 x18) 7)) x18 x8 b5_0 b5_2)
 (sel (bnot x7)
 (nNext_L0 F [] n x0 x1 x2_0 x2_1 x2_2 true x8 x16 x17 (iadd .i64 x18 1) (nvR (asInt (acell (lget x16 x18) 1)) (asInt (acell (lget x16 x18) 2)) (asInt (acell (lget x16 x18) 3)) (asInt (acell (lget x16 x18) 4)) (asInt (acell (lget x16 x18) 5)) (asInt (acell (lget x16 x18) 6)) (asInt (acell (lget x16 x18) 7)) x18 x8 b5_0 b5_2) (nvY (asInt (acell (lget x16 x18) 1)) (asInt (acell (lget x16 x18) 2)) (asInt (acell (lget x16 x18) 3)) (asInt (acell (lget x16 x18) 4)) (asInt (acell (lget x16 x18) 5)) (asInt (acell (lget x16 x18) 6)) (asInt (acell (lget x16 x18) 7)) x18 x8 b5_0 b5_2) (nvN (asInt (acell (lget x16 x18) 1)) (asInt (acell (lget x16 x18) 2)) (asInt (acell (lget x16 x18) 3)) (asInt (acell (lget x16 x18) 4)) (asInt (acell (lget x16 x18) 5)) (asInt (acell (lget x16 x18) 6)) (asInt (acell (lget x16 x18) 7)) x18 x8 b5_0 b5_2) b5_0 b5_1 b5_2 K)
 (sel (lsB (nvR (asInt (acell (lget x16 x18) 1)) (asInt (acell (lget x16 x18) 2)) (asInt (acell (lget x16 x18) 3)) (asInt (acell (lget x16 x18) 4)) (asInt (acell (lget x16 x18) 5)) (asInt (acell (lget x16 x18) 6)) (asInt (acell (lget x16 x18) 7)) x18 x8 b5_0 b5_2) (nvN (asInt (acell (lget x16 x18) 1)) (asInt (acell (lget x16 x18) 2)) (asInt (acell (lget x16 x18) 3)) (asInt (acell (lget x16 x18) 4)) (asInt (acell (lget x16 x18) 5)) (asInt (acell (lget x16 x18) 6)) (asInt (acell (lget x16 x18) 7)) x18 x8 b5_0 b5_2) b6_0 b6_2)
 (nNext_L0 F [] n x0 x1 x2_0 x2_1 x2_2 true x8 x16 x17 (iadd .i64 x18 1) (nvR (asInt (acell (lget x16 x18) 1)) (asInt (acell (lget x16 x18) 2)) (asInt (acell (lget x16 x18) 3)) (asInt (acell (lget x16 x18) 4)) (asInt (acell (lget x16 x18) 5)) (asInt (acell (lget x16 x18) 6)) (asInt (acell (lget x16 x18) 7)) x18 x8 b5_0 b5_2) (nvY (asInt (acell (lget x16 x18) 1)) (asInt (acell (lget x16 x18) 2)) (asInt (acell (lget x16 x18) 3)) (asInt (acell (lget x16 x18) 4)) (asInt (acell (lget x16 x18) 5)) (asInt (acell (lget x16 x18) 6)) (asInt (acell (lget x16 x18) 7)) x18 x8 b5_0 b5_2) (nvN (asInt (acell (lget x16 x18) 1)) (asInt (acell (lget x16 x18) 2)) (asInt (acell (lget x16 x18) 3)) (asInt (acell (lget x16 x18) 4)) (asInt (acell (lget x16 x18) 5)) (asInt (acell (lget x16 x18) 6)) (asInt (acell (lget x16 x18) 7)) x18 x8 b5_0 b5_2) b5_0 b5_1 b5_2 K)
 (nNext_L0 F [] n x0 x1 x2_0 x2_1 x2_2 x7 x8 x16 x17 (iadd .i64 x18 1) b6_0 b6_1 b6_2 b5_0 b5_1 b5_2 K)))
 (nNext_L0 F [] n x0 x1 x2_0 x2_1 x2_2 x7 x8 x16 x17 (iadd .i64 x18 1) b6_0 b6_1 b6_2 b5_0 b5_1 b5_2 K))
 (none)))
 (none)))
 (none))
 (K (V.tup [(V.agg [(V.int .i64 b6_0), (V.int .i64 b6_1), (V.int .i64 b6_2)]), (V.bool x7)])) := by kernel_rfl
end Nt.Ev.YtheojhajckcdlaaGreatDoor.On

namespace Nt.Ev.YtheojhajckcdlaaGreatDoor.On
set_option maxRecDepth 100000
open Go Go.RowKit Nt Nt.Num Go.Proofs.YtheojhajckcdlaaGreatDoor Nt.Ev.YtheojhajckcdlaaGreatDoor Nt.Civil Nt.Ev.YtheojhajckcdlaaGreatDoor.Rl Nt.Ev.YtheojhajckcdlaaGreatDoor.Oc
variable [MLen]
theorem up_t {P : Int → Bool} {r : Nat} {j : Int} (h : P j = true) : upY P (r + 1) j = some j := by
  show (if P j = true then some j else upY P r (j + 1)) = _
  rw [if_pos h]
theorem up_f {P : Int → Bool} {r : Nat} {j : Int} (h : P j = false) : upY P (r + 1) j = upY P r (j + 1) := by
  show (if P j = true then some j else upY P r (j + 1)) = _
  rw [if_neg (by rw [h]; simp)]
theorem nv_loop (F : Nat) (a : List UInt8) (i1 i2 i3 i4 i5 i6 i7 i8 i9 : Int) (z0 : List UInt8) (n : List UInt8) (f t m k w d c b v : Int) (l : List UInt8) (p q x y z : Int) (hc : 0 ≤ c ∧ c ≤ 172800) (ht : t ≤ 32767) (K : V → Option V) : ∀ (r : Nat) (j : Int) (G : Nat), -80000 ≤ j → (t - j + 1).toNat = r → r < G →
    nNx_L0 F [] G a i1 i2 i3 i4 i5 i6 i7 i8 i9 z0 p q false j 0 0 0 n f t m k w d c b v l x y z K =
      K (.out false (.tup [.agg [.int .i64 (if (upY (fun y => lsB x z p (nomI m k w d c y)) r j).isSome = true then p else 0), .int .i64 ((upY (fun y => lsB x z p (nomI m k w d c y)) r j).getD 0), .int .i64 (if (upY (fun y => lsB x z p (nomI m k w d c y)) r j).isSome = true then nomI m k w d c ((upY (fun y => lsB x z p (nomI m k w d c y)) r j).getD 0) else 0)], .bool (upY (fun y => lsB x z p (nomI m k w d c y)) r j).isSome]) [[.int .i64 x, .int .i64 y, .int .i64 z]]) := by
  intro r
  induction r with
  | zero =>
    intro j G h1 h2 h3
    obtain ⟨G, rfl⟩ := Nat.exists_eq_succ_of_ne_zero (show G ≠ 0 by omega)
    rw [nNx_L0_succ, sel_neg (ile_f (by omega))]
    rfl
  | succ r ih =>
    intro j G h1 h2 h3
    obtain ⟨G, rfl⟩ := Nat.exists_eq_succ_of_ne_zero (show G ≠ 0 by omega)
    rw [nNx_L0_succ, sel_pos (ile_t (by omega)), sel_pos (by rw [band_iff, ile_iff, ile_iff]; exact hc)]
    cases hl : lsB x z p (nomI m k w d c j) with
    | true => rw [sel_pos rfl, up_t (P := fun y => lsB x z p (nomI m k w d c y)) hl]; rfl
    | false => rw [sel_neg rfl, iadd64 (by omega), up_f (P := fun y => lsB x z p (nomI m k w d c y)) hl, ih (j + 1) G (by omega) (by omega) (by omega)]
theorem nNxS_ok (n : List UInt8) (f t m k w d c b v : Int) (l : List UInt8) (p q : Int) (fb : Nat) (bb bo hh : Nat) (x y z : Int) (hc : band (fb == 32 && (bb == 1000000004 && (bo == 0 && hh == 1000000000000))) (band (ruP n f t m k w d c b v l) (band (ile (-70000) q) (ile q 70000))) = true) : XOk fE 31 [.agg [.str n, .int .i64 f, .int .i64 t, .int .i64 m, .int .i64 k, .int .i64 w, .int .i64 d, .int .i64 c, .int .i64 b, .int .i64 v, .str l], .int .i64 p, .int .i64 q, .fn fb [.box bb bo], .bxa hh [.int .i64 x, .int .i64 y, .int .i64 z]] (.out false (.tup [.agg [.int .i64 (nvR f t m k w d c p q x z), .int .i64 (nvY f t m k w d c p q x z), .int .i64 (nvN f t m k w d c p q x z)], .bool (nvB f t m k w d c p q x z)]) [[.int .i64 x, .int .i64 y, .int .i64 z]]) := by
  obtain ⟨h1, hq⟩ := band_true hc
  obtain ⟨h2, h3⟩ := band_true hq
  rw [band_iff, ile_iff, ile_iff] at h3
  simp only [Bool.and_eq_true, beq_iff_eq] at h1
  obtain ⟨rfl, rfl, rfl, rfl⟩ := h1
  have hr := ru_ft h2
  refine XOk.out (xc_of_body fE_ok oS4_ok 140000 3 ?_)
  have e : imax f (isub .i64 q 2) = if f ≤ q - 2 then q - 2 else f := by
    rw [isub64 (by omega)]; unfold imax; (repeat' split) <;> omega
  rw [nNx_top, e, nv_loop 140000 n f t m k w d c b v l n f t m k w d c b v l p q x y z hr.2.1 hr.2.2.2.2.1 some (t - (if f ≤ q - 2 then q - 2 else f) + 1).toNat (if f ≤ q - 2 then q - 2 else f) 140000 (by split <;> omega) rfl (by split <;> omega)]
  rfl
theorem nS5_ok : SOk fE nS5 := by
  unfold nS5
  refine SOk.consX (fun args r h => ?_) (oS4_ok)
  · unfold nNxS at h
    split at h
    · simp only [Option.some.injEq, Prod.mk.injEq] at h
      obtain ⟨hc, rfl⟩ := h
      exact nNxS_ok _ _ _ _ _ _ _ _ _ _ _ _ _ _ _ _ _ _ _ _ hc
    · cases h
def bW (e : V) (i q x z : Int) : Bool := nvB (asInt (acell e 1)) (asInt (acell e 2)) (asInt (acell e 3)) (asInt (acell e 4)) (asInt (acell e 5)) (asInt (acell e 6)) (asInt (acell e 7)) i q x z
def rW (e : V) (i q x z : Int) : Int := nvR (asInt (acell e 1)) (asInt (acell e 2)) (asInt (acell e 3)) (asInt (acell e 4)) (asInt (acell e 5)) (asInt (acell e 6)) (asInt (acell e 7)) i q x z
def yW (e : V) (i q x z : Int) : Int := nvY (asInt (acell e 1)) (asInt (acell e 2)) (asInt (acell e 3)) (asInt (acell e 4)) (asInt (acell e 5)) (asInt (acell e 6)) (asInt (acell e 7)) i q x z
def nW (e : V) (i q x z : Int) : Int := nvN (asInt (acell e 1)) (asInt (acell e 2)) (asInt (acell e 3)) (asInt (acell e 4)) (asInt (acell e 5)) (asInt (acell e 6)) (asInt (acell e 7)) i q x z
def nxL (xs : List V) (s : List UInt8) (q x z : Int) : Nat → Int → Bool × Int × Int × Int → Bool × Int × Int × Int
  | 0, _, st => st
  | k + 1, i, st =>
    let e := lget xs i
    nxL xs s q x z k (i + 1) (if seq (asStr (acell e 0)) s = true ∧ ruV e = true ∧ bW e i q x z = true ∧ (st.1 = false ∨ lsB (rW e i q x z) (nW e i q x z) st.2.1 st.2.2.2 = true) then (true, rW e i q x z, yW e i q x z, nW e i q x z) else st)
def nxA (xs : List V) (s : List UInt8) (x z : Int) : Bool × Int × Int × Int := nxL xs s (nearI z) x z xs.length 0 (false, 0, 0, 0)
theorem nx_loop (F : Nat) (xs : List V) (s : List UInt8) (x y z a0 a1 a2 q : Int) (hx : ∀ e ∈ xs, rOk e = true) (hq : -70000 ≤ q ∧ q ≤ 70000) (hn : (xs.length : Int) ≤ 4611686018427387904) (K : V → Option V) : ∀ (k : Nat) (i : Int) (st : Bool × Int × Int × Int) (G : Nat), 0 ≤ i → i + k = xs.length → k < G →
    nNext_L0 F [] G xs s a0 a1 a2 st.1 q xs (llen xs) i st.2.1 st.2.2.1 st.2.2.2 x y z K =
      K (.tup [.agg [.int .i64 (nxL xs s q x z k i st).2.1, .int .i64 (nxL xs s q x z k i st).2.2.1, .int .i64 (nxL xs s q x z k i st).2.2.2], .bool (nxL xs s q x z k i st).1]) := by
  intro k
  induction k with
  | zero =>
    intro i st G h0 h1 h2
    obtain ⟨G, rfl⟩ := Nat.exists_eq_succ_of_ne_zero (show G ≠ 0 by omega)
    rw [nNext_L0_succ, sel_neg (ilt_f (by rw [llen_nat]; omega))]
    rfl
  | succ k ih =>
    intro i st G h0 h1 h2
    obtain ⟨G, rfl⟩ := Nat.exists_eq_succ_of_ne_zero (show G ≠ 0 by omega)
    have hm : rOk (lget xs i) = true := by
      refine hx _ ?_
      unfold lget
      rw [List.getD_eq_getElem?_getD, List.getElem?_eq_getElem (by omega), Option.getD_some]
      exact List.getElem_mem _
    rw [nNext_L0_succ, sel_pos (ilt_t (by rw [llen_nat]; omega)), sel_pos (by rw [band_iff, ile_iff, ilt_iff, llen_nat]; omega), iadd64 (by omega)]
    unfold nxL
    have ih := fun st => ih (i + 1) st G (by omega) (by omega) (by omega)
    unfold rOk at hm
    show sel (bnot (seq (asStr (acell (lget xs i) 0)) s)) _ (sel (ile (slen (asStr (acell (lget xs i) 10))) 900) (sel (bnot (ruV (lget xs i))) _ (sel (band true (band (ruV (lget xs i)) _)) (sel (bW (lget xs i) i q x z) (sel (bnot st.1) (nNext_L0 F [] G xs s a0 a1 a2 true q xs (llen xs) (i + 1) (rW (lget xs i) i q x z) (yW (lget xs i) i q x z) (nW (lget xs i) i q x z) x y z K) (sel (lsB (rW (lget xs i) i q x z) (nW (lget xs i) i q x z) st.2.1 st.2.2.2) (nNext_L0 F [] G xs s a0 a1 a2 true q xs (llen xs) (i + 1) (rW (lget xs i) i q x z) (yW (lget xs i) i q x z) (nW (lget xs i) i q x z) x y z K) _)) _) _)) _) = _
    rw [sel_pos hm]
    have ht := ih (true, rW (lget xs i) i q x z, yW (lget xs i) i q x z, nW (lget xs i) i q x z)
    have hs := ih st
    simp only at ht hs ⊢
    rw [ht, hs]
    cases h3 : seq (asStr (acell (lget xs i) 0)) s with
    | false => rw [sel_pos (show bnot false = true from rfl), if_neg (by simp)]
    | true =>
      cases h4 : ruV (lget xs i) with
      | false => rw [sel_neg (show bnot true = false from rfl), sel_pos (show bnot false = true from rfl), if_neg (by simp)]
      | true =>
        rw [sel_neg (show bnot true = false from rfl), sel_neg (show bnot true = false from rfl), sel_pos (by rw [band_iff, band_iff, band_iff, ile_iff, ile_iff]; exact ⟨rfl, rfl, hq⟩)]
        cases h5 : bW (lget xs i) i q x z with
        | false => rw [sel_neg rfl, if_neg (by simp)]
        | true =>
          rw [sel_pos rfl]
          cases h6 : st.1 with
          | false => rw [sel_pos (show bnot false = true from rfl), if_pos (by simp)]
          | true =>
            rw [sel_neg (show bnot true = false from rfl)]
            cases h7 : lsB (rW (lget xs i) i q x z) (nW (lget xs i) i q x z) st.2.1 st.2.2.2 with
            | false => rw [sel_neg rfl, if_neg (by simp)]
            | true => rw [sel_pos rfl, if_pos (by simp)]
theorem next_ev (xs : List V) (s : List UInt8) (x y z : Int) (hx : ∀ e ∈ xs, rOk e = true) (hn : (xs.length : Int) ≤ 4611686018427387904) : Contract fE 17 [.sl 41 [.str, .int .i64, .int .i64, .int .i64, .int .i64, .int .i64, .int .i64, .int .i64, .int .i64, .int .i64, .str] none xs, .str s, .agg [.int .i64 x, .int .i64 y, .int .i64 z]] (.tup [.agg [.int .i64 (nxA xs s x z).2.1, .int .i64 (nxA xs s x z).2.2.1, .int .i64 (nxA xs s x z).2.2.2], .bool (nxA xs s x z).1]) := by
  refine contract_of_body fE_ok nS5_ok (xs.length + 5) 3 ?_
  rw [nNext_top]
  exact nx_loop (xs.length + 5) xs s x y z x y z (nearI z) hx (near_in z) hn some xs.length 0 (false, 0, 0, 0) (xs.length + 5) (by omega) (by omega) (by omega)
end Nt.Ev.YtheojhajckcdlaaGreatDoor.On

namespace Nt.Ev.YtheojhajckcdlaaGreatDoor.Cn
set_option maxRecDepth 100000
open Go Nt.Num Go.Proofs.YtheojhajckcdlaaGreatDoor
variable [MLen]
open Nt.Ev.YtheojhajckcdlaaGreatDoor
open Nt.Civil
open Nt.Ev.YtheojhajckcdlaaGreatDoor.Rl
open Nt.Ev.YtheojhajckcdlaaGreatDoor.Oc
open Nt.Ev.YtheojhajckcdlaaGreatDoor.Un
open Nt.Ev.YtheojhajckcdlaaGreatDoor.On
noncomputable def cS0 : List (Nat × FSpec) := (64, uSvS) :: (38, uPvS) :: []
def bsO (xs : List V) (x : Int) : Int := asInt (acell (lget xs x) 8)
noncomputable def insA (xs : List V) (s : List UInt8) (off x z : Int) : Int := z - (if bsO xs x = 0 then off + svA xs s x z else if bsO xs x = 1 then off else 0)
noncomputable def inR (a m : Int) : Bool := band (ile (-m) a) (ile a m)
noncomputable def cInS : FSpec := fun a => match a with | [.sl e [.str, .int .i64, .int .i64, .int .i64, .int .i64, .int .i64, .int .i64, .int .i64, .int .i64, .int .i64, .str] o1 xs, .str s, .int .i64 off, .agg [.int .i64 x, .int .i64 y, .int .i64 z]] => some (band (rsOk xs) (band (band (ile 0 x) (ilt x (llen xs))) (band (inR off 54000) (inR z 3000000000000))), .int .i64 (insA xs s off x z)) | _ => none
noncomputable def cS1 : List (Nat × FSpec) := (39, cInS) :: (37, oClS) :: cS0
def noE (n : List UInt8) (f t m k w d c b v : Int) (l : List UInt8) (y : Int) : Int := if ruP n f t m k w d c b v l = true then (if f ≤ y ∧ y ≤ t then 0 else 1) else 4
def noI (n : List UInt8) (f t m k w d c b v : Int) (l : List UInt8) (y : Int) : Int := if noE n f t m k w d c b v l y = 0 then nomI m k w d c y else 0
noncomputable def cNoS : FSpec := fun a => match a with | [.agg [.str n, .int .i64 f, .int .i64 t, .int .i64 m, .int .i64 k, .int .i64 w, .int .i64 d, .int .i64 c, .int .i64 b, .int .i64 v, .str l], .int .i64 y] => some (ile (slen l) 900, .tup [.int .i64 (noI n f t m k w d c b v l y), .int .i64 (noE n f t m k w d c b v l y)]) | _ => none
noncomputable def cS2 : List (Nat × FSpec) := (75, cNoS) :: cS1
noncomputable def noV (e : V) (y : Int) : Int := noI (asStr (acell e 0)) (asInt (acell e 1)) (asInt (acell e 2)) (asInt (acell e 3)) (asInt (acell e 4)) (asInt (acell e 5)) (asInt (acell e 6)) (asInt (acell e 7)) (asInt (acell e 8)) (asInt (acell e 9)) (asStr (acell e 10)) y
noncomputable def noX (e : V) (y : Int) : Int := noE (asStr (acell e 0)) (asInt (acell e 1)) (asInt (acell e 2)) (asInt (acell e 3)) (asInt (acell e 4)) (asInt (acell e 5)) (asInt (acell e 6)) (asInt (acell e 7)) (asInt (acell e 8)) (asInt (acell e 9)) (asStr (acell e 10)) y
noncomputable def isO (xs : List V) (s : List UInt8) (x y z : Int) : Bool := band (band (ile 0 x) (ilt x (llen xs))) (band (seq (asStr (acell (lget xs x) 0)) s) (band (ieq (noX (lget xs x) y) 0) (ieq (noV (lget xs x) y) z)))
noncomputable def cIsS : FSpec := fun a => match a with | [.sl e [.str, .int .i64, .int .i64, .int .i64, .int .i64, .int .i64, .int .i64, .int .i64, .int .i64, .int .i64, .str] o1 xs, .str s, .agg [.int .i64 x, .int .i64 y, .int .i64 z]] => some (rsOk xs, .bool (isO xs s x y z)) | _ => none
noncomputable def cS3 : List (Nat × FSpec) := (53, cIsS) :: cS2
theorem cIn_top (F : Nat) (xs : List V) (s : List UInt8) (off : Int) (x : Int) (y : Int) (z : Int) (K : V → Option V) :
 evBd fE (evFn fE cS0 F 3) F 39 [(V.sl 41 [(Kd.str), (Kd.int .i64), (Kd.int .i64), (Kd.int .i64), (Kd.int .i64), (Kd.int .i64), (Kd.int .i64), (Kd.int .i64), (Kd.int .i64), (Kd.int .i64), (Kd.str)] none xs), (V.str s), (V.int .i64 off), (V.agg [(V.int .i64 x), (V.int .i64 y), (V.int .i64 z)])] K =
 both
 (both
 (sel (band (ile 0 x) (ilt x (llen xs)))
 (sel (ieq (asInt (acell (lget xs x) 8)) 0)
 (sel (rsOk xs)
 (K (V.int .i64 (isub .i64 z (iadd .i64 off (svA xs s x z)))))
 (none))
 (sel (ieq (asInt (acell (lget xs x) 8)) 1)
 (K (V.int .i64 (isub .i64 z off)))
 (K (V.int .i64 (isub .i64 z 0)))))
 (none))
 (sel (band (ile 0 x) (ilt x (llen xs)))
 (sel (ieq (asInt (acell (lget xs x) 8)) 0)
 (sel (rsOk xs)
 (K (V.int .i64 (isub .i64 z (iadd .i64 off (svA xs s x z)))))
 (none))
 (sel (ieq (asInt (acell (lget xs x) 8)) 1)
 (K (V.int .i64 (isub .i64 z off)))
 (K (V.int .i64 (isub .i64 z 0)))))
 (none)))
 (both
 (both
 (sel (band (ile 0 x) (ilt x (llen xs)))
 (sel (ieq (asInt (acell (lget xs x) 8)) 0)
 (sel (rsOk xs)
 (K (V.int .i64 (isub .i64 z (iadd .i64 off (svA xs s x z)))))
 (none))
 (sel (ieq (asInt (acell (lget xs x) 8)) 1)
 (K (V.int .i64 (isub .i64 z off)))
 (K (V.int .i64 (isub .i64 z 0)))))
 (none))
 (both
 (sel (band (ile 0 x) (ilt x (llen xs)))
 (sel (ieq (asInt (acell (lget xs x) 8)) 0)
 (sel (rsOk xs)
 (K (V.int .i64 (isub .i64 z (iadd .i64 off (svA xs s x z)))))
 (none))
 (sel (ieq (asInt (acell (lget xs x) 8)) 1)
 (K (V.int .i64 (isub .i64 z off)))
 (K (V.int .i64 (isub .i64 z 0)))))
 (none))
 (sel (band (ile 0 x) (ilt x (llen xs)))
 (both
 (sel (ieq (asInt (acell (lget xs x) 8)) 0)
 (sel (rsOk xs)
 (K (V.int .i64 (isub .i64 z (iadd .i64 off (svA xs s x z)))))
 (none))
 (sel (ieq (asInt (acell (lget xs x) 8)) 1)
 (K (V.int .i64 (isub .i64 z off)))
 (K (V.int .i64 (isub .i64 z 0)))))
 (both
 (sel (ieq (asInt (acell (lget xs x) 8)) 0)
 (sel (rsOk xs)
 (K (V.int .i64 (isub .i64 z (iadd .i64 off (svA xs s x z)))))
 (none))
 (sel (ieq (asInt (acell (lget xs x) 8)) 1)
 (K (V.int .i64 (isub .i64 z off)))
 (K (V.int .i64 (isub .i64 z 0)))))
 (both
 (sel (ieq (asInt (acell (lget xs x) 8)) 0)
 (sel (rsOk xs)
 (K (V.int .i64 (isub .i64 z (iadd .i64 off (svA xs s x z)))))
 (none))
 (sel (ieq (asInt (acell (lget xs x) 8)) 1)
 (K (V.int .i64 (isub .i64 z off)))
 (K (V.int .i64 (isub .i64 z 0)))))
 (both
 (sel (ieq (asInt (acell (lget xs x) 8)) 0)
 (sel (rsOk xs)
 (K (V.int .i64 (isub .i64 z (iadd .i64 off (svA xs s x z)))))
 (none))
 (sel (ieq (asInt (acell (lget xs x) 8)) 1)
 (K (V.int .i64 (isub .i64 z off)))
 (K (V.int .i64 (isub .i64 z 0)))))
 (sel (ieq (asInt (acell (lget xs x) 8)) 0)
 (sel (rsOk xs)
 (K (V.int .i64 (isub .i64 z (iadd .i64 off (svA xs s x z)))))
 (none))
 (sel (ieq (asInt (acell (lget xs x) 8)) 1)
 (K (V.int .i64 (isub .i64 z off)))
 (K (V.int .i64 (isub .i64 z 0)))))))))
 (none))))
 (both
 (sel (band (ile 0 x) (ilt x (llen xs)))
 (sel (ieq (asInt (acell (lget xs x) 8)) 0)
 (sel (rsOk xs)
 (K (V.int .i64 (isub .i64 z (iadd .i64 off (svA xs s x z)))))
 (none))
 (sel (ieq (asInt (acell (lget xs x) 8)) 1)
 (K (V.int .i64 (isub .i64 z off)))
 (K (V.int .i64 (isub .i64 z 0)))))
 (none))
 (both
 (sel (band (ile 0 x) (ilt x (llen xs)))
 (sel (ieq (asInt (acell (lget xs x) 8)) 0)
 (sel (rsOk xs)
 (K (V.int .i64 (isub .i64 z (iadd .i64 off (svA xs s x z)))))
 (none))
 (sel (ieq (asInt (acell (lget xs x) 8)) 1)
 (K (V.int .i64 (isub .i64 z off)))
 (K (V.int .i64 (isub .i64 z 0)))))
 (none))
 (sel (band (ile 0 x) (ilt x (llen xs)))
 (both
 (sel (ieq (asInt (acell (lget xs x) 8)) 0)
 (sel (rsOk xs)
 (K (V.int .i64 (isub .i64 z (iadd .i64 off (svA xs s x z)))))
 (none))
 (sel (ieq (asInt (acell (lget xs x) 8)) 1)
 (K (V.int .i64 (isub .i64 z off)))
 (K (V.int .i64 (isub .i64 z 0)))))
 (both
 (sel (ieq (asInt (acell (lget xs x) 8)) 0)
 (sel (rsOk xs)
 (K (V.int .i64 (isub .i64 z (iadd .i64 off (svA xs s x z)))))
 (none))
 (sel (ieq (asInt (acell (lget xs x) 8)) 1)
 (K (V.int .i64 (isub .i64 z off)))
 (K (V.int .i64 (isub .i64 z 0)))))
 (both
 (sel (ieq (asInt (acell (lget xs x) 8)) 0)
 (sel (rsOk xs)
 (K (V.int .i64 (isub .i64 z (iadd .i64 off (svA xs s x z)))))
 (none))
 (sel (ieq (asInt (acell (lget xs x) 8)) 1)
 (K (V.int .i64 (isub .i64 z off)))
 (K (V.int .i64 (isub .i64 z 0)))))
 (both
 (sel (ieq (asInt (acell (lget xs x) 8)) 0)
 (sel (rsOk xs)
 (K (V.int .i64 (isub .i64 z (iadd .i64 off (svA xs s x z)))))
 (none))
 (sel (ieq (asInt (acell (lget xs x) 8)) 1)
 (K (V.int .i64 (isub .i64 z off)))
 (K (V.int .i64 (isub .i64 z 0)))))
 (sel (ieq (asInt (acell (lget xs x) 8)) 0)
 (sel (rsOk xs)
 (K (V.int .i64 (isub .i64 z (iadd .i64 off (svA xs s x z)))))
 (none))
 (sel (ieq (asInt (acell (lget xs x) 8)) 1)
 (K (V.int .i64 (isub .i64 z off)))
 (K (V.int .i64 (isub .i64 z 0)))))))))
 (none))))) := by kernel_rfl
noncomputable def cLa_L0 (F : Nat) (ns : List Nat) (n : Nat) (x0 : List V) (x1 : List UInt8) (x2 : Int) (x3 : Int) (x9 : Bool) (x11 : Bool) (b10_0 : Int) (b10_1 : Int) (b10_2 : Int) (b8_0 : Int) (b8_1 : Int) (b8_2 : Int) (K : V → Option V) : Option V :=
 loopAt fE cS1 F 3 20 [1, 1, 1, 1, 0, 0] ns K n (mkSt 47 [(0, V.sl 41 [(Kd.str), (Kd.int .i64), (Kd.int .i64), (Kd.int .i64), (Kd.int .i64), (Kd.int .i64), (Kd.int .i64), (Kd.int .i64), (Kd.int .i64), (Kd.int .i64), (Kd.str)] none x0), (1, V.str x1), (2, V.int .i64 x2), (3, V.int .i64 x3), (8, (V.box 8 0)), (9, V.bool x9), (10, (V.box 10 0)), (11, V.bool x11)] [(10, [V.int .i64 b10_0, V.int .i64 b10_1, V.int .i64 b10_2]), (8, [V.int .i64 b8_0, V.int .i64 b8_1, V.int .i64 b8_2])])
theorem cLa_top (F : Nat) (xs : List V) (s : List UInt8) (off : Int) (t : Int) (K : V → Option V) :
 evBd fE (evFn fE cS1 F 3) F 20 [(V.sl 41 [(Kd.str), (Kd.int .i64), (Kd.int .i64), (Kd.int .i64), (Kd.int .i64), (Kd.int .i64), (Kd.int .i64), (Kd.int .i64), (Kd.int .i64), (Kd.int .i64), (Kd.str)] none xs), (V.str s), (V.int .i64 off), (V.int .i64 t)] K =
 sel (ile (-54000) off)
 (sel (bnot (ile off 54000))
 (K (V.tup [(V.agg [(V.int .i64 0), (V.int .i64 0), (V.int .i64 0)]), (V.bool false)]))
 (sel (rsOk xs)
 (cLa_L0 F [] F xs s off (clI t (-2000000000000) 2000000000000) false (prB xs s (-1) (iadd .i64 (iadd .i64 (clI t (-2000000000000) 2000000000000) 64800) 1)) (prR xs s (-1) (iadd .i64 (iadd .i64 (clI t (-2000000000000) 2000000000000) 64800) 1)) (prY xs s (-1) (iadd .i64 (iadd .i64 (clI t (-2000000000000) 2000000000000) 64800) 1)) (prN xs s (-1) (iadd .i64 (iadd .i64 (clI t (-2000000000000) 2000000000000) 64800) 1)) 0 0 0 K)
 (none)))
 (K (V.tup [(V.agg [(V.int .i64 0), (V.int .i64 0), (V.int .i64 0)]), (V.bool false)])) := by kernel_rfl
theorem cLa_L0_succ (F : Nat) (n : Nat) (x0 : List V) (x1 : List UInt8) (x2 : Int) (x3 : Int) (x9 : Bool) (x11 : Bool) (b10_0 : Int) (b10_1 : Int) (b10_2 : Int) (b8_0 : Int) (b8_1 : Int) (b8_2 : Int) (K : V → Option V) :
 cLa_L0 F [] (n + 1) x0 x1 x2 x3 x9 x11 b10_0 b10_1 b10_2 b8_0 b8_1 b8_2 K =
 sel x11
 (sel (band (rsOk x0) (band (band (ile 0 b10_0) (ilt b10_0 (llen x0))) (band (band (ile (-54000) x2) (ile x2 54000)) (band (ile (-3000000000000) b10_2) (ile b10_2 3000000000000)))))
 (sel (ilt x3 (insA x0 x1 x2 b10_0 b10_2))
 (sel (rsOk x0)
 (cLa_L0 F [] n x0 x1 x2 x3 x9 (prB x0 x1 b10_0 b10_2) (prR x0 x1 b10_0 b10_2) (prY x0 x1 b10_0 b10_2) (prN x0 x1 b10_0 b10_2) b8_0 b8_1 b8_2 K)
 (none))
 (K (V.tup [(V.agg [(V.int .i64 b10_0), (V.int .i64 b10_1), (V.int .i64 b10_2)]), (V.bool x11)])))
 (none))
 (K (V.tup [(V.agg [(V.int .i64 b10_0), (V.int .i64 b10_1), (V.int .i64 b10_2)]), (V.bool x11)])) := by kernel_rfl
theorem cNo_top (F : Nat) (n : List UInt8) (f : Int) (t : Int) (m : Int) (k : Int) (w : Int) (d : Int) (c : Int) (b : Int) (v : Int) (l : List UInt8) (y : Int) (K : V → Option V) :
 evBd fE (evFn fE oS4 F 3) F 75 [(V.agg [(V.str n), (V.int .i64 f), (V.int .i64 t), (V.int .i64 m), (V.int .i64 k), (V.int .i64 w), (V.int .i64 d), (V.int .i64 c), (V.int .i64 b), (V.int .i64 v), (V.str l)]), (V.int .i64 y)] K =
 sel (ile (slen l) 900)
 (sel (bnot (ruP n f t m k w d c b v l))
 (K (V.tup [(V.int .i64 0), (V.int .i64 4)]))
 (sel (ilt y f)
 (K (V.tup [(V.int .i64 0), (V.int .i64 1)]))
 (sel (ilt t y)
 (K (V.tup [(V.int .i64 0), (V.int .i64 1)]))
 (sel (band (ile 0 c) (ile c 172800))
 (K (V.tup [(V.int .i64 (nomI m k w d c y)), (V.int .i64 0)]))
 (none)))))
 (none) := by kernel_rfl
theorem cIs_top (F : Nat) (xs : List V) (s : List UInt8) (x : Int) (y : Int) (z : Int) (K : V → Option V) :
 evBd fE (evFn fE cS2 F 3) F 53 [(V.sl 41 [(Kd.str), (Kd.int .i64), (Kd.int .i64), (Kd.int .i64), (Kd.int .i64), (Kd.int .i64), (Kd.int .i64), (Kd.int .i64), (Kd.int .i64), (Kd.int .i64), (Kd.str)] none xs), (V.str s), (V.agg [(V.int .i64 x), (V.int .i64 y), (V.int .i64 z)])] K =
 sel (ilt x 0)
 (K (V.bool false))
 (sel (ile (llen xs) x)
 (K (V.bool false))
 (sel (band (ile 0 x) (ilt x (llen xs)))
 (sel (bnot (seq (asStr (acell (lget xs x) 0)) s))
 (K (V.bool false))
 (sel (band (ile 0 x) (ilt x (llen xs)))
 (sel (ile (slen (asStr (acell (lget xs x) 10))) 900)
 (sel (ieq (noE (asStr (acell (lget xs x) 0)) (asInt (acell (lget xs x) 1)) (asInt (acell (lget xs x) 2)) (asInt (acell (lget xs x) 3)) (asInt (acell (lget xs x) 4)) (asInt (acell (lget xs x) 5)) (asInt (acell (lget xs x) 6)) (asInt (acell (lget xs x) 7)) (asInt (acell (lget xs x) 8)) (asInt (acell (lget xs x) 9)) (asStr (acell (lget xs x) 10)) y) 0)
 (K (V.bool (ieq (noI (asStr (acell (lget xs x) 0)) (asInt (acell (lget xs x) 1)) (asInt (acell (lget xs x) 2)) (asInt (acell (lget xs x) 3)) (asInt (acell (lget xs x) 4)) (asInt (acell (lget xs x) 5)) (asInt (acell (lget xs x) 6)) (asInt (acell (lget xs x) 7)) (asInt (acell (lget xs x) 8)) (asInt (acell (lget xs x) 9)) (asStr (acell (lget xs x) 10)) y) z)))
 (K (V.bool false)))
 (none))
 (none)))
 (none))) := by kernel_rfl
theorem cIt_top (F : Nat) (xs : List V) (s : List UInt8) (off : Int) (x : Int) (y : Int) (z : Int) (K : V → Option V) :
 evBd fE (evFn fE cS3 F 3) F 29 [(V.sl 41 [(Kd.str), (Kd.int .i64), (Kd.int .i64), (Kd.int .i64), (Kd.int .i64), (Kd.int .i64), (Kd.int .i64), (Kd.int .i64), (Kd.int .i64), (Kd.int .i64), (Kd.str)] none xs), (V.str s), (V.int .i64 off), (V.agg [(V.int .i64 x), (V.int .i64 y), (V.int .i64 z)])] K =
 sel (ile (-54000) off)
 (sel (bnot (ile off 54000))
 (K (V.tup [(V.int .i64 0), (V.int .i64 1)]))
 (sel (rsOk xs)
 (sel (bnot (isO xs s x y z))
 (K (V.tup [(V.int .i64 0), (V.int .i64 12)]))
 (sel (band (rsOk xs) (band (band (ile 0 x) (ilt x (llen xs))) (band (band (ile (-54000) off) (ile off 54000)) (band (ile (-3000000000000) z) (ile z 3000000000000)))))
 (K (V.tup [(V.int .i64 (insA xs s off x z)), (V.int .i64 0)]))
 (none)))
 (none)))
 (K (V.tup [(V.int .i64 0), (V.int .i64 1)])) := by kernel_rfl
end Nt.Ev.YtheojhajckcdlaaGreatDoor.Cn

namespace Nt.Ev.YtheojhajckcdlaaGreatDoor.Cn
set_option maxRecDepth 100000
open Go Go.RowKit Nt Nt.Num Go.Proofs.YtheojhajckcdlaaGreatDoor Nt.Ev.YtheojhajckcdlaaGreatDoor Nt.Civil Nt.Ev.YtheojhajckcdlaaGreatDoor.Rl Nt.Ev.YtheojhajckcdlaaGreatDoor.Oc Nt.Ev.YtheojhajckcdlaaGreatDoor.Un Nt.Ev.YtheojhajckcdlaaGreatDoor.On
variable [MLen]
theorem cS0_ok : SOk fE cS0 := by
  unfold cS0
  refine SOk.cons (fun args r h => ?_) (SOk.cons (fun args r h => ?_) (SOk.nil))
  · unfold uSvS at h
    split at h
    · simp only [Option.some.injEq, Prod.mk.injEq] at h
      obtain ⟨hc, rfl⟩ := h
      exact uSvS_ok _ _ _ _ _ _ _ hc
    · cases h
  · unfold uPvS at h
    split at h
    · simp only [Option.some.injEq, Prod.mk.injEq] at h
      obtain ⟨hc, rfl⟩ := h
      exact uPvS_ok _ _ _ _ _ _ _ hc
    · cases h
theorem in_r {a m : Int} (h : inR a m = true) : -m ≤ a ∧ a ≤ m := by
  unfold inR at h
  rw [band_iff, ile_iff, ile_iff] at h; exact h
theorem r_in {a m : Int} (h : -m ≤ a ∧ a ≤ m) : inR a m = true := by
  unfold inR
  rw [band_iff, ile_iff, ile_iff]; exact h
theorem lift1 {f : Nat} {e t : Nat} {K : List Kd} {o : Option Nat} {xs : List V} {rest : List V} {r : V} (c : Contract fE f (.sl t K none xs :: rest) r) : Contract fE f (.sl e K o xs :: rest) r := by
  intro G w vs hG hg hp
  refine c G w vs hG hg ?_
  obtain ⟨x, us, rfl, hx, ht⟩ := PW.cons_inv hp
  refine .cons ?_ ht
  unfold rep at hx ⊢
  exact hx
theorem cInS_ok (e : Nat) (o1 : Option Nat) (xs : List V) (s : List UInt8) (off x y z : Int) (hc : band (rsOk xs) (band (band (ile 0 x) (ilt x (llen xs))) (band (inR off 54000) (inR z 3000000000000))) = true) :
    Contract fE 39 [.sl e [.str, .int .i64, .int .i64, .int .i64, .int .i64, .int .i64, .int .i64, .int .i64, .int .i64, .int .i64, .str] o1 xs, .str s, .int .i64 off, .agg [.int .i64 x, .int .i64 y, .int .i64 z]] (.int .i64 (insA xs s off x z)) := by
  obtain ⟨h1, hq⟩ := band_true hc
  obtain ⟨h2, hq2⟩ := band_true hq
  obtain ⟨h3, h4⟩ := band_true hq2
  have h3 := in_r h3
  have h4 := in_r h4
  have hs := sv_in xs s x z
  refine lift1 (t := 41) (contract_of_body fE_ok cS0_ok 5 3 ?_)
  rw [cIn_top]
  simp only [both_self]
  rw [sel_pos h2, sel_pos h1]
  unfold insA bsO
  by_cases b0 : asInt (acell (lget xs x) 8) = 0
  · rw [sel_pos (ieq_t b0), if_pos b0, iadd64 (by omega), isub64 (by omega)]
  · rw [sel_neg (ieq_f b0), if_neg b0]
    by_cases b1 : asInt (acell (lget xs x) 8) = 1
    · rw [sel_pos (ieq_t b1), if_pos b1, isub64 (by omega)]
    · rw [sel_neg (ieq_f b1), if_neg b1, isub64 (by omega)]
theorem cS1_ok : SOk fE cS1 := by
  unfold cS1
  refine SOk.cons (fun args r h => ?_) (SOk.cons (fun args r h => ?_) (cS0_ok))
  · unfold cInS at h
    split at h
    · simp only [Option.some.injEq, Prod.mk.injEq] at h
      obtain ⟨hc, rfl⟩ := h
      exact cInS_ok _ _ _ _ _ _ _ _ hc
    · cases h
  · unfold oClS at h
    split at h
    · simp only [Option.some.injEq, Prod.mk.injEq] at h
      obtain ⟨hc, rfl⟩ := h
      exact oClS_ok _ _ _ hc
    · cases h
noncomputable def lasL (xs : List V) (s : List UInt8) (off t : Int) : Nat → Bool × Int × Int × Int → Bool × Int × Int × Int
  | 0, st => st
  | k + 1, st => if st.1 = true ∧ t < insA xs s off st.2.1 st.2.2.2 then lasL xs s off t k (prA xs s st.2.1 st.2.2.2) else st
theorem dn_some {P : Int → Bool} : ∀ (r : Nat) (j y : Int), dnY P r j = some y → P y = true ∧ y ≤ j ∧ j - r < y
  | 0, j, y, h => by cases h
  | r + 1, j, y, h => by
    cases hp : P j with
    | true =>
      rw [dn_t hp] at h
      obtain rfl := Option.some.inj h
      exact ⟨hp, Int.le_refl _, by omega⟩
    | false =>
      rw [dn_f hp] at h
      obtain ⟨h1, h2, h3⟩ := dn_some r (j - 1) y h
      exact ⟨h1, by omega, by omega⟩
theorem bV_good {e : V} {i q x z : Int} (h : bV e i q x z = true) : rV e i q x z = i ∧ asInt (acell e 1) ≤ yV e i q x z ∧ yV e i q x z ≤ asInt (acell e 2) ∧ nV e i q x z = nomI (asInt (acell e 3)) (asInt (acell e 4)) (asInt (acell e 5)) (asInt (acell e 6)) (asInt (acell e 7)) (yV e i q x z) ∧ lsB i (nV e i q x z) x z = true := by
  unfold bV at h
  have h' := h
  unfold pvB at h'
  obtain ⟨y, hy⟩ := Option.isSome_iff_exists.1 h'
  have e1 : yV e i q x z = y := by unfold yV qvY; rw [hy]; rfl
  have e2 : nV e i q x z = nomI (asInt (acell e 3)) (asInt (acell e 4)) (asInt (acell e 5)) (asInt (acell e 6)) (asInt (acell e 7)) y := by
    unfold nV qvN qvY
    rw [if_pos h, hy]; rfl
  have e3 : rV e i q x z = i := by unfold rV qvR; rw [if_pos h]
  unfold pvO at hy
  obtain ⟨h1, h2, h3⟩ := dn_some _ _ _ hy
  rw [e1, e2, e3]
  refine ⟨rfl, ?_, ?_, rfl, h1⟩
  · revert h2 h3; split <;> omega
  · revert h2; split <;> omega
theorem pr_ind (xs : List V) (s : List UInt8) (q x z : Int) (Q : Int → Int → Int → Prop) (hQ : ∀ i, 0 ≤ i → i < (xs.length : Int) → seq (asStr (acell (lget xs i) 0)) s = true → ruV (lget xs i) = true → bV (lget xs i) i q x z = true → Q (rV (lget xs i) i q x z) (yV (lget xs i) i q x z) (nV (lget xs i) i q x z)) : ∀ (k : Nat) (i : Int) (st : Bool × Int × Int × Int), 0 ≤ i → i + k ≤ xs.length → (st.1 = true → Q st.2.1 st.2.2.1 st.2.2.2) → (prL xs s q x z k i st).1 = true → Q (prL xs s q x z k i st).2.1 (prL xs s q x z k i st).2.2.1 (prL xs s q x z k i st).2.2.2 := by
  intro k
  induction k with
  | zero => intro i st _ _ h hb; exact h hb
  | succ k ih =>
    intro i st h0 h1 h hb
    unfold prL at hb ⊢
    refine ih (i + 1) _ (by omega) (by omega) ?_ hb
    intro hs
    split at hs
    · rename_i hc
      rw [if_pos hc]
      exact hQ i h0 (by omega) hc.1 hc.2.1 hc.2.2.1
    · rename_i hc
      rw [if_neg hc]
      exact h hs
theorem prev_ind {xs : List V} {s : List UInt8} {x z : Int} (Q : Int → Int → Int → Prop) (hQ : ∀ i, 0 ≤ i → i < (xs.length : Int) → seq (asStr (acell (lget xs i) 0)) s = true → ruV (lget xs i) = true → bV (lget xs i) i (nearI z) x z = true → Q (rV (lget xs i) i (nearI z) x z) (yV (lget xs i) i (nearI z) x z) (nV (lget xs i) i (nearI z) x z)) (h : (prA xs s x z).1 = true) : Q (prA xs s x z).2.1 (prA xs s x z).2.2.1 (prA xs s x z).2.2.2 :=
  pr_ind xs s (nearI z) x z Q hQ xs.length 0 (false, 0, 0, 0) (by omega) (by omega) (fun h => by cases h) h
def Occ (xs : List V) (s : List UInt8) (r y n : Int) : Prop := (0 ≤ r ∧ r < (xs.length : Int)) ∧ asStr (acell (lget xs r) 0) = s ∧ ruV (lget xs r) = true ∧ asInt (acell (lget xs r) 1) ≤ y ∧ y ≤ asInt (acell (lget xs r) 2) ∧ n = nomI (asInt (acell (lget xs r) 3)) (asInt (acell (lget xs r) 4)) (asInt (acell (lget xs r) 5)) (asInt (acell (lget xs r) 6)) (asInt (acell (lget xs r) 7)) y
theorem prev_occ {xs : List V} {s : List UInt8} {x z : Int} (h : (prA xs s x z).1 = true) : Occ xs s (prA xs s x z).2.1 (prA xs s x z).2.2.1 (prA xs s x z).2.2.2 :=
  prev_ind (Occ xs s) (fun i h0 h1 h2 h3 h4 => by
    obtain ⟨e1, e2, e3, e4, _⟩ := bV_good h4
    rw [e1]
    rw [seq_iff] at h2
    exact ⟨⟨h0, h1⟩, h2, h3, e2, e3, e4⟩) h
theorem occ_lim {xs : List V} {s : List UInt8} {r y n : Int} (h : Occ xs s r y n) : -3000000000000 ≤ n ∧ n ≤ 3000000000000 := by
  obtain ⟨_, _, h3, _, _, rfl⟩ := h
  have hc := (ru_ft h3).2.1
  have hn := nom_lim (asInt (acell (lget xs r) 3)) (asInt (acell (lget xs r) 4)) (asInt (acell (lget xs r) 5)) (asInt (acell (lget xs r) 6)) y
  unfold nomI
  omega
theorem prev_less (xs : List V) (s : List UInt8) (x z : Int) (h : (prA xs s x z).1 = true) : lsB (prA xs s x z).2.1 (prA xs s x z).2.2.2 x z = true :=
  prev_ind (fun r _ n => lsB r n x z = true) (fun i _ _ _ _ h4 => by
    obtain ⟨e1, _, _, _, e5⟩ := bV_good h4
    rw [e1]; exact e5) h
def mea (t : Int) (st : Bool × Int × Int × Int) : Nat := if st.1 = true then ((st.2.2.2 - (t - 64801)) * 1001 + st.2.1 + 1).toNat else 0
theorem ins_near (xs : List V) (s : List UInt8) (off x z : Int) (ho : -54000 ≤ off ∧ off ≤ 54000) : z - 64800 ≤ insA xs s off x z ∧ insA xs s off x z ≤ z + 64800 := by
  have := sv_in xs s x z
  unfold insA
  (repeat' split) <;> omega
theorem las_loop (F : Nat) (xs : List V) (s : List UInt8) (off t : Int) (b : Bool) (c0 c1 c2 : Int) (hr : rsOk xs = true) (ho : -54000 ≤ off ∧ off ≤ 54000) (ht : -2000000000000 ≤ t ∧ t ≤ 2000000000000) (K : V → Option V) : ∀ (k : Nat) (st : Bool × Int × Int × Int) (G : Nat), mea t st < k → k ≤ G → (st.1 = true → (0 ≤ st.2.1 ∧ st.2.1 < xs.length) ∧ -3000000000000 ≤ st.2.2.2 ∧ st.2.2.2 ≤ 3000000000000) →
    cLa_L0 F [] G xs s off t b st.1 st.2.1 st.2.2.1 st.2.2.2 c0 c1 c2 K = K (.tup [.agg [.int .i64 (lasL xs s off t k st).2.1, .int .i64 (lasL xs s off t k st).2.2.1, .int .i64 (lasL xs s off t k st).2.2.2], .bool (lasL xs s off t k st).1]) := by
  obtain ⟨_, hlen⟩ := rs_all hr
  intro k
  induction k with
  | zero => intro st G h; omega
  | succ k ih =>
    intro st G h1 h2 h3
    obtain ⟨G, rfl⟩ := Nat.exists_eq_succ_of_ne_zero (show G ≠ 0 by omega)
    rw [cLa_L0_succ]
    unfold lasL
    cases hb : st.1 with
    | false => rw [sel_neg rfl, if_neg (by simp), hb]
    | true =>
      obtain ⟨⟨p1, p2⟩, p3, p4⟩ := h3 hb
      rw [sel_pos rfl, sel_pos (by simp only [band_iff, ile_iff, ilt_iff, llen_nat]; exact ⟨hr, ⟨p1, p2⟩, ho, p3, p4⟩)]
      by_cases hi : t < insA xs s off st.2.1 st.2.2.2
      · rw [sel_pos (ilt_t hi), sel_pos hr, if_pos (show true = true ∧ t < insA xs s off st.2.1 st.2.2.2 from ⟨rfl, hi⟩)]
        have hn := ins_near xs s off st.2.1 st.2.2.2 ho
        refine ih (prA xs s st.2.1 st.2.2.2) G ?_ (by omega) ?_
        · unfold mea at h1 ⊢
          rw [if_pos hb] at h1
          split
          next hp =>
            have hl := prev_less xs s _ _ hp
            have hin := prev_in xs s _ _ hp
            unfold lsB at hl
            rw [decide_eq_true_eq] at hl
            omega
          next => omega
        · intro hp
          have hl := prev_less xs s _ _ hp
          have hin := prev_in xs s _ _ hp
          have hnm := occ_lim (prev_occ hp)
          exact ⟨hin, hnm⟩
      · rw [sel_neg (ilt_f (by omega)), if_neg (fun x => hi x.2), hb]
noncomputable def lasA (xs : List V) (s : List UInt8) (off t : Int) : Bool × Int × Int × Int := lasL xs s off (clI t (-2000000000000) 2000000000000) 200000000 (prA xs s (-1) (clI t (-2000000000000) 2000000000000 + 64801))
theorem last_ev (xs : List V) (s : List UInt8) (off t : Int) (hr : rsOk xs = true) (ho : -54000 ≤ off ∧ off ≤ 54000) : Contract fE 20 [.sl 41 [.str, .int .i64, .int .i64, .int .i64, .int .i64, .int .i64, .int .i64, .int .i64, .int .i64, .int .i64, .str] none xs, .str s, .int .i64 off, .int .i64 t] (.tup [.agg [.int .i64 (lasA xs s off t).2.1, .int .i64 (lasA xs s off t).2.2.1, .int .i64 (lasA xs s off t).2.2.2], .bool (lasA xs s off t).1]) := by
  refine contract_of_body fE_ok cS1_ok 200000000 3 ?_
  have hc := cl_in t (-2000000000000) 2000000000000 (by omega)
  obtain ⟨_, hlen⟩ := rs_all hr
  unfold lasA
  generalize hT : clI t (-2000000000000) 2000000000000 = T at hc ⊢
  rw [cLa_top, hT, sel_pos (ile_t ho.1), sel_neg (by rw [ile_t ho.2]; rfl), sel_pos hr, show iadd .i64 (iadd .i64 T 64800) 1 = T + 64801 by rw [iadd64 (a := T) (by omega), iadd64 (by omega)]; omega]
  refine las_loop 200000000 xs s off T false 0 0 0 hr ho hc some 200000000 (prA xs s (-1) (T + 64801)) 200000000 ?_ (Nat.le_refl _) ?_
  · unfold mea
    split
    next hp =>
      have hl := prev_less xs s _ _ hp
      have hin := prev_in xs s _ _ hp
      unfold lsB at hl
      rw [decide_eq_true_eq] at hl
      omega
    next => omega
  · intro hp
    exact ⟨prev_in xs s _ _ hp, occ_lim (prev_occ hp)⟩
theorem cNoS_ok (n : List UInt8) (f t m k w d c b v : Int) (l : List UInt8) (y : Int) (hc : ile (slen l) 900 = true) : Contract fE 75 [.agg [.str n, .int .i64 f, .int .i64 t, .int .i64 m, .int .i64 k, .int .i64 w, .int .i64 d, .int .i64 c, .int .i64 b, .int .i64 v, .str l], .int .i64 y] (.tup [.int .i64 (noI n f t m k w d c b v l y), .int .i64 (noE n f t m k w d c b v l y)]) := by
  refine contract_of_body fE_ok oS4_ok 5 3 ?_
  rw [cNo_top, sel_pos hc]
  unfold noI noE
  cases hr : ruP n f t m k w d c b v l with
  | false => rfl
  | true =>
    rw [sel_neg (show bnot true = false from rfl)]
    by_cases h1 : y < f
    · have e : (if f ≤ y ∧ y ≤ t then (0 : Int) else 1) = 1 := if_neg (by omega)
      rw [sel_pos (ilt_t h1), if_pos rfl, e]; rfl
    · rw [sel_neg (ilt_f (by omega))]
      by_cases h2 : t < y
      · have e : (if f ≤ y ∧ y ≤ t then (0 : Int) else 1) = 1 := if_neg (by omega)
        rw [sel_pos (ilt_t h2), if_pos rfl, e]; rfl
      · have h3 := (ru_ft hr).2.1
        have e : (if f ≤ y ∧ y ≤ t then (0 : Int) else 1) = 0 := if_pos (by omega)
        rw [sel_neg (ilt_f (by omega)), sel_pos (by rw [band_iff, ile_iff, ile_iff]; exact h3), if_pos rfl, e]; rfl
theorem cS2_ok : SOk fE cS2 := by
  unfold cS2
  refine SOk.cons (fun args r h => ?_) (cS1_ok)
  · unfold cNoS at h
    split at h
    · simp only [Option.some.injEq, Prod.mk.injEq] at h
      obtain ⟨hc, rfl⟩ := h
      exact cNoS_ok _ _ _ _ _ _ _ _ _ _ _ _ hc
    · cases h
theorem cIsS_ok (e : Nat) (o1 : Option Nat) (xs : List V) (s : List UInt8) (x y z : Int) (hc : rsOk xs = true) : Contract fE 53 [.sl e [.str, .int .i64, .int .i64, .int .i64, .int .i64, .int .i64, .int .i64, .int .i64, .int .i64, .int .i64, .str] o1 xs, .str s, .agg [.int .i64 x, .int .i64 y, .int .i64 z]] (.bool (isO xs s x y z)) := by
  refine lift1 (t := 41) (contract_of_body fE_ok cS2_ok 5 3 ?_)
  obtain ⟨hall, _⟩ := rs_all hc
  rw [cIs_top]
  unfold isO
  by_cases h1 : x < 0
  · rw [sel_pos (ilt_t h1), ile_f (a := 0) (b := x) (by omega)]; rfl
  · rw [sel_neg (ilt_f (by omega))]
    by_cases h2 : llen xs ≤ x
    · rw [sel_pos (ile_t h2), ile_t (show 0 ≤ x by omega), ilt_f (a := x) (b := llen xs) (by omega)]; rfl
    · have hb : band (ile 0 x) (ilt x (llen xs)) = true := by rw [band_iff, ile_iff, ilt_iff]; omega
      have hrk : ile (slen (asStr (acell (lget xs x) 10))) 900 = true := by
        refine hall (lget xs x) ?_
        rw [llen_nat] at h2
        unfold lget
        rw [List.getD_eq_getElem?_getD, List.getElem?_eq_getElem (by omega), Option.getD_some]
        exact List.getElem_mem _
      rw [sel_neg (ile_f (by omega)), sel_pos hb, sel_pos hb, sel_pos hrk, hb]
      show sel (bnot (seq (asStr (acell (lget xs x) 0)) s)) _ (sel (ieq (noX (lget xs x) y) 0) (some (V.bool (ieq (noV (lget xs x) y) z))) _) = _
      cases seq (asStr (acell (lget xs x) 0)) s <;> cases ieq (noX (lget xs x) y) 0 <;> rfl
theorem cS3_ok : SOk fE cS3 := by
  unfold cS3
  refine SOk.cons (fun args r h => ?_) (cS2_ok)
  · unfold cIsS at h
    split at h
    · simp only [Option.some.injEq, Prod.mk.injEq] at h
      obtain ⟨hc, rfl⟩ := h
      exact cIsS_ok _ _ _ _ _ _ _ hc
    · cases h
end Nt.Ev.YtheojhajckcdlaaGreatDoor.Cn

namespace Nt.Ev.YtheojhajckcdlaaGreatDoor.Cn
set_option maxRecDepth 100000
open Go Go.RowKit Nt Nt.Num Go.Proofs.YtheojhajckcdlaaGreatDoor Nt.Ev.YtheojhajckcdlaaGreatDoor Nt.Civil Nt.Ev.YtheojhajckcdlaaGreatDoor.Rl Nt.Ev.YtheojhajckcdlaaGreatDoor.Oc Nt.Ev.YtheojhajckcdlaaGreatDoor.Un Nt.Ev.YtheojhajckcdlaaGreatDoor.On
variable [MLen]
theorem ahead_mono {y y' : Int} (h : y ≤ y') : aheadI y + 365 * (y' - y) ≤ aheadI y' := by
  unfold aheadI leapsI; omega
theorem cum_in (y m : Int) (hm : 1 ≤ m ∧ m ≤ 12) : 0 ≤ cumI y m ∧ cumI y m ≤ 335 := by
  unfold cumI
  (repeat' split) <;> omega
theorem cum_two (y y' m : Int) : cumI y m - 1 ≤ cumI y' m := by
  unfold cumI
  (repeat' split) <;> omega
theorem oy_off {k w d m y : Int} (h : ftP k w d m = true) (hy : -32767 ≤ y ∧ y ≤ 32767) : daysI y m 1 - 6 ≤ oyI k w d y m ∧ oyI k w d y m ≤ daysI y m 1 + 37 := by
  unfold oyI
  rw [if_pos (show ftP k w d m = true ∧ -39999 ≤ y ∧ y ≤ 39999 from ⟨h, by omega, by omega⟩)]
  have hk := ft_k h
  have hl := len_pos y m (by omega) (by omega)
  have b1 := bk_in (daysI y m 1 + lenI y m - 1) w
  have b2 := bk_in (daysI y m 1 + d + 5) w
  have b3 := bk_in (daysI y m 1 + d - 1) w
  repeat' split
  all_goals omega
theorem ft_m {k w d m : Int} (h : ftP k w d m = true) : 1 ≤ m ∧ m ≤ 12 := by have := ft_k h; omega
theorem nom_low {k w d m c y : Int} (h : ftP k w d m = true) (hc : 0 ≤ c) (hy : -32767 ≤ y ∧ y ≤ 32767) : (aheadI y - 6) * 86400 ≤ nomI m k w d c y := by
  have h1 := oy_off h hy
  have h2 := cum_in y m (ft_m h)
  unfold nomI
  unfold daysI ydI at h1
  omega
theorem nom_mono {k w d m c y y' : Int} (h : ftP k w d m = true) (hy : -32767 ≤ y) (hy' : y' ≤ 32767) (hl : y < y') : nomI m k w d c y < nomI m k w d c y' := by
  have h1 := oy_off h (y := y) ⟨hy, by omega⟩
  have h2 := oy_off h (y := y') ⟨by omega, hy'⟩
  have h3 := ahead_mono (show y ≤ y' by omega)
  have h4 := cum_two y y' m
  unfold nomI
  unfold daysI ydI at h1 h2
  omega
theorem near_year (z : Int) : nearI z = dY (clI z (-1099511627776) 1099511627776 / 86400) := by
  have h := cl_in z (-1099511627776) 1099511627776 (by omega)
  unfold nearI
  generalize clI z (-1099511627776) 1099511627776 = u at h ⊢
  have hr : inRange (u / 86400) = true := by
    unfold inRange
    rw [decide_eq_true_eq, ahead_lo, ahead_hi]; omega
  have e1 : soE u = 0 := by unfold soE Nt.Ev.YtheojhajckcdlaaGreatDoor.ofP; rw [if_pos hr]
  have e2 : soA 0 u = dY (u / 86400) := by unfold soA Nt.Ev.YtheojhajckcdlaaGreatDoor.ofP; rw [if_pos hr]; rfl
  rw [if_pos e1, e2]
theorem year_in (n : Int) : aheadI (dY n) ≤ n ∧ n < aheadI (dY n + 1) := by
  obtain ⟨_, _, _, _, _, _, _, _, hv, hd⟩ := date_facts n
  have h := days_year hv
  rw [hd] at h
  exact h
theorem ahead_end : aheadI 32767 = 11248373 := by decide
theorem year_near {k w d m c y z : Int} (h : ftP k w d m = true) (hc : 0 ≤ c) (hy : -32767 ≤ y ∧ y ≤ 32767) (hz : nomI m k w d c y ≤ z) : y ≤ nearI z + 2 := by
  have hn := nom_low h hc hy
  rw [near_year]
  have hcl := cl_in z (-1099511627776) 1099511627776 (by omega)
  have hcz : z ≤ clI z (-1099511627776) 1099511627776 ∨ clI z (-1099511627776) 1099511627776 = 1099511627776 := by
    unfold clI; (repeat' split) <;> omega
  generalize clI z (-1099511627776) 1099511627776 = u at hcl hcz ⊢
  have hu := year_in (u / 86400)
  generalize dY (u / 86400) = q at hu ⊢
  by_cases hq : y ≤ q + 2
  · exact hq
  · exfalso
    have h3 := ahead_mono (show q + 1 ≤ y by omega)
    rcases hcz with hcz | hcz
    · omega
    · have h4 := ahead_mono (show q + 1 ≤ 32767 by omega)
      rw [ahead_end] at h4
      omega
theorem dn_max {P : Int → Bool} : ∀ (r : Nat) (j y : Int), P y = true → y ≤ j → j - r < y → ∃ y', dnY P r j = some y' ∧ y ≤ y'
  | 0, j, y, _, h1, h2 => by omega
  | r + 1, j, y, hp, h1, h2 => by
    cases hj : P j with
    | true => exact ⟨j, dn_t hj, h1⟩
    | false =>
      rw [dn_f hj]
      have : y ≠ j := fun e => by rw [e, hj] at hp; cases hp
      exact dn_max r (j - 1) y hp (by omega) (by omega)
theorem ls_iff {r n r2 n2 : Int} : lsB r n r2 n2 = true ↔ n < n2 ∨ n = n2 ∧ r < r2 := by unfold lsB; rw [decide_eq_true_eq]
theorem ls_not {r n r2 n2 : Int} : lsB r n r2 n2 = false ↔ ¬ (n < n2 ∨ n = n2 ∧ r < r2) := by unfold lsB; rw [decide_eq_false_iff_not]
theorem bV_max {xs : List V} {s : List UInt8} {r y n x z : Int} (h : Occ xs s r y n) (hl : lsB r n x z = true) : bV (lget xs r) r (nearI z) x z = true ∧ n ≤ nV (lget xs r) r (nearI z) x z := by
  obtain ⟨_, _, hr, h1, h2, rfl⟩ := h
  have hf := ru_ft hr
  have hy : -32767 ≤ y ∧ y ≤ 32767 := by omega
  have hq : y ≤ nearI z + 2 := year_near hf.1 hf.2.1.1 hy (by rw [ls_iff] at hl; omega)
  obtain ⟨y', hd, hyy⟩ := dn_max (P := fun y => lsB r (nomI (asInt (acell (lget xs r) 3)) (asInt (acell (lget xs r) 4)) (asInt (acell (lget xs r) 5)) (asInt (acell (lget xs r) 6)) (asInt (acell (lget xs r) 7)) y) x z) ((if asInt (acell (lget xs r) 2) < nearI z + 2 then asInt (acell (lget xs r) 2) else nearI z + 2) - asInt (acell (lget xs r) 1) + 1).toNat (if asInt (acell (lget xs r) 2) < nearI z + 2 then asInt (acell (lget xs r) 2) else nearI z + 2) y hl (by split <;> omega) (by split <;> omega)
  have hb : bV (lget xs r) r (nearI z) x z = true := by
    unfold bV pvB pvO
    rw [hd]; rfl
  refine ⟨hb, ?_⟩
  obtain ⟨e1, e2, e3, e4, _⟩ := bV_good hb
  have e5 : yV (lget xs r) r (nearI z) x z = y' := by unfold yV qvY pvO; rw [hd]; rfl
  rw [e4, e5]
  by_cases e : y = y'
  · rw [e]; exact Int.le_refl _
  · exact Int.le_of_lt (nom_mono hf.1 (by omega) (by omega) (by omega))
theorem pr_max (xs : List V) (s : List UInt8) (q x z : Int) : ∀ (k : Nat) (i : Int) (st : Bool × Int × Int × Int), 0 ≤ i →
    (st.1 = true → (prL xs s q x z k i st).1 = true ∧ lsB (prL xs s q x z k i st).2.1 (prL xs s q x z k i st).2.2.2 st.2.1 st.2.2.2 = false) ∧
    ∀ j, i ≤ j → j < i + k → seq (asStr (acell (lget xs j) 0)) s = true → ruV (lget xs j) = true → bV (lget xs j) j q x z = true → (prL xs s q x z k i st).1 = true ∧ lsB (prL xs s q x z k i st).2.1 (prL xs s q x z k i st).2.2.2 j (nV (lget xs j) j q x z) = false := by
  intro k
  induction k with
  | zero =>
    intro i st h0
    refine ⟨fun h => ⟨h, ?_⟩, fun j h1 h2 => by omega⟩
    rw [ls_not]
    show ¬ (st.2.2.2 < st.2.2.2 ∨ st.2.2.2 = st.2.2.2 ∧ st.2.1 < st.2.1)
    omega
  | succ k ih =>
    intro i st h0
    unfold prL
    simp only
    generalize hst : (if seq (asStr (acell (lget xs i) 0)) s = true ∧ ruV (lget xs i) = true ∧ bV (lget xs i) i q x z = true ∧ (st.1 = false ∨ lsB st.2.1 st.2.2.2 (rV (lget xs i) i q x z) (nV (lget xs i) i q x z) = true) then ((true, rV (lget xs i) i q x z, yV (lget xs i) i q x z, nV (lget xs i) i q x z) : Bool × Int × Int × Int) else st) = st'
    obtain ⟨ih1, ih2⟩ := ih (i + 1) st' (by omega)
    have key1 : st.1 = true → st'.1 = true ∧ lsB st'.2.1 st'.2.2.2 st.2.1 st.2.2.2 = false := by
      intro h
      rw [← hst]
      split
      next hc =>
        refine ⟨rfl, ?_⟩
        rcases hc.2.2.2 with hc | hc
        · rw [h] at hc; cases hc
        · rw [ls_iff] at hc
          rw [ls_not]
          show ¬ (nV (lget xs i) i q x z < st.2.2.2 ∨ nV (lget xs i) i q x z = st.2.2.2 ∧ rV (lget xs i) i q x z < st.2.1)
          omega
      next => exact ⟨h, by rw [ls_not]; omega⟩
    have key2 : seq (asStr (acell (lget xs i) 0)) s = true → ruV (lget xs i) = true → bV (lget xs i) i q x z = true → st'.1 = true ∧ lsB st'.2.1 st'.2.2.2 i (nV (lget xs i) i q x z) = false := by
      intro h1 h2 h3
      have e3 := (bV_good h3).1
      rw [← hst]
      split
      next hc => exact ⟨rfl, by rw [ls_not]; show ¬ (nV (lget xs i) i q x z < nV (lget xs i) i q x z ∨ nV (lget xs i) i q x z = nV (lget xs i) i q x z ∧ rV (lget xs i) i q x z < i); omega⟩
      next hc =>
        have h4 : ¬ (st.1 = false ∨ lsB st.2.1 st.2.2.2 (rV (lget xs i) i q x z) (nV (lget xs i) i q x z) = true) := fun h => hc ⟨h1, h2, h3, h⟩
        refine ⟨?_, ?_⟩
        · cases hb : st.1 with
          | true => rfl
          | false => exact absurd (.inl hb) h4
        · cases hb : lsB st.2.1 st.2.2.2 i (nV (lget xs i) i q x z) with
          | false => rfl
          | true => exact absurd (.inr (by rw [e3]; exact hb)) h4
    have tr : ∀ r n, st'.1 = true → lsB st'.2.1 st'.2.2.2 r n = false → (prL xs s q x z k (i + 1) st').1 = true ∧ lsB (prL xs s q x z k (i + 1) st').2.1 (prL xs s q x z k (i + 1) st').2.2.2 r n = false := by
      intro r n h1 h2
      obtain ⟨h3, h4⟩ := ih1 h1
      refine ⟨h3, ?_⟩
      rw [ls_not] at h2 h4 ⊢
      omega
    refine ⟨fun h => ?_, fun j h1 h2 h3 h4 h5 => ?_⟩
    · obtain ⟨k1, k2⟩ := key1 h
      exact tr _ _ k1 k2
    · by_cases e : j = i
      · subst e
        obtain ⟨k1, k2⟩ := key2 h3 h4 h5
        exact tr _ _ k1 k2
      · exact ih2 j (by omega) (by omega) h3 h4 h5
theorem prev_max {xs : List V} {s : List UInt8} {r y n x z : Int} (h : Occ xs s r y n) (hl : lsB r n x z = true) : (prA xs s x z).1 = true ∧ lsB (prA xs s x z).2.1 (prA xs s x z).2.2.2 r n = false := by
  obtain ⟨h1, h2⟩ := bV_max h hl
  obtain ⟨⟨h3, h4⟩, h5, h6, _⟩ := h
  obtain ⟨k1, k2⟩ := (pr_max xs s (nearI z) x z xs.length 0 (false, 0, 0, 0) (by omega)).2 r h3 (by omega) (by rw [seq_iff]; exact h5) h6 h1
  refine ⟨k1, ?_⟩
  have k2 : lsB (prA xs s x z).2.1 (prA xs s x z).2.2.2 r (nV (lget xs r) r (nearI z) x z) = false := k2
  rw [ls_not] at k2 ⊢
  omega
theorem occ_year {xs : List V} {s : List UInt8} {r y y2 n : Int} (h : Occ xs s r y n) (h2 : Occ xs s r y2 n) : y = y2 := by
  obtain ⟨_, _, hr, a1, a2, a3⟩ := h
  obtain ⟨_, _, _, b1, b2, b3⟩ := h2
  have hf := ru_ft hr
  rcases Int.lt_trichotomy y y2 with hl | hl | hl
  · have := nom_mono (c := asInt (acell (lget xs r) 7)) hf.1 (y := y) (y' := y2) (by omega) (by omega) hl
    omega
  · exact hl
  · have := nom_mono (c := asInt (acell (lget xs r) 7)) hf.1 (y := y2) (y' := y) (by omega) (by omega) hl
    omega
noncomputable def insO (xs : List V) (s : List UInt8) (r n : Int) : Int := n - (if bsO xs r = 0 then svA xs s r n else 0)
def NoUtc (xs : List V) (s : List UInt8) : Prop := ∀ r, 0 ≤ r → r < (xs.length : Int) → asStr (acell (lget xs r) 0) = s → bsO xs r ≠ 2
theorem ins_off {xs : List V} {s : List UInt8} {r y n off : Int} (hu : NoUtc xs s) (h : Occ xs s r y n) : insA xs s off r n = insO xs s r n - off := by
  have h1 := hu r h.1.1 h.1.2 h.2.1
  have h2 : rightC (asInt (acell (lget xs r) 7)) (asInt (acell (lget xs r) 8)) = true := by
    have := h.2.2.1
    unfold ruV ruP at this
    simp only [Bool.and_eq_true] at this
    exact this.2.2.2.1
  unfold Rl.rightC at h2
  rw [decide_eq_true_eq] at h2
  unfold insA insO
  have h3 : bsO xs r = asInt (acell (lget xs r) 8) := rfl
  by_cases b0 : bsO xs r = 0
  · rw [if_pos b0, if_pos b0]; omega
  · have b1 : bsO xs r = 1 := by omega
    rw [if_neg b0, if_neg b0, if_pos b1]; omega
def Best (xs : List V) (s : List UInt8) (t : Int) (st : Bool × Int × Int × Int) : Prop :=
  (st.1 = true → Occ xs s st.2.1 st.2.2.1 st.2.2.2 ∧ insO xs s st.2.1 st.2.2.2 ≤ t) ∧ ∀ r y n, Occ xs s r y n → insO xs s r n ≤ t → st.1 = true ∧ lsB st.2.1 st.2.2.2 r n = false
theorem best_one {xs : List V} {s : List UInt8} {t : Int} {a b : Bool × Int × Int × Int} (ha : Best xs s t a) (hb : Best xs s t b) : a.1 = b.1 ∧ (a.1 = true → a = b) := by
  have key : a.1 = true → b.1 = true → a = b := by
    intro h1 h2
    obtain ⟨a1, a2⟩ := ha.1 h1
    obtain ⟨b1, b2⟩ := hb.1 h2
    have c1 := (ha.2 _ _ _ b1 b2).2
    have c2 := (hb.2 _ _ _ a1 a2).2
    rw [ls_not] at c1 c2
    have e1 : a.2.1 = b.2.1 := by omega
    have e2 : a.2.2.2 = b.2.2.2 := by omega
    rw [e1, e2] at a1
    have e3 := occ_year a1 b1
    obtain ⟨p, q, r, n⟩ := a
    obtain ⟨p', q', r', n'⟩ := b
    simp only at *
    subst e1; subst e2; subst e3
    rw [h1, h2]
  cases h1 : a.1 with
  | true =>
    obtain ⟨a1, a2⟩ := ha.1 h1
    have h2 := (hb.2 _ _ _ a1 a2).1
    exact ⟨h2.symm, fun _ => key h1 h2⟩
  | false =>
    refine ⟨?_, fun h => by cases h⟩
    cases h2 : b.1 with
    | false => rfl
    | true =>
      obtain ⟨b1, b2⟩ := hb.1 h2
      have := (ha.2 _ _ _ b1 b2).1
      rw [h1] at this; cases this
theorem las_best {xs : List V} {s : List UInt8} {off t : Int} (hu : NoUtc xs s) (ho : -54000 ≤ off ∧ off ≤ 54000) (hlen : xs.length ≤ 1000) : ∀ (k : Nat) (st : Bool × Int × Int × Int), mea (t - off) st < k → (st.1 = true → Occ xs s st.2.1 st.2.2.1 st.2.2.2) → (∀ r y n, Occ xs s r y n → insO xs s r n ≤ t → st.1 = true ∧ lsB st.2.1 st.2.2.2 r n = false) → Best xs s t (lasL xs s off (t - off) k st)
  | 0, st, h, _, _ => by omega
  | k + 1, st, h1, h2, h3 => by
    unfold lasL
    split
    next hc =>
      obtain ⟨hb, hi⟩ := hc
      have hocc := h2 hb
      rw [ins_off hu hocc] at hi
      refine las_best hu ho hlen k _ ?_ (fun hp => prev_occ hp) ?_
      · have hn := ins_near xs s off st.2.1 st.2.2.2 ho
        rw [ins_off hu hocc] at hn
        have hin0 := hocc.1
        unfold mea at h1 ⊢
        rw [if_pos hb] at h1
        split
        next hp =>
          have hl := prev_less xs s _ _ hp
          have hin := prev_in xs s _ _ hp
          rw [ls_iff] at hl
          omega
        next => omega
      · intro r y n ho' hi'
        obtain ⟨c1, c2⟩ := h3 r y n ho' hi'
        refine prev_max ho' ?_
        rw [ls_not] at c2
        rw [ls_iff]
        by_cases e : n = st.2.2.2 ∧ r = st.2.1
        · obtain ⟨e1, e2⟩ := e
          rw [e1, e2] at hi'
          omega
        · omega
    next hc =>
      refine ⟨fun hb => ⟨h2 hb, ?_⟩, h3⟩
      have : ¬ (t - off < insA xs s off st.2.1 st.2.2.2) := fun x => hc ⟨hb, x⟩
      rw [ins_off hu (h2 hb)] at this
      omega
theorem last_best {xs : List V} {s : List UInt8} {off t : Int} (hu : NoUtc xs s) (ho : -54000 ≤ off ∧ off ≤ 54000) (hlen : xs.length ≤ 1000) (ht : -1099511627776 ≤ t ∧ t ≤ 1099511627776) : Best xs s t (lasA xs s off (t - off)) := by
  have e : clI (t - off) (-2000000000000) 2000000000000 = t - off := by unfold clI; (repeat' split) <;> omega
  unfold lasA
  rw [e]
  refine las_best hu ho hlen 200000000 _ ?_ (fun hp => prev_occ hp) ?_
  · unfold mea
    split
    next hp =>
      have hl := prev_less xs s _ _ hp
      have hin := prev_in xs s _ _ hp
      rw [ls_iff] at hl
      omega
    next => omega
  · intro r y n h1 h2
    refine prev_max h1 ?_
    have := sv_in xs s r n
    rw [ls_iff]
    unfold insO at h2
    split at h2 <;> omega
theorem last_same {xs : List V} {s : List UInt8} {a b t : Int} (hu : NoUtc xs s) (ha : -54000 ≤ a ∧ a ≤ 54000) (hb : -54000 ≤ b ∧ b ≤ 54000) (hlen : xs.length ≤ 1000) (ht : -1099511627776 ≤ t ∧ t ≤ 1099511627776) : (lasA xs s a (t - a)).1 = (lasA xs s b (t - b)).1 ∧ ((lasA xs s a (t - a)).1 = true → lasA xs s a (t - a) = lasA xs s b (t - b)) :=
  best_one (last_best hu ha hlen ht) (last_best hu hb hlen ht)
end Nt.Ev.YtheojhajckcdlaaGreatDoor.Cn

namespace Nt.Ev.YtheojhajckcdlaaGreatDoor.Fo
set_option maxRecDepth 100000
open Go Nt.Num Go.Proofs.YtheojhajckcdlaaGreatDoor
variable [MLen]
open Nt.Ev.YtheojhajckcdlaaGreatDoor
open Nt.Civil
open Nt.Ev.YtheojhajckcdlaaGreatDoor.Rl
open Nt.Ev.YtheojhajckcdlaaGreatDoor.Oc
open Nt.Ev.YtheojhajckcdlaaGreatDoor.Un
open Nt.Ev.YtheojhajckcdlaaGreatDoor.On
open Nt.Ev.YtheojhajckcdlaaGreatDoor.Cn
noncomputable def startV : V := .rptr [.int .i64, .int .i64, .int .i64] (.agg [.int .i64 (-1), .int .i64 0, .int .i64 (-2192387558400)]) 0
noncomputable def jE : Env := ⟨Go.Proofs.Tryz.prog, fun g => bif g == 0 then some startV else bif g == 1 then some (.rptr [.int .i64] (.int .i64 MLen.val) 0) else none⟩
noncomputable def fAbS : FSpec := fun a => match a with | [.str s, .int .i64 a, .int .i64 c, .str l] => some (band (ile (slen s) 900) (ile (slen l) 900), .tup [.str (abT s a c l), .int .i64 (abW s a c l)]) | _ => none
noncomputable def laB (xs : List V) (s : List UInt8) (off t : Int) : Bool := (lasA xs s off t).1
noncomputable def laR (xs : List V) (s : List UInt8) (off t : Int) : Int := (lasA xs s off t).2.1
noncomputable def laY (xs : List V) (s : List UInt8) (off t : Int) : Int := (lasA xs s off t).2.2.1
noncomputable def laN (xs : List V) (s : List UInt8) (off t : Int) : Int := (lasA xs s off t).2.2.2
noncomputable def fLaS : FSpec := fun a => match a with | [.sl e [.str, .int .i64, .int .i64, .int .i64, .int .i64, .int .i64, .int .i64, .int .i64, .int .i64, .int .i64, .str] o1 xs, .str s, .int .i64 off, .int .i64 t] => some (band (rsOk xs) (inR off 54000), .tup [.agg [.int .i64 (laR xs s off t), .int .i64 (laY xs s off t), .int .i64 (laN xs s off t)], .bool (laB xs s off t)]) | _ => none
noncomputable def itE (xs : List V) (s : List UInt8) (off x y z : Int) : Int := sel (inR off 54000) (sel (isO xs s x y z) 0 12) 1
noncomputable def itI (xs : List V) (s : List UInt8) (off x y z : Int) : Int := sel (inR off 54000) (sel (isO xs s x y z) (insA xs s off x z) 0) 0
noncomputable def fItS : FSpec := fun a => match a with | [.sl e [.str, .int .i64, .int .i64, .int .i64, .int .i64, .int .i64, .int .i64, .int .i64, .int .i64, .int .i64, .str] o1 xs, .str s, .int .i64 off, .agg [.int .i64 x, .int .i64 y, .int .i64 z]] => some (rsOk xs, .tup [.int .i64 (itI xs s off x y z), .int .i64 (itE xs s off x y z)]) | _ => none
noncomputable def foS0 : List (Nat × FSpec) := (35, fAbS) :: (20, fLaS) :: (29, fItS) :: (7, uErS) :: []
def fiN (xs : List V) (r : List UInt8) : Nat → Nat → Option Nat | 0, _ => none | k + 1, i => if seq (asStr (acell (lget xs i) 0)) r = true ∧ asInt (acell (lget xs i) 9) = 0 then some i else fiN xs r k (i + 1)
def fiX (xs : List V) (r : List UInt8) : Option Nat := fiN xs r xs.length 0
def fi0 (xs vs : List V) (r : List UInt8) (o : Int) : Int := match fiX xs r with | some i => asInt (acell (lget vs i) 0) | none => o
def fi1 (xs vs : List V) (r : List UInt8) (o : Int) : Int := match fiX xs r with | some i => asInt (acell (lget vs i) 1) | none => 0
def fi2 (xs vs : List V) (r : List UInt8) (o : Int) (q : List UInt8) : List UInt8 := match fiX xs r with | some i => asStr (acell (lget vs i) 2) | none => abT q o 0 []
noncomputable def fFiS : FSpec := fun a => match a with | [.rptr kk (.agg [.int .i64 o, .int .i64 k, .int .i64 v, .str r, .str q, .bool h, .int .i64 y, .int .i64 m, .int .i64 ok, .int .i64 ow, .int .i64 od, .int .i64 c, .int .i64 b, .sl er [.str, .int .i64, .int .i64, .int .i64, .int .i64, .int .i64, .int .i64, .int .i64, .int .i64, .int .i64, .str] or_ xs, .sl ev [.int .i64, .int .i64, .str] ov vs]) 0] => some (band (ile (slen q) 900) (band (inR o 54000) (band (rsOk xs) (ile (llen xs) (llen vs)))), .agg [.int .i64 (fi0 xs vs r o), .int .i64 (fi1 xs vs r o), .str (fi2 xs vs r o q)]) | _ => none
noncomputable def foS1 : List (Nat × FSpec) := (21, fFiS) :: foS0
noncomputable def atB (xs : List V) (r : List UInt8) (o k t : Int) : Bool := if k = 2 then laB xs r o t else false
noncomputable def atR (xs : List V) (r : List UInt8) (o k t : Int) : Int := if k = 2 then laR xs r o t else 0
noncomputable def atY (xs : List V) (r : List UInt8) (o k t : Int) : Int := if k = 2 then laY xs r o t else 0
noncomputable def atN (xs : List V) (r : List UInt8) (o k t : Int) : Int := if k = 2 then laN xs r o t else 0
noncomputable def avO (xs vs : List V) (r : List UInt8) (o k v t : Int) : Int := if k = 2 then (if laB xs r o t = true then asInt (acell (lget vs (laR xs r o t)) 0) else fi0 xs vs r o) else iadd .i64 o v
noncomputable def avS (xs vs : List V) (r : List UInt8) (o k v t : Int) : Int := if k = 2 then (if laB xs r o t = true then asInt (acell (lget vs (laR xs r o t)) 1) else fi1 xs vs r o) else v
noncomputable def avT (xs vs : List V) (r : List UInt8) (o : Int) (q : List UInt8) (k v t : Int) : List UInt8 := if k = 2 then (if laB xs r o t = true then asStr (acell (lget vs (laR xs r o t)) 2) else fi2 xs vs r o q) else abT q (iadd .i64 o v) v []
noncomputable def fAtS : FSpec := fun a => match a with | [.rptr kk (.agg [.int .i64 o, .int .i64 k, .int .i64 v, .str r, .str q, .bool h, .int .i64 y, .int .i64 m, .int .i64 ok, .int .i64 ow, .int .i64 od, .int .i64 c, .int .i64 b, .sl er [.str, .int .i64, .int .i64, .int .i64, .int .i64, .int .i64, .int .i64, .int .i64, .int .i64, .int .i64, .str] or_ xs, .sl ev [.int .i64, .int .i64, .str] ov vs]) 0, .int .i64 t] => some (band (rsOk xs) (band (ile (slen q) 900) (band (inR o 54000) (ieq (llen xs) (llen vs)))), .tup [.agg [.int .i64 (avO xs vs r o k v t), .int .i64 (avS xs vs r o k v t), .str (avT xs vs r o q k v t)], .agg [.int .i64 (atR xs r o k t), .int .i64 (atY xs r o k t), .int .i64 (atN xs r o k t)], .bool (atB xs r o k t)]) | _ => none
noncomputable def ivI (b : Bool) (xs : List V) (r : List UInt8) (o x y z : Int) : Int := sel b (itI xs r o x y z) 0
noncomputable def fInS : FSpec := fun a => match a with | [.rptr kk (.agg [.int .i64 o, .int .i64 k, .int .i64 v, .str r, .str q, .bool h, .int .i64 y, .int .i64 m, .int .i64 ok, .int .i64 ow, .int .i64 od, .int .i64 c, .int .i64 b, .sl er [.str, .int .i64, .int .i64, .int .i64, .int .i64, .int .i64, .int .i64, .int .i64, .int .i64, .int .i64, .str] or_ xs, .sl ev [.int .i64, .int .i64, .str] ov vs]) 0, .agg [.int .i64 x, .int .i64 j, .int .i64 z], .bool is] => some (rsOk xs, .tup [.int .i64 (ivI is xs r o x j z), .bool is]) | _ => none
def vaE (r : List UInt8) (o : Int) (q : List UInt8) (e : V) : V := sel (seq (asStr (acell e 0)) r) (.agg [.int .i64 (iadd .i64 o (asInt (acell e 9))), .int .i64 (asInt (acell e 9)), .str (abT q (iadd .i64 o (asInt (acell e 9))) (asInt (acell e 9)) (asStr (acell e 10)))]) (.agg [.int .i64 0, .int .i64 0, .str []])
def vaL (xs : List V) (r : List UInt8) (o : Int) (q : List UInt8) : List V := xs.map (vaE r o q)
noncomputable def fOfS : FSpec := fun a => match a with | [.sl e [.str, .int .i64, .int .i64, .int .i64, .int .i64, .int .i64, .int .i64, .int .i64, .int .i64, .int .i64, .str] o1 xs, .agg [.int .i64 o, .int .i64 k, .int .i64 v, .str r, .str q, .bool h, .int .i64 y, .int .i64 m, .int .i64 ok, .int .i64 ow, .int .i64 od, .int .i64 c, .int .i64 b]] => some (band (rsOk xs) (ile (slen q) 900), .rptr [.int .i64, .int .i64, .int .i64, .str, .str, .bool, .int .i64, .int .i64, .int .i64, .int .i64, .int .i64, .int .i64, .int .i64, .sl 41 [.str, .int .i64, .int .i64, .int .i64, .int .i64, .int .i64, .int .i64, .int .i64, .int .i64, .int .i64, .str], .sl 32 [.int .i64, .int .i64, .str]] (.agg [.int .i64 o, .int .i64 k, .int .i64 v, .str r, .str q, .bool h, .int .i64 y, .int .i64 m, .int .i64 ok, .int .i64 ow, .int .i64 od, .int .i64 c, .int .i64 b, .sl 41 [.str, .int .i64, .int .i64, .int .i64, .int .i64, .int .i64, .int .i64, .int .i64, .int .i64, .int .i64, .str] none xs, .sl 32 [.int .i64, .int .i64, .str] none (vaL xs r o q)]) 0) | _ => none
noncomputable def fClS : FSpec := fun a => match a with | [.sl e [.str, .int .i64, .int .i64, .int .i64, .int .i64, .int .i64, .int .i64, .int .i64, .int .i64, .int .i64, .str] o1 xs] => some (ile (llen xs) 1000, .sl 41 [.str, .int .i64, .int .i64, .int .i64, .int .i64, .int .i64, .int .i64, .int .i64, .int .i64, .int .i64, .str] (some 0) xs) | _ => none
noncomputable def foSC : List (Nat × FSpec) := (34, fClS) :: foS1
def otE (a0 a1 : Int) (a2 : List UInt8) (e u : V) : V := sel (band (ieq (asInt (acell u 0)) a0) (band (ieq (asInt (acell u 1)) a1) (seq (asStr (acell u 2)) a2))) (aset e 0 (.str [])) e
def otL (xs vs : List V) (a0 a1 : Int) (a2 : List UInt8) : List V := List.zipWith (otE a0 a1 a2) xs vs
noncomputable def fOtS : FSpec := fun a => match a with | [.rptr kk (.agg [.int .i64 o, .int .i64 k, .int .i64 v, .str r, .str q, .bool h, .int .i64 y, .int .i64 m, .int .i64 ok, .int .i64 ow, .int .i64 od, .int .i64 c, .int .i64 b, .sl er [.str, .int .i64, .int .i64, .int .i64, .int .i64, .int .i64, .int .i64, .int .i64, .int .i64, .int .i64, .str] or_ xs, .sl ev [.int .i64, .int .i64, .str] ov vs]) 0, .agg [.int .i64 a0, .int .i64 a1, .str a2]] => some (band (ile (llen xs) 1000) (ieq (llen xs) (llen vs)), .sl 41 [.str, .int .i64, .int .i64, .int .i64, .int .i64, .int .i64, .int .i64, .int .i64, .int .i64, .int .i64, .str] (some 0) (otL xs vs a0 a1 a2)) | _ => none
def nxB (xs : List V) (s : List UInt8) (x z : Int) : Bool := (nxA xs s x z).1
def nxR (xs : List V) (s : List UInt8) (x z : Int) : Int := (nxA xs s x z).2.1
def nxY (xs : List V) (s : List UInt8) (x z : Int) : Int := (nxA xs s x z).2.2.1
def nxN (xs : List V) (s : List UInt8) (x z : Int) : Int := (nxA xs s x z).2.2.2
noncomputable def fNxS : FSpec := fun a => match a with | [.sl e [.str, .int .i64, .int .i64, .int .i64, .int .i64, .int .i64, .int .i64, .int .i64, .int .i64, .int .i64, .str] o1 xs, .str s, .agg [.int .i64 x, .int .i64 y, .int .i64 z]] => some (rsOk xs, .tup [.agg [.int .i64 (nxR xs s x z), .int .i64 (nxY xs s x z), .int .i64 (nxN xs s x z)], .bool (nxB xs s x z)]) | _ => none
noncomputable def foS2 : List (Nat × FSpec) := (10, fAtS) :: (16, fInS) :: (9, fOfS) :: (18, fOtS) :: (17, fNxS) :: foS1
noncomputable def fFi_L0 (F : Nat) (ns : List Nat) (n : Nat) (x0_p_0 : Int) (x0_p_1 : Int) (x0_p_2 : Int) (x0_p_3 : List UInt8) (x0_p_4 : List UInt8) (x0_p_5 : Bool) (x0_p_6 : Int) (x0_p_7 : Int) (x0_p_8 : Int) (x0_p_9 : Int) (x0_p_10 : Int) (x0_p_11 : Int) (x0_p_12 : Int) (x0_p_13 : List V) (x0_p_14 : List V) (x8 : List V) (x9 : Int) (x10 : Int) (b2_0 : Int) (b2_1 : Int) (b2_2 : List UInt8) (K : V → Option V) : Option V :=
 loopAt jE foS0 F 3 21 [1, 0, 1, 0] ns K n (mkSt 38 [(0, V.rptr [(Kd.int .i64), (Kd.int .i64), (Kd.int .i64), (Kd.str), (Kd.str), (Kd.bool), (Kd.int .i64), (Kd.int .i64), (Kd.int .i64), (Kd.int .i64), (Kd.int .i64), (Kd.int .i64), (Kd.int .i64), (Kd.sl 41 [(Kd.str), (Kd.int .i64), (Kd.int .i64), (Kd.int .i64), (Kd.int .i64), (Kd.int .i64), (Kd.int .i64), (Kd.int .i64), (Kd.int .i64), (Kd.int .i64), (Kd.str)]), (Kd.sl 32 [(Kd.int .i64), (Kd.int .i64), (Kd.str)])] (V.agg [V.int .i64 x0_p_0, V.int .i64 x0_p_1, V.int .i64 x0_p_2, V.str x0_p_3, V.str x0_p_4, V.bool x0_p_5, V.int .i64 x0_p_6, V.int .i64 x0_p_7, V.int .i64 x0_p_8, V.int .i64 x0_p_9, V.int .i64 x0_p_10, V.int .i64 x0_p_11, V.int .i64 x0_p_12, V.sl 41 [(Kd.str), (Kd.int .i64), (Kd.int .i64), (Kd.int .i64), (Kd.int .i64), (Kd.int .i64), (Kd.int .i64), (Kd.int .i64), (Kd.int .i64), (Kd.int .i64), (Kd.str)] none x0_p_13, V.sl 32 [(Kd.int .i64), (Kd.int .i64), (Kd.str)] none x0_p_14]) 0), (2, (V.box 2 0)), (8, V.sl 41 [(Kd.str), (Kd.int .i64), (Kd.int .i64), (Kd.int .i64), (Kd.int .i64), (Kd.int .i64), (Kd.int .i64), (Kd.int .i64), (Kd.int .i64), (Kd.int .i64), (Kd.str)] none x8), (9, V.int .i64 x9), (10, V.int .i64 x10)] [(2, [V.int .i64 b2_0, V.int .i64 b2_1, V.str b2_2])])
theorem fFi_top (F : Nat) (xs : List V) (vs : List V) (o : Int) (k : Int) (v : Int) (r : List UInt8) (q : List UInt8) (h : Bool) (y : Int) (m : Int) (ok : Int) (ow : Int) (od : Int) (c : Int) (b : Int) (K : V → Option V) :
 evBd jE (evFn jE foS0 F 3) F 21 [(V.rptr [(Kd.int .i64), (Kd.int .i64), (Kd.int .i64), (Kd.str), (Kd.str), (Kd.bool), (Kd.int .i64), (Kd.int .i64), (Kd.int .i64), (Kd.int .i64), (Kd.int .i64), (Kd.int .i64), (Kd.int .i64), (Kd.sl 41 [(Kd.str), (Kd.int .i64), (Kd.int .i64), (Kd.int .i64), (Kd.int .i64), (Kd.int .i64), (Kd.int .i64), (Kd.int .i64), (Kd.int .i64), (Kd.int .i64), (Kd.str)]), (Kd.sl 32 [(Kd.int .i64), (Kd.int .i64), (Kd.str)])] (V.agg [(V.int .i64 o), (V.int .i64 k), (V.int .i64 v), (V.str r), (V.str q), (V.bool h), (V.int .i64 y), (V.int .i64 m), (V.int .i64 ok), (V.int .i64 ow), (V.int .i64 od), (V.int .i64 c), (V.int .i64 b), (V.sl 41 [(Kd.str), (Kd.int .i64), (Kd.int .i64), (Kd.int .i64), (Kd.int .i64), (Kd.int .i64), (Kd.int .i64), (Kd.int .i64), (Kd.int .i64), (Kd.int .i64), (Kd.str)] none xs), (V.sl 32 [(Kd.int .i64), (Kd.int .i64), (Kd.str)] none vs)]) 0)] K =
 fFi_L0 F [] F o k v r q h y m ok ow od c b xs vs xs (llen xs) 0 0 0 [] K := by kernel_rfl
theorem fFi_L0_succ (F : Nat) (n : Nat) (x0_p_0 : Int) (x0_p_1 : Int) (x0_p_2 : Int) (x0_p_3 : List UInt8) (x0_p_4 : List UInt8) (x0_p_5 : Bool) (x0_p_6 : Int) (x0_p_7 : Int) (x0_p_8 : Int) (x0_p_9 : Int) (x0_p_10 : Int) (x0_p_11 : Int) (x0_p_12 : Int) (x0_p_13 : List V) (x0_p_14 : List V) (x8 : List V) (x9 : Int) (x10 : Int) (b2_0 : Int) (b2_1 : Int) (b2_2 : List UInt8) (K : V → Option V) :
 fFi_L0 F [] (n + 1) x0_p_0 x0_p_1 x0_p_2 x0_p_3 x0_p_4 x0_p_5 x0_p_6 x0_p_7 x0_p_8 x0_p_9 x0_p_10 x0_p_11 x0_p_12 x0_p_13 x0_p_14 x8 x9 x10 b2_0 b2_1 b2_2 K =
 sel (ilt x10 x9)
 (sel (band (ile 0 x10) (ilt x10 (llen x8)))
 (sel (seq (asStr (acell (lget x8 x10) 0)) x0_p_3)
 (sel (ieq (asInt (acell (lget x8 x10) 9)) 0)
 (sel (band (ile 0 x10) (ilt x10 (llen x0_p_14)))
 (K (V.agg [(V.int .i64 (asInt (acell (lget x0_p_14 x10) 0))), (V.int .i64 (asInt (acell (lget x0_p_14 x10) 1))), (V.str (asStr (acell (lget x0_p_14 x10) 2)))]))
 (none))
 (fFi_L0 F [] n x0_p_0 x0_p_1 x0_p_2 x0_p_3 x0_p_4 x0_p_5 x0_p_6 x0_p_7 x0_p_8 x0_p_9 x0_p_10 x0_p_11 x0_p_12 x0_p_13 x0_p_14 x8 x9 (iadd .i64 x10 1) b2_0 b2_1 b2_2 K))
 (fFi_L0 F [] n x0_p_0 x0_p_1 x0_p_2 x0_p_3 x0_p_4 x0_p_5 x0_p_6 x0_p_7 x0_p_8 x0_p_9 x0_p_10 x0_p_11 x0_p_12 x0_p_13 x0_p_14 x8 x9 (iadd .i64 x10 1) b2_0 b2_1 b2_2 K))
 (none))
 (sel (band (ile (slen x0_p_4) 900) (ile (slen []) 900))
 (K (V.agg [(V.int .i64 (iadd .i64 x0_p_0 0)), (V.int .i64 0), (V.str (abT x0_p_4 (iadd .i64 x0_p_0 0) 0 []))]))
 (none)) := by kernel_rfl
theorem fAv_top (F : Nat) (xs : List V) (vs : List V) (o : Int) (k : Int) (v : Int) (r : List UInt8) (q : List UInt8) (h : Bool) (y : Int) (m : Int) (ok : Int) (ow : Int) (od : Int) (c : Int) (b : Int) (t : Int) (K : V → Option V) :
 evBd jE (evFn jE foS1 F 3) F 10 [(V.rptr [(Kd.int .i64), (Kd.int .i64), (Kd.int .i64), (Kd.str), (Kd.str), (Kd.bool), (Kd.int .i64), (Kd.int .i64), (Kd.int .i64), (Kd.int .i64), (Kd.int .i64), (Kd.int .i64), (Kd.int .i64), (Kd.sl 41 [(Kd.str), (Kd.int .i64), (Kd.int .i64), (Kd.int .i64), (Kd.int .i64), (Kd.int .i64), (Kd.int .i64), (Kd.int .i64), (Kd.int .i64), (Kd.int .i64), (Kd.str)]), (Kd.sl 32 [(Kd.int .i64), (Kd.int .i64), (Kd.str)])] (V.agg [(V.int .i64 o), (V.int .i64 k), (V.int .i64 v), (V.str r), (V.str q), (V.bool h), (V.int .i64 y), (V.int .i64 m), (V.int .i64 ok), (V.int .i64 ow), (V.int .i64 od), (V.int .i64 c), (V.int .i64 b), (V.sl 41 [(Kd.str), (Kd.int .i64), (Kd.int .i64), (Kd.int .i64), (Kd.int .i64), (Kd.int .i64), (Kd.int .i64), (Kd.int .i64), (Kd.int .i64), (Kd.int .i64), (Kd.str)] none xs), (V.sl 32 [(Kd.int .i64), (Kd.int .i64), (Kd.str)] none vs)]) 0), (V.int .i64 t)] K =
 sel (bnot (ieq k 2))
 (sel (band (ile (slen q) 900) (ile (slen []) 900))
 (K (V.tup [(V.agg [(V.int .i64 (iadd .i64 o v)), (V.int .i64 v), (V.str (abT q (iadd .i64 o v) v []))]), (V.agg [(V.int .i64 0), (V.int .i64 0), (V.int .i64 0)]), (V.bool false)]))
 (none))
 (sel (band (rsOk xs) (band (ile (-54000) o) (ile o 54000)))
 (sel (bnot (laB xs r o t))
 (both
 (sel (band (ile (slen q) 900) (band (band (ile (-54000) o) (ile o 54000)) (band (rsOk xs) (ile (llen xs) (llen vs)))))
 (both
 (K (V.tup [(V.agg [(V.int .i64 (fi0 xs vs r o)), (V.int .i64 (fi1 xs vs r o)), (V.str (fi2 xs vs r o q))]), (V.agg [(V.int .i64 (laR xs r o t)), (V.int .i64 (laY xs r o t)), (V.int .i64 (laN xs r o t))]), (V.bool false)]))
 (K (V.tup [(V.agg [(V.int .i64 (fi0 xs vs r o)), (V.int .i64 (fi1 xs vs r o)), (V.str (fi2 xs vs r o q))]), (V.agg [(V.int .i64 (laR xs r o t)), (V.int .i64 (laY xs r o t)), (V.int .i64 (laN xs r o t))]), (V.bool false)])))
 (none))
 (sel (band (ile (slen q) 900) (band (band (ile (-54000) o) (ile o 54000)) (band (rsOk xs) (ile (llen xs) (llen vs)))))
 (K (V.tup [(V.agg [(V.int .i64 (fi0 xs vs r o)), (V.int .i64 (fi1 xs vs r o)), (V.str (fi2 xs vs r o q))]), (V.agg [(V.int .i64 (laR xs r o t)), (V.int .i64 (laY xs r o t)), (V.int .i64 (laN xs r o t))]), (V.bool false)]))
 (none)))
 (both
 (both
 (both
 (both
 (both
 (sel (band (ile 0 (laR xs r o t)) (ilt (laR xs r o t) (llen vs)))
 (both
 (both
 (K (V.tup [(V.agg [(V.int .i64 (asInt (acell (lget vs (laR xs r o t)) 0))), (V.int .i64 (asInt (acell (lget vs (laR xs r o t)) 1))), (V.str (asStr (acell (lget vs (laR xs r o t)) 2)))]), (V.agg [(V.int .i64 (laR xs r o t)), (V.int .i64 (laY xs r o t)), (V.int .i64 (laN xs r o t))]), (V.bool true)]))
 (K (V.tup [(V.agg [(V.int .i64 (asInt (acell (lget vs (laR xs r o t)) 0))), (V.int .i64 (asInt (acell (lget vs (laR xs r o t)) 1))), (V.str (asStr (acell (lget vs (laR xs r o t)) 2)))]), (V.agg [(V.int .i64 (laR xs r o t)), (V.int .i64 (laY xs r o t)), (V.int .i64 (laN xs r o t))]), (V.bool true)])))
 (K (V.tup [(V.agg [(V.int .i64 (asInt (acell (lget vs (laR xs r o t)) 0))), (V.int .i64 (asInt (acell (lget vs (laR xs r o t)) 1))), (V.str (asStr (acell (lget vs (laR xs r o t)) 2)))]), (V.agg [(V.int .i64 (laR xs r o t)), (V.int .i64 (laY xs r o t)), (V.int .i64 (laN xs r o t))]), (V.bool true)])))
 (none))
 (sel (band (ile 0 (laR xs r o t)) (ilt (laR xs r o t) (llen vs)))
 (K (V.tup [(V.agg [(V.int .i64 (asInt (acell (lget vs (laR xs r o t)) 0))), (V.int .i64 (asInt (acell (lget vs (laR xs r o t)) 1))), (V.str (asStr (acell (lget vs (laR xs r o t)) 2)))]), (V.agg [(V.int .i64 (laR xs r o t)), (V.int .i64 (laY xs r o t)), (V.int .i64 (laN xs r o t))]), (V.bool true)]))
 (none)))
 (sel (band (ile 0 (laR xs r o t)) (ilt (laR xs r o t) (llen vs)))
 (K (V.tup [(V.agg [(V.int .i64 (asInt (acell (lget vs (laR xs r o t)) 0))), (V.int .i64 (asInt (acell (lget vs (laR xs r o t)) 1))), (V.str (asStr (acell (lget vs (laR xs r o t)) 2)))]), (V.agg [(V.int .i64 (laR xs r o t)), (V.int .i64 (laY xs r o t)), (V.int .i64 (laN xs r o t))]), (V.bool true)]))
 (none)))
 (both
 (both
 (both
 (sel (band (ile 0 (laR xs r o t)) (ilt (laR xs r o t) (llen vs)))
 (both
 (both
 (K (V.tup [(V.agg [(V.int .i64 (asInt (acell (lget vs (laR xs r o t)) 0))), (V.int .i64 (asInt (acell (lget vs (laR xs r o t)) 1))), (V.str (asStr (acell (lget vs (laR xs r o t)) 2)))]), (V.agg [(V.int .i64 (laR xs r o t)), (V.int .i64 (laY xs r o t)), (V.int .i64 (laN xs r o t))]), (V.bool true)]))
 (K (V.tup [(V.agg [(V.int .i64 (asInt (acell (lget vs (laR xs r o t)) 0))), (V.int .i64 (asInt (acell (lget vs (laR xs r o t)) 1))), (V.str (asStr (acell (lget vs (laR xs r o t)) 2)))]), (V.agg [(V.int .i64 (laR xs r o t)), (V.int .i64 (laY xs r o t)), (V.int .i64 (laN xs r o t))]), (V.bool true)])))
 (K (V.tup [(V.agg [(V.int .i64 (asInt (acell (lget vs (laR xs r o t)) 0))), (V.int .i64 (asInt (acell (lget vs (laR xs r o t)) 1))), (V.str (asStr (acell (lget vs (laR xs r o t)) 2)))]), (V.agg [(V.int .i64 (laR xs r o t)), (V.int .i64 (laY xs r o t)), (V.int .i64 (laN xs r o t))]), (V.bool true)])))
 (none))
 (sel (band (ile 0 (laR xs r o t)) (ilt (laR xs r o t) (llen vs)))
 (K (V.tup [(V.agg [(V.int .i64 (asInt (acell (lget vs (laR xs r o t)) 0))), (V.int .i64 (asInt (acell (lget vs (laR xs r o t)) 1))), (V.str (asStr (acell (lget vs (laR xs r o t)) 2)))]), (V.agg [(V.int .i64 (laR xs r o t)), (V.int .i64 (laY xs r o t)), (V.int .i64 (laN xs r o t))]), (V.bool true)]))
 (none)))
 (sel (band (ile 0 (laR xs r o t)) (ilt (laR xs r o t) (llen vs)))
 (K (V.tup [(V.agg [(V.int .i64 (asInt (acell (lget vs (laR xs r o t)) 0))), (V.int .i64 (asInt (acell (lget vs (laR xs r o t)) 1))), (V.str (asStr (acell (lget vs (laR xs r o t)) 2)))]), (V.agg [(V.int .i64 (laR xs r o t)), (V.int .i64 (laY xs r o t)), (V.int .i64 (laN xs r o t))]), (V.bool true)]))
 (none)))
 (both
 (sel (band (ile 0 (laR xs r o t)) (ilt (laR xs r o t) (llen vs)))
 (K (V.tup [(V.agg [(V.int .i64 (asInt (acell (lget vs (laR xs r o t)) 0))), (V.int .i64 (asInt (acell (lget vs (laR xs r o t)) 1))), (V.str (asStr (acell (lget vs (laR xs r o t)) 2)))]), (V.agg [(V.int .i64 (laR xs r o t)), (V.int .i64 (laY xs r o t)), (V.int .i64 (laN xs r o t))]), (V.bool true)]))
 (none))
 (sel (band (ile 0 (laR xs r o t)) (ilt (laR xs r o t) (llen vs)))
 (K (V.tup [(V.agg [(V.int .i64 (asInt (acell (lget vs (laR xs r o t)) 0))), (V.int .i64 (asInt (acell (lget vs (laR xs r o t)) 1))), (V.str (asStr (acell (lget vs (laR xs r o t)) 2)))]), (V.agg [(V.int .i64 (laR xs r o t)), (V.int .i64 (laY xs r o t)), (V.int .i64 (laN xs r o t))]), (V.bool true)]))
 (none)))))
 (both
 (both
 (both
 (both
 (sel (band (ile 0 (laR xs r o t)) (ilt (laR xs r o t) (llen vs)))
 (both
 (both
 (K (V.tup [(V.agg [(V.int .i64 (asInt (acell (lget vs (laR xs r o t)) 0))), (V.int .i64 (asInt (acell (lget vs (laR xs r o t)) 1))), (V.str (asStr (acell (lget vs (laR xs r o t)) 2)))]), (V.agg [(V.int .i64 (laR xs r o t)), (V.int .i64 (laY xs r o t)), (V.int .i64 (laN xs r o t))]), (V.bool true)]))
 (K (V.tup [(V.agg [(V.int .i64 (asInt (acell (lget vs (laR xs r o t)) 0))), (V.int .i64 (asInt (acell (lget vs (laR xs r o t)) 1))), (V.str (asStr (acell (lget vs (laR xs r o t)) 2)))]), (V.agg [(V.int .i64 (laR xs r o t)), (V.int .i64 (laY xs r o t)), (V.int .i64 (laN xs r o t))]), (V.bool true)])))
 (K (V.tup [(V.agg [(V.int .i64 (asInt (acell (lget vs (laR xs r o t)) 0))), (V.int .i64 (asInt (acell (lget vs (laR xs r o t)) 1))), (V.str (asStr (acell (lget vs (laR xs r o t)) 2)))]), (V.agg [(V.int .i64 (laR xs r o t)), (V.int .i64 (laY xs r o t)), (V.int .i64 (laN xs r o t))]), (V.bool true)])))
 (none))
 (sel (band (ile 0 (laR xs r o t)) (ilt (laR xs r o t) (llen vs)))
 (K (V.tup [(V.agg [(V.int .i64 (asInt (acell (lget vs (laR xs r o t)) 0))), (V.int .i64 (asInt (acell (lget vs (laR xs r o t)) 1))), (V.str (asStr (acell (lget vs (laR xs r o t)) 2)))]), (V.agg [(V.int .i64 (laR xs r o t)), (V.int .i64 (laY xs r o t)), (V.int .i64 (laN xs r o t))]), (V.bool true)]))
 (none)))
 (sel (band (ile 0 (laR xs r o t)) (ilt (laR xs r o t) (llen vs)))
 (K (V.tup [(V.agg [(V.int .i64 (asInt (acell (lget vs (laR xs r o t)) 0))), (V.int .i64 (asInt (acell (lget vs (laR xs r o t)) 1))), (V.str (asStr (acell (lget vs (laR xs r o t)) 2)))]), (V.agg [(V.int .i64 (laR xs r o t)), (V.int .i64 (laY xs r o t)), (V.int .i64 (laN xs r o t))]), (V.bool true)]))
 (none)))
 (sel (band (ile 0 (laR xs r o t)) (ilt (laR xs r o t) (llen vs)))
 (K (V.tup [(V.agg [(V.int .i64 (asInt (acell (lget vs (laR xs r o t)) 0))), (V.int .i64 (asInt (acell (lget vs (laR xs r o t)) 1))), (V.str (asStr (acell (lget vs (laR xs r o t)) 2)))]), (V.agg [(V.int .i64 (laR xs r o t)), (V.int .i64 (laY xs r o t)), (V.int .i64 (laN xs r o t))]), (V.bool true)]))
 (none)))
 (both
 (both
 (sel (band (ile 0 (laR xs r o t)) (ilt (laR xs r o t) (llen vs)))
 (K (V.tup [(V.agg [(V.int .i64 (asInt (acell (lget vs (laR xs r o t)) 0))), (V.int .i64 (asInt (acell (lget vs (laR xs r o t)) 1))), (V.str (asStr (acell (lget vs (laR xs r o t)) 2)))]), (V.agg [(V.int .i64 (laR xs r o t)), (V.int .i64 (laY xs r o t)), (V.int .i64 (laN xs r o t))]), (V.bool true)]))
 (none))
 (sel (band (ile 0 (laR xs r o t)) (ilt (laR xs r o t) (llen vs)))
 (K (V.tup [(V.agg [(V.int .i64 (asInt (acell (lget vs (laR xs r o t)) 0))), (V.int .i64 (asInt (acell (lget vs (laR xs r o t)) 1))), (V.str (asStr (acell (lget vs (laR xs r o t)) 2)))]), (V.agg [(V.int .i64 (laR xs r o t)), (V.int .i64 (laY xs r o t)), (V.int .i64 (laN xs r o t))]), (V.bool true)]))
 (none)))
 (sel (band (ile 0 (laR xs r o t)) (ilt (laR xs r o t) (llen vs)))
 (K (V.tup [(V.agg [(V.int .i64 (asInt (acell (lget vs (laR xs r o t)) 0))), (V.int .i64 (asInt (acell (lget vs (laR xs r o t)) 1))), (V.str (asStr (acell (lget vs (laR xs r o t)) 2)))]), (V.agg [(V.int .i64 (laR xs r o t)), (V.int .i64 (laY xs r o t)), (V.int .i64 (laN xs r o t))]), (V.bool true)]))
 (none)))))
 (both
 (both
 (both
 (both
 (both
 (sel (band (ile 0 (laR xs r o t)) (ilt (laR xs r o t) (llen vs)))
 (both
 (both
 (K (V.tup [(V.agg [(V.int .i64 (asInt (acell (lget vs (laR xs r o t)) 0))), (V.int .i64 (asInt (acell (lget vs (laR xs r o t)) 1))), (V.str (asStr (acell (lget vs (laR xs r o t)) 2)))]), (V.agg [(V.int .i64 (laR xs r o t)), (V.int .i64 (laY xs r o t)), (V.int .i64 (laN xs r o t))]), (V.bool true)]))
 (K (V.tup [(V.agg [(V.int .i64 (asInt (acell (lget vs (laR xs r o t)) 0))), (V.int .i64 (asInt (acell (lget vs (laR xs r o t)) 1))), (V.str (asStr (acell (lget vs (laR xs r o t)) 2)))]), (V.agg [(V.int .i64 (laR xs r o t)), (V.int .i64 (laY xs r o t)), (V.int .i64 (laN xs r o t))]), (V.bool true)])))
 (K (V.tup [(V.agg [(V.int .i64 (asInt (acell (lget vs (laR xs r o t)) 0))), (V.int .i64 (asInt (acell (lget vs (laR xs r o t)) 1))), (V.str (asStr (acell (lget vs (laR xs r o t)) 2)))]), (V.agg [(V.int .i64 (laR xs r o t)), (V.int .i64 (laY xs r o t)), (V.int .i64 (laN xs r o t))]), (V.bool true)])))
 (none))
 (sel (band (ile 0 (laR xs r o t)) (ilt (laR xs r o t) (llen vs)))
 (K (V.tup [(V.agg [(V.int .i64 (asInt (acell (lget vs (laR xs r o t)) 0))), (V.int .i64 (asInt (acell (lget vs (laR xs r o t)) 1))), (V.str (asStr (acell (lget vs (laR xs r o t)) 2)))]), (V.agg [(V.int .i64 (laR xs r o t)), (V.int .i64 (laY xs r o t)), (V.int .i64 (laN xs r o t))]), (V.bool true)]))
 (none)))
 (sel (band (ile 0 (laR xs r o t)) (ilt (laR xs r o t) (llen vs)))
 (K (V.tup [(V.agg [(V.int .i64 (asInt (acell (lget vs (laR xs r o t)) 0))), (V.int .i64 (asInt (acell (lget vs (laR xs r o t)) 1))), (V.str (asStr (acell (lget vs (laR xs r o t)) 2)))]), (V.agg [(V.int .i64 (laR xs r o t)), (V.int .i64 (laY xs r o t)), (V.int .i64 (laN xs r o t))]), (V.bool true)]))
 (none)))
 (sel (band (ile 0 (laR xs r o t)) (ilt (laR xs r o t) (llen vs)))
 (K (V.tup [(V.agg [(V.int .i64 (asInt (acell (lget vs (laR xs r o t)) 0))), (V.int .i64 (asInt (acell (lget vs (laR xs r o t)) 1))), (V.str (asStr (acell (lget vs (laR xs r o t)) 2)))]), (V.agg [(V.int .i64 (laR xs r o t)), (V.int .i64 (laY xs r o t)), (V.int .i64 (laN xs r o t))]), (V.bool true)]))
 (none)))
 (sel (band (ile 0 (laR xs r o t)) (ilt (laR xs r o t) (llen vs)))
 (K (V.tup [(V.agg [(V.int .i64 (asInt (acell (lget vs (laR xs r o t)) 0))), (V.int .i64 (asInt (acell (lget vs (laR xs r o t)) 1))), (V.str (asStr (acell (lget vs (laR xs r o t)) 2)))]), (V.agg [(V.int .i64 (laR xs r o t)), (V.int .i64 (laY xs r o t)), (V.int .i64 (laN xs r o t))]), (V.bool true)]))
 (none)))
 (both
 (both
 (both
 (sel (band (ile 0 (laR xs r o t)) (ilt (laR xs r o t) (llen vs)))
 (K (V.tup [(V.agg [(V.int .i64 (asInt (acell (lget vs (laR xs r o t)) 0))), (V.int .i64 (asInt (acell (lget vs (laR xs r o t)) 1))), (V.str (asStr (acell (lget vs (laR xs r o t)) 2)))]), (V.agg [(V.int .i64 (laR xs r o t)), (V.int .i64 (laY xs r o t)), (V.int .i64 (laN xs r o t))]), (V.bool true)]))
 (none))
 (sel (band (ile 0 (laR xs r o t)) (ilt (laR xs r o t) (llen vs)))
 (K (V.tup [(V.agg [(V.int .i64 (asInt (acell (lget vs (laR xs r o t)) 0))), (V.int .i64 (asInt (acell (lget vs (laR xs r o t)) 1))), (V.str (asStr (acell (lget vs (laR xs r o t)) 2)))]), (V.agg [(V.int .i64 (laR xs r o t)), (V.int .i64 (laY xs r o t)), (V.int .i64 (laN xs r o t))]), (V.bool true)]))
 (none)))
 (sel (band (ile 0 (laR xs r o t)) (ilt (laR xs r o t) (llen vs)))
 (K (V.tup [(V.agg [(V.int .i64 (asInt (acell (lget vs (laR xs r o t)) 0))), (V.int .i64 (asInt (acell (lget vs (laR xs r o t)) 1))), (V.str (asStr (acell (lget vs (laR xs r o t)) 2)))]), (V.agg [(V.int .i64 (laR xs r o t)), (V.int .i64 (laY xs r o t)), (V.int .i64 (laN xs r o t))]), (V.bool true)]))
 (none)))
 (sel (band (ile 0 (laR xs r o t)) (ilt (laR xs r o t) (llen vs)))
 (K (V.tup [(V.agg [(V.int .i64 (asInt (acell (lget vs (laR xs r o t)) 0))), (V.int .i64 (asInt (acell (lget vs (laR xs r o t)) 1))), (V.str (asStr (acell (lget vs (laR xs r o t)) 2)))]), (V.agg [(V.int .i64 (laR xs r o t)), (V.int .i64 (laY xs r o t)), (V.int .i64 (laN xs r o t))]), (V.bool true)]))
 (none))))))
 (none)) := by kernel_rfl
theorem fIv_top (F : Nat) (xs : List V) (vs : List V) (o : Int) (k : Int) (v : Int) (r : List UInt8) (q : List UInt8) (h : Bool) (y : Int) (m : Int) (ok : Int) (ow : Int) (od : Int) (c : Int) (b : Int) (x : Int) (j : Int) (z : Int) (is : Bool) (K : V → Option V) :
 evBd jE (evFn jE foS1 F 3) F 16 [(V.rptr [(Kd.int .i64), (Kd.int .i64), (Kd.int .i64), (Kd.str), (Kd.str), (Kd.bool), (Kd.int .i64), (Kd.int .i64), (Kd.int .i64), (Kd.int .i64), (Kd.int .i64), (Kd.int .i64), (Kd.int .i64), (Kd.sl 41 [(Kd.str), (Kd.int .i64), (Kd.int .i64), (Kd.int .i64), (Kd.int .i64), (Kd.int .i64), (Kd.int .i64), (Kd.int .i64), (Kd.int .i64), (Kd.int .i64), (Kd.str)]), (Kd.sl 32 [(Kd.int .i64), (Kd.int .i64), (Kd.str)])] (V.agg [(V.int .i64 o), (V.int .i64 k), (V.int .i64 v), (V.str r), (V.str q), (V.bool h), (V.int .i64 y), (V.int .i64 m), (V.int .i64 ok), (V.int .i64 ow), (V.int .i64 od), (V.int .i64 c), (V.int .i64 b), (V.sl 41 [(Kd.str), (Kd.int .i64), (Kd.int .i64), (Kd.int .i64), (Kd.int .i64), (Kd.int .i64), (Kd.int .i64), (Kd.int .i64), (Kd.int .i64), (Kd.int .i64), (Kd.str)] none xs), (V.sl 32 [(Kd.int .i64), (Kd.int .i64), (Kd.str)] none vs)]) 0), (V.agg [(V.int .i64 x), (V.int .i64 j), (V.int .i64 z)]), (V.bool is)] K =
 sel (bnot is)
 (K (V.tup [(V.int .i64 0), (V.bool false)]))
 (sel (rsOk xs)
 (K (V.tup [(V.int .i64 (itI xs r o x j z)), (V.bool true)]))
 (none)) := by kernel_rfl
noncomputable def fOt_L0 (F : Nat) (ns : List Nat) (n : Nat) (x0_p_0 : Int) (x0_p_1 : Int) (x0_p_2 : Int) (x0_p_3 : List UInt8) (x0_p_4 : List UInt8) (x0_p_5 : Bool) (x0_p_6 : Int) (x0_p_7 : Int) (x0_p_8 : Int) (x0_p_9 : Int) (x0_p_10 : Int) (x0_p_11 : Int) (x0_p_12 : Int) (x0_p_13 : List V) (x0_p_14 : List V) (x1_0 : Int) (x1_1 : Int) (x1_2 : List UInt8) (x5 : List V) (x13 : Int) (x14 : Int) (b3_0 : Int) (b3_1 : Int) (b3_2 : List UInt8) (K : V → Option V) : Option V :=
 loopAt jE foSC F 3 18 [1, 1, 0, 1, 0] ns K n (mkSt 32 [(0, V.old (V.rptr [(Kd.int .i64), (Kd.int .i64), (Kd.int .i64), (Kd.str), (Kd.str), (Kd.bool), (Kd.int .i64), (Kd.int .i64), (Kd.int .i64), (Kd.int .i64), (Kd.int .i64), (Kd.int .i64), (Kd.int .i64), (Kd.sl 41 [(Kd.str), (Kd.int .i64), (Kd.int .i64), (Kd.int .i64), (Kd.int .i64), (Kd.int .i64), (Kd.int .i64), (Kd.int .i64), (Kd.int .i64), (Kd.int .i64), (Kd.str)]), (Kd.sl 32 [(Kd.int .i64), (Kd.int .i64), (Kd.str)])] (V.agg [V.int .i64 x0_p_0, V.int .i64 x0_p_1, V.int .i64 x0_p_2, V.str x0_p_3, V.str x0_p_4, V.bool x0_p_5, V.int .i64 x0_p_6, V.int .i64 x0_p_7, V.int .i64 x0_p_8, V.int .i64 x0_p_9, V.int .i64 x0_p_10, V.int .i64 x0_p_11, V.int .i64 x0_p_12, V.sl 41 [(Kd.str), (Kd.int .i64), (Kd.int .i64), (Kd.int .i64), (Kd.int .i64), (Kd.int .i64), (Kd.int .i64), (Kd.int .i64), (Kd.int .i64), (Kd.int .i64), (Kd.str)] none x0_p_13, V.sl 32 [(Kd.int .i64), (Kd.int .i64), (Kd.str)] none x0_p_14]) 0)), (1, V.agg [V.int .i64 x1_0, V.int .i64 x1_1, V.str x1_2]), (3, (V.box 3 0)), (4, V.sl 41 [(Kd.str), (Kd.int .i64), (Kd.int .i64), (Kd.int .i64), (Kd.int .i64), (Kd.int .i64), (Kd.int .i64), (Kd.int .i64), (Kd.int .i64), (Kd.int .i64), (Kd.str)] (some 4) []), (5, V.sl 41 [(Kd.str), (Kd.int .i64), (Kd.int .i64), (Kd.int .i64), (Kd.int .i64), (Kd.int .i64), (Kd.int .i64), (Kd.int .i64), (Kd.int .i64), (Kd.int .i64), (Kd.str)] (some 5) x5), (13, V.int .i64 x13), (14, V.int .i64 x14)] [(3, [V.int .i64 b3_0, V.int .i64 b3_1, V.str b3_2])])
theorem fOt_top (F : Nat) (xs : List V) (vs : List V) (o : Int) (k : Int) (v : Int) (r : List UInt8) (q : List UInt8) (h : Bool) (y : Int) (m : Int) (ok : Int) (ow : Int) (od : Int) (c : Int) (b : Int) (a0 : Int) (a1 : Int) (a2 : List UInt8) (K : V → Option V) :
 evBd jE (evFn jE foSC F 3) F 18 [(V.old (V.rptr [(Kd.int .i64), (Kd.int .i64), (Kd.int .i64), (Kd.str), (Kd.str), (Kd.bool), (Kd.int .i64), (Kd.int .i64), (Kd.int .i64), (Kd.int .i64), (Kd.int .i64), (Kd.int .i64), (Kd.int .i64), (Kd.sl 41 [(Kd.str), (Kd.int .i64), (Kd.int .i64), (Kd.int .i64), (Kd.int .i64), (Kd.int .i64), (Kd.int .i64), (Kd.int .i64), (Kd.int .i64), (Kd.int .i64), (Kd.str)]), (Kd.sl 32 [(Kd.int .i64), (Kd.int .i64), (Kd.str)])] (V.agg [(V.int .i64 o), (V.int .i64 k), (V.int .i64 v), (V.str r), (V.str q), (V.bool h), (V.int .i64 y), (V.int .i64 m), (V.int .i64 ok), (V.int .i64 ow), (V.int .i64 od), (V.int .i64 c), (V.int .i64 b), (V.sl 41 [(Kd.str), (Kd.int .i64), (Kd.int .i64), (Kd.int .i64), (Kd.int .i64), (Kd.int .i64), (Kd.int .i64), (Kd.int .i64), (Kd.int .i64), (Kd.int .i64), (Kd.str)] none xs), (V.sl 32 [(Kd.int .i64), (Kd.int .i64), (Kd.str)] none vs)]) 0)), (V.agg [(V.int .i64 a0), (V.int .i64 a1), (V.str a2)])] K =
 sel (ile (llen xs) 1000)
 (fOt_L0 F [] F o k v r q h y m ok ow od c b xs vs a0 a1 a2 xs (llen xs) 0 a0 a1 a2 K)
 (none) := by kernel_rfl
theorem fOt_L0_succ (F : Nat) (n : Nat) (x0_p_0 : Int) (x0_p_1 : Int) (x0_p_2 : Int) (x0_p_3 : List UInt8) (x0_p_4 : List UInt8) (x0_p_5 : Bool) (x0_p_6 : Int) (x0_p_7 : Int) (x0_p_8 : Int) (x0_p_9 : Int) (x0_p_10 : Int) (x0_p_11 : Int) (x0_p_12 : Int) (x0_p_13 : List V) (x0_p_14 : List V) (x1_0 : Int) (x1_1 : Int) (x1_2 : List UInt8) (x5 : List V) (x13 : Int) (x14 : Int) (b3_0 : Int) (b3_1 : Int) (b3_2 : List UInt8) (K : V → Option V) :
 fOt_L0 F [] (n + 1) x0_p_0 x0_p_1 x0_p_2 x0_p_3 x0_p_4 x0_p_5 x0_p_6 x0_p_7 x0_p_8 x0_p_9 x0_p_10 x0_p_11 x0_p_12 x0_p_13 x0_p_14 x1_0 x1_1 x1_2 x5 x13 x14 b3_0 b3_1 b3_2 K =
 sel (ilt x14 x13)
 (sel (band (ile 0 x14) (ilt x14 (llen x0_p_14)))
 (sel (band (ieq (asInt (acell (lget x0_p_14 x14) 0)) b3_0) (band (ieq (asInt (acell (lget x0_p_14 x14) 1)) b3_1) (seq (asStr (acell (lget x0_p_14 x14) 2)) b3_2)))
 (sel (band (ile 0 x14) (ilt x14 (llen x5)))
 (fOt_L0 F [] n x0_p_0 x0_p_1 x0_p_2 x0_p_3 x0_p_4 x0_p_5 x0_p_6 x0_p_7 x0_p_8 x0_p_9 x0_p_10 x0_p_11 x0_p_12 x0_p_13 x0_p_14 x1_0 x1_1 x1_2 (lset x5 x14 (aset (lget x5 x14) 0 (V.str []))) x13 (iadd .i64 x14 1) b3_0 b3_1 b3_2 K)
 (none))
 (fOt_L0 F [] n x0_p_0 x0_p_1 x0_p_2 x0_p_3 x0_p_4 x0_p_5 x0_p_6 x0_p_7 x0_p_8 x0_p_9 x0_p_10 x0_p_11 x0_p_12 x0_p_13 x0_p_14 x1_0 x1_1 x1_2 x5 x13 (iadd .i64 x14 1) b3_0 b3_1 b3_2 K))
 (none))
 (K (V.sl 41 [(Kd.str), (Kd.int .i64), (Kd.int .i64), (Kd.int .i64), (Kd.int .i64), (Kd.int .i64), (Kd.int .i64), (Kd.int .i64), (Kd.int .i64), (Kd.int .i64), (Kd.str)] (some 5) x5)) := by kernel_rfl
theorem fA_top (F : Nat) (xs : List V) (o : Int) (k : Int) (v : Int) (r : List UInt8) (q : List UInt8) (h : Bool) (y : Int) (m : Int) (ok : Int) (ow : Int) (od : Int) (c : Int) (b : Int) (t : Int) (K : V → Option V) :
 evBd jE (evFn jE foS2 F 4) F 4 [(V.sl 41 [(Kd.str), (Kd.int .i64), (Kd.int .i64), (Kd.int .i64), (Kd.int .i64), (Kd.int .i64), (Kd.int .i64), (Kd.int .i64), (Kd.int .i64), (Kd.int .i64), (Kd.str)] none xs), (V.agg [(V.int .i64 o), (V.int .i64 k), (V.int .i64 v), (V.str r), (V.str q), (V.bool h), (V.int .i64 y), (V.int .i64 m), (V.int .i64 ok), (V.int .i64 ow), (V.int .i64 od), (V.int .i64 c), (V.int .i64 b)]), (V.int .i64 t)] K =
 sel (bnot (erP o k v r q h y m ok ow od c b))
 (K (V.tup [(V.agg [(V.int .i64 0), (V.int .i64 0), (V.str [])]), (V.int .i64 4)]))
 (sel (band (rsOk xs) (ile (slen q) 900))
 (sel (band (rsOk xs) (band (ile (slen q) 900) (band (band (ile (-54000) o) (ile o 54000)) (ieq (llen xs) (llen (vaL xs r o q))))))
 (K (V.tup [(V.agg [(V.int .i64 (avO xs (vaL xs r o q) r o k v t)), (V.int .i64 (avS xs (vaL xs r o q) r o k v t)), (V.str (avT xs (vaL xs r o q) r o q k v t))]), (V.int .i64 0)]))
 (none))
 (none)) := by kernel_rfl
theorem fN_top (F : Nat) (xs : List V) (o : Int) (k : Int) (v : Int) (r : List UInt8) (q : List UInt8) (h : Bool) (y : Int) (m : Int) (ok : Int) (ow : Int) (od : Int) (c : Int) (b : Int) (t : Int) (K : V → Option V) :
 evBd jE (evFn jE foS2 F 4) F 8 [(V.sl 41 [(Kd.str), (Kd.int .i64), (Kd.int .i64), (Kd.int .i64), (Kd.int .i64), (Kd.int .i64), (Kd.int .i64), (Kd.int .i64), (Kd.int .i64), (Kd.int .i64), (Kd.str)] none xs), (V.agg [(V.int .i64 o), (V.int .i64 k), (V.int .i64 v), (V.str r), (V.str q), (V.bool h), (V.int .i64 y), (V.int .i64 m), (V.int .i64 ok), (V.int .i64 ow), (V.int .i64 od), (V.int .i64 c), (V.int .i64 b)]), (V.int .i64 t)] K =
 sel (bnot (erP o k v r q h y m ok ow od c b))
 (K (V.tup [(V.int .i64 0), (V.bool false)]))
 (sel (bnot (ieq k 2))
 (K (V.tup [(V.int .i64 0), (V.bool false)]))
 (sel (band (rsOk xs) (ile (slen q) 900))
 (sel (band (rsOk xs) (band (ile (slen q) 900) (band (band (ile (-54000) o) (ile o 54000)) (ieq (llen xs) (llen (vaL xs r o q))))))
 (sel (bnot (atB xs r o k t))
 (sel (band (ile (llen xs) 1000) (ieq (llen xs) (llen (vaL xs r o q))))
 (sel (rsOk (otL xs (vaL xs r o q) (avO xs (vaL xs r o q) r o k v t) (avS xs (vaL xs r o q) r o k v t) (avT xs (vaL xs r o q) r o q k v t)))
 (sel (rsOk xs)
 (K (V.tup [(V.int .i64 (ivI (nxB (otL xs (vaL xs r o q) (avO xs (vaL xs r o q) r o k v t) (avS xs (vaL xs r o q) r o k v t) (avT xs (vaL xs r o q) r o q k v t)) r (-1) (-2192387558400)) xs r o (nxR (otL xs (vaL xs r o q) (avO xs (vaL xs r o q) r o k v t) (avS xs (vaL xs r o q) r o k v t) (avT xs (vaL xs r o q) r o q k v t)) r (-1) (-2192387558400)) (nxY (otL xs (vaL xs r o q) (avO xs (vaL xs r o q) r o k v t) (avS xs (vaL xs r o q) r o k v t) (avT xs (vaL xs r o q) r o q k v t)) r (-1) (-2192387558400)) (nxN (otL xs (vaL xs r o q) (avO xs (vaL xs r o q) r o k v t) (avS xs (vaL xs r o q) r o k v t) (avT xs (vaL xs r o q) r o q k v t)) r (-1) (-2192387558400)))), (V.bool (nxB (otL xs (vaL xs r o q) (avO xs (vaL xs r o q) r o k v t) (avS xs (vaL xs r o q) r o k v t) (avT xs (vaL xs r o q) r o q k v t)) r (-1) (-2192387558400)))]))
 (none))
 (none))
 (none))
 (sel (band (ile (llen xs) 1000) (ieq (llen xs) (llen (vaL xs r o q))))
 (sel (rsOk (otL xs (vaL xs r o q) (avO xs (vaL xs r o q) r o k v t) (avS xs (vaL xs r o q) r o k v t) (avT xs (vaL xs r o q) r o q k v t)))
 (sel (rsOk xs)
 (K (V.tup [(V.int .i64 (ivI (nxB (otL xs (vaL xs r o q) (avO xs (vaL xs r o q) r o k v t) (avS xs (vaL xs r o q) r o k v t) (avT xs (vaL xs r o q) r o q k v t)) r (atR xs r o k t) (atN xs r o k t)) xs r o (nxR (otL xs (vaL xs r o q) (avO xs (vaL xs r o q) r o k v t) (avS xs (vaL xs r o q) r o k v t) (avT xs (vaL xs r o q) r o q k v t)) r (atR xs r o k t) (atN xs r o k t)) (nxY (otL xs (vaL xs r o q) (avO xs (vaL xs r o q) r o k v t) (avS xs (vaL xs r o q) r o k v t) (avT xs (vaL xs r o q) r o q k v t)) r (atR xs r o k t) (atN xs r o k t)) (nxN (otL xs (vaL xs r o q) (avO xs (vaL xs r o q) r o k v t) (avS xs (vaL xs r o q) r o k v t) (avT xs (vaL xs r o q) r o q k v t)) r (atR xs r o k t) (atN xs r o k t)))), (V.bool (nxB (otL xs (vaL xs r o q) (avO xs (vaL xs r o q) r o k v t) (avS xs (vaL xs r o q) r o k v t) (avT xs (vaL xs r o q) r o q k v t)) r (atR xs r o k t) (atN xs r o k t)))]))
 (none))
 (none))
 (none)))
 (none))
 (none))) := by kernel_rfl
end Nt.Ev.YtheojhajckcdlaaGreatDoor.Fo

namespace Nt.Ev.YtheojhajckcdlaaGreatDoor.Fo
set_option maxRecDepth 100000
open Go Go.RowKit Nt Nt.Num Go.Proofs.YtheojhajckcdlaaGreatDoor Nt.Ev.YtheojhajckcdlaaGreatDoor Nt.Civil Nt.Ev.YtheojhajckcdlaaGreatDoor.Rl Nt.Ev.YtheojhajckcdlaaGreatDoor.Oc Nt.Ev.YtheojhajckcdlaaGreatDoor.Un Nt.Ev.YtheojhajckcdlaaGreatDoor.On Nt.Ev.YtheojhajckcdlaaGreatDoor.Cn
variable [MLen]
theorem jE_ok : EOk jE := ⟨by kernel_rfl, by kernel_rfl⟩
theorem toJ {f : Nat} {args : List V} {r : V} (h : Contract fE f args r) : Contract jE f args r := Contract.env (E := fE) rfl (fun n v h => by
  show (bif n == 0 then some startV else fE.glob n) = some v
  cases e : n == 0 with
  | true =>
    obtain rfl : n = 0 := by simpa using e
    have : fE.glob 0 = none := by kernel_rfl
    rw [this] at h; cases h
  | false => exact h) h
theorem b2 {a b : Bool} (h : band a b = true) : a = true ∧ b = true := band_true h
theorem s900 {l : List UInt8} (h : ile (slen l) 900 = true) : l.length ≤ 1000 := by rw [ile_iff, slen_nat] at h; omega
theorem fAbS_ok (s : List UInt8) (a c : Int) (l : List UInt8) (hc : band (ile (slen s) 900) (ile (slen l) 900) = true) : Contract jE 35 [.str s, .int .i64 a, .int .i64 c, .str l] (.tup [.str (abT s a c l), .int .i64 (abW s a c l)]) := toJ (fAbbr_ev s a c l (s900 (b2 hc).1) (s900 (b2 hc).2))
theorem lift1j {f : Nat} {e t : Nat} {K : List Kd} {o : Option Nat} {xs : List V} {rest : List V} {r : V} (c : Contract jE f (.sl t K none xs :: rest) r) : Contract jE f (.sl e K o xs :: rest) r := by
  intro G w vs hG hg hp
  refine c G w vs hG hg ?_
  obtain ⟨x, us, rfl, hx, ht⟩ := PW.cons_inv hp
  refine .cons ?_ ht
  unfold rep at hx ⊢
  exact hx
theorem fLaS_ok (e : Nat) (o1 : Option Nat) (xs : List V) (s : List UInt8) (off t : Int) (hc : band (rsOk xs) (inR off 54000) = true) : Contract jE 20 [.sl e [.str, .int .i64, .int .i64, .int .i64, .int .i64, .int .i64, .int .i64, .int .i64, .int .i64, .int .i64, .str] o1 xs, .str s, .int .i64 off, .int .i64 t] (.tup [.agg [.int .i64 (laR xs s off t), .int .i64 (laY xs s off t), .int .i64 (laN xs s off t)], .bool (laB xs s off t)]) := lift1j (t := 41) (toJ (last_ev xs s off t (b2 hc).1 (in_r (b2 hc).2)))
theorem is_occ {xs : List V} {s : List UInt8} {x y z : Int} (h : isO xs s x y z = true) : Occ xs s x y z := by
  unfold isO at h
  simp only [band_iff, ile_iff, ilt_iff, ieq_iff, seq_iff, llen_nat] at h
  obtain ⟨h1, h2, h3, h4⟩ := h
  unfold noX noE at h3
  unfold noV noI at h4
  by_cases hr : ruP (asStr (acell (lget xs x) 0)) (asInt (acell (lget xs x) 1)) (asInt (acell (lget xs x) 2)) (asInt (acell (lget xs x) 3)) (asInt (acell (lget xs x) 4)) (asInt (acell (lget xs x) 5)) (asInt (acell (lget xs x) 6)) (asInt (acell (lget xs x) 7)) (asInt (acell (lget xs x) 8)) (asInt (acell (lget xs x) 9)) (asStr (acell (lget xs x) 10)) = true
  · rw [if_pos hr] at h3
    by_cases hy : asInt (acell (lget xs x) 1) ≤ y ∧ y ≤ asInt (acell (lget xs x) 2)
    · rw [if_pos (by unfold noE; rw [if_pos hr, if_pos hy])] at h4
      exact ⟨h1, h2, hr, hy.1, hy.2, h4.symm⟩
    · rw [if_neg hy] at h3; omega
  · rw [if_neg hr] at h3; omega
theorem occ_is {xs : List V} {s : List UInt8} {x y z : Int} (h : Occ xs s x y z) : isO xs s x y z = true := by
  obtain ⟨h1, h2, h3, h4, h5, h6⟩ := h
  unfold isO
  simp only [band_iff, ile_iff, ilt_iff, ieq_iff, seq_iff, llen_nat]
  have h3' : ruP (asStr (acell (lget xs x) 0)) (asInt (acell (lget xs x) 1)) (asInt (acell (lget xs x) 2)) (asInt (acell (lget xs x) 3)) (asInt (acell (lget xs x) 4)) (asInt (acell (lget xs x) 5)) (asInt (acell (lget xs x) 6)) (asInt (acell (lget xs x) 7)) (asInt (acell (lget xs x) 8)) (asInt (acell (lget xs x) 9)) (asStr (acell (lget xs x) 10)) = true := h3
  have he : noX (lget xs x) y = 0 := by unfold noX noE; rw [if_pos h3', if_pos ⟨h4, h5⟩]
  refine ⟨h1, h2, he, ?_⟩
  unfold noV noI
  rw [if_pos (show noE _ _ _ _ _ _ _ _ _ _ _ _ = 0 from he)]
  exact h6.symm
theorem lasL_occ {xs : List V} {s : List UInt8} {off t : Int} : ∀ (k : Nat) (st : Bool × Int × Int × Int), (st.1 = true → Occ xs s st.2.1 st.2.2.1 st.2.2.2) → (lasL xs s off t k st).1 = true → Occ xs s (lasL xs s off t k st).2.1 (lasL xs s off t k st).2.2.1 (lasL xs s off t k st).2.2.2
  | 0, st, h, hb => h hb
  | k + 1, st, h, hb => by
    unfold lasL at hb ⊢
    split at hb
    · rename_i hc
      rw [if_pos hc]
      exact lasL_occ k _ (fun hp => prev_occ hp) hb
    · rename_i hc
      rw [if_neg hc]
      exact h hb
theorem las_occ {xs : List V} {s : List UInt8} {off t : Int} (h : laB xs s off t = true) : Occ xs s (laR xs s off t) (laY xs s off t) (laN xs s off t) := lasL_occ _ _ (fun hp => prev_occ hp) h
theorem las_in {xs : List V} {s : List UInt8} {off t : Int} (h : laB xs s off t = true) : 0 ≤ laR xs s off t ∧ laR xs s off t < llen xs := by
  rw [llen_nat]; exact (las_occ h).1
theorem fItS_ok (e : Nat) (o1 : Option Nat) (xs : List V) (s : List UInt8) (off x y z : Int) (hc : rsOk xs = true) : Contract jE 29 [.sl e [.str, .int .i64, .int .i64, .int .i64, .int .i64, .int .i64, .int .i64, .int .i64, .int .i64, .int .i64, .str] o1 xs, .str s, .int .i64 off, .agg [.int .i64 x, .int .i64 y, .int .i64 z]] (.tup [.int .i64 (itI xs s off x y z), .int .i64 (itE xs s off x y z)]) := by
  refine lift1j (t := 41) (toJ (contract_of_body fE_ok cS3_ok 5 3 ?_))
  rw [cIt_top]
  unfold itI itE inR
  by_cases o1 : -54000 ≤ off
  · rw [sel_pos (ile_t o1), ile_t o1]
    by_cases o2 : off ≤ 54000
    · rw [sel_neg (by rw [ile_t o2]; rfl), ile_t o2, sel_pos hc]
      cases hi : isO xs s x y z with
      | false => rfl
      | true =>
        have ho := is_occ hi
        have hl := occ_lim ho
        rw [sel_neg (show bnot true = false from rfl), sel_pos]
        · rfl
        · rw [hc]
          simp only [band_iff, ile_iff, ilt_iff, llen_nat]
          exact ⟨trivial, ho.1, ⟨trivial, trivial⟩, hl⟩
    · rw [sel_pos (by rw [ile_f (by omega)]; rfl), ile_f (by omega)]; rfl
  · rw [sel_neg (ile_f (by omega)), ile_f (by omega)]; rfl
theorem uErS_ok (o k v : Int) (r q : List UInt8) (h : Bool) (y m ok ow od c b : Int) (hc : true = true) : Contract jE 7 [.agg [.int .i64 o, .int .i64 k, .int .i64 v, .str r, .str q, .bool h, .int .i64 y, .int .i64 m, .int .i64 ok, .int .i64 ow, .int .i64 od, .int .i64 c, .int .i64 b]] (.bool (erP o k v r q h y m ok ow od c b)) := toJ (Nt.Ev.YtheojhajckcdlaaGreatDoor.Un.uErS_ok o k v r q h y m ok ow od c b hc)
theorem foS0_ok : SOk jE foS0 := by
  unfold foS0
  refine SOk.cons (fun args r h => ?_) (SOk.cons (fun args r h => ?_) (SOk.cons (fun args r h => ?_) (SOk.cons (fun args r h => ?_) (SOk.nil))))
  · unfold fAbS at h
    split at h
    · simp only [Option.some.injEq, Prod.mk.injEq] at h
      obtain ⟨hc, rfl⟩ := h
      exact fAbS_ok _ _ _ _ hc
    · cases h
  · unfold fLaS at h
    split at h
    · simp only [Option.some.injEq, Prod.mk.injEq] at h
      obtain ⟨hc, rfl⟩ := h
      exact fLaS_ok _ _ _ _ _ _ hc
    · cases h
  · unfold fItS at h
    split at h
    · simp only [Option.some.injEq, Prod.mk.injEq] at h
      obtain ⟨hc, rfl⟩ := h
      exact fItS_ok _ _ _ _ _ _ _ _ hc
    · cases h
  · unfold uErS at h
    split at h
    · simp only [Option.some.injEq, Prod.mk.injEq] at h
      obtain ⟨hc, rfl⟩ := h
      exact uErS_ok _ _ _ _ _ _ _ _ _ _ _ _ _ rfl
    · cases h
theorem sl_any {G : Known} {e e' : Nat} {K : List Kd} {o o' : Option Nat} {xs : List V} {u : Value} (h : rep G (.sl e K o xs) u) : rep G (.sl e' K o' xs) u := by
  unfold rep at h ⊢
  exact h
theorem pw_tail2 {G : Known} {x y x' y' : V} (hx : ∀ u, rep G x u → rep G x' u) (hy : ∀ u, rep G y u → rep G y' u) : ∀ (L : List V) (l : List Value), PW (rep G) (L ++ [x, y]) l → PW (rep G) (L ++ [x', y']) l
  | [], l, h => by
    obtain ⟨u, t, rfl, h1, h⟩ := PW.cons_inv h
    obtain ⟨u2, t, rfl, h2, h⟩ := PW.cons_inv h
    exact .cons (hx _ h1) (.cons (hy _ h2) h)
  | z :: L, l, h => by
    obtain ⟨u, t, rfl, h1, h⟩ := PW.cons_inv h
    exact .cons h1 (pw_tail2 hx hy L t h)
theorem vw_rep {G : Known} {kk : List Kd} {o k v : Int} {r q : List UInt8} {h : Bool} {y m ok ow od c b : Int} {er ev : Nat} {or_ ov : Option Nat} {xs vs : List V} {x : Value} (hx : rep G (.rptr kk (.agg [.int .i64 o, .int .i64 k, .int .i64 v, .str r, .str q, .bool h, .int .i64 y, .int .i64 m, .int .i64 ok, .int .i64 ow, .int .i64 od, .int .i64 c, .int .i64 b, .sl er [.str, .int .i64, .int .i64, .int .i64, .int .i64, .int .i64, .int .i64, .int .i64, .int .i64, .int .i64, .str] or_ xs, .sl ev [.int .i64, .int .i64, .str] ov vs]) 0) x) : rep G (V.rptr [.int .i64, .int .i64, .int .i64, .str, .str, .bool, .int .i64, .int .i64, .int .i64, .int .i64, .int .i64, .int .i64, .int .i64, .sl 41 [.str, .int .i64, .int .i64, .int .i64, .int .i64, .int .i64, .int .i64, .int .i64, .int .i64, .int .i64, .str], .sl 32 [.int .i64, .int .i64, .str]] (V.agg [V.int .i64 o, V.int .i64 k, V.int .i64 v, V.str r, V.str q, V.bool h, V.int .i64 y, V.int .i64 m, V.int .i64 ok, V.int .i64 ow, V.int .i64 od, V.int .i64 c, V.int .i64 b, V.sl 41 [.str, .int .i64, .int .i64, .int .i64, .int .i64, .int .i64, .int .i64, .int .i64, .int .i64, .int .i64, .str] none xs, V.sl 32 [.int .i64, .int .i64, .str] none vs]) 0) x := by
  unfold rep at hx ⊢
  obtain ⟨bb, oo, l, hv, hG, hf, u, hu, hl⟩ := hx
  have hk : kk.length = 15 := by have := fitsL_len _ _ hf; simp only [V.cells, List.length_cons, List.length_nil] at this; omega
  refine ⟨bb, oo, l, hv, hG, by rfl, u, ?_, by rw [hk] at hl; exact hl⟩
  unfold rep at hu ⊢
  obtain ⟨a, rfl, ha⟩ := hu
  refine ⟨a, rfl, ?_⟩
  rw [repL_iff] at ha ⊢
  exact pw_tail2 (fun u hu => sl_any hu) (fun u hu => sl_any hu) [.int .i64 o, .int .i64 k, .int .i64 v, .str r, .str q, .bool h, .int .i64 y, .int .i64 m, .int .i64 ok, .int .i64 ow, .int .i64 od, .int .i64 c, .int .i64 b] a ha
theorem liftV {f : Nat} {kk : List Kd} {o k v : Int} {r q : List UInt8} {h : Bool} {y m ok ow od c b : Int} {er ev : Nat} {or_ ov : Option Nat} {xs vs : List V} {rest : List V} {res : V} (cc : Contract jE f (V.rptr [.int .i64, .int .i64, .int .i64, .str, .str, .bool, .int .i64, .int .i64, .int .i64, .int .i64, .int .i64, .int .i64, .int .i64, .sl 41 [.str, .int .i64, .int .i64, .int .i64, .int .i64, .int .i64, .int .i64, .int .i64, .int .i64, .int .i64, .str], .sl 32 [.int .i64, .int .i64, .str]] (V.agg [V.int .i64 o, V.int .i64 k, V.int .i64 v, V.str r, V.str q, V.bool h, V.int .i64 y, V.int .i64 m, V.int .i64 ok, V.int .i64 ow, V.int .i64 od, V.int .i64 c, V.int .i64 b, V.sl 41 [.str, .int .i64, .int .i64, .int .i64, .int .i64, .int .i64, .int .i64, .int .i64, .int .i64, .int .i64, .str] none xs, V.sl 32 [.int .i64, .int .i64, .str] none vs]) 0 :: rest) res) : Contract jE f (.rptr kk (.agg [.int .i64 o, .int .i64 k, .int .i64 v, .str r, .str q, .bool h, .int .i64 y, .int .i64 m, .int .i64 ok, .int .i64 ow, .int .i64 od, .int .i64 c, .int .i64 b, .sl er [.str, .int .i64, .int .i64, .int .i64, .int .i64, .int .i64, .int .i64, .int .i64, .int .i64, .int .i64, .str] or_ xs, .sl ev [.int .i64, .int .i64, .str] ov vs]) 0 :: rest) res := by
  intro G w us hG hg hp
  refine cc G w us hG hg ?_
  obtain ⟨x, us, rfl, hx, ht⟩ := PW.cons_inv hp
  exact .cons (vw_rep hx) ht
theorem fi_loop (F : Nat) (xs vs : List V) (o k v : Int) (r q : List UInt8) (h : Bool) (y m ok ow od c b : Int) (hlen : llen xs ≤ llen vs) (hn : xs.length ≤ 1000) (ho : -54000 ≤ o ∧ o ≤ 54000) (hq : ile (slen q) 900 = true) (a0 a1 : Int) (a2 : List UInt8) (K : V → Option V) : ∀ (n i G : Nat), i + n = xs.length → n < G →
    fFi_L0 F [] G o k v r q h y m ok ow od c b xs vs xs (llen xs) i a0 a1 a2 K = K (.agg [.int .i64 (match fiN xs r n i with | some i => asInt (acell (lget vs i) 0) | none => o), .int .i64 (match fiN xs r n i with | some i => asInt (acell (lget vs i) 1) | none => 0), .str (match fiN xs r n i with | some i => asStr (acell (lget vs i) 2) | none => abT q o 0 [])]) := by
  intro n
  induction n with
  | zero =>
    intro i G h1 h2
    obtain ⟨G, rfl⟩ := Nat.exists_eq_succ_of_ne_zero (show G ≠ 0 by omega)
    rw [fFi_L0_succ, sel_neg (ilt_f (by rw [llen_nat]; omega)), sel_pos (by rw [hq]; rfl), iadd64 (by omega), Int.add_zero]
    rfl
  | succ n ih =>
    intro i G h1 h2
    obtain ⟨G, rfl⟩ := Nat.exists_eq_succ_of_ne_zero (show G ≠ 0 by omega)
    rw [llen_nat, llen_nat] at hlen
    have e1 : (i : Int) + 1 = ((i + 1 : Nat) : Int) := by omega
    rw [fFi_L0_succ, sel_pos (ilt_t (by rw [llen_nat]; omega)), sel_pos (by rw [band_iff, ile_iff, ilt_iff, llen_nat]; omega), iadd64 (by omega), e1, ih (i + 1) G (by omega) (by omega)]
    rw [show fiN xs r (n + 1) i = (if seq (asStr (acell (lget xs i) 0)) r = true ∧ asInt (acell (lget xs i) 9) = 0 then some i else fiN xs r n (i + 1)) from rfl]
    by_cases g1 : seq (asStr (acell (lget xs i) 0)) r = true
    · rw [sel_pos g1]
      by_cases g2 : asInt (acell (lget xs i) 9) = 0
      · rw [sel_pos (ieq_t g2), sel_pos (by rw [band_iff, ile_iff, ilt_iff, llen_nat]; omega)]
        simp only [if_pos (show seq (asStr (acell (lget xs i) 0)) r = true ∧ asInt (acell (lget xs i) 9) = 0 from ⟨g1, g2⟩)]
      · rw [sel_neg (ieq_f g2)]
        simp only [if_neg (show ¬ (seq (asStr (acell (lget xs i) 0)) r = true ∧ asInt (acell (lget xs i) 9) = 0) from fun x => g2 x.2)]
    · rw [sel_neg (by simpa using g1)]
      simp only [if_neg (show ¬ (seq (asStr (acell (lget xs i) 0)) r = true ∧ asInt (acell (lget xs i) 9) = 0) from fun x => g1 x.1)]
theorem fFiS_ok (kk : List Kd) (o k v : Int) (r q : List UInt8) (h : Bool) (y m ok ow od c b : Int) (er : Nat) (or_ : Option Nat) (xs : List V) (ev : Nat) (ov : Option Nat) (vs : List V) (hc : band (ile (slen q) 900) (band (inR o 54000) (band (rsOk xs) (ile (llen xs) (llen vs)))) = true) : Contract jE 21 [.rptr kk (.agg [.int .i64 o, .int .i64 k, .int .i64 v, .str r, .str q, .bool h, .int .i64 y, .int .i64 m, .int .i64 ok, .int .i64 ow, .int .i64 od, .int .i64 c, .int .i64 b, .sl er [.str, .int .i64, .int .i64, .int .i64, .int .i64, .int .i64, .int .i64, .int .i64, .int .i64, .int .i64, .str] or_ xs, .sl ev [.int .i64, .int .i64, .str] ov vs]) 0] (.agg [.int .i64 (fi0 xs vs r o), .int .i64 (fi1 xs vs r o), .str (fi2 xs vs r o q)]) := by
  obtain ⟨h1, hc⟩ := b2 hc
  obtain ⟨h2, hc⟩ := b2 hc
  obtain ⟨h3, h4⟩ := b2 hc
  obtain ⟨_, hn⟩ := rs_all h3
  refine liftV (contract_of_body jE_ok foS0_ok 2000 3 ?_)
  rw [fFi_top]
  exact fi_loop 2000 xs vs o k v r q h y m ok ow od c b (by rw [ile_iff] at h4; exact h4) hn (in_r h2) h1 0 0 [] some xs.length 0 2000 (by omega) (by omega)
theorem foS1_ok : SOk jE foS1 := by
  unfold foS1
  refine SOk.cons (fun args r h => ?_) (foS0_ok)
  · unfold fFiS at h
    split at h
    · simp only [Option.some.injEq, Prod.mk.injEq] at h
      obtain ⟨hc, rfl⟩ := h
      exact fFiS_ok _ _ _ _ _ _ _ _ _ _ _ _ _ _ _ _ _ _ _ _ hc
    · cases h
theorem av_eq (xs vs : List V) (o k v : Int) (r q : List UInt8) (h : Bool) (y m ok ow od c b : Int) (t : Int) (h1 : rsOk xs = true) (h2 : ile (slen q) 900 = true) (h3 : inR o 54000 = true) (h4 : llen xs = llen vs) : evBd jE (evFn jE foS1 5 3) 5 10 [V.rptr [.int .i64, .int .i64, .int .i64, .str, .str, .bool, .int .i64, .int .i64, .int .i64, .int .i64, .int .i64, .int .i64, .int .i64, .sl 41 [.str, .int .i64, .int .i64, .int .i64, .int .i64, .int .i64, .int .i64, .int .i64, .int .i64, .int .i64, .str], .sl 32 [.int .i64, .int .i64, .str]] (V.agg [V.int .i64 o, V.int .i64 k, V.int .i64 v, V.str r, V.str q, V.bool h, V.int .i64 y, V.int .i64 m, V.int .i64 ok, V.int .i64 ow, V.int .i64 od, V.int .i64 c, V.int .i64 b, V.sl 41 [.str, .int .i64, .int .i64, .int .i64, .int .i64, .int .i64, .int .i64, .int .i64, .int .i64, .int .i64, .str] none xs, V.sl 32 [.int .i64, .int .i64, .str] none vs]) 0, V.int .i64 t] some = some (.tup [.agg [.int .i64 (avO xs vs r o k v t), .int .i64 (avS xs vs r o k v t), .str (avT xs vs r o q k v t)], .agg [.int .i64 (atR xs r o k t), .int .i64 (atY xs r o k t), .int .i64 (atN xs r o k t)], .bool (atB xs r o k t)]) := by
  rw [fAv_top]
  simp only [both_self]
  unfold avO avS avT atR atY atN atB
  by_cases k2 : k = 2
  · rw [sel_neg (by rw [ieq_t k2]; rfl)]
    simp only [if_pos k2]
    unfold inR at h3
    rw [sel_pos (by rw [h1, h3]; rfl)]
    cases hb : laB xs r o t with
    | false =>
      rw [sel_pos (show bnot false = true from rfl), sel_pos (by rw [h2, h3, h1, ile_t (by omega)]; rfl)]
      simp only [Bool.false_eq_true, if_false]
    | true =>
      have hin := las_in hb
      rw [sel_neg (show bnot true = false from rfl), sel_pos (by rw [band_iff, ile_iff, ilt_iff]; exact ⟨hin.1, by rw [← h4]; exact hin.2⟩)]
      simp only [if_true]
  · rw [sel_pos (by rw [ieq_f k2]; rfl), sel_pos (by rw [h2]; rfl)]
    simp only [if_neg k2]
theorem fAtS_ok (kk : List Kd) (o k v : Int) (r q : List UInt8) (h : Bool) (y m ok ow od c b : Int) (er : Nat) (or_ : Option Nat) (xs : List V) (ev : Nat) (ov : Option Nat) (vs : List V) (t : Int) (hc : band (rsOk xs) (band (ile (slen q) 900) (band (inR o 54000) (ieq (llen xs) (llen vs)))) = true) : Contract jE 10 [.rptr kk (.agg [.int .i64 o, .int .i64 k, .int .i64 v, .str r, .str q, .bool h, .int .i64 y, .int .i64 m, .int .i64 ok, .int .i64 ow, .int .i64 od, .int .i64 c, .int .i64 b, .sl er [.str, .int .i64, .int .i64, .int .i64, .int .i64, .int .i64, .int .i64, .int .i64, .int .i64, .int .i64, .str] or_ xs, .sl ev [.int .i64, .int .i64, .str] ov vs]) 0, .int .i64 t] (.tup [.agg [.int .i64 (avO xs vs r o k v t), .int .i64 (avS xs vs r o k v t), .str (avT xs vs r o q k v t)], .agg [.int .i64 (atR xs r o k t), .int .i64 (atY xs r o k t), .int .i64 (atN xs r o k t)], .bool (atB xs r o k t)]) := by
  obtain ⟨h1, hc⟩ := b2 hc
  obtain ⟨h2, hc⟩ := b2 hc
  obtain ⟨h3, h4⟩ := b2 hc
  exact liftV (contract_of_body jE_ok foS1_ok 5 3 (av_eq xs vs o k v r q h y m ok ow od c b t h1 h2 h3 (by rw [ieq_iff] at h4; exact h4)))
theorem fInS_ok (kk : List Kd) (o k v : Int) (r q : List UInt8) (h : Bool) (y m ok ow od c b : Int) (er : Nat) (or_ : Option Nat) (xs : List V) (ev : Nat) (ov : Option Nat) (vs : List V) (x j z : Int) (is : Bool) (hc : rsOk xs = true) : Contract jE 16 [.rptr kk (.agg [.int .i64 o, .int .i64 k, .int .i64 v, .str r, .str q, .bool h, .int .i64 y, .int .i64 m, .int .i64 ok, .int .i64 ow, .int .i64 od, .int .i64 c, .int .i64 b, .sl er [.str, .int .i64, .int .i64, .int .i64, .int .i64, .int .i64, .int .i64, .int .i64, .int .i64, .int .i64, .str] or_ xs, .sl ev [.int .i64, .int .i64, .str] ov vs]) 0, .agg [.int .i64 x, .int .i64 j, .int .i64 z], .bool is] (.tup [.int .i64 (ivI is xs r o x j z), .bool is]) := by
  refine liftV (contract_of_body jE_ok foS1_ok 5 3 ?_)
  rw [fIv_top]
  unfold ivI
  cases is with
  | false => rfl
  | true => rw [sel_neg (show bnot true = false from rfl), sel_pos hc, sel_pos rfl]
end Nt.Ev.YtheojhajckcdlaaGreatDoor.Fo
