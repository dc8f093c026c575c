/-
  Infos as values of the evaluator; what is sound. Lists of infos: what is merged, second by second; either way round. Seam: equations of functions, as the evaluator prints them. Infos: the small functions of both sides as contracts. Seam2: equations of functions, as the evaluator prints them. Infos: Merge (of the program), what is missing, what holds at a second, whether two lists are the same. SeamLaw: equations of functions, as the evaluator prints them. Infos: SeamSeconds, SeamEither as contracts.
-/
import Derived.Test.YtjobobdijjppkaaMT
import Derived.Test.YtjobobdijjppkaaMU
set_option linter.unusedVariables false
set_option linter.unusedSimpArgs false
namespace Nt.Ev.Ytjobobdijjppkaa.Sm
open Go Nt Nt.Num Nt.Sps Nt.Ev.Ytjobobdijjppkaa.Sp
abbrev Inf := Sp × (Int × Int × List UInt8)
def infOf (xs : List V) : List Inf := xs.map fun x => ((asInt (acell x 0), asInt (acell x 1)), (asInt (acell x 2), asInt (acell x 3), asStr (acell x 4)))
def inV (l : List Inf) : List V := l.map fun p => .agg [.int .i64 p.1.1, .int .i64 p.1.2, .int .i64 p.2.1, .int .i64 p.2.2.1, .str p.2.2.2]
theorem inf_len (xs : List V) : (infOf xs).length = xs.length := by unfold infOf; simp
theorem inf_drop (xs : List V) (k : Nat) (h : k < xs.length) : (infOf xs).drop k = ((asInt (acell (lget xs (k : Int)) 0), asInt (acell (lget xs (k : Int)) 1)), (asInt (acell (lget xs (k : Int)) 2), asInt (acell (lget xs (k : Int)) 3), asStr (acell (lget xs (k : Int)) 4))) :: (infOf xs).drop (k + 1) := by
  have hl : k < (infOf xs).length := by rw [inf_len]; exact h
  rw [List.drop_eq_getElem_cons hl, lget_nat]
  congr 1
  simp [infOf, h]
def folB (p x : Inf) : Bool := decide (p.1.2 < x.1.1) || (decide (p.1.2 = x.1.1) && decide (p.2 ≠ x.2))
def sdR (p : Inf) : List Inf → Bool
  | [] => true
  | x :: r => (decide (x.1.1 < x.1.2) && folB p x) && sdR x r
def sdL : List Inf → Bool
  | [] => true
  | x :: r => decide (x.1.1 < x.1.2) && sdR x r
noncomputable def sdB (xs : List V) : Bool := sdL (infOf xs)
noncomputable def haB (xs : List V) (a b c d : Int) (s : List UInt8) : Bool := decide (((a, b), (c, d, s)) ∈ infOf xs)
end Nt.Ev.Ytjobobdijjppkaa.Sm

set_option linter.unusedVariables false
set_option linter.unusedSimpArgs false
namespace Nt.Ev.Ytjobobdijjppkaa.Sm
open Go Nt Nt.Num Nt.Sps Nt.Ev.Ytjobobdijjppkaa.Sp
def mwL : List Inf → List Inf → List Inf
  | [], m => m
  | x :: l, [] => x :: l
  | x :: l, y :: m => if x = y then x :: mwL l m else if x.1.1 ≤ y.1.1 then x :: mwL l (y :: m) else y :: mwL (x :: l) m
  termination_by l m => l.length + m.length
  decreasing_by all_goals (simp only [List.length_cons]; omega)
theorem mwL_nil (l : List Inf) : mwL l [] = l := by cases l <;> unfold mwL <;> rfl
theorem mwL_len : ∀ (l m : List Inf), (mwL l m).length ≤ l.length + m.length
  | [], m => by unfold mwL; simp
  | x :: l, [] => by unfold mwL; simp
  | x :: l, y :: m => by
    unfold mwL
    split
    · have := mwL_len l m
      simp only [List.length_cons]; omega
    · split
      · have := mwL_len l (y :: m)
        simp only [List.length_cons] at this ⊢; omega
      · have := mwL_len (x :: l) m
        simp only [List.length_cons] at this ⊢; omega
  termination_by l m => l.length + m.length
  decreasing_by all_goals (simp only [List.length_cons]; omega)
theorem mwL_mem : ∀ (l m : List Inf) (z : Inf), z ∈ mwL l m ↔ z ∈ l ∨ z ∈ m
  | [], m, z => by unfold mwL; simp
  | x :: l, [], z => by unfold mwL; simp
  | x :: l, y :: m, z => by
    unfold mwL
    split
    · rename_i h
      subst h
      rw [List.mem_cons, mwL_mem l m z, List.mem_cons, List.mem_cons]
      constructor
      · rintro (h | h | h)
        · exact .inl (.inl h)
        · exact .inl (.inr h)
        · exact .inr (.inr h)
      · rintro ((h | h) | (h | h))
        · exact .inl h
        · exact .inr (.inl h)
        · exact .inl h
        · exact .inr (.inr h)
    · split
      · rw [List.mem_cons, mwL_mem l (y :: m) z, List.mem_cons (a := z) (b := x)]
        constructor
        · rintro (h | h | h)
          · exact .inl (.inl h)
          · exact .inl (.inr h)
          · exact .inr h
        · rintro ((h | h) | h)
          · exact .inl h
          · exact .inr (.inl h)
          · exact .inr (.inr h)
      · rw [List.mem_cons, mwL_mem (x :: l) m z, List.mem_cons (a := z) (b := y)]
        constructor
        · rintro (h | h | h)
          · exact .inr (.inl h)
          · exact .inl h
          · exact .inr (.inr h)
        · rintro (h | h | h)
          · exact .inr (.inl h)
          · exact .inl h
          · exact .inr (.inr h)
  termination_by l m => l.length + m.length
  decreasing_by all_goals (simp only [List.length_cons]; omega)
theorem sdR_spec : ∀ (l : List Inf) (p : Inf), sdR p l = true → (∀ x ∈ l, p.1.2 ≤ x.1.1 ∧ x.1.1 < x.1.2) ∧ l.Pairwise fun x y => x.1.2 ≤ y.1.1
  | [], p, _ => ⟨fun x h => (nomatch h), .nil⟩
  | x :: r, p, h => by
    unfold sdR at h
    rw [Bool.and_eq_true, Bool.and_eq_true, decide_eq_true_eq] at h
    obtain ⟨⟨h1, h2⟩, h3⟩ := h
    obtain ⟨i1, i2⟩ := sdR_spec r x h3
    have h4 : p.1.2 ≤ x.1.1 := by
      unfold folB at h2
      simp only [Bool.or_eq_true, Bool.and_eq_true, decide_eq_true_eq] at h2
      omega
    refine ⟨fun y hy => ?_, List.pairwise_cons.2 ⟨fun y hy => (i1 y hy).1, i2⟩⟩
    rcases List.mem_cons.1 hy with rfl | hy
    · exact ⟨h4, h1⟩
    · have := i1 y hy
      omega
theorem sdL_spec {l : List Inf} (h : sdL l = true) : (∀ x ∈ l, x.1.1 < x.1.2) ∧ l.Pairwise fun x y => x.1.2 ≤ y.1.1 := by
  cases l with
  | nil => exact ⟨fun x h => (nomatch h), .nil⟩
  | cons x r =>
    unfold sdL at h
    rw [Bool.and_eq_true, decide_eq_true_eq] at h
    obtain ⟨i1, i2⟩ := sdR_spec r x h.2
    refine ⟨fun y hy => ?_, List.pairwise_cons.2 ⟨fun y hy => (i1 y hy).1, i2⟩⟩
    rcases List.mem_cons.1 hy with rfl | hy
    · exact h.1
    · exact (i1 y hy).2
theorem sd_inj : ∀ {l : List Inf}, (∀ x ∈ l, x.1.1 < x.1.2) → (l.Pairwise fun x y => x.1.2 ≤ y.1.1) → ∀ x ∈ l, ∀ y ∈ l, ∀ t, has1 x.1 t = true → has1 y.1 t = true → x = y
  | [], _, _, x, hx, _, _, _, _, _ => nomatch hx
  | z :: l, hr, hp, x, hx, y, hy, t, h1, h2 => by
    obtain ⟨p1, p2⟩ := List.pairwise_cons.1 hp
    have h1' := has1_iff.1 h1
    have h2' := has1_iff.1 h2
    rcases List.mem_cons.1 hx with ex | hx2 <;> rcases List.mem_cons.1 hy with ey | hy2
    · rw [ex, ey]
    · have := p1 y hy2
      rw [ex] at h1'
      omega
    · have := p1 x hx2
      rw [ey] at h2'
      omega
    · exact sd_inj (fun q hq => hr q (List.mem_cons_of_mem _ hq)) p2 x hx2 y hy2 t h1 h2
theorem sd_from {l : List Inf} (h : sdL l = true) {x y : Inf} (hx : x ∈ l) (hy : y ∈ l) (e : x.1.1 = y.1.1) : x = y := by
  obtain ⟨h1, h2⟩ := sdL_spec h
  have a := h1 x hx
  have b := h1 y hy
  exact sd_inj h1 h2 x hx y hy x.1.1 (has1_iff.2 ⟨Int.le_refl _, a⟩) (has1_iff.2 ⟨by omega, by omega⟩)
def mgL (a b : List Inf) : List Inf × Int :=
  if sdL a = true ∧ sdL b = true then (if sdL (mwL a b) = true then (mwL a b, 0) else ([], 21)) else ([], 4)
def atL (t : Int) : List Inf → Option (Int × Int × List UInt8)
  | [] => none
  | x :: r => if has1 x.1 t then some x.2 else atL t r
def cutL (s : Sp) (l : List Inf) : List Inf := l.flatMap fun x => if meetB x.1 s then [(bothS x.1 s, x.2)] else []
end Nt.Ev.Ytjobobdijjppkaa.Sm

set_option linter.unusedVariables false
set_option linter.unusedSimpArgs false
set_option linter.unusedSectionVars false
namespace Nt.Ev.Ytjobobdijjppkaa.Sm
open Go Nt.Num Go.Proofs.Ytjobobdijjppkaa
open Nt.Ev.Ytjobobdijjppkaa.Sp
noncomputable def infs : V → List V | .sl _ _ _ xs => xs | _ => []
noncomputable def isIn : V → Bool | .nilsl => true | .sl e sh o xs => e == 65 && Kd.eqL [.int .i64, .int .i64, .int .i64, .int .i64, .str] sh | _ => false
noncomputable def mSdS : FSpec := fun a => match a with | [x] => some (band (isIn x) (ile (llen (infs x)) 1000000), .bool (sdB (infs x))) | _ => none
noncomputable def mHaS : FSpec := fun a => match a with | [x, .agg [.int .i64 a, .int .i64 b, .int .i64 c, .int .i64 d, .str s]] => some (band (isIn x) (ile (llen (infs x)) 1000000), .bool (haB (infs x) a b c d s)) | _ => none
noncomputable def mS1 : List (Nat × FSpec) := (33, mSdS) :: (34, mSdS) :: (58, mHaS) :: []
noncomputable def mSound_L0 (F : Nat) (ns : List Nat) (n : Nat) (x0 : List V) (x2 : Bool) (x5 : List V) (x6 : Int) (x7 : Int) (K : V → Option V) : Option V :=
 loopAt sE sS2 F 3 33 [1, 0, 1, 0] ns K n (mkSt 31 [(0, V.sl 65 [(Kd.int .i64), (Kd.int .i64), (Kd.int .i64), (Kd.int .i64), (Kd.str)] none x0), (2, V.bool x2), (5, V.sl 65 [(Kd.int .i64), (Kd.int .i64), (Kd.int .i64), (Kd.int .i64), (Kd.str)] none x5), (6, V.int .i64 x6), (7, V.int .i64 x7)] [])
set_option maxRecDepth 100000 in
theorem mSound_top (F : Nat) (xs : List V) (K : V → Option V) :
 evBd sE (evFn sE sS2 F 3) F 33 [(V.sl 65 [(Kd.int .i64), (Kd.int .i64), (Kd.int .i64), (Kd.int .i64), (Kd.str)] none xs)] K =
 mSound_L0 F [] F xs false xs (llen xs) 0 K := by kernel_rfl
set_option maxRecDepth 100000 in
theorem mSound_L0_succ (F : Nat) (n : Nat) (x0 : List V) (x2 : Bool) (x5 : List V) (x6 : Int) (x7 : Int) (K : V → Option V) :
 mSound_L0 F [] (n + 1) x0 x2 x5 x6 x7 K =
 sel (ilt x7 x6)
 (sel (band (ile 0 x7) (ilt x7 (llen x5)))
 (sel (bnot (ilt (asInt (acell (lget x5 x7) 0)) (asInt (acell (lget x5 x7) 1))))
 (K (V.bool false))
 (sel (ilt 0 x7)
 (sel (band (ile 0 (isub .i64 x7 1)) (ilt (isub .i64 x7 1) (llen x0)))
 (sel (bnot (ieq (asInt (acell (lget x5 x7) 0)) (asInt (acell (lget x5 x7) 0))))
 (sel (bnot (ieq (asInt (acell (lget x0 (isub .i64 x7 1)) 1)) (asInt (acell (lget x0 (isub .i64 x7 1)) 1))))
 (sel (bnot (bnot (band (ieq (asInt (acell (lget x0 (isub .i64 x7 1)) 2)) (asInt (acell (lget x5 x7) 2))) (band (ieq (asInt (acell (lget x0 (isub .i64 x7 1)) 3)) (asInt (acell (lget x5 x7) 3))) (seq (asStr (acell (lget x0 (isub .i64 x7 1)) 4)) (asStr (acell (lget x5 x7) 4)))))))
 (K (V.bool false))
 (mSound_L0 F [] n x0 x2 x5 x6 (iadd .i64 x7 1) K))
 (K (V.bool false)))
 (sel (bnot (ieq (asInt (acell (lget x0 (isub .i64 x7 1)) 1)) (asInt (acell (lget x0 (isub .i64 x7 1)) 1))))
 (mSound_L0 F [] n x0 x2 x5 x6 (iadd .i64 x7 1) K)
 (sel (ilt (asInt (acell (lget x5 x7) 0)) (asInt (acell (lget x0 (isub .i64 x7 1)) 1)))
 (K (V.bool false))
 (sel (ilt (asInt (acell (lget x0 (isub .i64 x7 1)) 1)) (asInt (acell (lget x5 x7) 0)))
 (mSound_L0 F [] n x0 x2 x5 x6 (iadd .i64 x7 1) K)
 (sel (bnot (bnot (band (ieq (asInt (acell (lget x0 (isub .i64 x7 1)) 2)) (asInt (acell (lget x5 x7) 2))) (band (ieq (asInt (acell (lget x0 (isub .i64 x7 1)) 3)) (asInt (acell (lget x5 x7) 3))) (seq (asStr (acell (lget x0 (isub .i64 x7 1)) 4)) (asStr (acell (lget x5 x7) 4)))))))
 (K (V.bool false))
 (mSound_L0 F [] n x0 x2 x5 x6 (iadd .i64 x7 1) K))))))
 (none))
 (mSound_L0 F [] n x0 x2 x5 x6 (iadd .i64 x7 1) K)))
 (none))
 (K (V.bool true)) := by kernel_rfl
noncomputable def mSound39_L0 (F : Nat) (ns : List Nat) (n : Nat) (x0 : List V) (x2 : Bool) (x6 : List V) (x7 : Int) (x8 : Int) (K : V → Option V) : Option V :=
 loopAt sE sS2 F 3 34 [1, 0, 1, 0] ns K n (mkSt 48 [(0, V.sl 65 [(Kd.int .i64), (Kd.int .i64), (Kd.int .i64), (Kd.int .i64), (Kd.str)] none x0), (2, V.bool x2), (6, V.sl 65 [(Kd.int .i64), (Kd.int .i64), (Kd.int .i64), (Kd.int .i64), (Kd.str)] none x6), (7, V.int .i64 x7), (8, V.int .i64 x8)] [])
set_option maxRecDepth 100000 in
theorem mSound39_top (F : Nat) (xs : List V) (K : V → Option V) :
 evBd sE (evFn sE sS2 F 3) F 34 [(V.sl 65 [(Kd.int .i64), (Kd.int .i64), (Kd.int .i64), (Kd.int .i64), (Kd.str)] none xs)] K =
 mSound39_L0 F [] F xs false xs (llen xs) 0 K := by kernel_rfl
set_option maxRecDepth 100000 in
theorem mSound39_L0_succ (F : Nat) (n : Nat) (x0 : List V) (x2 : Bool) (x6 : List V) (x7 : Int) (x8 : Int) (K : V → Option V) :
 mSound39_L0 F [] (n + 1) x0 x2 x6 x7 x8 K =
 sel (ilt x8 x7)
 (sel (band (ile 0 x8) (ilt x8 (llen x6)))
 (sel (bnot (ilt (asInt (acell (lget x6 x8) 0)) (asInt (acell (lget x6 x8) 1))))
 (K (V.bool false))
 (sel (ieq x8 0)
 (mSound39_L0 F [] n x0 x2 x6 x7 (iadd .i64 x8 1) K)
 (sel (band (ile 0 (isub .i64 x8 1)) (ilt (isub .i64 x8 1) (llen x0)))
 (sel (ilt (asInt (acell (lget x6 x8) 0)) (asInt (acell (lget x0 (isub .i64 x8 1)) 1)))
 (K (V.bool false))
 (sel (ieq (asInt (acell (lget x0 (isub .i64 x8 1)) 1)) (asInt (acell (lget x6 x8) 0)))
 (sel (band (ieq (asInt (acell (lget x0 (isub .i64 x8 1)) 2)) (asInt (acell (lget x6 x8) 2))) (band (ieq (asInt (acell (lget x0 (isub .i64 x8 1)) 3)) (asInt (acell (lget x6 x8) 3))) (seq (asStr (acell (lget x0 (isub .i64 x8 1)) 4)) (asStr (acell (lget x6 x8) 4)))))
 (K (V.bool false))
 (mSound39_L0 F [] n x0 x2 x6 x7 (iadd .i64 x8 1) K))
 (mSound39_L0 F [] n x0 x2 x6 x7 (iadd .i64 x8 1) K)))
 (none))))
 (none))
 (K (V.bool true)) := by kernel_rfl
noncomputable def mSame_L0 (F : Nat) (ns : List Nat) (n : Nat) (x0 : List V) (x1 : List V) (x4 : Bool) (x12 : Int) (x13 : Int) (K : V → Option V) : Option V :=
 loopAt sE sS F 2 32 [1, 1, 0, 1, 0] ns K n (mkSt 26 [(0, V.sl 65 [(Kd.int .i64), (Kd.int .i64), (Kd.int .i64), (Kd.int .i64), (Kd.str)] none x0), (1, V.sl 65 [(Kd.int .i64), (Kd.int .i64), (Kd.int .i64), (Kd.int .i64), (Kd.str)] none x1), (4, V.bool x4), (12, V.int .i64 x12), (13, V.int .i64 x13)] [])
set_option maxRecDepth 100000 in
theorem mSame_top (F : Nat) (xs : List V) (ys : List V) (K : V → Option V) :
 evBd sE (evFn sE sS F 2) F 32 [(V.sl 65 [(Kd.int .i64), (Kd.int .i64), (Kd.int .i64), (Kd.int .i64), (Kd.str)] none xs), (V.sl 65 [(Kd.int .i64), (Kd.int .i64), (Kd.int .i64), (Kd.int .i64), (Kd.str)] none ys)] K =
 sel (bnot (ieq (llen xs) (llen ys)))
 (K (V.bool false))
 (mSame_L0 F [] F xs ys false (llen xs) 0 K) := by kernel_rfl
set_option maxRecDepth 100000 in
theorem mSame_L0_succ (F : Nat) (n : Nat) (x0 : List V) (x1 : List V) (x4 : Bool) (x12 : Int) (x13 : Int) (K : V → Option V) :
 mSame_L0 F [] (n + 1) x0 x1 x4 x12 x13 K =
 sel (ilt x13 x12)
 (sel (band (ile 0 x13) (ilt x13 (llen x0)))
 (sel (band (ile 0 x13) (ilt x13 (llen x1)))
 (sel (bnot (band (band (ieq (asInt (acell (lget x0 x13) 0)) (asInt (acell (lget x1 x13) 0))) (ieq (asInt (acell (lget x0 x13) 1)) (asInt (acell (lget x1 x13) 1)))) (band (ieq (asInt (acell (lget x0 x13) 2)) (asInt (acell (lget x1 x13) 2))) (band (ieq (asInt (acell (lget x0 x13) 3)) (asInt (acell (lget x1 x13) 3))) (seq (asStr (acell (lget x0 x13) 4)) (asStr (acell (lget x1 x13) 4)))))))
 (K (V.bool false))
 (mSame_L0 F [] n x0 x1 x4 x12 (iadd .i64 x13 1) K))
 (none))
 (none))
 (K (V.bool true)) := by kernel_rfl
noncomputable def mCut_L0 (F : Nat) (ns : List Nat) (n : Nat) (x0 : List V) (x1_0 : Int) (x1_1 : Int) (x5 : List V) (x10 : List V) (x11 : Int) (x12 : Int) (b3_0 : Int) (b3_1 : Int) (K : V → Option V) : Option V :=
 loopAt sE sS2 F 2 39 [1, 1, 0, 1, 0] ns K n (mkSt 32 [(0, V.sl 65 [(Kd.int .i64), (Kd.int .i64), (Kd.int .i64), (Kd.int .i64), (Kd.str)] none x0), (1, V.agg [V.int .i64 x1_0, V.int .i64 x1_1]), (3, (V.box 3 0)), (4, V.sl 65 [(Kd.int .i64), (Kd.int .i64), (Kd.int .i64), (Kd.int .i64), (Kd.str)] (some 4) []), (5, V.sl 65 [(Kd.int .i64), (Kd.int .i64), (Kd.int .i64), (Kd.int .i64), (Kd.str)] (some 5) x5), (10, V.sl 65 [(Kd.int .i64), (Kd.int .i64), (Kd.int .i64), (Kd.int .i64), (Kd.str)] none x10), (11, V.int .i64 x11), (12, V.int .i64 x12)] [(3, [V.int .i64 b3_0, V.int .i64 b3_1])])
set_option maxRecDepth 100000 in
theorem mCut_top (F : Nat) (xs : List V) (a : Int) (b : Int) (K : V → Option V) :
 evBd sE (evFn sE sS2 F 2) F 39 [(V.sl 65 [(Kd.int .i64), (Kd.int .i64), (Kd.int .i64), (Kd.int .i64), (Kd.str)] none xs), (V.agg [(V.int .i64 a), (V.int .i64 b)])] K =
 mCut_L0 F [] F xs a b [] xs (llen xs) 0 a b K := by kernel_rfl
set_option maxRecDepth 100000 in
theorem mCut_L0_succ (F : Nat) (n : Nat) (x0 : List V) (x1_0 : Int) (x1_1 : Int) (x5 : List V) (x10 : List V) (x11 : Int) (x12 : Int) (b3_0 : Int) (b3_1 : Int) (K : V → Option V) :
 mCut_L0 F [] (n + 1) x0 x1_0 x1_1 x5 x10 x11 x12 b3_0 b3_1 K =
 sel (ilt x12 x11)
 (sel (band (ile 0 x12) (ilt x12 (llen x10)))
 (sel (btB (asInt (acell (lget x10 x12) 0)) (asInt (acell (lget x10 x12) 1)) b3_0 b3_1)
 (sel (okApp x5 [(V.agg [(V.int .i64 (btA (asInt (acell (lget x10 x12) 0)) (asInt (acell (lget x10 x12) 1)) b3_0 b3_1)), (V.int .i64 (btZ (asInt (acell (lget x10 x12) 0)) (asInt (acell (lget x10 x12) 1)) b3_0 b3_1)), (V.int .i64 (asInt (acell (lget x10 x12) 2))), (V.int .i64 (asInt (acell (lget x10 x12) 3))), (V.str (asStr (acell (lget x10 x12) 4)))])])
 (mCut_L0 F [] n x0 x1_0 x1_1 (lcat x5 [(V.agg [(V.int .i64 (btA (asInt (acell (lget x10 x12) 0)) (asInt (acell (lget x10 x12) 1)) b3_0 b3_1)), (V.int .i64 (btZ (asInt (acell (lget x10 x12) 0)) (asInt (acell (lget x10 x12) 1)) b3_0 b3_1)), (V.int .i64 (asInt (acell (lget x10 x12) 2))), (V.int .i64 (asInt (acell (lget x10 x12) 3))), (V.str (asStr (acell (lget x10 x12) 4)))])]) x10 x11 (iadd .i64 x12 1) b3_0 b3_1 K)
 (none))
 (mCut_L0 F [] n x0 x1_0 x1_1 x5 x10 x11 (iadd .i64 x12 1) b3_0 b3_1 K))
 (none))
 (K (V.sl 65 [(Kd.int .i64), (Kd.int .i64), (Kd.int .i64), (Kd.int .i64), (Kd.str)] (some 5) x5)) := by kernel_rfl
noncomputable def mCut39_L0 (F : Nat) (ns : List Nat) (n : Nat) (x0 : List V) (x1_0 : Int) (x1_1 : Int) (x5 : List V) (x10 : List V) (x11 : Int) (x12 : Int) (b3_0 : Int) (b3_1 : Int) (K : V → Option V) : Option V :=
 loopAt sE sS2 F 2 40 [1, 1, 0, 1, 0] ns K n (mkSt 33 [(0, V.sl 65 [(Kd.int .i64), (Kd.int .i64), (Kd.int .i64), (Kd.int .i64), (Kd.str)] none x0), (1, V.agg [V.int .i64 x1_0, V.int .i64 x1_1]), (3, (V.box 3 0)), (4, V.sl 65 [(Kd.int .i64), (Kd.int .i64), (Kd.int .i64), (Kd.int .i64), (Kd.str)] (some 4) []), (5, V.sl 65 [(Kd.int .i64), (Kd.int .i64), (Kd.int .i64), (Kd.int .i64), (Kd.str)] (some 5) x5), (10, V.sl 65 [(Kd.int .i64), (Kd.int .i64), (Kd.int .i64), (Kd.int .i64), (Kd.str)] none x10), (11, V.int .i64 x11), (12, V.int .i64 x12)] [(3, [V.int .i64 b3_0, V.int .i64 b3_1])])
set_option maxRecDepth 100000 in
theorem mCut39_top (F : Nat) (xs : List V) (a : Int) (b : Int) (K : V → Option V) :
 evBd sE (evFn sE sS2 F 2) F 40 [(V.sl 65 [(Kd.int .i64), (Kd.int .i64), (Kd.int .i64), (Kd.int .i64), (Kd.str)] none xs), (V.agg [(V.int .i64 a), (V.int .i64 b)])] K =
 mCut39_L0 F [] F xs a b [] xs (llen xs) 0 a b K := by kernel_rfl
set_option maxRecDepth 100000 in
theorem mCut39_L0_succ (F : Nat) (n : Nat) (x0 : List V) (x1_0 : Int) (x1_1 : Int) (x5 : List V) (x10 : List V) (x11 : Int) (x12 : Int) (b3_0 : Int) (b3_1 : Int) (K : V → Option V) :
 mCut39_L0 F [] (n + 1) x0 x1_0 x1_1 x5 x10 x11 x12 b3_0 b3_1 K =
 sel (ilt x12 x11)
 (sel (band (ile 0 x12) (ilt x12 (llen x10)))
 (sel (btB (asInt (acell (lget x10 x12) 0)) (asInt (acell (lget x10 x12) 1)) b3_0 b3_1)
 (sel (okApp x5 [(V.agg [(V.int .i64 (btA (asInt (acell (lget x10 x12) 0)) (asInt (acell (lget x10 x12) 1)) b3_0 b3_1)), (V.int .i64 (btZ (asInt (acell (lget x10 x12) 0)) (asInt (acell (lget x10 x12) 1)) b3_0 b3_1)), (V.int .i64 (asInt (acell (lget x10 x12) 2))), (V.int .i64 (asInt (acell (lget x10 x12) 3))), (V.str (asStr (acell (lget x10 x12) 4)))])])
 (mCut39_L0 F [] n x0 x1_0 x1_1 (lcat x5 [(V.agg [(V.int .i64 (btA (asInt (acell (lget x10 x12) 0)) (asInt (acell (lget x10 x12) 1)) b3_0 b3_1)), (V.int .i64 (btZ (asInt (acell (lget x10 x12) 0)) (asInt (acell (lget x10 x12) 1)) b3_0 b3_1)), (V.int .i64 (asInt (acell (lget x10 x12) 2))), (V.int .i64 (asInt (acell (lget x10 x12) 3))), (V.str (asStr (acell (lget x10 x12) 4)))])]) x10 x11 (iadd .i64 x12 1) b3_0 b3_1 K)
 (none))
 (mCut39_L0 F [] n x0 x1_0 x1_1 x5 x10 x11 (iadd .i64 x12 1) b3_0 b3_1 K))
 (none))
 (K (V.sl 65 [(Kd.int .i64), (Kd.int .i64), (Kd.int .i64), (Kd.int .i64), (Kd.str)] (some 5) x5)) := by kernel_rfl
noncomputable def mHas_L0 (F : Nat) (ns : List Nat) (n : Nat) (x0 : List V) (x1_0 : Int) (x1_1 : Int) (x1_2 : Int) (x1_3 : Int) (x1_4 : List UInt8) (x4 : Bool) (x7 : List V) (x8 : Int) (x9 : Int) (b3_0 : Int) (b3_1 : Int) (b3_2 : Int) (b3_3 : Int) (b3_4 : List UInt8) (K : V → Option V) : Option V :=
 loopAt sE sS F 2 58 [1, 0, 1, 0] ns K n (mkSt 17 [(0, V.sl 65 [(Kd.int .i64), (Kd.int .i64), (Kd.int .i64), (Kd.int .i64), (Kd.str)] none x0), (1, V.agg [V.int .i64 x1_0, V.int .i64 x1_1, V.int .i64 x1_2, V.int .i64 x1_3, V.str x1_4]), (3, (V.box 3 0)), (4, V.bool x4), (7, V.sl 65 [(Kd.int .i64), (Kd.int .i64), (Kd.int .i64), (Kd.int .i64), (Kd.str)] none x7), (8, V.int .i64 x8), (9, V.int .i64 x9)] [(3, [V.int .i64 b3_0, V.int .i64 b3_1, V.int .i64 b3_2, V.int .i64 b3_3, V.str b3_4])])
set_option maxRecDepth 100000 in
theorem mHas_top (F : Nat) (xs : List V) (a : Int) (b : Int) (c : Int) (d : Int) (s : List UInt8) (K : V → Option V) :
 evBd sE (evFn sE sS F 2) F 58 [(V.sl 65 [(Kd.int .i64), (Kd.int .i64), (Kd.int .i64), (Kd.int .i64), (Kd.str)] none xs), (V.agg [(V.int .i64 a), (V.int .i64 b), (V.int .i64 c), (V.int .i64 d), (V.str s)])] K =
 mHas_L0 F [] F xs a b c d s false xs (llen xs) 0 a b c d s K := by kernel_rfl
set_option maxRecDepth 100000 in
theorem mHas_L0_succ (F : Nat) (n : Nat) (x0 : List V) (x1_0 : Int) (x1_1 : Int) (x1_2 : Int) (x1_3 : Int) (x1_4 : List UInt8) (x4 : Bool) (x7 : List V) (x8 : Int) (x9 : Int) (b3_0 : Int) (b3_1 : Int) (b3_2 : Int) (b3_3 : Int) (b3_4 : List UInt8) (K : V → Option V) :
 mHas_L0 F [] (n + 1) x0 x1_0 x1_1 x1_2 x1_3 x1_4 x4 x7 x8 x9 b3_0 b3_1 b3_2 b3_3 b3_4 K =
 sel (ilt x9 x8)
 (sel (band (ile 0 x9) (ilt x9 (llen x7)))
 (sel (band (band (ieq b3_0 (asInt (acell (lget x7 x9) 0))) (ieq b3_1 (asInt (acell (lget x7 x9) 1)))) (band (ieq b3_2 (asInt (acell (lget x7 x9) 2))) (band (ieq b3_3 (asInt (acell (lget x7 x9) 3))) (seq b3_4 (asStr (acell (lget x7 x9) 4))))))
 (K (V.bool true))
 (mHas_L0 F [] n x0 x1_0 x1_1 x1_2 x1_3 x1_4 x4 x7 x8 (iadd .i64 x9 1) b3_0 b3_1 b3_2 b3_3 b3_4 K))
 (none))
 (K (V.bool false)) := by kernel_rfl
noncomputable def mAt_L0 (F : Nat) (ns : List Nat) (n : Nat) (x0 : List V) (x1 : Int) (x5 : Bool) (x8 : List V) (x9 : Int) (x10 : Int) (b4_0 : Int) (b4_1 : Int) (b4_2 : List UInt8) (K : V → Option V) : Option V :=
 loopAt sE sS2 F 2 41 [1, 0, 1, 0] ns K n (mkSt 22 [(0, V.sl 65 [(Kd.int .i64), (Kd.int .i64), (Kd.int .i64), (Kd.int .i64), (Kd.str)] none x0), (1, V.int .i64 x1), (4, (V.box 4 0)), (5, V.bool x5), (8, V.sl 65 [(Kd.int .i64), (Kd.int .i64), (Kd.int .i64), (Kd.int .i64), (Kd.str)] none x8), (9, V.int .i64 x9), (10, V.int .i64 x10)] [(4, [V.int .i64 b4_0, V.int .i64 b4_1, V.str b4_2])])
set_option maxRecDepth 100000 in
theorem mAt_top (F : Nat) (xs : List V) (t : Int) (K : V → Option V) :
 evBd sE (evFn sE sS2 F 2) F 41 [(V.sl 65 [(Kd.int .i64), (Kd.int .i64), (Kd.int .i64), (Kd.int .i64), (Kd.str)] none xs), (V.int .i64 t)] K =
 mAt_L0 F [] F xs t false xs (llen xs) 0 0 0 [] K := by kernel_rfl
set_option maxRecDepth 100000 in
theorem mAt_L0_succ (F : Nat) (n : Nat) (x0 : List V) (x1 : Int) (x5 : Bool) (x8 : List V) (x9 : Int) (x10 : Int) (b4_0 : Int) (b4_1 : Int) (b4_2 : List UInt8) (K : V → Option V) :
 mAt_L0 F [] (n + 1) x0 x1 x5 x8 x9 x10 b4_0 b4_1 b4_2 K =
 sel (ilt x10 x9)
 (sel (band (ile 0 x10) (ilt x10 (llen x8)))
 (sel (band (ile (asInt (acell (lget x8 x10) 0)) x1) (ilt x1 (asInt (acell (lget x8 x10) 1))))
 (K (V.tup [(V.agg [(V.int .i64 (asInt (acell (lget x8 x10) 2))), (V.int .i64 (asInt (acell (lget x8 x10) 3))), (V.str (asStr (acell (lget x8 x10) 4)))]), (V.bool true)]))
 (mAt_L0 F [] n x0 x1 x5 x8 x9 (iadd .i64 x10 1) b4_0 b4_1 b4_2 K))
 (none))
 (K (V.tup [(V.agg [(V.int .i64 0), (V.int .i64 0), (V.str [])]), (V.bool false)])) := by kernel_rfl
noncomputable def mPat_L0 (F : Nat) (ns : List Nat) (n : Nat) (x0 : List V) (x3 : List V) (x6 : List V) (x7 : Int) (x8 : Int) (K : V → Option V) : Option V :=
 loopAt sE sS10 F 2 35 [1, 1, 0, 1, 0] ns K n (mkSt 20 [(0, V.sl 65 [(Kd.int .i64), (Kd.int .i64), (Kd.int .i64), (Kd.int .i64), (Kd.str)] none x0), (2, V.sl 24 [(Kd.int .i64), (Kd.int .i64)] (some 2) []), (3, V.sl 24 [(Kd.int .i64), (Kd.int .i64)] (some 3) x3), (6, V.sl 65 [(Kd.int .i64), (Kd.int .i64), (Kd.int .i64), (Kd.int .i64), (Kd.str)] none x6), (7, V.int .i64 x7), (8, V.int .i64 x8)] [])
set_option maxRecDepth 100000 in
theorem mPat_top (F : Nat) (xs : List V) (K : V → Option V) :
 evBd sE (evFn sE sS10 F 2) F 35 [(V.sl 65 [(Kd.int .i64), (Kd.int .i64), (Kd.int .i64), (Kd.int .i64), (Kd.str)] none xs)] K =
 mPat_L0 F [] F xs [] xs (llen xs) 0 K := by kernel_rfl
set_option maxRecDepth 100000 in
theorem mPat_L0_succ (F : Nat) (n : Nat) (x0 : List V) (x3 : List V) (x6 : List V) (x7 : Int) (x8 : Int) (K : V → Option V) :
 mPat_L0 F [] (n + 1) x0 x3 x6 x7 x8 K =
 sel (ilt x8 x7)
 (sel (band (ile 0 x8) (ilt x8 (llen x6)))
 (sel (okApp x3 [(V.agg [(V.int .i64 (asInt (acell (lget x6 x8) 0))), (V.int .i64 (asInt (acell (lget x6 x8) 1)))])])
 (mPat_L0 F [] n x0 (lcat x3 [(V.agg [(V.int .i64 (asInt (acell (lget x6 x8) 0))), (V.int .i64 (asInt (acell (lget x6 x8) 1)))])]) x6 x7 (iadd .i64 x8 1) K)
 (none))
 (none))
 (sel (band true (ile (llen x3) 30000))
 (K (V.sl 24 [(Kd.int .i64), (Kd.int .i64)] none (ofV x3)))
 (none)) := by kernel_rfl
noncomputable def mPat39_L0 (F : Nat) (ns : List Nat) (n : Nat) (x0 : List V) (x3 : List V) (x6 : List V) (x7 : Int) (x8 : Int) (K : V → Option V) : Option V :=
 loopAt sE sS4 F 2 36 [1, 1, 0, 1, 0] ns K n (mkSt 20 [(0, V.sl 65 [(Kd.int .i64), (Kd.int .i64), (Kd.int .i64), (Kd.int .i64), (Kd.str)] none x0), (2, V.sl 24 [(Kd.int .i64), (Kd.int .i64)] (some 2) []), (3, V.sl 24 [(Kd.int .i64), (Kd.int .i64)] (some 3) x3), (6, V.sl 65 [(Kd.int .i64), (Kd.int .i64), (Kd.int .i64), (Kd.int .i64), (Kd.str)] none x6), (7, V.int .i64 x7), (8, V.int .i64 x8)] [])
set_option maxRecDepth 100000 in
theorem mPat39_top (F : Nat) (xs : List V) (K : V → Option V) :
 evBd sE (evFn sE sS4 F 2) F 36 [(V.sl 65 [(Kd.int .i64), (Kd.int .i64), (Kd.int .i64), (Kd.int .i64), (Kd.str)] none xs)] K =
 mPat39_L0 F [] F xs [] xs (llen xs) 0 K := by kernel_rfl
set_option maxRecDepth 100000 in
theorem mPat39_L0_succ (F : Nat) (n : Nat) (x0 : List V) (x3 : List V) (x6 : List V) (x7 : Int) (x8 : Int) (K : V → Option V) :
 mPat39_L0 F [] (n + 1) x0 x3 x6 x7 x8 K =
 sel (ilt x8 x7)
 (sel (band (ile 0 x8) (ilt x8 (llen x6)))
 (sel (okApp x3 [(V.agg [(V.int .i64 (asInt (acell (lget x6 x8) 0))), (V.int .i64 (asInt (acell (lget x6 x8) 1)))])])
 (mPat39_L0 F [] n x0 (lcat x3 [(V.agg [(V.int .i64 (asInt (acell (lget x6 x8) 0))), (V.int .i64 (asInt (acell (lget x6 x8) 1)))])]) x6 x7 (iadd .i64 x8 1) K)
 (none))
 (none))
 (sel (ile (llen x3) 100000)
 (K (V.sl 24 [(Kd.int .i64), (Kd.int .i64)] none (ofV x3)))
 (none)) := by kernel_rfl
noncomputable def mMerge_L0 (F : Nat) (ns : List Nat) (n : Nat) (x0 : List V) (x1 : List V) (x6 : List V) (K : V → Option V) : Option V :=
 loopAt sE mS1 F 2 30 [1, 1, 1, 0, 0] ns K n (mkSt 78 [(0, V.sl 65 [(Kd.int .i64), (Kd.int .i64), (Kd.int .i64), (Kd.int .i64), (Kd.str)] none x0), (1, V.sl 65 [(Kd.int .i64), (Kd.int .i64), (Kd.int .i64), (Kd.int .i64), (Kd.str)] none x1), (4, V.sl 65 [(Kd.int .i64), (Kd.int .i64), (Kd.int .i64), (Kd.int .i64), (Kd.str)] (some 4) []), (5, V.int .i64 0), (6, V.sl 65 [(Kd.int .i64), (Kd.int .i64), (Kd.int .i64), (Kd.int .i64), (Kd.str)] (some 6) x6)] [])
set_option maxRecDepth 100000 in
theorem mMerge_top (F : Nat) (xs : List V) (ys : List V) (K : V → Option V) :
 evBd sE (evFn sE mS1 F 2) F 30 [(V.sl 65 [(Kd.int .i64), (Kd.int .i64), (Kd.int .i64), (Kd.int .i64), (Kd.str)] none xs), (V.sl 65 [(Kd.int .i64), (Kd.int .i64), (Kd.int .i64), (Kd.int .i64), (Kd.str)] none ys)] K =
 sel (band true (ile (llen xs) 1000000))
 (sel (bnot (sdB xs))
 (K (V.tup [(V.sl 65 [(Kd.int .i64), (Kd.int .i64), (Kd.int .i64), (Kd.int .i64), (Kd.str)] (some 0) []), (V.int .i64 4)]))
 (sel (band true (ile (llen ys) 1000000))
 (sel (bnot (sdB ys))
 (K (V.tup [(V.sl 65 [(Kd.int .i64), (Kd.int .i64), (Kd.int .i64), (Kd.int .i64), (Kd.str)] (some 0) []), (V.int .i64 4)]))
 (mMerge_L0 F [] F xs ys [] K))
 (none)))
 (none) := by kernel_rfl
set_option maxRecDepth 100000 in
theorem mMerge_L0_succ (F : Nat) (n : Nat) (x0 : List V) (x1 : List V) (x6 : List V) (K : V → Option V) :
 mMerge_L0 F [] (n + 1) x0 x1 x6 K =
 sel (ilt 0 (llen x0))
 (sel (ilt 0 (llen x1))
 (sel (band (ile 0 0) (ilt 0 (llen x0)))
 (sel (band (ile 0 0) (ilt 0 (llen x1)))
 (sel (band (band (ieq (asInt (acell (lget x0 0) 0)) (asInt (acell (lget x1 0) 0))) (ieq (asInt (acell (lget x0 0) 1)) (asInt (acell (lget x1 0) 1)))) (band (ieq (asInt (acell (lget x0 0) 2)) (asInt (acell (lget x1 0) 2))) (band (ieq (asInt (acell (lget x0 0) 3)) (asInt (acell (lget x1 0) 3))) (seq (asStr (acell (lget x0 0) 4)) (asStr (acell (lget x1 0) 4))))))
 (sel (band (ile 0 1) (ile 1 (llen x0)))
 (sel (band (ile 0 1) (ile 1 (llen x1)))
 (sel (band (ile 0 0) (ilt 0 (llen x0)))
 (sel (okApp x6 [(V.agg [(V.int .i64 (asInt (acell (lget x0 0) 0))), (V.int .i64 (asInt (acell (lget x0 0) 1))), (V.int .i64 (asInt (acell (lget x0 0) 2))), (V.int .i64 (asInt (acell (lget x0 0) 3))), (V.str (asStr (acell (lget x0 0) 4)))])])
 (mMerge_L0 F [] n (lsub x0 1 (llen x0)) (lsub x1 1 (llen x1)) (lcat x6 [(V.agg [(V.int .i64 (asInt (acell (lget x0 0) 0))), (V.int .i64 (asInt (acell (lget x0 0) 1))), (V.int .i64 (asInt (acell (lget x0 0) 2))), (V.int .i64 (asInt (acell (lget x0 0) 3))), (V.str (asStr (acell (lget x0 0) 4)))])]) K)
 (none))
 (none))
 (none))
 (none))
 (sel (band (ile 0 0) (ilt 0 (llen x0)))
 (sel (band (ile 0 0) (ilt 0 (llen x1)))
 (sel (ile (asInt (acell (lget x0 0) 0)) (asInt (acell (lget x1 0) 0)))
 (sel (band (ile 0 1) (ile 1 (llen x0)))
 (sel (band (ile 0 0) (ilt 0 (llen x0)))
 (sel (okApp x6 [(V.agg [(V.int .i64 (asInt (acell (lget x0 0) 0))), (V.int .i64 (asInt (acell (lget x0 0) 1))), (V.int .i64 (asInt (acell (lget x0 0) 2))), (V.int .i64 (asInt (acell (lget x0 0) 3))), (V.str (asStr (acell (lget x0 0) 4)))])])
 (mMerge_L0 F [] n (lsub x0 1 (llen x0)) x1 (lcat x6 [(V.agg [(V.int .i64 (asInt (acell (lget x0 0) 0))), (V.int .i64 (asInt (acell (lget x0 0) 1))), (V.int .i64 (asInt (acell (lget x0 0) 2))), (V.int .i64 (asInt (acell (lget x0 0) 3))), (V.str (asStr (acell (lget x0 0) 4)))])]) K)
 (none))
 (none))
 (none))
 (sel (band (ile 0 1) (ile 1 (llen x1)))
 (sel (band (ile 0 0) (ilt 0 (llen x1)))
 (sel (okApp x6 [(V.agg [(V.int .i64 (asInt (acell (lget x1 0) 0))), (V.int .i64 (asInt (acell (lget x1 0) 1))), (V.int .i64 (asInt (acell (lget x1 0) 2))), (V.int .i64 (asInt (acell (lget x1 0) 3))), (V.str (asStr (acell (lget x1 0) 4)))])])
 (mMerge_L0 F [] n x0 (lsub x1 1 (llen x1)) (lcat x6 [(V.agg [(V.int .i64 (asInt (acell (lget x1 0) 0))), (V.int .i64 (asInt (acell (lget x1 0) 1))), (V.int .i64 (asInt (acell (lget x1 0) 2))), (V.int .i64 (asInt (acell (lget x1 0) 3))), (V.str (asStr (acell (lget x1 0) 4)))])]) K)
 (none))
 (none))
 (none)))
 (none))
 (none)))
 (none))
 (none))
 (sel (okApp x6 x0)
 (sel (okApp (lcat x6 x0) x1)
 (sel (band true (ile (llen (lcat (lcat x6 x0) x1)) 1000000))
 (sel (bnot (sdB (lcat (lcat x6 x0) x1)))
 (K (V.tup [(V.sl 65 [(Kd.int .i64), (Kd.int .i64), (Kd.int .i64), (Kd.int .i64), (Kd.str)] (some 0) []), (V.int .i64 21)]))
 (K (V.tup [(V.sl 65 [(Kd.int .i64), (Kd.int .i64), (Kd.int .i64), (Kd.int .i64), (Kd.str)] (some 0) (lcat (lcat x6 x0) x1)), (V.int .i64 0)])))
 (none))
 (none))
 (none)))
 (sel (okApp x6 x0)
 (sel (okApp (lcat x6 x0) x1)
 (sel (band true (ile (llen (lcat (lcat x6 x0) x1)) 1000000))
 (sel (bnot (sdB (lcat (lcat x6 x0) x1)))
 (K (V.tup [(V.sl 65 [(Kd.int .i64), (Kd.int .i64), (Kd.int .i64), (Kd.int .i64), (Kd.str)] (some 0) []), (V.int .i64 21)]))
 (K (V.tup [(V.sl 65 [(Kd.int .i64), (Kd.int .i64), (Kd.int .i64), (Kd.int .i64), (Kd.str)] (some 0) (lcat (lcat x6 x0) x1)), (V.int .i64 0)])))
 (none))
 (none))
 (none)) := by kernel_rfl
end Nt.Ev.Ytjobobdijjppkaa.Sm

set_option linter.unusedVariables false
set_option linter.unusedSimpArgs false
set_option linter.unusedSectionVars false
namespace Nt.Ev.Ytjobobdijjppkaa.Sm
open Go Go.RowKit Nt Nt.Num Nt.Sps Nt.Ev.Ytjobobdijjppkaa.Sp Go.Proofs.Ytjobobdijjppkaa
abbrev K5 : List Kd := [.int .i64, .int .i64, .int .i64, .int .i64, .str]
theorem rep_in {G : Known} {x : V} {u : Value} (hx : isIn x = true) (h : rep G x u) : rep G (.sl 65 K5 none (infs x)) u := by
  cases x with
  | nilsl =>
    unfold rep at h ⊢
    exact ⟨none, 0, h, Nat.le_refl _, .inl rfl⟩
  | sl e sh o xs =>
    have hx : (e == 65 && Kd.eqL [.int .i64, .int .i64, .int .i64, .int .i64, .str] sh) = true := hx
    rw [Bool.and_eq_true] at hx
    have hsh : sh = K5 := by
      match sh, hx.2 with
      | [.int .i64, .int .i64, .int .i64, .int .i64, .str], _ => rfl
    subst hsh
    show rep G (.sl 65 K5 none xs) u
    unfold rep at h ⊢
    exact h
  | _ => exact nomatch hx
theorem ci1 {E : Env} {f : Nat} {x r : V} (hx : isIn x = true) (h : Contract E f [.sl 65 K5 none (infs x)] r) : Contract E f [x] r := by
  intro G w vs hG hg hp
  obtain ⟨a, rfl, ha⟩ := PW_one hp
  exact h G w _ hG hg (.cons (rep_in hx ha) .nil)
theorem ci1y {E : Env} {f : Nat} {x y r : V} (hx : isIn x = true) (h : Contract E f [.sl 65 K5 none (infs x), y] r) : Contract E f [x, y] r := by
  intro G w vs hG hg hp
  obtain ⟨a, b, rfl, ha, hb⟩ := PW_two hp
  exact h G w _ hG hg (.cons (rep_in hx ha) (.cons hb .nil))
noncomputable def paV (xs : List V) : List V := spV (ofL ((infOf xs).map Prod.fst))
theorem ofV_spV (l : List Sp) : ofV (spV l) = spV (ofL l) := by unfold ofV; rw [sps_V]
theorem pat_loop (xs : List V) (F : Nat) (hl : xs.length ≤ 30000) : ∀ (j i n : Nat) (o : List Sp), i + j = xs.length → j < n → o.length ≤ i →
    mPat_L0 F [] n xs (spV o) xs (llen xs) (i : Int) some = some (.sl 24 K2 none (spV (ofL (o ++ ((infOf xs).drop i).map Prod.fst)))) ∧
    mPat39_L0 F [] n xs (spV o) xs (llen xs) (i : Int) some = some (.sl 24 K2 none (spV (ofL (o ++ ((infOf xs).drop i).map Prod.fst)))) := by
  intro j
  induction j with
  | zero =>
    intro i n o hi hn ho
    obtain ⟨n, rfl⟩ : ∃ m, n = m + 1 := ⟨n - 1, by omega⟩
    rw [mPat_L0_succ, mPat39_L0_succ, sel_neg (ilt_f (by rw [llen_nat]; omega)), sel_neg (ilt_f (by rw [llen_nat]; omega)), List.drop_of_length_le (by rw [inf_len]; omega), List.map_nil, List.append_nil, sel_pos (by rw [band_iff, ile_iff, llen_nat, spV_len]; exact ⟨rfl, by omega⟩), sel_pos (ile_t (by rw [llen_nat, spV_len]; omega)), ofV_spV]
    exact ⟨rfl, rfl⟩
  | succ j ih =>
    intro i n o hi hn ho
    obtain ⟨n, rfl⟩ : ∃ m, n = m + 1 := ⟨n - 1, by omega⟩
    have hb : band (ile 0 (i : Int)) (ilt (i : Int) (llen xs)) = true := by rw [band_iff, ile_iff, ilt_iff, llen_nat]; omega
    have hlt : ilt (i : Int) (llen xs) = true := ilt_t (by rw [llen_nat]; omega)
    have hI : iadd .i64 (i : Int) 1 = ((i + 1 : Nat) : Int) := by rw [iadd64 (by omega)]; omega
    have hok : okApp (spV o) [V.agg [.int .i64 (asInt (acell (lget xs (i : Int)) 0)), .int .i64 (asInt (acell (lget xs (i : Int)) 1))]] = true := by rw [okApp_iff, spV_len, List.length_singleton]; omega
    have hcat : lcat (spV o) [V.agg [.int .i64 (asInt (acell (lget xs (i : Int)) 0)), .int .i64 (asInt (acell (lget xs (i : Int)) 1))]] = spV (o ++ [(asInt (acell (lget xs (i : Int)) 0), asInt (acell (lget xs (i : Int)) 1))]) := by rw [sp1, lcat_sp]
    obtain ⟨h1, h2⟩ := ih (i + 1) n (o ++ [(asInt (acell (lget xs (i : Int)) 0), asInt (acell (lget xs (i : Int)) 1))]) (by omega) (by omega) (by rw [List.length_append, List.length_singleton]; omega)
    rw [mPat_L0_succ, mPat39_L0_succ, hb, hlt, hI, hok, hcat, inf_drop xs i (by omega), List.map_cons]
    rw [List.append_assoc] at h1 h2
    exact ⟨h1, h2⟩
theorem mPat_ev (xs : List V) (h : xs.length ≤ 30000) : Contract sE 35 [.sl 65 K5 none xs] (.sl 24 K2 none (paV xs)) := by
  refine contract_of_body sE_ok sS10_ok (xs.length + 2) 2 ?_
  rw [mPat_top]
  exact (pat_loop xs _ h xs.length 0 _ [] (by omega) (by omega) (by simp)).1
theorem mPat39_ev (xs : List V) (h : xs.length ≤ 30000) : Contract sE 36 [.sl 65 K5 none xs] (.sl 24 K2 none (paV xs)) := by
  refine contract_of_body sE_ok sS4_ok (xs.length + 2) 2 ?_
  rw [mPat39_top]
  exact (pat_loop xs _ h xs.length 0 _ [] (by omega) (by omega) (by simp)).2
noncomputable def cuV (xs : List V) (a b : Int) : List V := inV (cutL (a, b) (infOf xs))
theorem inV_len (l : List Inf) : (inV l).length = l.length := by unfold inV; simp
theorem lcat_in (l m : List Inf) : lcat (inV l) (inV m) = inV (l ++ m) := by unfold lcat inV; rw [List.map_append]
theorem cut_loop (xs : List V) (a b : Int) (F : Nat) (hl : xs.length ≤ 1000000) : ∀ (j i n : Nat) (o : List Inf), i + j = xs.length → j < n → o.length ≤ i →
    mCut_L0 F [] n xs a b (inV o) xs (llen xs) (i : Int) a b some = some (.sl 65 K5 (some 5) (inV (o ++ cutL (a, b) ((infOf xs).drop i)))) ∧
    mCut39_L0 F [] n xs a b (inV o) xs (llen xs) (i : Int) a b some = some (.sl 65 K5 (some 5) (inV (o ++ cutL (a, b) ((infOf xs).drop i)))) := by
  intro j
  induction j with
  | zero =>
    intro i n o hi hn ho
    obtain ⟨n, rfl⟩ : ∃ m, n = m + 1 := ⟨n - 1, by omega⟩
    rw [mCut_L0_succ, mCut39_L0_succ, sel_neg (ilt_f (by rw [llen_nat]; omega)), sel_neg (ilt_f (by rw [llen_nat]; omega)), List.drop_of_length_le (by rw [inf_len]; omega), show cutL (a, b) [] = [] from rfl, List.append_nil]
    exact ⟨rfl, rfl⟩
  | succ j ih =>
    intro i n o hi hn ho
    obtain ⟨n, rfl⟩ : ∃ m, n = m + 1 := ⟨n - 1, by omega⟩
    have hb : band (ile 0 (i : Int)) (ilt (i : Int) (llen xs)) = true := by rw [band_iff, ile_iff, ilt_iff, llen_nat]; omega
    have hlt : ilt (i : Int) (llen xs) = true := ilt_t (by rw [llen_nat]; omega)
    have hI : iadd .i64 (i : Int) 1 = ((i + 1 : Nat) : Int) := by rw [iadd64 (by omega)]; omega
    rw [mCut_L0_succ, mCut39_L0_succ, hb, hlt, hI, inf_drop xs i (by omega)]
    obtain ⟨x, hx0⟩ : ∃ x, asInt (acell (lget xs (i : Int)) 0) = x := ⟨_, rfl⟩
    obtain ⟨y, hy0⟩ : ∃ y, asInt (acell (lget xs (i : Int)) 1) = y := ⟨_, rfl⟩
    obtain ⟨v, hv⟩ : ∃ v, (asInt (acell (lget xs (i : Int)) 2), asInt (acell (lget xs (i : Int)) 3), asStr (acell (lget xs (i : Int)) 4)) = v := ⟨_, rfl⟩
    have hv1 : asInt (acell (lget xs (i : Int)) 2) = v.1 := by rw [← hv]
    have hv2 : asInt (acell (lget xs (i : Int)) 3) = v.2.1 := by rw [← hv]
    have hv3 : asStr (acell (lget xs (i : Int)) 4) = v.2.2 := by rw [← hv]
    rw [hv, hx0, hy0, hv1, hv2, hv3]
    have hc : cutL (a, b) (((x, y), v) :: (infOf xs).drop (i + 1)) = (if meetB (x, y) (a, b) then [(bothS (x, y) (a, b), v)] else []) ++ cutL (a, b) ((infOf xs).drop (i + 1)) := by unfold cutL; rw [List.flatMap_cons]
    rw [hc]
    by_cases hm : meetB (x, y) (a, b) = true
    · have hbt : btB x y a b = true := hm
      have e1 : [V.agg [.int .i64 (btA x y a b), .int .i64 (btZ x y a b), .int .i64 v.1, .int .i64 v.2.1, .str v.2.2]] = inV [(bothS (x, y) (a, b), v)] := by
        unfold btA btZ
        rw [if_pos hbt, if_pos hbt]; rfl
      have hok : okApp (inV o) (inV [(bothS (x, y) (a, b), v)]) = true := by rw [okApp_iff, inV_len, inV_len, List.length_singleton]; omega
      obtain ⟨h1, h2⟩ := ih (i + 1) n (o ++ [(bothS (x, y) (a, b), v)]) (by omega) (by omega) (by rw [List.length_append, List.length_singleton]; omega)
      rw [hbt, e1, hok, lcat_in, if_pos hm]
      rw [List.append_assoc] at h1 h2
      exact ⟨h1, h2⟩
    · have hbt : btB x y a b = false := by rw [← Bool.not_eq_true]; exact hm
      obtain ⟨h1, h2⟩ := ih (i + 1) n o (by omega) (by omega) (by omega)
      rw [hbt, if_neg hm, List.nil_append]
      exact ⟨h1, h2⟩
theorem mCut_ev (xs : List V) (a b : Int) (h : xs.length ≤ 1000000) : Contract sE 39 [.sl 65 K5 none xs, .agg [.int .i64 a, .int .i64 b]] (.sl 65 K5 none (cuV xs a b)) := by
  refine contract_drop1 (o := some 5) (contract_of_body sE_ok sS2_ok (xs.length + 2) 2 ?_)
  rw [mCut_top]
  exact (cut_loop xs a b _ h xs.length 0 _ [] (by omega) (by omega) (by simp)).1
theorem mCut39_ev (xs : List V) (a b : Int) (h : xs.length ≤ 1000000) : Contract sE 40 [.sl 65 K5 none xs, .agg [.int .i64 a, .int .i64 b]] (.sl 65 K5 none (cuV xs a b)) := by
  refine contract_drop1 (o := some 5) (contract_of_body sE_ok sS2_ok (xs.length + 2) 2 ?_)
  rw [mCut39_top]
  exact (cut_loop xs a b _ h xs.length 0 _ [] (by omega) (by omega) (by simp)).2
noncomputable def atR (r : Option (Int × Int × List UInt8)) : V := match r with
  | some v => .tup [.agg [.int .i64 v.1, .int .i64 v.2.1, .str v.2.2], .bool true]
  | none => .tup [.agg [.int .i64 0, .int .i64 0, .str []], .bool false]
theorem at_loop (xs : List V) (t : Int) (x5 : Bool) (F : Nat) (hl : xs.length ≤ 1000000) : ∀ (j i n : Nat), i + j = xs.length → j < n →
    mAt_L0 F [] n xs t x5 xs (llen xs) (i : Int) 0 0 [] some = some (atR (atL t ((infOf xs).drop i))) := by
  intro j
  induction j with
  | zero =>
    intro i n hi hn
    obtain ⟨n, rfl⟩ : ∃ m, n = m + 1 := ⟨n - 1, by omega⟩
    rw [mAt_L0_succ, sel_neg (ilt_f (by rw [llen_nat]; omega)), List.drop_of_length_le (by rw [inf_len]; omega)]
    rfl
  | succ j ih =>
    intro i n hi hn
    obtain ⟨n, rfl⟩ : ∃ m, n = m + 1 := ⟨n - 1, by omega⟩
    rw [mAt_L0_succ, sel_pos (ilt_t (by rw [llen_nat]; omega)), sel_pos (by rw [band_iff, ile_iff, ilt_iff, llen_nat]; omega), inf_drop xs i (by omega)]
    unfold atL
    by_cases h : has1 (asInt (acell (lget xs (i : Int)) 0), asInt (acell (lget xs (i : Int)) 1)) t = true
    · rw [if_pos h, sel_pos (by rw [band_iff, ile_iff, ilt_iff]; exact has1_iff.1 h)]
      rfl
    · rw [if_neg h, sel_neg (by rw [← Bool.not_eq_true, band_iff, ile_iff, ilt_iff]; exact fun e => h (has1_iff.2 e)), iadd64 (by omega), show (i : Int) + 1 = ((i + 1 : Nat) : Int) by omega]
      exact ih (i + 1) n (by omega) (by omega)
theorem has_loop (xs : List V) (a b c d : Int) (s : List UInt8) (x4 : Bool) (F : Nat) (hl : xs.length ≤ 1000000) : ∀ (j i n : Nat), i + j = xs.length → j < n →
    mHas_L0 F [] n xs a b c d s x4 xs (llen xs) (i : Int) a b c d s some = some (.bool (decide (((a, b), (c, d, s)) ∈ (infOf xs).drop i))) := by
  intro j
  induction j with
  | zero =>
    intro i n hi hn
    obtain ⟨n, rfl⟩ : ∃ m, n = m + 1 := ⟨n - 1, by omega⟩
    rw [mHas_L0_succ, sel_neg (ilt_f (by rw [llen_nat]; omega)), List.drop_of_length_le (by rw [inf_len]; omega)]
    rfl
  | succ j ih =>
    intro i n hi hn
    obtain ⟨n, rfl⟩ : ∃ m, n = m + 1 := ⟨n - 1, by omega⟩
    rw [mHas_L0_succ, sel_pos (ilt_t (by rw [llen_nat]; omega)), sel_pos (by rw [band_iff, ile_iff, ilt_iff, llen_nat]; omega), inf_drop xs i (by omega), iadd64 (by omega), show (i : Int) + 1 = ((i + 1 : Nat) : Int) by omega, ih (i + 1) n (by omega) (by omega), sel_if]
    obtain ⟨p, hp⟩ : ∃ p : Inf, ((asInt (acell (lget xs (i : Int)) 0), asInt (acell (lget xs (i : Int)) 1)), (asInt (acell (lget xs (i : Int)) 2), asInt (acell (lget xs (i : Int)) 3), asStr (acell (lget xs (i : Int)) 4))) = p := ⟨_, rfl⟩
    have p0 : asInt (acell (lget xs (i : Int)) 0) = p.1.1 := by rw [← hp]
    have p1 : asInt (acell (lget xs (i : Int)) 1) = p.1.2 := by rw [← hp]
    have p2 : asInt (acell (lget xs (i : Int)) 2) = p.2.1 := by rw [← hp]
    have p3 : asInt (acell (lget xs (i : Int)) 3) = p.2.2.1 := by rw [← hp]
    have p4 : asStr (acell (lget xs (i : Int)) 4) = p.2.2.2 := by rw [← hp]
    rw [hp, p0, p1, p2, p3, p4]
    have key : (band (band (ieq a p.1.1) (ieq b p.1.2)) (band (ieq c p.2.1) (band (ieq d p.2.2.1) (seq s p.2.2.2))) = true) = (((a, b), (c, d, s)) = p) := by
      rw [band_iff, band_iff, band_iff, band_iff, ieq_iff, ieq_iff, ieq_iff, ieq_iff, seq_iff]
      refine propext ⟨fun ⟨⟨h1, h2⟩, h3, h4, h5⟩ => ?_, fun h => ?_⟩
      · rw [h1, h2, h3, h4, h5]
      · rw [← h]; exact ⟨⟨rfl, rfl⟩, rfl, rfl, rfl⟩
    by_cases h : ((a, b), (c, d, s)) = p
    · rw [if_pos (by rw [key]; exact h), decide_eq_true (show ((a, b), (c, d, s)) ∈ p :: _ by rw [h]; simp)]
    · rw [if_neg (by rw [key]; exact h)]
      congr 2
      rw [decide_eq_decide]
      simp [h]
theorem sdR_cons (p x : Inf) (r : List Inf) : sdR p (x :: r) = ((decide (x.1.1 < x.1.2) && folB p x) && sdR x r) := rfl
theorem sdL_cons (x : Inf) (r : List Inf) : sdL (x :: r) = (decide (x.1.1 < x.1.2) && sdR x r) := rfl
def infAt (xs : List V) (i : Int) : Inf := ((asInt (acell (lget xs i) 0), asInt (acell (lget xs i) 1)), (asInt (acell (lget xs i) 2), asInt (acell (lget xs i) 3), asStr (acell (lget xs i) 4)))
theorem sound39_loop (xs : List V) (x2 : Bool) (F : Nat) (hl : xs.length ≤ 1000000) : ∀ (j i n : Nat), i + j = xs.length → j < n →
    mSound39_L0 F [] n xs x2 xs (llen xs) (i : Int) some = some (.bool (if i = 0 then sdL (infOf xs) else sdR (infAt xs ((i : Int) - 1)) ((infOf xs).drop i))) := by
  intro j
  induction j with
  | zero =>
    intro i n hi hn
    obtain ⟨n, rfl⟩ : ∃ m, n = m + 1 := ⟨n - 1, by omega⟩
    rw [mSound39_L0_succ, sel_neg (ilt_f (by rw [llen_nat]; omega)), List.drop_of_length_le (by rw [inf_len]; omega)]
    by_cases h : i = 0
    · have : infOf xs = [] := List.eq_nil_of_length_eq_zero (by rw [inf_len]; omega)
      rw [if_pos h, this]; rfl
    · rw [if_neg h]; rfl
  | succ j ih =>
    intro i n hi hn
    obtain ⟨n, rfl⟩ : ∃ m, n = m + 1 := ⟨n - 1, by omega⟩
    have h1 := ih (i + 1) n (by omega) (by omega)
    rw [if_neg (by omega), show (((i + 1 : Nat) : Int) - 1) = (i : Int) by omega] at h1
    have hd := inf_drop xs i (by omega)
    obtain ⟨R, hR⟩ : ∃ R, (infOf xs).drop (i + 1) = R := ⟨_, rfl⟩
    rw [hR] at hd h1
    have hd : (infOf xs).drop i = infAt xs (i : Int) :: R := hd
    rw [mSound39_L0_succ, sel_pos (ilt_t (by rw [llen_nat]; omega)), sel_pos (by rw [band_iff, ile_iff, ilt_iff, llen_nat]; omega), iadd64 (by omega), show (i : Int) + 1 = ((i + 1 : Nat) : Int) by omega, h1]
    obtain ⟨x, hx⟩ : ∃ x, infAt xs (i : Int) = x := ⟨_, rfl⟩
    have q0 : asInt (acell (lget xs (i : Int)) 0) = x.1.1 := by rw [← hx]; rfl
    have q1 : asInt (acell (lget xs (i : Int)) 1) = x.1.2 := by rw [← hx]; rfl
    have q2 : asInt (acell (lget xs (i : Int)) 2) = x.2.1 := by rw [← hx]; rfl
    have q3 : asInt (acell (lget xs (i : Int)) 3) = x.2.2.1 := by rw [← hx]; rfl
    have q4 : asStr (acell (lget xs (i : Int)) 4) = x.2.2.2 := by rw [← hx]; rfl
    rw [hx] at hd
    rw [q0, q1, q2, q3, q4, hx]
    have hr : ilt x.1.1 x.1.2 = decide (x.1.1 < x.1.2) := by rw [Bool.eq_iff_iff, ilt_iff, decide_eq_true_eq]
    rw [hr]
    by_cases h0 : i = 0
    · subst h0
      rw [List.drop_zero] at hd
      have hz : ieq ((0 : Nat) : Int) 0 = true := by decide
      rw [if_pos rfl, hz, hd, sdL_cons]
      cases decide (x.1.1 < x.1.2) <;> rfl
    · have hz : ieq (i : Int) 0 = false := by rw [← Bool.not_eq_true, ieq_iff]; omega
      have hs : isub .i64 (i : Int) 1 = (i : Int) - 1 := isub64 (by omega)
      have hb2 : band (ile 0 ((i : Int) - 1)) (ilt ((i : Int) - 1) (llen xs)) = true := by rw [band_iff, ile_iff, ilt_iff, llen_nat]; omega
      obtain ⟨p, hp⟩ : ∃ p, infAt xs ((i : Int) - 1) = p := ⟨_, rfl⟩
      have p1 : asInt (acell (lget xs ((i : Int) - 1)) 1) = p.1.2 := by rw [← hp]; rfl
      have p2 : asInt (acell (lget xs ((i : Int) - 1)) 2) = p.2.1 := by rw [← hp]; rfl
      have p3 : asInt (acell (lget xs ((i : Int) - 1)) 3) = p.2.2.1 := by rw [← hp]; rfl
      have p4 : asStr (acell (lget xs ((i : Int) - 1)) 4) = p.2.2.2 := by rw [← hp]; rfl
      rw [if_neg h0, hz, hs, hb2, p1, p2, p3, p4, hp, hd, sdR_cons]
      have hv : band (ieq p.2.1 x.2.1) (band (ieq p.2.2.1 x.2.2.1) (seq p.2.2.2 x.2.2.2)) = decide (p.2 = x.2) := by
        rw [Bool.eq_iff_iff, band_iff, band_iff, ieq_iff, ieq_iff, seq_iff, decide_eq_true_eq]
        exact ⟨fun ⟨a, b, c⟩ => Prod.ext a (Prod.ext b c), fun e => by rw [e]; exact ⟨rfl, rfl, rfl⟩⟩
      rw [hv]
      unfold folB
      have f1 : ilt x.1.1 p.1.2 = decide (x.1.1 < p.1.2) := by rw [Bool.eq_iff_iff, ilt_iff, decide_eq_true_eq]
      have f2 : ieq p.1.2 x.1.1 = decide (p.1.2 = x.1.1) := by rw [Bool.eq_iff_iff, ieq_iff, decide_eq_true_eq]
      rw [f1, f2]
      have f3 : decide (p.2 ≠ x.2) = !decide (p.2 = x.2) := by by_cases e : p.2 = x.2 <;> simp [e]
      rw [f3]
      by_cases g1 : x.1.1 < p.1.2
      · have g2 : ¬ p.1.2 < x.1.1 := by omega
        have g3 : ¬ p.1.2 = x.1.1 := by omega
        rw [decide_eq_true g1, decide_eq_false g2, decide_eq_false g3]
        cases decide (x.1.1 < x.1.2) <;> rfl
      · by_cases g3 : p.1.2 = x.1.1
        · have g2 : ¬ p.1.2 < x.1.1 := by omega
          rw [decide_eq_false g1, decide_eq_false g2, decide_eq_true g3]
          cases decide (x.1.1 < x.1.2) <;> cases decide (p.2 = x.2) <;> rfl
        · have g2 : p.1.2 < x.1.1 := by omega
          rw [decide_eq_false g1, decide_eq_true g2, decide_eq_false g3]
          cases decide (x.1.1 < x.1.2) <;> rfl
theorem sound_loop (xs : List V) (x2 : Bool) (F : Nat) (hl : xs.length ≤ 1000000) : ∀ (j i n : Nat), i + j = xs.length → j < n →
    mSound_L0 F [] n xs x2 xs (llen xs) (i : Int) some = some (.bool (if i = 0 then sdL (infOf xs) else sdR (infAt xs ((i : Int) - 1)) ((infOf xs).drop i))) := by
  intro j
  induction j with
  | zero =>
    intro i n hi hn
    obtain ⟨n, rfl⟩ : ∃ m, n = m + 1 := ⟨n - 1, by omega⟩
    rw [mSound_L0_succ, sel_neg (ilt_f (by rw [llen_nat]; omega)), List.drop_of_length_le (by rw [inf_len]; omega)]
    by_cases h : i = 0
    · have : infOf xs = [] := List.eq_nil_of_length_eq_zero (by rw [inf_len]; omega)
      rw [if_pos h, this]; rfl
    · rw [if_neg h]; rfl
  | succ j ih =>
    intro i n hi hn
    obtain ⟨n, rfl⟩ : ∃ m, n = m + 1 := ⟨n - 1, by omega⟩
    have h1 := ih (i + 1) n (by omega) (by omega)
    rw [if_neg (by omega), show (((i + 1 : Nat) : Int) - 1) = (i : Int) by omega] at h1
    have hd := inf_drop xs i (by omega)
    obtain ⟨R, hR⟩ : ∃ R, (infOf xs).drop (i + 1) = R := ⟨_, rfl⟩
    rw [hR] at hd h1
    have hd : (infOf xs).drop i = infAt xs (i : Int) :: R := hd
    rw [mSound_L0_succ, sel_pos (ilt_t (by rw [llen_nat]; omega)), sel_pos (by rw [band_iff, ile_iff, ilt_iff, llen_nat]; omega), iadd64 (by omega), show (i : Int) + 1 = ((i + 1 : Nat) : Int) by omega, h1]
    obtain ⟨x, hx⟩ : ∃ x, infAt xs (i : Int) = x := ⟨_, rfl⟩
    have q0 : asInt (acell (lget xs (i : Int)) 0) = x.1.1 := by rw [← hx]; rfl
    have q1 : asInt (acell (lget xs (i : Int)) 1) = x.1.2 := by rw [← hx]; rfl
    have q2 : asInt (acell (lget xs (i : Int)) 2) = x.2.1 := by rw [← hx]; rfl
    have q3 : asInt (acell (lget xs (i : Int)) 3) = x.2.2.1 := by rw [← hx]; rfl
    have q4 : asStr (acell (lget xs (i : Int)) 4) = x.2.2.2 := by rw [← hx]; rfl
    rw [hx] at hd
    rw [q0, q1, q2, q3, q4, hx]
    have hr : ilt x.1.1 x.1.2 = decide (x.1.1 < x.1.2) := by rw [Bool.eq_iff_iff, ilt_iff, decide_eq_true_eq]
    rw [hr]
    by_cases h0 : i = 0
    · subst h0
      rw [List.drop_zero] at hd
      have hz : ilt 0 ((0 : Nat) : Int) = false := by decide
      rw [if_pos rfl, hz, hd, sdL_cons]
      cases decide (x.1.1 < x.1.2) <;> rfl
    · have hz : ilt 0 (i : Int) = true := ilt_t (by omega)
      have hs : isub .i64 (i : Int) 1 = (i : Int) - 1 := isub64 (by omega)
      have hb2 : band (ile 0 ((i : Int) - 1)) (ilt ((i : Int) - 1) (llen xs)) = true := by rw [band_iff, ile_iff, ilt_iff, llen_nat]; omega
      obtain ⟨p, hp⟩ : ∃ p, infAt xs ((i : Int) - 1) = p := ⟨_, rfl⟩
      have p1 : asInt (acell (lget xs ((i : Int) - 1)) 1) = p.1.2 := by rw [← hp]; rfl
      have p2 : asInt (acell (lget xs ((i : Int) - 1)) 2) = p.2.1 := by rw [← hp]; rfl
      have p3 : asInt (acell (lget xs ((i : Int) - 1)) 3) = p.2.2.1 := by rw [← hp]; rfl
      have p4 : asStr (acell (lget xs ((i : Int) - 1)) 4) = p.2.2.2 := by rw [← hp]; rfl
      rw [if_neg h0, hz, hs, hb2, p1, p2, p3, p4, hp, hd, sdR_cons]
      have hv : band (ieq p.2.1 x.2.1) (band (ieq p.2.2.1 x.2.2.1) (seq p.2.2.2 x.2.2.2)) = decide (p.2 = x.2) := by
        rw [Bool.eq_iff_iff, band_iff, band_iff, ieq_iff, ieq_iff, seq_iff, decide_eq_true_eq]
        exact ⟨fun ⟨a, b, c⟩ => Prod.ext a (Prod.ext b c), fun e => by rw [e]; exact ⟨rfl, rfl, rfl⟩⟩
      rw [hv]
      unfold folB
      have f1 : ilt x.1.1 p.1.2 = decide (x.1.1 < p.1.2) := by rw [Bool.eq_iff_iff, ilt_iff, decide_eq_true_eq]
      have f2 : ilt p.1.2 x.1.1 = decide (p.1.2 < x.1.1) := by rw [Bool.eq_iff_iff, ilt_iff, decide_eq_true_eq]
      have f4 : ieq x.1.1 x.1.1 = true := by rw [ieq_iff]
      have f5 : ieq p.1.2 p.1.2 = true := by rw [ieq_iff]
      rw [f1, f2, f4, f5]
      have f3 : decide (p.2 ≠ x.2) = !decide (p.2 = x.2) := by by_cases e : p.2 = x.2 <;> simp [e]
      rw [f3]
      by_cases g1 : x.1.1 < p.1.2
      · have g2 : ¬ p.1.2 < x.1.1 := by omega
        have g3 : ¬ p.1.2 = x.1.1 := by omega
        rw [decide_eq_true g1, decide_eq_false g2, decide_eq_false g3]
        cases decide (x.1.1 < x.1.2) <;> rfl
      · by_cases g3 : p.1.2 = x.1.1
        · have g2 : ¬ p.1.2 < x.1.1 := by omega
          rw [decide_eq_false g1, decide_eq_false g2, decide_eq_true g3]
          cases decide (x.1.1 < x.1.2) <;> cases decide (p.2 = x.2) <;> rfl
        · have g2 : p.1.2 < x.1.1 := by omega
          rw [decide_eq_false g1, decide_eq_true g2, decide_eq_false g3]
          cases decide (x.1.1 < x.1.2) <;> rfl
theorem mSdS_ok (x : V) (hc : band (isIn x) (ile (llen (infs x)) 1000000) = true) : Contract sE 33 [x] (.bool (sdB (infs x))) := by
  rw [band_iff, ile_iff, llen_nat] at hc
  refine ci1 hc.1 (contract_of_body sE_ok sS2_ok ((infs x).length + 2) 3 ?_)
  rw [mSound_top]
  exact sound_loop (infs x) false _ (by omega) (infs x).length 0 _ (by omega) (by omega)
theorem mSdS_ok_noontideref39_Sound (x : V) (hc : band (isIn x) (ile (llen (infs x)) 1000000) = true) : Contract sE 34 [x] (.bool (sdB (infs x))) := by
  rw [band_iff, ile_iff, llen_nat] at hc
  refine ci1 hc.1 (contract_of_body sE_ok sS2_ok ((infs x).length + 2) 3 ?_)
  rw [mSound39_top]
  exact sound39_loop (infs x) false _ (by omega) (infs x).length 0 _ (by omega) (by omega)
theorem mHaS_ok (x : V) (a b c d : Int) (s : List UInt8) (hc : band (isIn x) (ile (llen (infs x)) 1000000) = true) : Contract sE 58 [x, .agg [.int .i64 a, .int .i64 b, .int .i64 c, .int .i64 d, .str s]] (.bool (haB (infs x) a b c d s)) := by
  rw [band_iff, ile_iff, llen_nat] at hc
  refine ci1y hc.1 (contract_of_body sE_ok sS_ok ((infs x).length + 2) 2 ?_)
  rw [mHas_top]
  exact has_loop (infs x) a b c d s false _ (by omega) (infs x).length 0 _ (by omega) (by omega)
theorem mS1_ok : SOk sE mS1 := by
  unfold mS1
  refine SOk.cons (fun args r h => ?_) (SOk.cons (fun args r h => ?_) (SOk.cons (fun args r h => ?_) (SOk.nil)))
  · unfold mSdS at h
    split at h
    · simp only [Option.some.injEq, Prod.mk.injEq] at h
      obtain ⟨hc, rfl⟩ := h
      exact mSdS_ok _ hc
    · cases h
  · unfold mSdS at h
    split at h
    · simp only [Option.some.injEq, Prod.mk.injEq] at h
      obtain ⟨hc, rfl⟩ := h
      exact mSdS_ok_noontideref39_Sound _ hc
    · cases h
  · unfold mHaS at h
    split at h
    · simp only [Option.some.injEq, Prod.mk.injEq] at h
      obtain ⟨hc, rfl⟩ := h
      exact mHaS_ok _ _ _ _ _ _ hc
    · cases h
noncomputable def siB (xs ys : List V) : Bool := decide (infOf xs = infOf ys)
theorem inf_eq (xs ys : List V) (i : Int) : (band (band (ieq (asInt (acell (lget xs i) 0)) (asInt (acell (lget ys i) 0))) (ieq (asInt (acell (lget xs i) 1)) (asInt (acell (lget ys i) 1)))) (band (ieq (asInt (acell (lget xs i) 2)) (asInt (acell (lget ys i) 2))) (band (ieq (asInt (acell (lget xs i) 3)) (asInt (acell (lget ys i) 3))) (seq (asStr (acell (lget xs i) 4)) (asStr (acell (lget ys i) 4))))) = true) = (infAt xs i = infAt ys i) := by
  rw [band_iff, band_iff, band_iff, band_iff, ieq_iff, ieq_iff, ieq_iff, ieq_iff, seq_iff]
  unfold infAt
  refine propext ⟨fun ⟨⟨h1, h2⟩, h3, h4, h5⟩ => by rw [h1, h2, h3, h4, h5], fun h => ?_⟩
  simp only [Prod.mk.injEq] at h
  exact ⟨h.1, h.2⟩
theorem same36_loop (xs ys : List V) (x4 : Bool) (F : Nat) (hl : xs.length ≤ 1000000) (he : xs.length = ys.length) : ∀ (j i n : Nat), i + j = xs.length → j < n →
    mSame_L0 F [] n xs ys x4 (llen xs) (i : Int) some = some (.bool (decide ((infOf xs).drop i = (infOf ys).drop i))) := by
  intro j
  induction j with
  | zero =>
    intro i n hi hn
    obtain ⟨n, rfl⟩ : ∃ m, n = m + 1 := ⟨n - 1, by omega⟩
    rw [mSame_L0_succ, sel_neg (ilt_f (by rw [llen_nat]; omega)), List.drop_of_length_le (by rw [inf_len]; omega), List.drop_of_length_le (by rw [inf_len]; omega)]
    rfl
  | succ j ih =>
    intro i n hi hn
    obtain ⟨n, rfl⟩ : ∃ m, n = m + 1 := ⟨n - 1, by omega⟩
    have d1 : (infOf xs).drop i = infAt xs (i : Int) :: (infOf xs).drop (i + 1) := inf_drop xs i (by omega)
    have d2 : (infOf ys).drop i = infAt ys (i : Int) :: (infOf ys).drop (i + 1) := inf_drop ys i (by omega)
    rw [mSame_L0_succ, sel_pos (ilt_t (by rw [llen_nat]; omega)), sel_pos (by rw [band_iff, ile_iff, ilt_iff, llen_nat]; omega), sel_pos (by rw [band_iff, ile_iff, ilt_iff, llen_nat]; omega), d1, d2, iadd64 (by omega), show (i : Int) + 1 = ((i + 1 : Nat) : Int) by omega, ih (i + 1) n (by omega) (by omega)]
    by_cases h : infAt xs (i : Int) = infAt ys (i : Int)
    · rw [sel_neg (by rw [← Bool.not_eq_true, bnot_iff, Classical.not_not, inf_eq]; exact h), h]
      congr 2
      rw [decide_eq_decide]
      simp
    · rw [sel_pos (by rw [bnot_iff, inf_eq]; exact h)]
      congr 2
      symm
      rw [decide_eq_false_iff_not]
      intro e
      exact h (List.cons.inj e).1
end Nt.Ev.Ytjobobdijjppkaa.Sm

set_option linter.unusedVariables false
set_option linter.unusedSimpArgs false
set_option linter.unusedSectionVars false
namespace Nt.Ev.Ytjobobdijjppkaa.Sm
open Go Nt.Num Go.Proofs.Ytjobobdijjppkaa
open Nt.Ev.Ytjobobdijjppkaa.Sp
noncomputable def mPaS : FSpec := fun a => match a with | [x] => some (band (isIn x) (ile (llen (infs x)) 30000), .sl 24 [.int .i64, .int .i64] none (paV (infs x))) | _ => none
noncomputable def mS2 : List (Nat × FSpec) := (35, mPaS) :: (36, mPaS) :: (25, sGaS) :: (26, sGaS) :: []
set_option maxRecDepth 100000 in
theorem mMis_top (F : Nat) (xs : List V) (a : Int) (b : Int) (K : V → Option V) :
 evBd sE (evFn sE mS2 F 2) F 37 [(V.sl 65 [(Kd.int .i64), (Kd.int .i64), (Kd.int .i64), (Kd.int .i64), (Kd.str)] none xs), (V.agg [(V.int .i64 a), (V.int .i64 b)])] K =
 sel (band true (ile (llen xs) 30000))
 (sel (band true (ile (llen (paV xs)) 30000))
 (K (V.sl 24 [(Kd.int .i64), (Kd.int .i64)] none (leV [(V.agg [(V.int .i64 a), (V.int .i64 b)])] (paV xs))))
 (none))
 (none) := by kernel_rfl
set_option maxRecDepth 100000 in
theorem mMis39_top (F : Nat) (xs : List V) (a : Int) (b : Int) (K : V → Option V) :
 evBd sE (evFn sE mS2 F 2) F 38 [(V.sl 65 [(Kd.int .i64), (Kd.int .i64), (Kd.int .i64), (Kd.int .i64), (Kd.str)] none xs), (V.agg [(V.int .i64 a), (V.int .i64 b)])] K =
 sel (band true (ile (llen xs) 30000))
 (sel (band true (ile (llen (paV xs)) 30000))
 (K (V.sl 24 [(Kd.int .i64), (Kd.int .i64)] none (leV [(V.agg [(V.int .i64 a), (V.int .i64 b)])] (paV xs))))
 (none))
 (none) := by kernel_rfl
noncomputable def mMerge39_L0 (F : Nat) (ns : List Nat) (n : Nat) (x0 : List V) (x1 : List V) (x6 : List V) (x21 : List V) (x22 : Int) (x23 : Int) (K : V → Option V) : Option V :=
 loopAt sE mS1 F 2 31 [1, 1, 1, 0, 1, 0] ns K n (mkSt 65 [(0, V.sl 65 [(Kd.int .i64), (Kd.int .i64), (Kd.int .i64), (Kd.int .i64), (Kd.str)] none x0), (1, V.sl 65 [(Kd.int .i64), (Kd.int .i64), (Kd.int .i64), (Kd.int .i64), (Kd.str)] none x1), (4, V.sl 65 [(Kd.int .i64), (Kd.int .i64), (Kd.int .i64), (Kd.int .i64), (Kd.str)] (some 4) []), (5, V.int .i64 0), (6, V.sl 65 [(Kd.int .i64), (Kd.int .i64), (Kd.int .i64), (Kd.int .i64), (Kd.str)] (some 6) x6), (21, V.sl 65 [(Kd.int .i64), (Kd.int .i64), (Kd.int .i64), (Kd.int .i64), (Kd.str)] none x21), (22, V.int .i64 x22), (23, V.int .i64 x23)] [])
noncomputable def mMerge39_L1 (F : Nat) (ns : List Nat) (n : Nat) (x0 : List V) (x1 : List V) (x6 : List V) (x9 : Int) (x21 : List V) (x22 : Int) (x23 : Int) (b8_0 : Int) (b8_1 : Int) (b8_2 : Int) (b8_3 : Int) (b8_4 : List UInt8) (K : V → Option V) : Option V :=
 loopAt sE mS1 F 2 31 [1, 1, 1, 0, 1, 0, 0, 1, 1, 0, 0, 1, 1, 1, 0, 0] ns K n (mkSt 65 [(0, V.sl 65 [(Kd.int .i64), (Kd.int .i64), (Kd.int .i64), (Kd.int .i64), (Kd.str)] none x0), (1, V.sl 65 [(Kd.int .i64), (Kd.int .i64), (Kd.int .i64), (Kd.int .i64), (Kd.str)] none x1), (4, V.sl 65 [(Kd.int .i64), (Kd.int .i64), (Kd.int .i64), (Kd.int .i64), (Kd.str)] (some 4) []), (5, V.int .i64 0), (6, V.sl 65 [(Kd.int .i64), (Kd.int .i64), (Kd.int .i64), (Kd.int .i64), (Kd.str)] (some 6) x6), (8, (V.box 8 0)), (9, V.int .i64 x9), (21, V.sl 65 [(Kd.int .i64), (Kd.int .i64), (Kd.int .i64), (Kd.int .i64), (Kd.str)] none x21), (22, V.int .i64 x22), (23, V.int .i64 x23)] [(8, [V.int .i64 b8_0, V.int .i64 b8_1, V.int .i64 b8_2, V.int .i64 b8_3, V.str b8_4])])
set_option maxRecDepth 100000 in
theorem mMerge39_top (F : Nat) (xs : List V) (ys : List V) (K : V → Option V) :
 evBd sE (evFn sE mS1 F 2) F 31 [(V.sl 65 [(Kd.int .i64), (Kd.int .i64), (Kd.int .i64), (Kd.int .i64), (Kd.str)] none xs), (V.sl 65 [(Kd.int .i64), (Kd.int .i64), (Kd.int .i64), (Kd.int .i64), (Kd.str)] none ys)] K =
 sel (band true (ile (llen xs) 1000000))
 (sel (bnot (sdB xs))
 (K (V.tup [(V.sl 65 [(Kd.int .i64), (Kd.int .i64), (Kd.int .i64), (Kd.int .i64), (Kd.str)] (some 0) []), (V.int .i64 4)]))
 (sel (band true (ile (llen ys) 1000000))
 (sel (bnot (sdB ys))
 (K (V.tup [(V.sl 65 [(Kd.int .i64), (Kd.int .i64), (Kd.int .i64), (Kd.int .i64), (Kd.str)] (some 0) []), (V.int .i64 4)]))
 (sel (okApp [] xs)
 (mMerge39_L0 F [] F xs ys (lcat [] xs) ys (llen ys) 0 K)
 (none)))
 (none)))
 (none) := by kernel_rfl
set_option maxRecDepth 100000 in
theorem mMerge39_L0_succ (F : Nat) (n : Nat) (x0 : List V) (x1 : List V) (x6 : List V) (x21 : List V) (x22 : Int) (x23 : Int) (K : V → Option V) :
 mMerge39_L0 F [] (n + 1) x0 x1 x6 x21 x22 x23 K =
 sel (ilt x23 x22)
 (sel (band (ile 0 x23) (ilt x23 (llen x21)))
 (sel (band true (ile (llen x0) 1000000))
 (sel (haB x0 (asInt (acell (lget x21 x23) 0)) (asInt (acell (lget x21 x23) 1)) (asInt (acell (lget x21 x23) 2)) (asInt (acell (lget x21 x23) 3)) (asStr (acell (lget x21 x23) 4)))
 (mMerge39_L0 F [] n x0 x1 x6 x21 x22 (iadd .i64 x23 1) K)
 (mMerge39_L1 F [n] F x0 x1 x6 0 x21 x22 x23 (asInt (acell (lget x21 x23) 0)) (asInt (acell (lget x21 x23) 1)) (asInt (acell (lget x21 x23) 2)) (asInt (acell (lget x21 x23) 3)) (asStr (acell (lget x21 x23) 4)) K))
 (none))
 (none))
 (sel (band true (ile (llen x6) 1000000))
 (sel (bnot (sdB x6))
 (K (V.tup [(V.sl 65 [(Kd.int .i64), (Kd.int .i64), (Kd.int .i64), (Kd.int .i64), (Kd.str)] (some 0) []), (V.int .i64 21)]))
 (K (V.tup [(V.sl 65 [(Kd.int .i64), (Kd.int .i64), (Kd.int .i64), (Kd.int .i64), (Kd.str)] (some 0) x6), (V.int .i64 0)])))
 (none)) := by kernel_rfl
set_option maxRecDepth 100000 in
theorem mMerge39_L1_succ (F : Nat) (m0 : Nat) (n : Nat) (x0 : List V) (x1 : List V) (x6 : List V) (x9 : Int) (x21 : List V) (x22 : Int) (x23 : Int) (b8_0 : Int) (b8_1 : Int) (b8_2 : Int) (b8_3 : Int) (b8_4 : List UInt8) (K : V → Option V) :
 mMerge39_L1 F [m0] (n + 1) x0 x1 x6 x9 x21 x22 x23 b8_0 b8_1 b8_2 b8_3 b8_4 K =
 sel (ilt x9 (llen x6))
 (sel (band (ile 0 x9) (ilt x9 (llen x6)))
 (sel (ilt (asInt (acell (lget x6 x9) 0)) b8_0)
 (mMerge39_L1 F [m0] n x0 x1 x6 (iadd .i64 x9 1) x21 x22 x23 b8_0 b8_1 b8_2 b8_3 b8_4 K)
 (sel (band (ile 0 x9) (ile x9 (llen x6)))
 (sel (band (ile 0 x9) (ile x9 (llen x6)))
 (both
 (both
 (sel (okApp [] (lsub x6 0 x9))
 (sel (okApp (lcat [] (lsub x6 0 x9)) [(V.agg [(V.int .i64 b8_0), (V.int .i64 b8_1), (V.int .i64 b8_2), (V.int .i64 b8_3), (V.str b8_4)])])
 (sel (okApp (lcat (lcat [] (lsub x6 0 x9)) [(V.agg [(V.int .i64 b8_0), (V.int .i64 b8_1), (V.int .i64 b8_2), (V.int .i64 b8_3), (V.str b8_4)])]) (lsub x6 x9 (llen x6)))
 (mMerge39_L0 F [] m0 x0 x1 (lcat (lcat (lcat [] (lsub x6 0 x9)) [(V.agg [(V.int .i64 b8_0), (V.int .i64 b8_1), (V.int .i64 b8_2), (V.int .i64 b8_3), (V.str b8_4)])]) (lsub x6 x9 (llen x6))) x21 x22 (iadd .i64 x23 1) K)
 (none))
 (none))
 (none))
 (both
 (sel (okApp [] (lsub x6 0 x9))
 (sel (okApp (lcat [] (lsub x6 0 x9)) [(V.agg [(V.int .i64 b8_0), (V.int .i64 b8_1), (V.int .i64 b8_2), (V.int .i64 b8_3), (V.str b8_4)])])
 (sel (okApp (lcat (lcat [] (lsub x6 0 x9)) [(V.agg [(V.int .i64 b8_0), (V.int .i64 b8_1), (V.int .i64 b8_2), (V.int .i64 b8_3), (V.str b8_4)])]) (lsub x6 x9 (llen x6)))
 (mMerge39_L0 F [] m0 x0 x1 (lcat (lcat (lcat [] (lsub x6 0 x9)) [(V.agg [(V.int .i64 b8_0), (V.int .i64 b8_1), (V.int .i64 b8_2), (V.int .i64 b8_3), (V.str b8_4)])]) (lsub x6 x9 (llen x6))) x21 x22 (iadd .i64 x23 1) K)
 (none))
 (none))
 (none))
 (sel (okApp [] (lsub x6 0 x9))
 (sel (okApp (lcat [] (lsub x6 0 x9)) [(V.agg [(V.int .i64 b8_0), (V.int .i64 b8_1), (V.int .i64 b8_2), (V.int .i64 b8_3), (V.str b8_4)])])
 (sel (okApp (lcat (lcat [] (lsub x6 0 x9)) [(V.agg [(V.int .i64 b8_0), (V.int .i64 b8_1), (V.int .i64 b8_2), (V.int .i64 b8_3), (V.str b8_4)])]) (lsub x6 x9 (llen x6)))
 (mMerge39_L0 F [] m0 x0 x1 (lcat (lcat (lcat [] (lsub x6 0 x9)) [(V.agg [(V.int .i64 b8_0), (V.int .i64 b8_1), (V.int .i64 b8_2), (V.int .i64 b8_3), (V.str b8_4)])]) (lsub x6 x9 (llen x6))) x21 x22 (iadd .i64 x23 1) K)
 (none))
 (none))
 (none))))
 (both
 (both
 (sel (okApp [] (lsub x6 0 x9))
 (sel (okApp (lcat [] (lsub x6 0 x9)) [(V.agg [(V.int .i64 b8_0), (V.int .i64 b8_1), (V.int .i64 b8_2), (V.int .i64 b8_3), (V.str b8_4)])])
 (sel (okApp (lcat (lcat [] (lsub x6 0 x9)) [(V.agg [(V.int .i64 b8_0), (V.int .i64 b8_1), (V.int .i64 b8_2), (V.int .i64 b8_3), (V.str b8_4)])]) (lsub x6 x9 (llen x6)))
 (mMerge39_L0 F [] m0 x0 x1 (lcat (lcat (lcat [] (lsub x6 0 x9)) [(V.agg [(V.int .i64 b8_0), (V.int .i64 b8_1), (V.int .i64 b8_2), (V.int .i64 b8_3), (V.str b8_4)])]) (lsub x6 x9 (llen x6))) x21 x22 (iadd .i64 x23 1) K)
 (none))
 (none))
 (none))
 (sel (okApp [] (lsub x6 0 x9))
 (sel (okApp (lcat [] (lsub x6 0 x9)) [(V.agg [(V.int .i64 b8_0), (V.int .i64 b8_1), (V.int .i64 b8_2), (V.int .i64 b8_3), (V.str b8_4)])])
 (sel (okApp (lcat (lcat [] (lsub x6 0 x9)) [(V.agg [(V.int .i64 b8_0), (V.int .i64 b8_1), (V.int .i64 b8_2), (V.int .i64 b8_3), (V.str b8_4)])]) (lsub x6 x9 (llen x6)))
 (mMerge39_L0 F [] m0 x0 x1 (lcat (lcat (lcat [] (lsub x6 0 x9)) [(V.agg [(V.int .i64 b8_0), (V.int .i64 b8_1), (V.int .i64 b8_2), (V.int .i64 b8_3), (V.str b8_4)])]) (lsub x6 x9 (llen x6))) x21 x22 (iadd .i64 x23 1) K)
 (none))
 (none))
 (none)))
 (sel (okApp [] (lsub x6 0 x9))
 (sel (okApp (lcat [] (lsub x6 0 x9)) [(V.agg [(V.int .i64 b8_0), (V.int .i64 b8_1), (V.int .i64 b8_2), (V.int .i64 b8_3), (V.str b8_4)])])
 (sel (okApp (lcat (lcat [] (lsub x6 0 x9)) [(V.agg [(V.int .i64 b8_0), (V.int .i64 b8_1), (V.int .i64 b8_2), (V.int .i64 b8_3), (V.str b8_4)])]) (lsub x6 x9 (llen x6)))
 (mMerge39_L0 F [] m0 x0 x1 (lcat (lcat (lcat [] (lsub x6 0 x9)) [(V.agg [(V.int .i64 b8_0), (V.int .i64 b8_1), (V.int .i64 b8_2), (V.int .i64 b8_3), (V.str b8_4)])]) (lsub x6 x9 (llen x6))) x21 x22 (iadd .i64 x23 1) K)
 (none))
 (none))
 (none))))
 (none))
 (none)))
 (none))
 (sel (band (ile 0 x9) (ile x9 (llen x6)))
 (sel (band (ile 0 x9) (ile x9 (llen x6)))
 (both
 (both
 (sel (okApp [] (lsub x6 0 x9))
 (sel (okApp (lcat [] (lsub x6 0 x9)) [(V.agg [(V.int .i64 b8_0), (V.int .i64 b8_1), (V.int .i64 b8_2), (V.int .i64 b8_3), (V.str b8_4)])])
 (sel (okApp (lcat (lcat [] (lsub x6 0 x9)) [(V.agg [(V.int .i64 b8_0), (V.int .i64 b8_1), (V.int .i64 b8_2), (V.int .i64 b8_3), (V.str b8_4)])]) (lsub x6 x9 (llen x6)))
 (mMerge39_L0 F [] m0 x0 x1 (lcat (lcat (lcat [] (lsub x6 0 x9)) [(V.agg [(V.int .i64 b8_0), (V.int .i64 b8_1), (V.int .i64 b8_2), (V.int .i64 b8_3), (V.str b8_4)])]) (lsub x6 x9 (llen x6))) x21 x22 (iadd .i64 x23 1) K)
 (none))
 (none))
 (none))
 (both
 (sel (okApp [] (lsub x6 0 x9))
 (sel (okApp (lcat [] (lsub x6 0 x9)) [(V.agg [(V.int .i64 b8_0), (V.int .i64 b8_1), (V.int .i64 b8_2), (V.int .i64 b8_3), (V.str b8_4)])])
 (sel (okApp (lcat (lcat [] (lsub x6 0 x9)) [(V.agg [(V.int .i64 b8_0), (V.int .i64 b8_1), (V.int .i64 b8_2), (V.int .i64 b8_3), (V.str b8_4)])]) (lsub x6 x9 (llen x6)))
 (mMerge39_L0 F [] m0 x0 x1 (lcat (lcat (lcat [] (lsub x6 0 x9)) [(V.agg [(V.int .i64 b8_0), (V.int .i64 b8_1), (V.int .i64 b8_2), (V.int .i64 b8_3), (V.str b8_4)])]) (lsub x6 x9 (llen x6))) x21 x22 (iadd .i64 x23 1) K)
 (none))
 (none))
 (none))
 (sel (okApp [] (lsub x6 0 x9))
 (sel (okApp (lcat [] (lsub x6 0 x9)) [(V.agg [(V.int .i64 b8_0), (V.int .i64 b8_1), (V.int .i64 b8_2), (V.int .i64 b8_3), (V.str b8_4)])])
 (sel (okApp (lcat (lcat [] (lsub x6 0 x9)) [(V.agg [(V.int .i64 b8_0), (V.int .i64 b8_1), (V.int .i64 b8_2), (V.int .i64 b8_3), (V.str b8_4)])]) (lsub x6 x9 (llen x6)))
 (mMerge39_L0 F [] m0 x0 x1 (lcat (lcat (lcat [] (lsub x6 0 x9)) [(V.agg [(V.int .i64 b8_0), (V.int .i64 b8_1), (V.int .i64 b8_2), (V.int .i64 b8_3), (V.str b8_4)])]) (lsub x6 x9 (llen x6))) x21 x22 (iadd .i64 x23 1) K)
 (none))
 (none))
 (none))))
 (both
 (both
 (sel (okApp [] (lsub x6 0 x9))
 (sel (okApp (lcat [] (lsub x6 0 x9)) [(V.agg [(V.int .i64 b8_0), (V.int .i64 b8_1), (V.int .i64 b8_2), (V.int .i64 b8_3), (V.str b8_4)])])
 (sel (okApp (lcat (lcat [] (lsub x6 0 x9)) [(V.agg [(V.int .i64 b8_0), (V.int .i64 b8_1), (V.int .i64 b8_2), (V.int .i64 b8_3), (V.str b8_4)])]) (lsub x6 x9 (llen x6)))
 (mMerge39_L0 F [] m0 x0 x1 (lcat (lcat (lcat [] (lsub x6 0 x9)) [(V.agg [(V.int .i64 b8_0), (V.int .i64 b8_1), (V.int .i64 b8_2), (V.int .i64 b8_3), (V.str b8_4)])]) (lsub x6 x9 (llen x6))) x21 x22 (iadd .i64 x23 1) K)
 (none))
 (none))
 (none))
 (sel (okApp [] (lsub x6 0 x9))
 (sel (okApp (lcat [] (lsub x6 0 x9)) [(V.agg [(V.int .i64 b8_0), (V.int .i64 b8_1), (V.int .i64 b8_2), (V.int .i64 b8_3), (V.str b8_4)])])
 (sel (okApp (lcat (lcat [] (lsub x6 0 x9)) [(V.agg [(V.int .i64 b8_0), (V.int .i64 b8_1), (V.int .i64 b8_2), (V.int .i64 b8_3), (V.str b8_4)])]) (lsub x6 x9 (llen x6)))
 (mMerge39_L0 F [] m0 x0 x1 (lcat (lcat (lcat [] (lsub x6 0 x9)) [(V.agg [(V.int .i64 b8_0), (V.int .i64 b8_1), (V.int .i64 b8_2), (V.int .i64 b8_3), (V.str b8_4)])]) (lsub x6 x9 (llen x6))) x21 x22 (iadd .i64 x23 1) K)
 (none))
 (none))
 (none)))
 (sel (okApp [] (lsub x6 0 x9))
 (sel (okApp (lcat [] (lsub x6 0 x9)) [(V.agg [(V.int .i64 b8_0), (V.int .i64 b8_1), (V.int .i64 b8_2), (V.int .i64 b8_3), (V.str b8_4)])])
 (sel (okApp (lcat (lcat [] (lsub x6 0 x9)) [(V.agg [(V.int .i64 b8_0), (V.int .i64 b8_1), (V.int .i64 b8_2), (V.int .i64 b8_3), (V.str b8_4)])]) (lsub x6 x9 (llen x6)))
 (mMerge39_L0 F [] m0 x0 x1 (lcat (lcat (lcat [] (lsub x6 0 x9)) [(V.agg [(V.int .i64 b8_0), (V.int .i64 b8_1), (V.int .i64 b8_2), (V.int .i64 b8_3), (V.str b8_4)])]) (lsub x6 x9 (llen x6))) x21 x22 (iadd .i64 x23 1) K)
 (none))
 (none))
 (none))))
 (none))
 (none)) := by kernel_rfl
end Nt.Ev.Ytjobobdijjppkaa.Sm

set_option linter.unusedVariables false
set_option linter.unusedSimpArgs false
set_option linter.unusedSectionVars false
namespace Nt.Ev.Ytjobobdijjppkaa.Sm
open Go Go.RowKit Nt Nt.Num Nt.Sps Nt.Ev.Ytjobobdijjppkaa.Sp Go.Proofs.Ytjobobdijjppkaa
noncomputable def atO (xs : List V) (t : Int) : Int := match atL t (infOf xs) with | some v => v.1 | none => 0
noncomputable def atS (xs : List V) (t : Int) : Int := match atL t (infOf xs) with | some v => v.2.1 | none => 0
noncomputable def atA (xs : List V) (t : Int) : List UInt8 := match atL t (infOf xs) with | some v => v.2.2 | none => []
noncomputable def atB (xs : List V) (t : Int) : Bool := (atL t (infOf xs)).isSome
theorem atR_eq (xs : List V) (t : Int) : atR (atL t (infOf xs)) = .tup [.agg [.int .i64 (atO xs t), .int .i64 (atS xs t), .str (atA xs t)], .bool (atB xs t)] := by
  unfold atR atO atS atA atB
  cases atL t (infOf xs) <;> rfl
theorem mAt_ev (xs : List V) (t : Int) (h : xs.length ≤ 1000000) : Contract sE 41 [.sl 65 K5 none xs, .int .i64 t] (.tup [.agg [.int .i64 (atO xs t), .int .i64 (atS xs t), .str (atA xs t)], .bool (atB xs t)]) := by
  refine contract_of_body sE_ok sS2_ok (xs.length + 2) 2 ?_
  rw [mAt_top, ← atR_eq]
  exact at_loop xs t false _ h xs.length 0 _ (by omega) (by omega)
theorem mSame_ev (xs ys : List V) (h : xs.length ≤ 1000000) : Contract sE 32 [.sl 65 K5 none xs, .sl 65 K5 none ys] (.bool (siB xs ys)) := by
  refine contract_of_body sE_ok sS_ok (xs.length + 2) 2 ?_
  rw [mSame_top]
  by_cases he : xs.length = ys.length
  · rw [sel_neg (by rw [← Bool.not_eq_true, bnot_iff, Classical.not_not, ieq_iff, llen_nat, llen_nat, he])]
    exact same36_loop xs ys false _ h he xs.length 0 _ (by omega) (by omega)
  · rw [sel_pos (by rw [bnot_iff, ieq_iff, llen_nat, llen_nat]; omega)]
    have : siB xs ys = false := by
      unfold siB
      rw [decide_eq_false_iff_not]
      intro e
      have := congrArg List.length e
      rw [inf_len, inf_len] at this
      exact he this
    rw [this]
def infC (x : V) : Inf := ((asInt (acell x 0), asInt (acell x 1)), (asInt (acell x 2), asInt (acell x 3), asStr (acell x 4)))
def nrm (p : Inf) : V := .agg [.int .i64 p.1.1, .int .i64 p.1.2, .int .i64 p.2.1, .int .i64 p.2.2.1, .str p.2.2.2]
theorem infC_nrm (p : Inf) : infC (nrm p) = p := rfl
theorem infOf_cons (x : V) (l : List V) : infOf (x :: l) = infC x :: infOf l := rfl
theorem infOf_app (l m : List V) : infOf (l ++ m) = infOf l ++ infOf m := by unfold infOf; rw [List.map_append]
def mwV : Nat → List V → List V → List V
  | 0, xs, ys => xs ++ ys
  | n + 1, [], ys => ys
  | n + 1, x :: l, [] => x :: l
  | n + 1, x :: l, y :: m => if infC x = infC y then nrm (infC x) :: mwV n l m else if (infC x).1.1 ≤ (infC y).1.1 then nrm (infC x) :: mwV n l (y :: m) else nrm (infC y) :: mwV n (x :: l) m
theorem mwV_inf : ∀ (n : Nat) (xs ys : List V), xs.length + ys.length ≤ n → infOf (mwV n xs ys) = mwL (infOf xs) (infOf ys)
  | 0, xs, ys, h => by
    have h1 : xs = [] := List.eq_nil_of_length_eq_zero (by omega)
    have h2 : ys = [] := List.eq_nil_of_length_eq_zero (by omega)
    subst h1; subst h2
    unfold mwV mwL; rfl
  | n + 1, [], ys, h => by
    unfold mwV
    rw [show infOf [] = [] from rfl, mwL]
  | n + 1, x :: l, [], h => by
    unfold mwV
    rw [show infOf [] = [] from rfl, mwL_nil]
  | n + 1, x :: l, y :: m, h => by
    rw [List.length_cons, List.length_cons] at h
    rw [infOf_cons, infOf_cons, mwL, mwV]
    split
    · rw [infOf_cons, infC_nrm, mwV_inf n l m (by omega)]
    · split
      · rw [infOf_cons, infC_nrm, mwV_inf n l (y :: m) (by rw [List.length_cons]; omega), infOf_cons]
      · rw [infOf_cons, infC_nrm, mwV_inf n (x :: l) m (by rw [List.length_cons]; omega), infOf_cons]
noncomputable def mgR (l : List V) : V := .tup [.sl 65 K5 (some 0) (if sdB l = true then l else []), .int .i64 (if sdB l = true then 0 else 21)]
theorem lsub_tl (x : V) (l : List V) : lsub (x :: l) 1 (llen (x :: l)) = l := by
  unfold lsub
  rw [llen_nat]
  simp
theorem mwV_nil1 (n : Nat) (ys : List V) : mwV n [] ys = ys := by cases n <;> rfl
theorem mwV_nil2 (n : Nat) (xs : List V) : mwV n xs [] = xs := by
  cases n with
  | zero => exact List.append_nil _
  | succ n => cases xs <;> rfl
theorem mg_end (l : List V) : sel (bnot (sdB l)) (some (V.tup [(V.sl 65 K5 (some 0) []), (V.int .i64 21)])) (some (V.tup [(V.sl 65 K5 (some 0) l), (V.int .i64 0)])) = some (mgR l) := by
  unfold mgR
  cases h : sdB l with
  | true => rw [sel_neg (show bnot true = false from rfl), if_pos rfl, if_pos rfl]
  | false => rw [sel_pos (show bnot false = true from rfl), if_neg (by decide), if_neg (by decide)]
theorem mg_loop (F : Nat) : ∀ (k n : Nat) (xs ys o : List V), xs.length + ys.length ≤ k → k < n → o.length + xs.length + ys.length ≤ 100000 → mMerge_L0 F [] n xs ys o some = some (mgR (o ++ mwV k xs ys)) := by
  intro k
  induction k with
  | zero =>
    intro n xs ys o h hn hl
    obtain ⟨n, rfl⟩ : ∃ m, n = m + 1 := ⟨n - 1, by omega⟩
    have h1 : xs = [] := List.eq_nil_of_length_eq_zero (by omega)
    have h2 : ys = [] := List.eq_nil_of_length_eq_zero (by omega)
    subst h1; subst h2
    rw [mMerge_L0_succ, sel_neg (show ilt 0 (llen []) = false by decide), sel_pos (by rw [okApp_iff]; simp only [List.length_nil]; omega), sel_pos (by rw [okApp_iff]; simp only [lcat, List.length_nil, List.append_nil]; omega), sel_pos (by rw [band_iff, ile_iff, llen_nat]; refine ⟨rfl, ?_⟩; simp only [lcat, List.append_nil]; omega)]
    show _ = some (mgR (o ++ []))
    rw [List.append_nil, mg_end]
    unfold lcat
    rw [List.append_nil, List.append_nil]
  | succ k ih =>
    intro n xs ys o h hn hl
    obtain ⟨n, rfl⟩ : ∃ m, n = m + 1 := ⟨n - 1, by omega⟩
    rw [mMerge_L0_succ]
    match xs, ys with
    | [], ys =>
      rw [sel_neg (show ilt 0 (llen []) = false by decide), sel_pos (by rw [okApp_iff]; simp only [List.length_nil] at hl ⊢; omega), sel_pos (by rw [okApp_iff]; simp only [lcat, List.length_nil, List.append_nil] at hl ⊢; omega), sel_pos (by rw [band_iff, ile_iff, llen_nat]; refine ⟨rfl, ?_⟩; simp only [lcat, List.append_nil, List.length_append, List.length_nil] at hl ⊢; omega), mg_end, mwV_nil1]
      unfold lcat
      rw [List.append_nil]
    | x :: l, [] =>
      rw [sel_pos (ilt_t (by rw [llen_nat, List.length_cons]; omega)), sel_neg (show ilt 0 (llen []) = false by decide), sel_pos (by rw [okApp_iff]; simp only [List.length_nil] at hl ⊢; omega), sel_pos (by rw [okApp_iff]; simp only [lcat, List.length_nil, List.length_append] at hl ⊢; omega), sel_pos (by rw [band_iff, ile_iff, llen_nat]; refine ⟨rfl, ?_⟩; simp only [lcat, List.append_nil, List.length_append, List.length_nil] at hl ⊢; omega), mg_end, mwV_nil2]
      unfold lcat
      rw [List.append_nil]
    | x :: l, y :: m =>
      have g1 : ilt 0 (llen (x :: l)) = true := ilt_t (by rw [llen_nat, List.length_cons]; omega)
      have g2 : ilt 0 (llen (y :: m)) = true := ilt_t (by rw [llen_nat, List.length_cons]; omega)
      have g3 : ile 0 0 = true := rfl
      have g4 : ile 0 1 = true := rfl
      have g5 : ile 1 (llen (x :: l)) = true := ile_t (by rw [llen_nat, List.length_cons]; omega)
      have g6 : ile 1 (llen (y :: m)) = true := ile_t (by rw [llen_nat, List.length_cons]; omega)
      have hg1 : lget (x :: l) 0 = x := rfl
      have hg2 : lget (y :: m) 0 = y := rfl
      obtain ⟨p, hp⟩ : ∃ p, infC x = p := ⟨_, rfl⟩
      obtain ⟨q, hq⟩ : ∃ q, infC y = q := ⟨_, rfl⟩
      have p0 : asInt (acell x 0) = p.1.1 := by rw [← hp]; rfl
      have p1 : asInt (acell x 1) = p.1.2 := by rw [← hp]; rfl
      have p2 : asInt (acell x 2) = p.2.1 := by rw [← hp]; rfl
      have p3 : asInt (acell x 3) = p.2.2.1 := by rw [← hp]; rfl
      have p4 : asStr (acell x 4) = p.2.2.2 := by rw [← hp]; rfl
      have q0 : asInt (acell y 0) = q.1.1 := by rw [← hq]; rfl
      have q1 : asInt (acell y 1) = q.1.2 := by rw [← hq]; rfl
      have q2 : asInt (acell y 2) = q.2.1 := by rw [← hq]; rfl
      have q3 : asInt (acell y 3) = q.2.2.1 := by rw [← hq]; rfl
      have q4 : asStr (acell y 4) = q.2.2.2 := by rw [← hq]; rfl
      have ok1 : ∀ z : V, okApp o [z] = true := fun z => by rw [okApp_iff]; simp only [List.length_cons, List.length_nil] at hl ⊢; omega
      have key : (band (band (ieq p.1.1 q.1.1) (ieq p.1.2 q.1.2)) (band (ieq p.2.1 q.2.1) (band (ieq p.2.2.1 q.2.2.1) (seq p.2.2.2 q.2.2.2))) = true) ↔ p = q := by
        rw [band_iff, band_iff, band_iff, band_iff, ieq_iff, ieq_iff, ieq_iff, ieq_iff, seq_iff]
        exact ⟨fun ⟨⟨h1, h2⟩, h3, h4, h5⟩ => Prod.ext (Prod.ext h1 h2) (Prod.ext h3 (Prod.ext h4 h5)), fun h => by rw [h]; exact ⟨⟨rfl, rfl⟩, rfl, rfl, rfl⟩⟩
      have e1 : V.agg [.int .i64 p.1.1, .int .i64 p.1.2, .int .i64 p.2.1, .int .i64 p.2.2.1, .str p.2.2.2] = nrm p := rfl
      have e2 : V.agg [.int .i64 q.1.1, .int .i64 q.1.2, .int .i64 q.2.1, .int .i64 q.2.2.1, .str q.2.2.2] = nrm q := rfl
      have bt : ∀ b : Bool, band true b = b := fun _ => rfl
      rw [List.length_cons, List.length_cons] at h hl
      simp only [g1, g2, g3, g4, g5, g6, hg1, hg2, p0, p1, p2, p3, p4, q0, q1, q2, q3, q4, bt, e1, e2, ok1, lsub_tl, st, mwV, hp, hq]
      have happ : ∀ (z : V) (r : List V), lcat o [z] ++ r = o ++ z :: r := fun z r => by unfold lcat; rw [List.append_assoc]; rfl
      by_cases c1 : p = q
      · rw [sel_pos (key.2 c1), if_pos c1, ih n l m _ (by omega) (by omega) (by unfold lcat; rw [List.length_append, List.length_singleton]; omega), happ]
      · rw [sel_neg (by rw [← Bool.not_eq_true, key]; exact c1), if_neg c1]
        by_cases c2 : p.1.1 ≤ q.1.1
        · rw [sel_pos (ile_t c2), if_pos c2, ih n l (y :: m) _ (by rw [List.length_cons]; omega) (by omega) (by unfold lcat; rw [List.length_append, List.length_singleton, List.length_cons]; omega), happ]
        · rw [sel_neg (ile_f (by omega)), if_neg c2, ih n (x :: l) m _ (by rw [List.length_cons]; omega) (by omega) (by unfold lcat; rw [List.length_append, List.length_singleton, List.length_cons]; omega), happ]
noncomputable def mgV (xs ys : List V) : List V := if sdB xs = true ∧ sdB ys = true ∧ sdB (mwV (xs.length + ys.length) xs ys) = true then mwV (xs.length + ys.length) xs ys else []
noncomputable def mgE (xs ys : List V) : Int := if sdB xs = true ∧ sdB ys = true then (if sdB (mwV (xs.length + ys.length) xs ys) = true then 0 else 21) else 4
theorem mg_err (xs ys : List V) : mgE xs ys = (mgL (infOf xs) (infOf ys)).2 := by
  unfold mgE mgL
  have h := mwV_inf _ xs ys (Nat.le_refl _)
  have h2 : sdB (mwV (xs.length + ys.length) xs ys) = sdL (mwL (infOf xs) (infOf ys)) := by unfold sdB; rw [h]
  rw [h2]
  unfold sdB
  by_cases c1 : sdL (infOf xs) = true ∧ sdL (infOf ys) = true
  · rw [if_pos c1, if_pos c1]
    by_cases c2 : sdL (mwL (infOf xs) (infOf ys)) = true
    · rw [if_pos c2, if_pos c2]
    · rw [if_neg c2, if_neg c2]
  · rw [if_neg c1, if_neg c1]
theorem mg_val (xs ys : List V) : infOf (mgV xs ys) = (mgL (infOf xs) (infOf ys)).1 := by
  unfold mgV mgL
  have h := mwV_inf _ xs ys (Nat.le_refl _)
  have h2 : sdB (mwV (xs.length + ys.length) xs ys) = sdL (mwL (infOf xs) (infOf ys)) := by unfold sdB; rw [h]
  rw [h2]
  unfold sdB
  by_cases c1 : sdL (infOf xs) = true ∧ sdL (infOf ys) = true
  · rw [if_pos c1]
    by_cases c2 : sdL (mwL (infOf xs) (infOf ys)) = true
    · rw [if_pos c2, if_pos ⟨c1.1, c1.2, c2⟩, h]
    · rw [if_neg c2, if_neg fun q => c2 q.2.2]; rfl
  · rw [if_neg c1, if_neg fun q => c1 ⟨q.1, q.2.1⟩]; rfl
theorem mMerge_ev (xs ys : List V) (h1 : xs.length ≤ 30000) (h2 : ys.length ≤ 30000) : Contract sE 30 [.sl 65 K5 none xs, .sl 65 K5 none ys] (.tup [.sl 65 K5 (some 0) (mgV xs ys), .int .i64 (mgE xs ys)]) := by
  refine contract_of_body sE_ok mS1_ok (xs.length + ys.length + 2) 2 ?_
  rw [mMerge_top, sel_pos (by rw [band_iff, ile_iff, llen_nat]; exact ⟨rfl, by omega⟩)]
  rw [mg_err]
  unfold mgV mgL
  have h := mwV_inf _ xs ys (Nat.le_refl _)
  have h3 : sdB (mwV (xs.length + ys.length) xs ys) = sdL (mwL (infOf xs) (infOf ys)) := by unfold sdB; rw [h]
  cases c1 : sdB xs with
  | false =>
    have c1' : sdL (infOf xs) = false := c1
    rw [sel_pos (show bnot false = true from rfl), if_neg (by rintro ⟨q, _⟩; cases q), c1', if_neg (by rintro ⟨q, _⟩; cases q)]
  | true =>
    have c1' : sdL (infOf xs) = true := c1
    rw [sel_neg (show bnot true = false from rfl), sel_pos (by rw [band_iff, ile_iff, llen_nat]; exact ⟨rfl, by omega⟩)]
    cases c2 : sdB ys with
    | false =>
      have c2' : sdL (infOf ys) = false := c2
      rw [sel_pos (show bnot false = true from rfl), if_neg (by rintro ⟨_, q, _⟩; cases q), c2', if_neg (by rintro ⟨_, q⟩; cases q)]
    | true =>
      have c2' : sdL (infOf ys) = true := c2
      rw [sel_neg (show bnot true = false from rfl), mg_loop _ (xs.length + ys.length) _ xs ys [] (Nat.le_refl _) (by omega) (by simp only [List.length_nil]; omega), List.nil_append, c1', c2', if_pos (show true = true ∧ true = true from ⟨rfl, rfl⟩)]
      unfold mgR
      rw [h3]
      cases sdL (mwL (infOf xs) (infOf ys)) with
      | true => rw [if_pos rfl, if_pos rfl, if_pos ⟨rfl, rfl, rfl⟩, if_pos rfl]
      | false => rw [if_neg (by decide), if_neg (by decide), if_neg (by rintro ⟨_, _, q⟩; cases q), if_neg (by decide)]
theorem mPaS_ok (x : V) (hc : band (isIn x) (ile (llen (infs x)) 30000) = true) : Contract sE 35 [x] (.sl 24 [.int .i64, .int .i64] none (paV (infs x))) := by
  rw [band_iff, ile_iff, llen_nat] at hc
  exact ci1 hc.1 (mPat_ev _ (by omega))
theorem mPaS_ok_noontideref39_Patches (x : V) (hc : band (isIn x) (ile (llen (infs x)) 30000) = true) : Contract sE 36 [x] (.sl 24 [.int .i64, .int .i64] none (paV (infs x))) := by
  rw [band_iff, ile_iff, llen_nat] at hc
  exact ci1 hc.1 (mPat39_ev _ (by omega))
theorem mS2_ok : SOk sE mS2 := by
  unfold mS2
  refine SOk.cons (fun args r h => ?_) (SOk.cons (fun args r h => ?_) (SOk.cons (fun args r h => ?_) (SOk.cons (fun args r h => ?_) (SOk.nil))))
  · unfold mPaS at h
    split at h
    · simp only [Option.some.injEq, Prod.mk.injEq] at h
      obtain ⟨hc, rfl⟩ := h
      exact mPaS_ok _ hc
    · cases h
  · unfold mPaS at h
    split at h
    · simp only [Option.some.injEq, Prod.mk.injEq] at h
      obtain ⟨hc, rfl⟩ := h
      exact mPaS_ok_noontideref39_Patches _ hc
    · cases h
  · unfold sGaS at h
    split at h
    · simp only [Option.some.injEq, Prod.mk.injEq] at h
      obtain ⟨hc, rfl⟩ := h
      exact sGaS_ok _ _ _ hc
    · cases h
  · unfold sGaS at h
    split at h
    · simp only [Option.some.injEq, Prod.mk.injEq] at h
      obtain ⟨hc, rfl⟩ := h
      exact sGaS_ok_noontideref11_Gaps _ _ _ hc
    · cases h
theorem paV_len (xs : List V) : (paV xs).length ≤ xs.length := by
  unfold paV
  rw [spV_len]
  have := of_len ((infOf xs).map Prod.fst)
  rwa [List.length_map, inf_len] at this
noncomputable def miV (xs : List V) (a b : Int) : List V := leV [.agg [.int .i64 a, .int .i64 b]] (paV xs)
theorem mMis_ev (xs : List V) (a b : Int) (h : xs.length ≤ 30000) : Contract sE 37 [.sl 65 K5 none xs, .agg [.int .i64 a, .int .i64 b]] (.sl 24 [.int .i64, .int .i64] none (miV xs a b)) := by
  have := paV_len xs
  refine contract_of_body sE_ok mS2_ok 5 2 ?_
  rw [mMis_top, sel_pos (by rw [band_iff, ile_iff, llen_nat]; exact ⟨rfl, by omega⟩), sel_pos (by rw [band_iff, ile_iff, llen_nat]; exact ⟨rfl, by omega⟩)]
  rfl
theorem mMis39_ev (xs : List V) (a b : Int) (h : xs.length ≤ 30000) : Contract sE 38 [.sl 65 K5 none xs, .agg [.int .i64 a, .int .i64 b]] (.sl 24 [.int .i64, .int .i64] none (miV xs a b)) := by
  have := paV_len xs
  refine contract_of_body sE_ok mS2_ok 5 2 ?_
  rw [mMis39_top, sel_pos (by rw [band_iff, ile_iff, llen_nat]; exact ⟨rfl, by omega⟩), sel_pos (by rw [band_iff, ile_iff, llen_nat]; exact ⟨rfl, by omega⟩)]
  rfl
end Nt.Ev.Ytjobobdijjppkaa.Sm

set_option linter.unusedVariables false
set_option linter.unusedSimpArgs false
set_option linter.unusedSectionVars false
namespace Nt.Ev.Ytjobobdijjppkaa.Sm
open Go Nt.Num Go.Proofs.Ytjobobdijjppkaa
open Nt.Ev.Ytjobobdijjppkaa.Sp
noncomputable def mMiS : FSpec := fun a => match a with | [x, .agg [.int .i64 a, .int .i64 b]] => some (band (isIn x) (ile (llen (infs x)) 30000), .sl 24 [.int .i64, .int .i64] none (miV (infs x) a b)) | _ => none
noncomputable def mCuS : FSpec := fun a => match a with | [x, .agg [.int .i64 a, .int .i64 b]] => some (band (isIn x) (ile (llen (infs x)) 30000), .sl 65 [.int .i64, .int .i64, .int .i64, .int .i64, .str] none (cuV (infs x) a b)) | _ => none
noncomputable def mMgS : FSpec := fun a => match a with | [x, y] => some (band (band (isIn x) (isIn y)) (band (ile (llen (infs x)) 30000) (ile (llen (infs y)) 30000)), .tup [.sl 65 [.int .i64, .int .i64, .int .i64, .int .i64, .str] (some 0) (mgV (infs x) (infs y)), .int .i64 (mgE (infs x) (infs y))]) | _ => none
noncomputable def mAtS : FSpec := fun a => match a with | [x, .int .i64 t] => some (band (isIn x) (ile (llen (infs x)) 30000), .tup [.agg [.int .i64 (atO (infs x) t), .int .i64 (atS (infs x) t), .str (atA (infs x) t)], .bool (atB (infs x) t)]) | _ => none
noncomputable def mSaS : FSpec := fun a => match a with | [x, y] => some (band (band (isIn x) (isIn y)) (ile (llen (infs x)) 1000000), .bool (siB (infs x) (infs y))) | _ => none
noncomputable def mLvS : FSpec := fun a => match a with | [] => some (true, .bool true) | _ => none
noncomputable def mLd : List (Nat × FSpec) := (35, mPaS) :: (36, mPaS) :: (37, mMiS) :: (38, mMiS) :: (39, mCuS) :: (40, mCuS) :: (30, mMgS) :: (41, mAtS) :: (32, mSaS) :: (33, mSdS) :: (34, mSdS) :: (10, sFiS) :: (16, sSaS) :: (28, sHaS) :: (44, sHaS) :: []
noncomputable def mL : List (Nat × FSpec) := (29, mLvS) :: mLd
end Nt.Ev.Ytjobobdijjppkaa.Sm

set_option linter.unusedVariables false
set_option linter.unusedSimpArgs false
set_option linter.unusedSectionVars false
namespace Nt.Ev.Ytjobobdijjppkaa.Sm
open Go Go.RowKit Nt Nt.Num Nt.Sps Nt.Ev.Ytjobobdijjppkaa.Sp Go.Proofs.Ytjobobdijjppkaa
theorem ci2 {E : Env} {f : Nat} {x y r : V} (hx : isIn x = true) (hy : isIn y = true) (h : Contract E f [.sl 65 K5 none (infs x), .sl 65 K5 none (infs y)] r) : Contract E f [x, y] r := by
  intro G w vs hG hg hp
  obtain ⟨a, b, rfl, ha, hb⟩ := PW_two hp
  exact h G w _ hG hg (.cons (rep_in hx ha) (.cons (rep_in hy hb) .nil))
theorem mMiS_ok (x : V) (a b : Int) (hc : band (isIn x) (ile (llen (infs x)) 30000) = true) : Contract sE 37 [x, .agg [.int .i64 a, .int .i64 b]] (.sl 24 [.int .i64, .int .i64] none (miV (infs x) a b)) := by
  rw [band_iff, ile_iff, llen_nat] at hc
  exact ci1y hc.1 (mMis_ev _ a b (by omega))
theorem mMiS_ok_noontideref39_Missing (x : V) (a b : Int) (hc : band (isIn x) (ile (llen (infs x)) 30000) = true) : Contract sE 38 [x, .agg [.int .i64 a, .int .i64 b]] (.sl 24 [.int .i64, .int .i64] none (miV (infs x) a b)) := by
  rw [band_iff, ile_iff, llen_nat] at hc
  exact ci1y hc.1 (mMis39_ev _ a b (by omega))
theorem mCuS_ok (x : V) (a b : Int) (hc : band (isIn x) (ile (llen (infs x)) 30000) = true) : Contract sE 39 [x, .agg [.int .i64 a, .int .i64 b]] (.sl 65 K5 none (cuV (infs x) a b)) := by
  rw [band_iff, ile_iff, llen_nat] at hc
  exact ci1y hc.1 (mCut_ev _ a b (by omega))
theorem mCuS_ok_noontideref39_Cut (x : V) (a b : Int) (hc : band (isIn x) (ile (llen (infs x)) 30000) = true) : Contract sE 40 [x, .agg [.int .i64 a, .int .i64 b]] (.sl 65 K5 none (cuV (infs x) a b)) := by
  rw [band_iff, ile_iff, llen_nat] at hc
  exact ci1y hc.1 (mCut39_ev _ a b (by omega))
theorem mMgS_ok (x y : V) (hc : band (band (isIn x) (isIn y)) (band (ile (llen (infs x)) 30000) (ile (llen (infs y)) 30000)) = true) : Contract sE 30 [x, y] (.tup [.sl 65 K5 (some 0) (mgV (infs x) (infs y)), .int .i64 (mgE (infs x) (infs y))]) := by
  rw [band_iff, band_iff, band_iff, ile_iff, ile_iff, llen_nat, llen_nat] at hc
  exact ci2 hc.1.1 hc.1.2 (mMerge_ev _ _ (by omega) (by omega))
theorem mAtS_ok (x : V) (t : Int) (hc : band (isIn x) (ile (llen (infs x)) 30000) = true) : Contract sE 41 [x, .int .i64 t] (.tup [.agg [.int .i64 (atO (infs x) t), .int .i64 (atS (infs x) t), .str (atA (infs x) t)], .bool (atB (infs x) t)]) := by
  rw [band_iff, ile_iff, llen_nat] at hc
  exact ci1y hc.1 (mAt_ev _ t (by omega))
theorem mSaS_ok (x y : V) (hc : band (band (isIn x) (isIn y)) (ile (llen (infs x)) 1000000) = true) : Contract sE 32 [x, y] (.bool (siB (infs x) (infs y))) := by
  rw [band_iff, band_iff, ile_iff, llen_nat] at hc
  exact ci2 hc.1.1 hc.1.2 (mSame_ev _ _ (by omega))
theorem mLd_ok : SOk sE mLd := by
  unfold mLd
  refine SOk.cons (fun args r h => ?_) (SOk.cons (fun args r h => ?_) (SOk.cons (fun args r h => ?_) (SOk.cons (fun args r h => ?_) (SOk.cons (fun args r h => ?_) (SOk.cons (fun args r h => ?_) (SOk.cons (fun args r h => ?_) (SOk.cons (fun args r h => ?_) (SOk.cons (fun args r h => ?_) (SOk.cons (fun args r h => ?_) (SOk.cons (fun args r h => ?_) (SOk.cons (fun args r h => ?_) (SOk.cons (fun args r h => ?_) (SOk.cons (fun args r h => ?_) (SOk.cons (fun args r h => ?_) (SOk.nil)))))))))))))))
  · unfold mPaS at h
    split at h
    · simp only [Option.some.injEq, Prod.mk.injEq] at h
      obtain ⟨hc, rfl⟩ := h
      exact mPaS_ok _ hc
    · cases h
  · unfold mPaS at h
    split at h
    · simp only [Option.some.injEq, Prod.mk.injEq] at h
      obtain ⟨hc, rfl⟩ := h
      exact mPaS_ok_noontideref39_Patches _ hc
    · cases h
  · unfold mMiS at h
    split at h
    · simp only [Option.some.injEq, Prod.mk.injEq] at h
      obtain ⟨hc, rfl⟩ := h
      exact mMiS_ok _ _ _ hc
    · cases h
  · unfold mMiS at h
    split at h
    · simp only [Option.some.injEq, Prod.mk.injEq] at h
      obtain ⟨hc, rfl⟩ := h
      exact mMiS_ok_noontideref39_Missing _ _ _ hc
    · cases h
  · unfold mCuS at h
    split at h
    · simp only [Option.some.injEq, Prod.mk.injEq] at h
      obtain ⟨hc, rfl⟩ := h
      exact mCuS_ok _ _ _ hc
    · cases h
  · unfold mCuS at h
    split at h
    · simp only [Option.some.injEq, Prod.mk.injEq] at h
      obtain ⟨hc, rfl⟩ := h
      exact mCuS_ok_noontideref39_Cut _ _ _ hc
    · cases h
  · unfold mMgS at h
    split at h
    · simp only [Option.some.injEq, Prod.mk.injEq] at h
      obtain ⟨hc, rfl⟩ := h
      exact mMgS_ok _ _ hc
    · cases h
  · unfold mAtS at h
    split at h
    · simp only [Option.some.injEq, Prod.mk.injEq] at h
      obtain ⟨hc, rfl⟩ := h
      exact mAtS_ok _ _ hc
    · cases h
  · unfold mSaS at h
    split at h
    · simp only [Option.some.injEq, Prod.mk.injEq] at h
      obtain ⟨hc, rfl⟩ := h
      exact mSaS_ok _ _ hc
    · cases h
  · unfold mSdS at h
    split at h
    · simp only [Option.some.injEq, Prod.mk.injEq] at h
      obtain ⟨hc, rfl⟩ := h
      exact mSdS_ok _ hc
    · cases h
  · unfold mSdS at h
    split at h
    · simp only [Option.some.injEq, Prod.mk.injEq] at h
      obtain ⟨hc, rfl⟩ := h
      exact mSdS_ok_noontideref39_Sound _ hc
    · cases h
  · unfold sFiS at h
    split at h
    · simp only [Option.some.injEq, Prod.mk.injEq] at h
      obtain ⟨hc, rfl⟩ := h
      exact sFiS_ok _ _ hc
    · cases h
  · unfold sSaS at h
    split at h
    · simp only [Option.some.injEq, Prod.mk.injEq] at h
      obtain ⟨hc, rfl⟩ := h
      exact sSaS_ok _ _ hc
    · cases h
  · unfold sHaS at h
    split at h
    · simp only [Option.some.injEq, Prod.mk.injEq] at h
      obtain ⟨hc, rfl⟩ := h
      exact sHaS_ok _ _ _ rfl
    · cases h
  · unfold sHaS at h
    split at h
    · simp only [Option.some.injEq, Prod.mk.injEq] at h
      obtain ⟨hc, rfl⟩ := h
      exact sHaS_ok_noontideref10_Has _ _ _ rfl
    · cases h
set_option maxRecDepth 100000 in
theorem mLvS_ok (hc : true = true) : Contract sE 29 [] (.bool true) := by
  refine contract_of_body sE_ok mLd_ok 60 4 ?_
  kernel_rfl
theorem mL_ok : SOk sE mL := by
  unfold mL
  refine SOk.cons (fun args r h => ?_) (mLd_ok)
  · unfold mLvS at h
    split at h
    · simp only [Option.some.injEq, Prod.mk.injEq] at h
      obtain ⟨hc, rfl⟩ := h
      exact mLvS_ok  rfl
    · cases h
theorem siB_iff {xs ys : List V} : siB xs ys = true ↔ infOf xs = infOf ys := by unfold siB; rw [decide_eq_true_eq]
theorem mgV_len (xs ys : List V) : (mgV xs ys).length ≤ xs.length + ys.length := by
  have h := congrArg List.length (mg_val xs ys)
  rw [inf_len] at h
  rw [h]
  unfold mgL
  split
  · split
    · have := mwL_len (infOf xs) (infOf ys)
      rw [inf_len, inf_len] at this
      exact this
    · exact Nat.zero_le _
  · exact Nat.zero_le _
theorem cuV_len (xs : List V) (a b : Int) : (cuV xs a b).length ≤ xs.length := by
  unfold cuV
  rw [inV_len, ← inf_len xs]
  unfold cutL
  induction infOf xs with
  | nil => exact Nat.le_refl _
  | cons x l ih =>
    rw [List.flatMap_cons, List.length_append, List.length_cons]
    have : (if meetB x.1 (a, b) then [(bothS x.1 (a, b), x.2)] else []).length ≤ 1 := by split <;> simp
    omega
end Nt.Ev.Ytjobobdijjppkaa.Sm
