/-
  The plain law of amounts: pieces between colons, parts, sums. The plain law of amounts, there and back. Amounts: the equations of the program's functions and of the document's, as the evaluator prints them. Amounts: what the program's functions and the document's answer. Amounts: how they are written, by the program and by the document. Amounts: how they are read, by the program and by the document. Amounts that are written, read again: those above nought.
-/
import Derived.Test.YteccmgkfmeoekaaDoorMC
import Derived.Lib.Split
import Derived.Test.YteccmgkfmeoekaaDoorMS
set_option linter.unusedVariables false
set_option linter.unusedSimpArgs false
namespace Nt.Amount
open Go Go.RowKit Nt Nt.Num
def pieces : List UInt8 → List (List UInt8)
  | [] => [[]]
  | c :: l => if c == 58 then [] :: pieces l else (c :: (pieces l).headD []) :: (pieces l).tail
def least (i : Nat) : Nat := if i = 0 then 1 else 2
def most (i : Nat) : Nat := if i = 0 then 3 else 2
def unit (i : Nat) : Nat := if i = 0 then 3600 else if i = 1 then 60 else 1
def ok (l : List UInt8) (least most : Nat) : Bool := decide (least ≤ l.length) && decide (l.length ≤ most) && l.all isDigit
def part (l : List UInt8) (least most : Nat) : Int × Bool := if ok l least most then ((val l : Nat), true) else (0, false)
def goodK (P : List (List UInt8)) : Nat → Bool
  | 0 => true
  | k + 1 => goodK P k && ok (P.getD k []) (least k) (most k)
def fitsK (P : List (List UInt8)) : Nat → Bool
  | 0 => true
  | k + 1 => fitsK P k && (decide (k = 0) || decide (val (P.getD k []) ≤ 59))
def sumK (P : List (List UInt8)) : Nat → Nat
  | 0 => 0
  | k + 1 => sumK P k + val (P.getD k []) * unit k
def told (P : List (List UInt8)) (below : Bool) : Int × Int :=
  if decide (3 < P.length) || !goodK P P.length then (0, 2)
  else if !fitsK P P.length || decide (604800 ≤ sumK P P.length) then (0, 1)
  else (if below then -(sumK P P.length : Int) else (sumK P P.length : Int), 0)
def read (l : List UInt8) : Int × Int := if l = [45] then (0, 0) else told (pieces (bare l)) (minus l)
def two (n : Nat) : List UInt8 := [digit (n / 10), digit (n % 10)]
def text (n : Int) : List UInt8 × Int :=
  if n ≤ -604800 ∨ 604800 ≤ n then ([], 1)
  else if n = 0 then ([48], 0)
  else ((if n < 0 then [45] else []) ++ digs (n.natAbs / 3600) ++ [58] ++ two (n.natAbs / 60 % 60) ++ (if 0 < n.natAbs % 60 then 58 :: two (n.natAbs % 60) else []), 0)
theorem goodK_le (P : List (List UInt8)) (k : Nat) : ∀ m, k ≤ m → goodK P m = true → goodK P k = true := by
  intro m
  induction m with
  | zero => intro h hg; have e : k = 0 := by omega
            rw [e]; exact hg
  | succ m ih =>
    intro h hg
    by_cases e : k = m + 1
    · rw [e]; exact hg
    · unfold goodK at hg
      rw [Bool.and_eq_true] at hg
      exact ih (by omega) hg.1
theorem pieces_ne (l : List UInt8) : pieces l ≠ [] := by
  cases l with
  | nil => simp [pieces]
  | cons c l => unfold pieces; split <;> simp
theorem split_pieces : ∀ (s : List UInt8), Lib.splitK [58] 0 (Lib.count s [58]) s = pieces s
  | [] => by
    have h : Lib.index [] [58] = -1 := by decide
    rw [Lib.count_miss h]; rfl
  | c :: l => by
    have ih := split_pieces l
    by_cases hc : c = 58
    · subst hc
      have h : Lib.index (58 :: l) [58] = (0 : Nat) := by unfold Lib.index; simp
      rw [Lib.count_hit (by simp) h, Nat.add_comm 1]
      unfold Lib.splitK
      rw [if_neg (by rw [h]; decide), h]
      have e1 : List.take (Int.toNat (((0 : Nat) : Int)) + 0) (58 :: l) = ([] : List UInt8) := rfl
      have e2 : List.drop (Int.toNat (((0 : Nat) : Int)) + [(58 : UInt8)].length) (58 :: l) = l := rfl
      have e3 : List.drop (0 + [(58 : UInt8)].length) (58 :: l) = l := rfl
      rw [e1, e2, e3, ih]
      conv => rhs; unfold pieces
      rw [if_pos (by rfl)]
    · have hp : ([58] : List UInt8).isPrefixOf (c :: l) = false := by
        simp only [List.isPrefixOf, Bool.and_true, beq_eq_false_iff_ne]
        exact fun e => hc e.symm
      have hpc : pieces (c :: l) = (c :: (pieces l).headD []) :: (pieces l).tail := by
        conv => lhs; unfold pieces
        rw [if_neg (by simpa using hc)]
      by_cases hi : Lib.index l [58] = -1
      · have h : Lib.index (c :: l) [58] = -1 := by
          unfold Lib.index
          rw [hp, hi]; rfl
        rw [Lib.count_miss h, hpc, ← ih, Lib.count_miss hi]; rfl
      · have hge := Lib.index_ge l [58]
        obtain ⟨i, hi'⟩ : ∃ i : Nat, Lib.index l [58] = i := ⟨(Lib.index l [58]).toNat, by omega⟩
        have h : Lib.index (c :: l) [58] = ((i + 1 : Nat) : Int) := by
          unfold Lib.index
          rw [hp, hi']
          simp only [Bool.false_eq_true, if_false]
          rw [if_neg (by rw [beq_iff_eq]; omega)]
          rfl
        rw [Lib.count_hit (by simp) hi', Nat.add_comm 1] at ih
        rw [Lib.count_hit (by simp) h, Nat.add_comm 1, hpc, ← ih]
        unfold Lib.splitK
        rw [if_neg (by rw [h, beq_iff_eq]; omega), h, if_neg (by rw [hi', beq_iff_eq]; omega), hi']
        simp only [Int.toNat_natCast, Nat.add_zero, List.take_succ_cons, List.headD_cons, List.tail_cons, List.length_singleton, List.drop_succ_cons]
def glue (p : List UInt8) (P : List (List UInt8)) : List (List UInt8) := (p ++ P.headD []) :: P.tail
theorem glue_nil (l : List UInt8) : glue [] (pieces l) = pieces l := by
  unfold glue
  cases e : pieces l with
  | nil => exact absurd e (pieces_ne l)
  | cons a t => rfl
theorem glue_end (p : List UInt8) : glue p (pieces []) = [p] := by simp [glue, pieces]
theorem glue_colon (p l : List UInt8) : glue p (pieces (58 :: l)) = p :: pieces l := by simp [glue, pieces]
end Nt.Amount

set_option linter.unusedVariables false
set_option linter.unusedSimpArgs false
namespace Nt.Amount
open Nt Nt.Num
theorem pieces_glue (p l : List UInt8) (h : ∀ c ∈ p, c ≠ 58) : pieces (p ++ l) = glue p (pieces l) := by
  induction p with
  | nil => exact (glue_nil l).symm
  | cons c p ih =>
    have h1 := ih (fun c hc => h c (.tail _ hc))
    have hc : c ≠ 58 := h c (.head _)
    show pieces (c :: (p ++ l)) = _
    conv => lhs; unfold pieces
    rw [if_neg (by simpa using hc), h1]
    simp [glue]
theorem pieces_end (p : List UInt8) (h : ∀ c ∈ p, c ≠ 58) : pieces p = [p] := by
  have := pieces_glue p [] h
  rw [List.append_nil] at this
  rw [this, glue_end]
theorem pieces_colon (p l : List UInt8) (h : ∀ c ∈ p, c ≠ 58) : pieces (p ++ 58 :: l) = p :: pieces l := by rw [pieces_glue p _ h, glue_colon]
theorem digits_no (p : List UInt8) (h : p.all isDigit = true) : ∀ c ∈ p, c ≠ 58 := by
  intro c hc e
  have := List.all_eq_true.1 h c hc
  rw [e] at this
  exact absurd this (by decide)
theorem ok_no {p : List UInt8} {l m : Nat} (h : ok p l m = true) : ∀ c ∈ p, c ≠ 58 := by
  unfold ok at h
  rw [Bool.and_eq_true] at h
  exact digits_no p h.2
theorem pieces2 {p q : List UInt8} {l m l' m' : Nat} (hp : ok p l m = true) (hq : ok q l' m' = true) : pieces (p ++ ([58] ++ q)) = [p, q] := by
  rw [show p ++ ([58] ++ q) = p ++ 58 :: q from rfl, pieces_colon p q (ok_no hp), pieces_end q (ok_no hq)]
theorem pieces3 {p q r : List UInt8} {l m l' m' l'' m'' : Nat} (hp : ok p l m = true) (hq : ok q l' m' = true) (hr : ok r l'' m'' = true) : pieces (p ++ ([58] ++ q) ++ ([58] ++ r)) = [p, q, r] := by
  rw [show p ++ ([58] ++ q) ++ ([58] ++ r) = p ++ 58 :: (q ++ 58 :: r) by simp, pieces_colon p _ (ok_no hp), pieces_colon q _ (ok_no hq), pieces_end r (ok_no hr)]
theorem two_ok : ∀ k : Fin 100, ok (two k) 2 2 = true ∧ val (two k) = k := by decide
theorem told2 {p q : List UInt8} {b : Bool} (hp : ok p 1 3 = true) (hq : ok q 2 2 = true) (h59 : val q ≤ 59) (hs : val p * 3600 + val q * 60 < 604800) :
    told [p, q] b = (if b then -((val p * 3600 + val q * 60 : Nat) : Int) else ((val p * 3600 + val q * 60 : Nat) : Int), 0) := by
  have hg : goodK [p, q] 2 = true := by
    show (true && ok p 1 3 && ok q 2 2) = true
    rw [hp, hq]; rfl
  have hf : fitsK [p, q] 2 = true := by
    show (true && (true || decide (val p ≤ 59)) && (false || decide (val q ≤ 59))) = true
    rw [decide_eq_true h59]; simp
  have hk : sumK [p, q] 2 = val p * 3600 + val q * 60 := by
    show 0 + val p * 3600 + val q * 60 = _
    omega
  unfold told
  rw [show [p, q].length = 2 from rfl, hg, hf, hk, decide_eq_false (by omega : ¬ 604800 ≤ _), decide_eq_false (by omega : ¬ 3 < 2)]
  rfl
theorem told3 {p q r : List UInt8} {b : Bool} (hp : ok p 1 3 = true) (hq : ok q 2 2 = true) (hr : ok r 2 2 = true) :
    told [p, q, r] b = if 59 < val q ∨ 59 < val r ∨ 604800 ≤ val p * 3600 + val q * 60 + val r then (0, 1) else (if b then -((val p * 3600 + val q * 60 + val r : Nat) : Int) else ((val p * 3600 + val q * 60 + val r : Nat) : Int), 0) := by
  have hg : goodK [p, q, r] 3 = true := by
    show (true && ok p 1 3 && ok q 2 2 && ok r 2 2) = true
    rw [hp, hq, hr]; rfl
  have hf : fitsK [p, q, r] 3 = (decide (val q ≤ 59) && decide (val r ≤ 59)) := by
    show (true && (true || decide (val p ≤ 59)) && (false || decide (val q ≤ 59)) && (false || decide (val r ≤ 59))) = _
    simp
  have hk : sumK [p, q, r] 3 = val p * 3600 + val q * 60 + val r := by
    show 0 + val p * 3600 + val q * 60 + val r * 1 = _
    omega
  unfold told
  rw [show [p, q, r].length = 3 from rfl, hg, hf, hk, decide_eq_false (by omega : ¬ 3 < 3), if_neg (show ¬ ((false || !true) = true) by decide)]
  by_cases h1 : 59 < val q
  · rw [if_pos (Or.inl h1 : 59 < val q ∨ 59 < val r ∨ 604800 ≤ val p * 3600 + val q * 60 + val r), decide_eq_false (by omega : ¬ val q ≤ 59)]; rfl
  · by_cases h2 : 59 < val r
    · rw [if_pos (Or.inr (Or.inl h2) : 59 < val q ∨ 59 < val r ∨ 604800 ≤ val p * 3600 + val q * 60 + val r), decide_eq_false (by omega : ¬ val r ≤ 59), Bool.and_false]; rfl
    · rw [decide_eq_true (by omega : val q ≤ 59), decide_eq_true (by omega : val r ≤ 59)]
      by_cases h3 : 604800 ≤ val p * 3600 + val q * 60 + val r
      · rw [if_pos (Or.inr (Or.inr h3) : 59 < val q ∨ 59 < val r ∨ 604800 ≤ val p * 3600 + val q * 60 + val r), decide_eq_true h3]; rfl
      · rw [decide_eq_false h3, if_neg (show ¬ ((!(true && true) || false) = true) by decide), if_neg (show ¬ (59 < val q ∨ 59 < val r ∨ 604800 ≤ val p * 3600 + val q * 60 + val r) by omega)]
end Nt.Amount

set_option linter.unusedVariables false
set_option linter.unusedSimpArgs false
namespace Nt.Ev.YteccmgkfmeoekaaDoor
open Go Nt.Num Go.Proofs.YteccmgkfmeoekaaDoor
noncomputable def piecesV (s : List UInt8) : List V := strsV (Amount.pieces s)
noncomputable def pok (s : List UInt8) (l m : Int) : Bool := decide (l ≤ (s.length : Int)) && decide ((s.length : Int) ≤ m) && s.all isDigit
noncomputable def partI (s : List UInt8) (l m : Int) : Int := if pok s l m then (val s : Int) else 0
noncomputable def partB (s : List UInt8) (l m : Int) : Bool := pok s l m
variable [MLen]
noncomputable def partsV : V := .rptr [.int .i64, .int .i64, .int .i64, .int .i64, .int .i64, .int .i64, .int .i64, .int .i64, .int .i64] (.agg [.int .i64 1, .int .i64 3, .int .i64 3600, .int .i64 2, .int .i64 2, .int .i64 60, .int .i64 2, .int .i64 2, .int .i64 1]) 0
noncomputable def aE : Env := ⟨Go.Proofs.Tryd.prog, fun g => bif g == 2 then some partsV else bif g == 3 then some (.rptr [.int .i64] (.int .i64 MLen.val) 0) else none⟩
noncomputable def fitsI (m : Int) : Bool := band (ile (-9223372036854775808) m) (ile m 9223372036854775807)
noncomputable def textS : FSpec := fun a => match a with | [.int .i64 m] => some (fitsI m, .str (text m)) | _ => none
noncomputable def splitS : FSpec := fun a => match a with | [.str s, .str sep] => some (band (seq sep [58]) (ile (slen s) 1000), .sl 9 [.str] none (piecesV s)) | _ => none
noncomputable def readS : FSpec := fun a => match a with | [.agg [.int .i64 l, .int .i64 m, .int .i64 u], .str s] => some (band (ile 1 l) (ile m 3), .tup [.int .i64 (partI s l m), .bool (partB s l m)]) | _ => none
noncomputable def aS : List (Nat × FSpec) := (80, textS) :: (141, splitS) :: []
noncomputable def bS : List (Nat × FSpec) := (142, readS) :: aS
noncomputable def apart_L0 (F : Nat) (ns : List Nat) (n : Nat) (x0_0 : Int) (x0_1 : Int) (x0_2 : Int) (x1 : List UInt8) (x4 : Int) (x5 : Bool) (x6 : Int) (x22 : List V) (x23 : Int) (x24 : Int) (b2_0 : Int) (b2_1 : Int) (b2_2 : Int) (K : V → Option V) : Option V :=
 loopAt aE aS F 1 142 [1, 1, 1, 0, 1, 0] ns K n (mkSt 42 [(0, V.agg [V.int .i64 x0_0, V.int .i64 x0_1, V.int .i64 x0_2]), (1, V.str x1), (2, (V.box 2 0)), (4, V.int .i64 x4), (5, V.bool x5), (6, V.int .i64 x6), (22, V.sl 5 [(Kd.int .u8)] none x22), (23, V.int .i64 x23), (24, V.int .i64 x24)] [(2, [V.int .i64 b2_0, V.int .i64 b2_1, V.int .i64 b2_2])])
set_option maxRecDepth 100000 in
theorem apart_top (F : Nat) (s : List UInt8) (l : Int) (m : Int) (u : Int) (K : V → Option V) :
 evBd aE (evFn aE aS F 1) F 142 [(V.agg [(V.int .i64 l), (V.int .i64 m), (V.int .i64 u)]), (V.str s)] K =
 sel (ilt (slen s) l)
 (K (V.tup [(V.int .i64 0), (V.bool false)]))
 (sel (ilt m (slen s))
 (K (V.tup [(V.int .i64 0), (V.bool false)]))
 (sel (okStr s)
 (apart_L0 F [] F l m u s 0 false 0 (bytesV s) (llen (bytesV s)) 0 l m u K)
 (none))) := by kernel_rfl
set_option maxRecDepth 100000 in
theorem apart_L0_succ (F : Nat) (n : Nat) (x0_0 : Int) (x0_1 : Int) (x0_2 : Int) (x1 : List UInt8) (x4 : Int) (x5 : Bool) (x6 : Int) (x22 : List V) (x23 : Int) (x24 : Int) (b2_0 : Int) (b2_1 : Int) (b2_2 : Int) (K : V → Option V) :
 apart_L0 F [] (n + 1) x0_0 x0_1 x0_2 x1 x4 x5 x6 x22 x23 x24 b2_0 b2_1 b2_2 K =
 sel (ilt x24 x23)
 (sel (band (ile 0 x24) (ilt x24 (llen x22)))
 (sel (ilt (asInt (acell (lget x22 x24) 0)) 48)
 (K (V.tup [(V.int .i64 0), (V.bool false)]))
 (sel (ilt 57 (asInt (acell (lget x22 x24) 0)))
 (K (V.tup [(V.int .i64 0), (V.bool false)]))
 (apart_L0 F [] n x0_0 x0_1 x0_2 x1 x4 x5 (iadd .i64 (imul .i64 x6 10) (icnv .i64 (isub .u8 (asInt (acell (lget x22 x24) 0)) 48))) x22 x23 (iadd .i64 x24 1) b2_0 b2_1 b2_2 K)))
 (none))
 (K (V.tup [(V.int .i64 x6), (V.bool true)])) := by kernel_rfl
noncomputable def aread_L0 (F : Nat) (ns : List Nat) (n : Nat) (x0 : List UInt8) (x2 : Int) (x3 : Int) (x4 : List UInt8) (x5 : Bool) (x6 : List V) (x7 : Int) (x8 : Int) (x28 : List V) (x29 : Int) (x30 : Int) (K : V → Option V) : Option V :=
 loopAt aE bS F 3 117 [1, 1, 1, 1, 1, 1, 1, 0, 1, 0] ns K n (mkSt 72 [(0, V.str x0), (2, V.int .i64 x2), (3, V.int .i64 x3), (4, V.str x4), (5, V.bool x5), (6, V.sl 9 [(Kd.str)] none x6), (7, V.int .i64 x7), (8, V.int .i64 x8), (28, V.sl 9 [(Kd.str)] none x28), (29, V.int .i64 x29), (30, V.int .i64 x30)] [])
set_option maxRecDepth 100000 in
theorem aread_top (F : Nat) (s : List UInt8) (K : V → Option V) :
 evBd aE (evFn aE bS F 3) F 117 [(V.str s)] K =
 sel (ile (slen [45]) (slen s))
 (sel (band (ile 0 (slen [45])) (ile (slen [45]) (slen s)))
 (sel (bnot (seq (ssub s 0 (slen [45])) [45]))
 (sel (band (seq [58] [58]) (ile (slen s) 1000))
 (sel (ilt 3 (llen (piecesV s)))
 (K (V.tup [(V.int .i64 0), (V.int .i64 2)]))
 (aread_L0 F [] F s 0 0 s false (piecesV s) 0 0 (piecesV s) (llen (piecesV s)) 0 K))
 (none))
 (sel (band (ile 0 (slen [45])) (ile (slen [45]) (slen s)))
 (sel (seq (ssub s (slen [45]) (slen s)) [])
 (K (V.tup [(V.int .i64 0), (V.int .i64 0)]))
 (sel (band (seq [58] [58]) (ile (slen (ssub s (slen [45]) (slen s))) 1000))
 (sel (ilt 3 (llen (piecesV (ssub s (slen [45]) (slen s)))))
 (K (V.tup [(V.int .i64 0), (V.int .i64 2)]))
 (aread_L0 F [] F s 0 0 (ssub s (slen [45]) (slen s)) true (piecesV (ssub s (slen [45]) (slen s))) 0 0 (piecesV (ssub s (slen [45]) (slen s))) (llen (piecesV (ssub s (slen [45]) (slen s)))) 0 K))
 (none)))
 (none)))
 (none))
 (sel (band (seq [58] [58]) (ile (slen s) 1000))
 (sel (ilt 3 (llen (piecesV s)))
 (K (V.tup [(V.int .i64 0), (V.int .i64 2)]))
 (aread_L0 F [] F s 0 0 s false (piecesV s) 0 0 (piecesV s) (llen (piecesV s)) 0 K))
 (none)) := by kernel_rfl
set_option maxRecDepth 100000 in
theorem aread_L0_succ (F : Nat) (n : Nat) (x0 : List UInt8) (x2 : Int) (x3 : Int) (x4 : List UInt8) (x5 : Bool) (x6 : List V) (x7 : Int) (x8 : Int) (x28 : List V) (x29 : Int) (x30 : Int) (K : V → Option V) :
 aread_L0 F [] (n + 1) x0 x2 x3 x4 x5 x6 x7 x8 x28 x29 x30 K =
 sel (ilt x30 x29)
 (sel (band (ile 0 x30) (ilt x30 (llen x28)))
 (sel (band (ile 0 x30) (ilt x30 3))
 (sel (band (ile 1 (asInt (acell (lget [(V.agg [(V.int .i64 1), (V.int .i64 3), (V.int .i64 3600)]), (V.agg [(V.int .i64 2), (V.int .i64 2), (V.int .i64 60)]), (V.agg [(V.int .i64 2), (V.int .i64 2), (V.int .i64 1)])] x30) 0))) (ile (asInt (acell (lget [(V.agg [(V.int .i64 1), (V.int .i64 3), (V.int .i64 3600)]), (V.agg [(V.int .i64 2), (V.int .i64 2), (V.int .i64 60)]), (V.agg [(V.int .i64 2), (V.int .i64 2), (V.int .i64 1)])] x30) 1)) 3))
 (sel (bnot (partB (asStr (acell (lget x28 x30) 0)) (asInt (acell (lget [(V.agg [(V.int .i64 1), (V.int .i64 3), (V.int .i64 3600)]), (V.agg [(V.int .i64 2), (V.int .i64 2), (V.int .i64 60)]), (V.agg [(V.int .i64 2), (V.int .i64 2), (V.int .i64 1)])] x30) 0)) (asInt (acell (lget [(V.agg [(V.int .i64 1), (V.int .i64 3), (V.int .i64 3600)]), (V.agg [(V.int .i64 2), (V.int .i64 2), (V.int .i64 60)]), (V.agg [(V.int .i64 2), (V.int .i64 2), (V.int .i64 1)])] x30) 1))))
 (K (V.tup [(V.int .i64 0), (V.int .i64 2)]))
 (sel (ilt 0 x30)
 (sel (ile 60 (partI (asStr (acell (lget x28 x30) 0)) (asInt (acell (lget [(V.agg [(V.int .i64 1), (V.int .i64 3), (V.int .i64 3600)]), (V.agg [(V.int .i64 2), (V.int .i64 2), (V.int .i64 60)]), (V.agg [(V.int .i64 2), (V.int .i64 2), (V.int .i64 1)])] x30) 0)) (asInt (acell (lget [(V.agg [(V.int .i64 1), (V.int .i64 3), (V.int .i64 3600)]), (V.agg [(V.int .i64 2), (V.int .i64 2), (V.int .i64 60)]), (V.agg [(V.int .i64 2), (V.int .i64 2), (V.int .i64 1)])] x30) 1))))
 (sel (band (ile 0 x30) (ilt x30 3))
 (aread_L0 F [] n x0 x2 x3 x4 x5 x6 1 (iadd .i64 x8 (imul .i64 (partI (asStr (acell (lget x28 x30) 0)) (asInt (acell (lget [(V.agg [(V.int .i64 1), (V.int .i64 3), (V.int .i64 3600)]), (V.agg [(V.int .i64 2), (V.int .i64 2), (V.int .i64 60)]), (V.agg [(V.int .i64 2), (V.int .i64 2), (V.int .i64 1)])] x30) 0)) (asInt (acell (lget [(V.agg [(V.int .i64 1), (V.int .i64 3), (V.int .i64 3600)]), (V.agg [(V.int .i64 2), (V.int .i64 2), (V.int .i64 60)]), (V.agg [(V.int .i64 2), (V.int .i64 2), (V.int .i64 1)])] x30) 1))) (asInt (acell (lget [(V.agg [(V.int .i64 1), (V.int .i64 3), (V.int .i64 3600)]), (V.agg [(V.int .i64 2), (V.int .i64 2), (V.int .i64 60)]), (V.agg [(V.int .i64 2), (V.int .i64 2), (V.int .i64 1)])] x30) 2)))) x28 x29 (iadd .i64 x30 1) K)
 (none))
 (sel (band (ile 0 x30) (ilt x30 3))
 (aread_L0 F [] n x0 x2 x3 x4 x5 x6 x7 (iadd .i64 x8 (imul .i64 (partI (asStr (acell (lget x28 x30) 0)) (asInt (acell (lget [(V.agg [(V.int .i64 1), (V.int .i64 3), (V.int .i64 3600)]), (V.agg [(V.int .i64 2), (V.int .i64 2), (V.int .i64 60)]), (V.agg [(V.int .i64 2), (V.int .i64 2), (V.int .i64 1)])] x30) 0)) (asInt (acell (lget [(V.agg [(V.int .i64 1), (V.int .i64 3), (V.int .i64 3600)]), (V.agg [(V.int .i64 2), (V.int .i64 2), (V.int .i64 60)]), (V.agg [(V.int .i64 2), (V.int .i64 2), (V.int .i64 1)])] x30) 1))) (asInt (acell (lget [(V.agg [(V.int .i64 1), (V.int .i64 3), (V.int .i64 3600)]), (V.agg [(V.int .i64 2), (V.int .i64 2), (V.int .i64 60)]), (V.agg [(V.int .i64 2), (V.int .i64 2), (V.int .i64 1)])] x30) 2)))) x28 x29 (iadd .i64 x30 1) K)
 (none)))
 (sel (band (ile 0 x30) (ilt x30 3))
 (aread_L0 F [] n x0 x2 x3 x4 x5 x6 x7 (iadd .i64 x8 (imul .i64 (partI (asStr (acell (lget x28 x30) 0)) (asInt (acell (lget [(V.agg [(V.int .i64 1), (V.int .i64 3), (V.int .i64 3600)]), (V.agg [(V.int .i64 2), (V.int .i64 2), (V.int .i64 60)]), (V.agg [(V.int .i64 2), (V.int .i64 2), (V.int .i64 1)])] x30) 0)) (asInt (acell (lget [(V.agg [(V.int .i64 1), (V.int .i64 3), (V.int .i64 3600)]), (V.agg [(V.int .i64 2), (V.int .i64 2), (V.int .i64 60)]), (V.agg [(V.int .i64 2), (V.int .i64 2), (V.int .i64 1)])] x30) 1))) (asInt (acell (lget [(V.agg [(V.int .i64 1), (V.int .i64 3), (V.int .i64 3600)]), (V.agg [(V.int .i64 2), (V.int .i64 2), (V.int .i64 60)]), (V.agg [(V.int .i64 2), (V.int .i64 2), (V.int .i64 1)])] x30) 2)))) x28 x29 (iadd .i64 x30 1) K)
 (none))))
 (none))
 (none))
 (none))
 (sel (bnot (ieq x7 0))
 (K (V.tup [(V.int .i64 0), (V.int .i64 1)]))
 (sel (ile 604800 x8)
 (K (V.tup [(V.int .i64 0), (V.int .i64 1)]))
 (sel x5
 (K (V.tup [(V.int .i64 (isub .i64 0 x8)), (V.int .i64 0)]))
 (K (V.tup [(V.int .i64 x8), (V.int .i64 0)]))))) := by kernel_rfl
end Nt.Ev.YteccmgkfmeoekaaDoor

set_option linter.unusedVariables false
set_option linter.unusedSimpArgs false
set_option linter.unusedSectionVars false
namespace Nt.Ev.YteccmgkfmeoekaaDoor
open Go Nt.Num Go.Proofs.YteccmgkfmeoekaaDoor
variable [MLen]
theorem aE_ok : EOk aE := ⟨by kernel_rfl, by kernel_rfl⟩
theorem toA {f : Nat} {args : List V} {r : V} (h : Contract nE f args r) : Contract aE f args r := Contract.env (E := nE) rfl (fun n v h => by cases h) h
theorem fitsI_iff {m : Int} (h : fitsI m = true) : Fits m := by
  unfold fitsI at h
  rw [band_iff, ile_iff, ile_iff] at h
  exact h
theorem textS_ok (m : Int) (hc : fitsI m = true) : Contract aE 80 [.int .i64 m] (.str (text m)) := toA (nText_ev m (fitsI_iff hc))
theorem splitS_ok (s sep : List UInt8) (hc : band (seq sep [58]) (ile (slen s) 1000) = true) : Contract aE 141 [.str s, .str sep] (.sl 9 [.str] none (piecesV s)) := by
  rw [band_iff, ile_iff, seq_iff, slen_nat] at hc
  obtain ⟨rfl, hc⟩ := hc
  have e := Amount.split_pieces s
  have c := contract_split (E := aE) (f := 141) (T := 9) (mx := 3) (mv := MLen.val) rfl s [58] (by decide) (by omega) (fun s sep m w h1 h2 h3 => Go.Proofs.Tryd.strings_Split s sep m w h1 h2 h3)
  rw [e] at c
  exact c
theorem aS_ok : SOk aE aS := by
  unfold aS
  refine SOk.cons (fun args r h => ?_) (SOk.cons (fun args r h => ?_) (SOk.nil))
  · unfold textS at h
    split at h
    · simp only [Option.some.injEq, Prod.mk.injEq] at h
      obtain ⟨hc, rfl⟩ := h
      exact textS_ok _ hc
    · cases h
  · unfold splitS at h
    split at h
    · simp only [Option.some.injEq, Prod.mk.injEq] at h
      obtain ⟨hc, rfl⟩ := h
      exact splitS_ok _ _ hc
    · cases h
theorem pok_iff (s : List UInt8) (l m : Int) : pok s l m = true ↔ (l ≤ (s.length : Int) ∧ (s.length : Int) ≤ m ∧ s.all isDigit = true) := by
  unfold pok; rw [Bool.and_eq_true, Bool.and_eq_true, decide_eq_true_eq, decide_eq_true_eq, and_assoc]
noncomputable def partR (s : List UInt8) (l m : Int) : V := .tup [.int .i64 (partI s l m), .bool (partB s l m)]
theorem partR_t {s : List UInt8} {l m : Int} (h : pok s l m = true) : partR s l m = .tup [.int .i64 (val s : Int), .bool true] := by
  unfold partR partI partB; rw [if_pos h, h]
theorem partR_f {s : List UInt8} {l m : Int} (h : ¬ pok s l m = true) : partR s l m = .tup [.int .i64 0, .bool false] := by
  unfold partR partI partB; rw [if_neg h, Bool.eq_false_iff.2 h]
theorem bytes_get (s : List UInt8) (k : Nat) (hk : k < s.length) : asInt (acell (lget (bytesV s) (k : Int)) 0) = ((s.getD k 0).toNat : Int) := by
  unfold bytesV
  rw [lget_nat, List.getD_eq_getElem?_getD, List.getElem?_map, List.getElem?_eq_getElem hk, List.getD_eq_getElem?_getD, List.getElem?_eq_getElem hk]
  rfl
theorem apart_loop (F : Nat) (K : V → Option V) (s : List UInt8) (l m u : Int) (x4 : Int) (hl : s.length ≤ 3) : ∀ (n k : Nat), k ≤ s.length → s.length - k < n → (s.take k).all isDigit = true →
    apart_L0 F [] n l m u s x4 false (val (s.take k) : Int) (bytesV s) (s.length : Int) (k : Int) l m u K = K (if s.all isDigit = true then .tup [.int .i64 (val s : Int), .bool true] else .tup [.int .i64 0, .bool false]) := by
  intro n
  induction n with
  | zero => intro k _ h; omega
  | succ n ih =>
    intro k hk hn hd
    rw [apart_L0_succ]
    have hb : (bytesV s).length = s.length := by unfold bytesV; simp
    simp only [sel_if, ilt_iff, ile_iff, band_iff, slen_nat, llen_nat, hb]
    by_cases he : k = s.length
    · rw [if_neg (by omega)]
      rw [he, List.take_length] at hd ⊢
      rw [if_pos hd]
    · have hlt : k < s.length := by omega
      rw [if_pos (by omega), if_pos (by omega), bytes_get s k hlt]
      have hmem : s.getD k 0 ∈ s := by
        rw [List.getD_eq_getElem?_getD, List.getElem?_eq_getElem hlt]
        exact List.getElem_mem hlt
      by_cases h1 : (s.getD k 0).toNat < 48
      · rw [if_pos (by omega), if_neg]
        intro ha
        have := (isDigit_iff _).1 (List.all_eq_true.1 ha _ hmem)
        omega
      · rw [if_neg (by omega)]
        by_cases h2 : 57 < (s.getD k 0).toNat
        · rw [if_pos (by omega), if_neg]
          intro ha
          have := (isDigit_iff _).1 (List.all_eq_true.1 ha _ hmem)
          omega
        · rw [if_neg (by omega)]
          have hd1 : (s.take (k + 1)).all isDigit = true := by
            rw [List.take_add_one, List.getElem?_eq_getElem hlt, List.all_append, hd]
            rw [List.getD_eq_getElem?_getD, List.getElem?_eq_getElem hlt] at h1 h2
            simp only [Option.getD_some] at h1 h2
            have : isDigit s[k] = true := (isDigit_iff _).2 ⟨by omega, by omega⟩
            simp [this]
          have hv := val_take s k hlt
          have hv3 := val_lt (s.take (k + 1)) hd1 (k + 1)
          rw [List.take_take, Nat.min_self] at hv3
          have h4 : 10 ^ (k + 1) ≤ 10 ^ 3 := Nat.pow_le_pow_right (by decide) (by omega)
          have e1 : iadd .i64 (k : Int) 1 = ((k + 1 : Nat) : Int) := by rw [iadd64 (by omega)]; rfl
          have e2 : iadd .i64 (imul .i64 (val (s.take k) : Int) 10) (icnv .i64 (isub .u8 ((s.getD k 0).toNat : Int) 48)) = (val (s.take (k + 1)) : Int) := by
            rw [isubu8 (by omega), icnv64 (by omega), imul64 (by omega), iadd64 (by omega)]; omega
          rw [e1, e2]
          exact ih (k + 1) (by omega) (by omega) hd1
theorem apart_ev (s : List UInt8) (l m u : Int) (hl : 1 ≤ l) (hm : m ≤ 3) : Contract aE 142 [.agg [.int .i64 l, .int .i64 m, .int .i64 u], .str s] (partR s l m) := by
  refine contract_of_body aE_ok aS_ok 5 1 ?_
  rw [apart_top]
  simp only [sel_if, ilt_iff, ile_iff, okStr_iff, slen_nat]
  by_cases h1 : (s.length : Int) < l
  · rw [if_pos h1, partR_f (by rw [pok_iff]; omega)]
  · rw [if_neg h1]
    by_cases h2 : m < (s.length : Int)
    · rw [if_pos h2, partR_f (by rw [pok_iff]; omega)]
    · rw [if_neg h2, if_pos (by omega)]
      have hb : llen (bytesV s) = (s.length : Int) := by unfold llen bytesV; simp
      rw [hb]
      have := apart_loop 5 some s l m u 0 (by omega) 5 0 (by omega) (by omega) rfl
      by_cases h3 : s.all isDigit = true
      · rw [partR_t (by rw [pok_iff]; exact ⟨by omega, by omega, h3⟩)]
        rw [if_pos h3] at this
        exact this
      · rw [partR_f (by rw [pok_iff]; exact fun h => h3 h.2.2)]
        rw [if_neg h3] at this
        exact this
end Nt.Ev.YteccmgkfmeoekaaDoor

set_option linter.unusedVariables false
set_option linter.unusedSimpArgs false
set_option linter.unusedSectionVars false
namespace Nt.Ev.YteccmgkfmeoekaaDoor
open Go Nt.Num Go.Proofs.YteccmgkfmeoekaaDoor
variable [MLen]
def hourL (k : Nat) : List UInt8 := text ((k / 3600 : Nat) : Int)
def posL (k : Nat) : List UInt8 := hourL k ++ ([58] ++ Amount.two (k / 60 % 60)) ++ (if 0 < k % 60 then [58] ++ Amount.two (k % 60) else [])
end Nt.Ev.YteccmgkfmeoekaaDoor

set_option linter.unusedVariables false
set_option linter.unusedSimpArgs false
set_option linter.unusedSectionVars false
namespace Nt.Ev.YteccmgkfmeoekaaDoor
open Go Nt.Num Go.Proofs.YteccmgkfmeoekaaDoor
variable [MLen]
noncomputable def tblV : List V := [(V.agg [(V.int .i64 1), (V.int .i64 3), (V.int .i64 3600)]), (V.agg [(V.int .i64 2), (V.int .i64 2), (V.int .i64 60)]), (V.agg [(V.int .i64 2), (V.int .i64 2), (V.int .i64 1)])]
theorem tbl_fold : [(V.agg [(V.int .i64 1), (V.int .i64 3), (V.int .i64 3600)]), (V.agg [(V.int .i64 2), (V.int .i64 2), (V.int .i64 60)]), (V.agg [(V.int .i64 2), (V.int .i64 2), (V.int .i64 1)])] = tblV := rfl
theorem tbl_at : ∀ k : Nat, k < 3 → asInt (acell (lget tblV (k : Int)) 0) = (Amount.least k : Int) ∧ asInt (acell (lget tblV (k : Int)) 1) = (Amount.most k : Int) ∧ asInt (acell (lget tblV (k : Int)) 2) = (Amount.unit k : Int)
  | 0, _ => ⟨rfl, rfl, rfl⟩
  | 1, _ => ⟨rfl, rfl, rfl⟩
  | 2, _ => ⟨rfl, rfl, rfl⟩
  | n + 3, h => by omega
theorem str_at (P : List (List UInt8)) (k : Nat) (hk : k < P.length) : asStr (acell (lget (strsV P) (k : Int)) 0) = P.getD k [] := by
  unfold strsV
  rw [lget_nat, List.getD_eq_getElem?_getD, List.getElem?_map, List.getElem?_eq_getElem hk, List.getD_eq_getElem?_getD, List.getElem?_eq_getElem hk]
  rfl
theorem pok_nat (s : List UInt8) (l m : Nat) : pok s (l : Int) (m : Int) = Amount.ok s l m := by
  unfold pok Amount.ok
  congr 2
  · apply decide_eq_decide.2; omega
  · apply decide_eq_decide.2; omega
theorem partB_nat (s : List UInt8) (l m : Nat) : partB s (l : Int) (m : Int) = Amount.ok s l m := pok_nat s l m
theorem partI_nat {s : List UInt8} {l m : Nat} (h : Amount.ok s l m = true) : partI s (l : Int) (m : Int) = (val s : Int) := by unfold partI; rw [pok_nat, if_pos h]
theorem ok_val {s : List UInt8} {l m : Nat} (hm : m ≤ 3) (h : Amount.ok s l m = true) : val s ≤ 999 := by
  unfold Amount.ok at h
  rw [Bool.and_eq_true, Bool.and_eq_true, decide_eq_true_eq, decide_eq_true_eq] at h
  have h3 := val_lt s h.2 s.length
  rw [List.take_length] at h3
  have h4 : 10 ^ s.length ≤ 10 ^ 3 := Nat.pow_le_pow_right (by decide) (by omega)
  omega
theorem most_le (k : Nat) : Amount.most k ≤ 3 ∧ 1 ≤ Amount.least k ∧ Amount.unit k ≤ 3600 := by
  unfold Amount.most Amount.least Amount.unit
  split <;> (try split) <;> omega
def toldV (P : List (List UInt8)) (below : Bool) : V := .tup [.int .i64 (Amount.told P below).1, .int .i64 (Amount.told P below).2]
theorem told_bad {P : List (List UInt8)} {b : Bool} {k : Nat} (hk : k < P.length) (h : ¬ Amount.ok (P.getD k []) (Amount.least k) (Amount.most k) = true) : Amount.told P b = (0, 2) := by
  have : Amount.goodK P P.length = false := by
    rw [Bool.eq_false_iff]
    intro hg
    have := Amount.goodK_le P (k + 1) P.length hk hg
    unfold Amount.goodK at this
    rw [Bool.and_eq_true] at this
    exact h this.2
  unfold Amount.told
  rw [this]; simp
theorem aread_loop (F : Nat) (K : V → Option V) (s rest : List UInt8) (x2 x3 : Int) (x6 : List V) (below : Bool) (P : List (List UInt8)) (hP : P.length ≤ 3) : ∀ (n k : Nat), k ≤ P.length → P.length - k < n →
    Amount.goodK P k = true → Amount.sumK P k ≤ k * 3596400 →
    aread_L0 F [] n s x2 x3 rest below x6 (if Amount.fitsK P k then 0 else 1) (Amount.sumK P k : Int) (strsV P) (P.length : Int) (k : Int) K = K (toldV P below) := by
  intro n
  induction n with
  | zero => intro k _ h; omega
  | succ n ih =>
    intro k hk hn hg hs
    rw [aread_L0_succ]
    by_cases he : k = P.length
    · subst he
      simp only [sel_if, ilt_iff, ile_iff, ieq_iff, bnot_iff]
      rw [if_neg (by omega)]
      unfold toldV Amount.told
      rw [decide_eq_false (by omega : ¬ 3 < P.length), hg]
      by_cases hf : Amount.fitsK P P.length = true
      · rw [if_pos hf, if_neg (by omega), hf]
        by_cases h6 : 604800 ≤ Amount.sumK P P.length
        · rw [if_pos (by omega), decide_eq_true h6]; rfl
        · rw [if_neg (by omega), decide_eq_false h6]
          cases below with
          | true =>
            rw [if_pos rfl, isub64 (by omega)]
            simp
          | false => rw [if_neg (by simp)]; rfl
      · rw [if_neg hf, if_pos (by omega), Bool.eq_false_iff.2 hf]; rfl
    · have hlt : k < P.length := by omega
      have hl : (strsV P).length = P.length := strsV_len P
      obtain ⟨t0, t1, t2⟩ := tbl_at k (by omega)
      obtain ⟨m1, m2, m3⟩ := most_le k
      simp only [tbl_fold, t0, t1, t2, str_at P k hlt, partB_nat]
      rw [sel_pos (ilt_t (by omega)), sel_pos (by rw [band_iff]; exact ⟨ile_t (by omega), ilt_t (by rw [llen_nat, hl]; omega)⟩), sel_pos (by rw [band_iff]; exact ⟨ile_t (by omega), ilt_t (by omega)⟩), sel_pos (by rw [band_iff]; exact ⟨ile_t (by omega), ile_t (by omega)⟩)]
      by_cases hok : Amount.ok (P.getD k []) (Amount.least k) (Amount.most k) = true
      · have hv := ok_val m1 hok
        simp only [partI_nat hok]
        rw [sel_neg (by rw [hok]; rfl)]
        have hmul : val (P.getD k []) * Amount.unit k ≤ 999 * 3600 := Nat.mul_le_mul hv m3
        have e1 : iadd .i64 (k : Int) 1 = ((k + 1 : Nat) : Int) := by rw [iadd64 (by omega)]; rfl
        have e2 : iadd .i64 (Amount.sumK P k : Int) (imul .i64 (val (P.getD k []) : Int) (Amount.unit k : Int)) = ((Amount.sumK P (k + 1) : Nat) : Int) := by
          have e3 : (val (P.getD k []) : Int) * (Amount.unit k : Int) = ((val (P.getD k []) * Amount.unit k : Nat) : Int) := by rw [Int.natCast_mul]
          rw [imul64 (by rw [e3]; omega), e3, iadd64 (by omega)]
          show _ = ((Amount.sumK P k + val (P.getD k []) * Amount.unit k : Nat) : Int)
          omega
        have hg1 : Amount.goodK P (k + 1) = true := by unfold Amount.goodK; rw [hg, hok]; rfl
        have hs1 : Amount.sumK P (k + 1) ≤ (k + 1) * 3596400 := by
          show Amount.sumK P k + val (P.getD k []) * Amount.unit k ≤ _
          omega
        have hnext := ih (k + 1) (by omega) (by omega) hg1 hs1
        have hb3 : band (ile 0 (k : Int)) (ilt (k : Int) 3) = true := by rw [band_iff]; exact ⟨ile_t (by omega), ilt_t (by omega)⟩
        rw [e1, e2]
        by_cases hk0 : k = 0
        · rw [sel_neg (ilt_f (by omega)), sel_pos hb3]
          have : Amount.fitsK P (k + 1) = Amount.fitsK P k := by
            show (Amount.fitsK P k && (decide (k = 0) || _)) = _
            rw [decide_eq_true hk0]; simp
          rw [← this]
          exact hnext
        · rw [sel_pos (ilt_t (by omega))]
          by_cases h60 : 60 ≤ val (P.getD k [])
          · rw [sel_pos (ile_t (by omega)), sel_pos hb3]
            have : Amount.fitsK P (k + 1) = false := by
              show (Amount.fitsK P k && (decide (k = 0) || decide (val (P.getD k []) ≤ 59))) = _
              rw [decide_eq_false hk0, decide_eq_false (by omega)]; simp
            rw [this] at hnext
            exact hnext
          · rw [sel_neg (ile_f (by omega)), sel_pos hb3]
            have : Amount.fitsK P (k + 1) = Amount.fitsK P k := by
              show (Amount.fitsK P k && (decide (k = 0) || decide (val (P.getD k []) ≤ 59))) = _
              rw [decide_eq_false hk0, decide_eq_true (by omega)]; simp
            rw [← this]
            exact hnext
      · rw [sel_pos (by rw [bnot_iff]; exact hok)]
        unfold toldV
        rw [told_bad hlt hok]
def readV (s : List UInt8) : V := .tup [.int .i64 (Amount.read s).1, .int .i64 (Amount.read s).2]
theorem readS_ok (l m u : Int) (s : List UInt8) (hc : band (ile 1 l) (ile m 3) = true) : Contract aE 142 [.agg [.int .i64 l, .int .i64 m, .int .i64 u], .str s] (.tup [.int .i64 (partI s l m), .bool (partB s l m)]) := by
  rw [band_iff, ile_iff, ile_iff] at hc
  exact apart_ev _ _ _ _ hc.1 hc.2
theorem bS_ok : SOk aE bS := by
  unfold bS
  refine SOk.cons (fun args r h => ?_) (aS_ok)
  · unfold readS at h
    split at h
    · simp only [Option.some.injEq, Prod.mk.injEq] at h
      obtain ⟨hc, rfl⟩ := h
      exact readS_ok _ _ _ _ hc
    · cases h
theorem told_many {P : List (List UInt8)} {b : Bool} (h : 3 < P.length) : Amount.told P b = (0, 2) := by
  unfold Amount.told
  rw [decide_eq_true h]; rfl
theorem pieces_llen (s : List UInt8) : llen (piecesV s) = ((Amount.pieces s).length : Int) := by unfold llen piecesV; rw [strsV_len]
theorem aread_ev (s : List UInt8) (hs : s.length ≤ 1000) : Contract aE 117 [.str s] (readV s) := by
  refine contract_of_body aE_ok bS_ok 5 3 ?_
  rw [aread_top]
  have rest : ∀ (d : List UInt8) (below : Bool), d.length ≤ 1000 → sel (band (seq [58] [58]) (ile (slen d) 1000))
        (sel (ilt 3 (llen (piecesV d)))
          (some (V.tup [(V.int .i64 0), (V.int .i64 2)]))
          (aread_L0 5 [] 5 s 0 0 d below (piecesV d) 0 0 (piecesV d) (llen (piecesV d)) 0 some))
        (none) = some (toldV (Amount.pieces d) below) := by
    intro d below hd
    rw [sel_pos (by rw [band_iff]; exact ⟨rfl, ile_t (by rw [slen_nat]; omega)⟩), pieces_llen]
    by_cases h3 : 3 < (Amount.pieces d).length
    · rw [sel_pos (ilt_t (by omega))]
      unfold toldV
      rw [told_many h3]
    · rw [sel_neg (ilt_f (by omega))]
      exact aread_loop 5 some s d 0 0 (piecesV d) below (Amount.pieces d) (by omega) 5 0 (by omega) (by omega) rfl (by show 0 ≤ _; omega)
  cases s with
  | nil =>
    rw [sel_neg (ile_f (by decide))]
    exact rest [] false (by simp)
  | cons c t =>
    have hlen : slen (c :: t) = (t.length : Int) + 1 := by rw [slen_nat, List.length_cons]; omega
    have e1 : ssub (c :: t) 0 (slen [45]) = [c] := rfl
    have e2 : ssub (c :: t) (slen [45]) (slen (c :: t)) = t := by
      rw [show slen [45] = ((1 : Nat) : Int) from rfl, slen_nat, ssub_nat]
      simp
    have h45 : slen [45] = 1 := rfl
    rw [e1, e2, sel_pos (ile_t (by rw [h45, hlen]; omega)), sel_pos (by rw [band_iff]; exact ⟨by decide, ile_t (by rw [h45, hlen]; omega)⟩)]
    by_cases hc : c = 45
    · subst hc
      rw [sel_neg (by decide), sel_pos (by rw [band_iff]; exact ⟨by decide, ile_t (by rw [h45, hlen]; omega)⟩)]
      by_cases ht : t = []
      · subst ht
        rw [sel_pos (by decide)]
        rfl
      · rw [sel_neg (by rw [Bool.eq_false_iff, ne_eq, seq_iff]; exact ht), rest t true (by simp at hs; omega)]
        unfold readV Amount.read
        rw [if_neg (by simpa using ht)]
        rfl
    · rw [sel_pos (by rw [bnot_iff, seq_iff]; simpa using hc), rest (c :: t) false hs]
      have hm : minus (c :: t) = false := by unfold minus; simpa using hc
      unfold readV Amount.read bare
      rw [if_neg (by simp [hc]), hm]
      rfl
end Nt.Ev.YteccmgkfmeoekaaDoor

set_option linter.unusedVariables false
set_option linter.unusedSimpArgs false
set_option linter.unusedSectionVars false
namespace Nt.Ev.YteccmgkfmeoekaaDoor
open Go Nt.Num Go.Proofs.YteccmgkfmeoekaaDoor
variable [MLen]
theorem hour_digs (k : Nat) : hourL k = digs (k / 3600) := by
  unfold hourL text
  rw [if_neg (by omega), Int.natAbs_natCast]; rfl
theorem digs_ok (n : Nat) (f : Nat) (h0 : 0 < f) (h : n < 10 ^ f) (hf : f ≤ 3) : Amount.ok (digs n) 1 3 = true ∧ val (digs n) = n := by
  have h1 := digs_len f n h h0
  have h2 := digs_all (n + 1) n (by omega)
  refine ⟨?_, val_digs (n + 1) n (by omega)⟩
  unfold Amount.ok
  rw [h2.1, decide_eq_true (by omega : 1 ≤ (digs n).length), decide_eq_true (by omega : (digs n).length ≤ 3)]; rfl
theorem hour_ok (k : Nat) (h : k ≤ 604799) : Amount.ok (hourL k) 1 3 = true ∧ val (hourL k) = k / 3600 := by
  rw [hour_digs]
  exact digs_ok _ 3 (by decide) (by omega) (by decide)
def tailL (k : Nat) : List UInt8 := (if 0 < k % 60 then [58] ++ Amount.two (k % 60) else [])
theorem told_pos (p : List UInt8) (k : Nat) (hk : k ≤ 604799) (hp : Amount.ok p 1 3 = true) (hv : val p = k / 3600) (b : Bool) :
    Amount.told (Amount.pieces (p ++ ([58] ++ Amount.two (k / 60 % 60)) ++ tailL k)) b = (if b then -(k : Int) else (k : Int), 0) := by
  obtain ⟨m1, m2⟩ := Amount.two_ok ⟨k / 60 % 60, by omega⟩
  obtain ⟨s1, s2⟩ := Amount.two_ok ⟨k % 60, by omega⟩
  simp only at m1 m2 s1 s2
  unfold tailL
  by_cases h : 0 < k % 60
  · rw [if_pos h, Amount.pieces3 hp m1 s1, Amount.told3 hp m1 s1, hv, m2, s2, if_neg (by omega)]
    have : k / 3600 * 3600 + k / 60 % 60 * 60 + k % 60 = k := by omega
    rw [this]
  · rw [if_neg h, List.append_nil, Amount.pieces2 hp m1, Amount.told2 hp m1 (by omega) (by omega), hv, m2]
    have : k / 3600 * 3600 + k / 60 % 60 * 60 = k := by omega
    rw [this]
theorem read_digit {c : UInt8} {t : List UInt8} (h : c ≠ 45) : Amount.read (c :: t) = Amount.told (Amount.pieces (c :: t)) false := by
  have hm : minus (c :: t) = false := by unfold minus; simpa using h
  unfold Amount.read bare
  rw [if_neg (by simp [h]), hm]; rfl
theorem read_minus {t : List UInt8} (h : t ≠ []) : Amount.read ([45] ++ t) = Amount.told (Amount.pieces t) true := by
  unfold Amount.read
  rw [if_neg (by simpa using h)]
  rfl
theorem pos_head (k : Nat) (h : k ≤ 604799) : ∃ c t, hourL k = c :: t ∧ c ≠ 45 := by
  have ho := (hour_ok k h).1
  unfold Amount.ok at ho
  rw [Bool.and_eq_true, Bool.and_eq_true, decide_eq_true_eq] at ho
  cases e : hourL k with
  | nil => rw [e] at ho; simp at ho
  | cons c t =>
    refine ⟨c, t, rfl, fun hc => ?_⟩
    have := List.all_eq_true.1 ho.2 c (by rw [e]; exact .head _)
    rw [hc] at this
    exact absurd this (by decide)
theorem posL_eq (k : Nat) : posL k = hourL k ++ ([58] ++ Amount.two (k / 60 % 60)) ++ tailL k := rfl
end Nt.Ev.YteccmgkfmeoekaaDoor
