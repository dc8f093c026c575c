/-
  Fields of a line: the plain law. Fields of a line, one at a time: the plain law. Fields: equations of functions, as the evaluator prints them. Fields: a field's text on both sides, the document's fields. Fields2: equations of functions, as the evaluator prints them. Fields: functions of the library that the cutter calls. Fields3: equations of functions, as the evaluator prints them. Fields: the cutter's next field. Join: equations of functions, as the evaluator prints them. strings.Join. Fields4: equations of functions, as the evaluator prints them. Fields: lines that are cut, fields that are joined, on both sides; whether rows of strings are the same. FieldsLaw: equations of functions, as the evaluator prints them. Fields: the three statements.
-/
import Derived.Test.YtjkfndcpiihniaaGreatDoorMBB
import Derived.Test.YtjkfndcpiihniaaGreatDoorMC
import Derived.Test.YtjkfndcpiihniaaGreatDoorMD
import Derived.Test.YtjkfndcpiihniaaGreatDoorMS
import Derived.Shelf.Strings.SlTrimAscii
import Derived.Test.YtjkfndcpiihniaaGreatDoorMP
set_option linter.unusedVariables false
set_option linter.unusedSimpArgs false
namespace Nt.Fld
open Go Nt.Ev
def finF (out : List (List UInt8)) : List (List UInt8) × Int := if 16 < out.length then ([], 6) else (out, 0)
def pushF (op : Bool) (out : List (List UInt8)) (f : List UInt8) : List (List UInt8) := sel op (out ++ [f]) out
def ofR : List UInt8 → List (List UInt8) → List UInt8 → Bool → Bool → List (List UInt8) × Int
  | [], out, f, op, qu => sel qu ([], 8) (finF (pushF op out f))
  | c :: t, out, f, op, qu => sel qu
      (sel (c == 34) (ofR t out f op false) (ofR t out (f ++ [c]) op true))
      (sel (c == 35) (finF (pushF op out f)) (sel (c == 9) (ofR t (pushF op out f) [] false false) (sel (c == 32) (ofR t (pushF op out f) [] false false)
        (sel (c == 34) (ofR t out f true true) (ofR t out (f ++ [c]) true false)))))
def ofP (s : List UInt8) : List (List UInt8) × Int := ofR s [] [] false false
def spB (c : UInt8) : Bool := c == 9 || c == 32 || c == 35
def txP (s : List UInt8) : List UInt8 × Int := if s.contains 34 = true then ([], 8) else if s = [] ∨ s.any spB = true then ([34] ++ s ++ [34], 0) else (s, 0)
def joinR : List (List UInt8) → List UInt8 × Int
  | [] => ([], 0)
  | x :: l => if (txP x).2 = 0 then (if (joinR l).2 = 0 then ([32] ++ (txP x).1 ++ (joinR l).1, 0) else ([], (joinR l).2)) else ([], (txP x).2)
def joinP (l : List (List UInt8)) : List UInt8 × Int := if 16 < l.length then ([], 6) else if (joinR l).2 = 0 then ((joinR l).1.drop 1, 0) else ([], (joinR l).2)
theorem tx_err (x : List UInt8) : (txP x).2 = 0 ∨ (txP x).2 = 8 := by
  unfold txP
  (repeat' split) <;> simp
theorem tx_ok {x : List UInt8} (h : (txP x).2 = 0) : x.contains 34 = false := by
  unfold txP at h
  cases e : x.contains 34 with
  | false => rfl
  | true => rw [e, if_pos rfl] at h; cases h
theorem of_quoted (rest : List UInt8) (out : List (List UInt8)) (op : Bool) : ∀ (x f : List UInt8), x.contains 34 = false → ofR (x ++ rest) out f op true = ofR rest out (f ++ x) op true
  | [], f, _ => by simp
  | c :: x, f, h => by
    rw [List.contains_cons, Bool.or_eq_false_iff] at h
    have hc : (c == 34) = false := by
      rw [beq_eq_false_iff_ne] at h ⊢
      exact fun e => h.1 e.symm
    show sel true (sel (c == 34) _ (ofR (x ++ rest) out (f ++ [c]) op true)) _ = _
    rw [hc]
    show ofR (x ++ rest) out (f ++ [c]) op true = _
    rw [of_quoted rest out op x (f ++ [c]) h.2]; simp
theorem of_plain (rest : List UInt8) (out : List (List UInt8)) : ∀ (x f : List UInt8) (op : Bool), x.contains 34 = false → x.any spB = false → ofR (x ++ rest) out f op false = ofR rest out (f ++ x) (op || !x.isEmpty) false
  | [], f, op, _, _ => by simp
  | c :: x, f, op, h, h2 => by
    rw [List.contains_cons, Bool.or_eq_false_iff] at h
    have hc : (c == 34) = false := by
      rw [beq_eq_false_iff_ne] at h ⊢
      exact fun e => h.1 e.symm
    rw [List.any_cons, Bool.or_eq_false_iff] at h2
    have h3 := h2.1
    unfold spB at h3
    rw [Bool.or_eq_false_iff, Bool.or_eq_false_iff] at h3
    show sel false _ (sel (c == 35) _ (sel (c == 9) _ (sel (c == 32) _ (sel (c == 34) _ (ofR (x ++ rest) out (f ++ [c]) true false))))) = _
    rw [h3.2, h3.1.1, h3.1.2, hc]
    show ofR (x ++ rest) out (f ++ [c]) true false = _
    rw [of_plain rest out x (f ++ [c]) true h.2 h2.2]
    simp
theorem of_text (x rest : List UInt8) (out : List (List UInt8)) (h : (txP x).2 = 0) : ofR ((txP x).1 ++ rest) out [] false false = ofR rest out x true false := by
  have hc := tx_ok h
  unfold txP
  rw [hc, if_neg (by decide)]
  by_cases h1 : x = [] ∨ x.any spB = true
  · rw [if_pos h1]
    show ofR ([34] ++ x ++ [34] ++ rest) out [] false false = _
    have e : [34] ++ x ++ [34] ++ rest = 34 :: (x ++ (34 :: rest)) := by simp
    rw [e]
    show ofR (x ++ (34 :: rest)) out [] true true = _
    rw [of_quoted (34 :: rest) out true x [] hc]
    rfl
  · rw [if_neg h1]
    have h2 : x ≠ [] := fun e => h1 (.inl e)
    have h3 : x.any spB = false := by
      cases e : x.any spB with
      | false => rfl
      | true => exact absurd (.inr e) h1
    show ofR (x ++ rest) out [] false false = _
    rw [of_plain rest out x [] false hc h3]
    cases x with
    | nil => exact absurd rfl h2
    | cons c t => rfl
def blankB (c : UInt8) : Bool := c == 9 || c == 32
theorem of_blank (c : UInt8) (rest : List UInt8) (out : List (List UInt8)) (f : List UInt8) (op : Bool) (h : blankB c = true) : ofR (c :: rest) out f op false = ofR rest (pushF op out f) [] false false := by
  unfold blankB at h
  have hc : c = 9 ∨ c = 32 := by simpa using h
  rcases hc with rfl | rfl <;> rfl
theorem of_joinR (rest : List UInt8) : ∀ (l : List (List UInt8)) (out : List (List UInt8)) (f : List UInt8), (joinR l).2 = 0 → ofR ((joinR l).1 ++ rest) out f true false = ofR rest (out ++ ((f :: l).dropLast)) ((f :: l).getLast (by simp)) true false
  | [], out, f, _ => by simp [joinR]
  | x :: l, out, f, h => by
    unfold joinR at h ⊢
    by_cases h1 : (txP x).2 = 0
    · rw [if_pos h1] at h ⊢
      by_cases h2 : (joinR l).2 = 0
      · rw [if_pos h2]
        show ofR ([32] ++ (txP x).1 ++ (joinR l).1 ++ rest) out f true false = _
        have e : [32] ++ (txP x).1 ++ (joinR l).1 ++ rest = 32 :: ((txP x).1 ++ ((joinR l).1 ++ rest)) := by simp
        rw [e, of_blank 32 _ out f true rfl, of_text x _ _ h1]
        rw [of_joinR rest l (pushF true out f) x h2]
        have e2 : pushF true out f = out ++ [f] := rfl
        rw [e2]
        congr 1
        simp [List.dropLast_cons_of_ne_nil]
      · rw [if_neg h2] at h; exact absurd h h2
    · rw [if_neg h1] at h; exact absurd h h1
theorem join_ok {l : List (List UInt8)} (h : (joinP l).2 = 0) : l.length ≤ 16 ∧ (joinR l).2 = 0 ∧ (joinP l).1 = (joinR l).1.drop 1 := by
  unfold joinP at h ⊢
  by_cases h1 : 16 < l.length
  · rw [if_pos h1] at h; cases h
  · rw [if_neg h1] at h ⊢
    by_cases h2 : (joinR l).2 = 0
    · rw [if_pos h2]; exact ⟨by omega, h2, rfl⟩
    · rw [if_neg h2] at h; exact absurd h h2
theorem of_join (l : List (List UInt8)) (h : (joinP l).2 = 0) : ofP (joinP l).1 = (l, 0) := by
  obtain ⟨h1, h2, h3⟩ := join_ok h
  rw [h3]
  cases l with
  | nil => rfl
  | cons x l =>
    unfold joinR at h2 ⊢
    by_cases h4 : (txP x).2 = 0
    · rw [if_pos h4] at h2 ⊢
      by_cases h5 : (joinR l).2 = 0
      · rw [if_pos h5]
        have e : ([32] ++ (txP x).1 ++ (joinR l).1).drop 1 = (txP x).1 ++ (joinR l).1 := by simp
        show ofR (([32] ++ (txP x).1 ++ (joinR l).1).drop 1) [] [] false false = _
        rw [e, of_text x _ _ h4]
        have := of_joinR [] l [] x h5
        rw [List.append_nil] at this
        rw [this]
        show finF (pushF true ([] ++ (x :: l).dropLast) ((x :: l).getLast _)) = _
        have e3 : pushF true ([] ++ (x :: l).dropLast) ((x :: l).getLast (by simp)) = x :: l := by
          show ([] ++ (x :: l).dropLast) ++ [(x :: l).getLast _] = _
          rw [List.nil_append, List.dropLast_concat_getLast]
        rw [e3]
        unfold finF
        rw [if_neg (by omega)]
      · rw [if_neg h5] at h2; exact absurd h2 h5
    · rw [if_neg h4] at h2; exact absurd h2 h4
theorem tx_some {x : List UInt8} (h : x.contains 34 = false) : (txP x).2 = 0 := by
  unfold txP
  rw [h, if_neg (by decide)]
  split <;> rfl
theorem joinR_ok : ∀ (l : List (List UInt8)), (∀ x ∈ l, x.contains 34 = false) → (joinR l).2 = 0
  | [], _ => rfl
  | x :: l, h => by
    unfold joinR
    rw [if_pos (tx_some (h x List.mem_cons_self)), if_pos (joinR_ok l fun y hy => h y (List.mem_cons_of_mem _ hy))]
end Nt.Fld

namespace Nt.Fld
open Go Nt.Ev
def upTo (t : List UInt8) : List UInt8 := t.takeWhile fun c => c != 34
def behind (t : List UInt8) : List UInt8 := t.drop ((upTo t).length + 1)
def ndL : Nat → List UInt8 → List UInt8 → Bool × List UInt8 × List UInt8
  | 0, s, f => (false, f, s)
  | n + 1, [], f => (false, f, [])
  | n + 1, c :: t, f => sel (spB c) (false, f, c :: t) (sel (c == 34) (sel (t.contains 34) (ndL n (behind t) (f ++ upTo t)) (true, f, t)) (ndL n t (f ++ [c])))
end Nt.Fld

set_option linter.unusedSectionVars false
namespace Nt.Ev.YtjkfndcpiihniaaGreatDoor
set_option maxRecDepth 100000
open Go Nt.Num Go.Proofs.YtjkfndcpiihniaaGreatDoor
open Nt.Num
def ixF (s c : List UInt8) : Int := Go.Lib.indexAny s c
def asciiFd (l : List UInt8) : Bool := l.all fun c => decide (c.toNat < 128)
noncomputable def hE : Env := ⟨Go.Proofs.Tryz.prog, fun _ => none⟩
def idxFB (s : List UInt8) (c : Int) : Int := Go.Lib.indexByte s c.toNat.toUInt8
noncomputable def hAnyS : FSpec := fun a => match a with | [.str s, .str c] => some (band (ile (slen s) 4000000) (band (band (ile 2 (slen c)) (ile (slen c) 1000)) (asciiFd c)), .int .i64 (ixF s c)) | _ => none
noncomputable def hRuneS : FSpec := fun a => match a with | [.str s, .int .i32 r] => some (band (ile 0 r) (ilt r 128), .int .i64 (idxFB s r)) | _ => none
noncomputable def hS0 : List (Nat × FSpec) := (111, hAnyS) :: (110, hRuneS) :: []
def ftT (s : List UInt8) : List UInt8 := (Nt.Fld.txP s).1
def ftW (s : List UInt8) : Int := (Nt.Fld.txP s).2
noncomputable def hTextS : FSpec := fun a => match a with | [.str s] => some (ile (slen s) 4000000, .tup [.str (ftT s), .int .i64 (ftW s)]) | _ => none
noncomputable def hS1 : List (Nat × FSpec) := (71, hTextS) :: (84, hTextS) :: hS0
theorem fText_top (F : Nat) (s : List UInt8) (K : V → Option V) :
 evBd hE (evFn hE hS0 F 4) F 71 [(V.str s)] K =
 sel (ile 0 (idxFB s 34))
 (K (V.tup [(V.str []), (V.int .i64 8)]))
 (sel (seq s [])
 (sel (okCat [34] s)
 (sel (okCat (scat [34] s) [34])
 (K (V.tup [(V.str (scat (scat [34] s) [34])), (V.int .i64 0)]))
 (none))
 (none))
 (sel (band (ile (slen s) 4000000) (band (band (ile 2 (slen [32, 9, 35])) (ile (slen [32, 9, 35]) 1000)) (asciiFd [32, 9, 35])))
 (sel (ile 0 (ixF s [32, 9, 35]))
 (sel (okCat [34] s)
 (sel (okCat (scat [34] s) [34])
 (K (V.tup [(V.str (scat (scat [34] s) [34])), (V.int .i64 0)]))
 (none))
 (none))
 (K (V.tup [(V.str s), (V.int .i64 0)])))
 (none))) := by kernel_rfl
noncomputable def rText14_L0 (F : Nat) (ns : List Nat) (n : Nat) (x0 : List UInt8) (x2 : List UInt8) (x3 : Int) (x4 : Bool) (x5 : Int) (K : V → Option V) : Option V :=
 loopAt hE hS0 F 3 84 [1, 1, 0, 1, 0] ns K n (mkSt 33 [(0, V.str x0), (2, V.str x2), (3, V.int .i64 x3), (4, V.bool x4), (5, V.int .i64 x5)] [])
theorem rText14_top (F : Nat) (s : List UInt8) (K : V → Option V) :
 evBd hE (evFn hE hS0 F 3) F 84 [(V.str s)] K =
 rText14_L0 F [] F s [] 0 (bnot (seq s [])) 0 K := by kernel_rfl
theorem rText14_L0_succ (F : Nat) (n : Nat) (x0 : List UInt8) (x2 : List UInt8) (x3 : Int) (x4 : Bool) (x5 : Int) (K : V → Option V) :
 rText14_L0 F [] (n + 1) x0 x2 x3 x4 x5 K =
 sel (ilt x5 (slen x0))
 (sel (band (ile 0 x5) (ilt x5 (slen x0)))
 (sel (ieq (sat x0 x5) 34)
 (K (V.tup [(V.str []), (V.int .i64 8)]))
 (sel (band (ile 0 x5) (ilt x5 (slen x0)))
 (sel (ieq (sat x0 x5) 9)
 (rText14_L0 F [] n x0 x2 x3 false (iadd .i64 x5 1) K)
 (sel (ieq (sat x0 x5) 32)
 (rText14_L0 F [] n x0 x2 x3 false (iadd .i64 x5 1) K)
 (sel (band (ile 0 x5) (ilt x5 (slen x0)))
 (sel (ieq (sat x0 x5) 35)
 (rText14_L0 F [] n x0 x2 x3 false (iadd .i64 x5 1) K)
 (rText14_L0 F [] n x0 x2 x3 x4 (iadd .i64 x5 1) K))
 (none))))
 (none)))
 (none))
 (sel x4
 (K (V.tup [(V.str x0), (V.int .i64 0)]))
 (sel (okCat [34] x0)
 (sel (okCat (scat [34] x0) [34])
 (K (V.tup [(V.str (scat (scat [34] x0) [34])), (V.int .i64 0)]))
 (none))
 (none))) := by kernel_rfl
noncomputable def rJoin14_L0 (F : Nat) (ns : List Nat) (n : Nat) (x0 : List V) (x2 : List UInt8) (x3 : Int) (x4 : List UInt8) (x12 : List V) (x13 : Int) (x14 : Int) (K : V → Option V) : Option V :=
 loopAt hE hS1 F 3 56 [1, 1, 1, 0, 1, 0] ns K n (mkSt 36 [(0, V.sl 9 [(Kd.str)] none x0), (2, V.str x2), (3, V.int .i64 x3), (4, V.str x4), (12, V.sl 9 [(Kd.str)] none x12), (13, V.int .i64 x13), (14, V.int .i64 x14)] [])
theorem rJoin14_top (F : Nat) (xs : List V) (K : V → Option V) :
 evBd hE (evFn hE hS1 F 3) F 56 [(V.sl 9 [(Kd.str)] none xs)] K =
 sel (ilt 16 (llen xs))
 (K (V.tup [(V.str []), (V.int .i64 6)]))
 (rJoin14_L0 F [] F xs [] 0 [] xs (llen xs) 0 K) := by kernel_rfl
theorem rJoin14_L0_succ (F : Nat) (n : Nat) (x0 : List V) (x2 : List UInt8) (x3 : Int) (x4 : List UInt8) (x12 : List V) (x13 : Int) (x14 : Int) (K : V → Option V) :
 rJoin14_L0 F [] (n + 1) x0 x2 x3 x4 x12 x13 x14 K =
 sel (ilt x14 x13)
 (sel (band (ile 0 x14) (ilt x14 (llen x12)))
 (sel (ile (slen (asStr (acell (lget x12 x14) 0))) 4000000)
 (sel (bnot (ieq (ftW (asStr (acell (lget x12 x14) 0))) 0))
 (K (V.tup [(V.str []), (V.int .i64 (ftW (asStr (acell (lget x12 x14) 0))))]))
 (sel (ilt 0 x14)
 (sel (okCat x4 [32])
 (sel (okCat (scat x4 [32]) (ftT (asStr (acell (lget x12 x14) 0))))
 (rJoin14_L0 F [] n x0 x2 x3 (scat (scat x4 [32]) (ftT (asStr (acell (lget x12 x14) 0)))) x12 x13 (iadd .i64 x14 1) K)
 (none))
 (none))
 (sel (okCat x4 (ftT (asStr (acell (lget x12 x14) 0))))
 (rJoin14_L0 F [] n x0 x2 x3 (scat x4 (ftT (asStr (acell (lget x12 x14) 0)))) x12 x13 (iadd .i64 x14 1) K)
 (none))))
 (none))
 (none))
 (K (V.tup [(V.str x4), (V.int .i64 0)])) := by kernel_rfl
end Nt.Ev.YtjkfndcpiihniaaGreatDoor

namespace Nt.Ev.YtjkfndcpiihniaaGreatDoor
set_option maxRecDepth 100000
open Go Go.RowKit Nt Nt.Num Nt.Fld Go.Proofs.YtjkfndcpiihniaaGreatDoor
theorem hE_ok : EOk hE := ⟨by kernel_rfl, by kernel_rfl⟩
theorem len_h {s : List UInt8} (h : ile (slen s) 4000000 = true) : s.length ≤ 4000000 := by rw [ile_iff, slen_nat] at h; omega
theorem ba_sz (l : List UInt8) : (⟨l.toArray⟩ : ByteArray).size = l.length := by simp [ByteArray.size]
theorem hAnyS_ok (s c : List UInt8) (hc : band (ile (slen s) 4000000) (band (band (ile 2 (slen c)) (ile (slen c) 1000)) (asciiFd c)) = true) : Contract hE 111 [.str s, .str c] (.int .i64 (ixF s c)) := by
  obtain ⟨h1, h2⟩ := band_true hc
  obtain ⟨h2, h3⟩ := band_true h2
  obtain ⟨h2, h4⟩ := band_true h2
  have h1 := len_h h1
  rw [ile_iff, slen_nat] at h2 h4
  refine contract_old fun G w vs hG hg hp => ?_
  obtain ⟨x, y, rfl, hx, hy⟩ := PW_two hp
  unfold rep at hx hy
  subst hx; subst hy
  refine (Nt.AnyS.index_any Go.Proofs.Tryz.lays153 (by kernel_rfl) ⟨s.toArray⟩ ⟨c.toArray⟩ w (by rw [ba_sz]; omega) (by rw [ba_sz]; omega) (by rw [ba_sz]; omega) (fun b hb => ?_)).mono ?_
  · have h3 : (c.all fun c => decide (c.toNat < 128)) = true := h3
    exact of_decide_eq_true (List.all_eq_true.1 h3 b hb)
  · rintro e w' ⟨rfl, hb⟩
    exact ⟨_, rfl, hb, res_int _ _⟩
theorem hRuneS_ok (s : List UInt8) (r : Int) (hc : band (ile 0 r) (ilt r 128) = true) : Contract hE 110 [.str s, .int .i32 r] (.int .i64 (idxFB s r)) := by
  rw [band_iff, ile_iff, ilt_iff] at hc
  refine contract_old fun G w vs hG hg hp => ?_
  obtain ⟨x, y, rfl, hx, hy⟩ := PW_two hp
  unfold rep at hx hy
  subst hx; subst hy
  refine (Go.Proofs.Tryz.strings_IndexRune_ascii ⟨s.toArray⟩ r w hc.1 hc.2).mono ?_
  rintro e w' ⟨rfl, rfl⟩
  exact ⟨_, rfl, Below.refl _ _, res_int _ _⟩
theorem hS0_ok : SOk hE hS0 := by
  unfold hS0
  refine SOk.cons (fun args r h => ?_) (SOk.cons (fun args r h => ?_) (SOk.nil))
  · unfold hAnyS at h
    split at h
    · simp only [Option.some.injEq, Prod.mk.injEq] at h
      obtain ⟨hc, rfl⟩ := h
      exact hAnyS_ok _ _ hc
    · cases h
  · unfold hRuneS at h
    split at h
    · simp only [Option.some.injEq, Prod.mk.injEq] at h
      obtain ⟨hc, rfl⟩ := h
      exact hRuneS_ok _ _ hc
    · cases h
theorem ib_cons (b c : UInt8) (l : List UInt8) : Lib.indexByte (b :: l) c = if b == c then 0 else if Lib.indexByte l c == -1 then -1 else Lib.indexByte l c + 1 := rfl
theorem ib_has : ∀ (l : List UInt8) (c : UInt8), -1 ≤ Lib.indexByte l c ∧ ((0 ≤ Lib.indexByte l c) ↔ l.contains c = true)
  | [], c => ⟨show (-1 : Int) ≤ -1 by decide, by simp [Lib.indexByte]⟩
  | b :: l, c => by
    obtain ⟨h1, h2⟩ := ib_has l c
    rw [ib_cons, List.contains_cons]
    cases hb : b == c with
    | true =>
      have : (c == b) = true := by rw [beq_iff_eq] at hb ⊢; exact hb.symm
      rw [this]; simp
    | false =>
      have : (c == b) = false := by rw [beq_eq_false_iff_ne] at hb ⊢; exact fun e => hb e.symm
      rw [this, Bool.false_or, if_neg (by decide)]
      by_cases h : Lib.indexByte l c = -1
      · rw [if_pos (by rw [h]; rfl)]
        refine ⟨by decide, ?_⟩
        rw [← h2]; omega
      · rw [if_neg (by simpa using h)]
        refine ⟨by omega, ?_⟩
        rw [← h2]; omega
theorem ia_cons (b : UInt8) (l c : List UInt8) : Lib.indexAny (b :: l) c = if c.contains b then 0 else if Lib.indexAny l c == -1 then -1 else Lib.indexAny l c + 1 := rfl
theorem ia_has (c : List UInt8) : ∀ (l : List UInt8), -1 ≤ Lib.indexAny l c ∧ ((0 ≤ Lib.indexAny l c) ↔ l.any (fun b => c.contains b) = true)
  | [] => ⟨show (-1 : Int) ≤ -1 by decide, by simp [Lib.indexAny]⟩
  | b :: l => by
    obtain ⟨h1, h2⟩ := ia_has c l
    rw [ia_cons, List.any_cons]
    cases hb : c.contains b with
    | true => simp
    | false =>
      rw [Bool.false_or, if_neg (by decide)]
      by_cases h : Lib.indexAny l c = -1
      · rw [if_pos (by rw [h]; rfl)]
        refine ⟨by decide, ?_⟩
        rw [← h2]; omega
      · rw [if_neg (by simpa using h)]
        refine ⟨by omega, ?_⟩
        rw [← h2]; omega
theorem sp_any (s : List UInt8) : s.any (fun b => ([32, 9, 35] : List UInt8).contains b) = s.any spB := by
  congr 1
  funext b
  obtain ⟨⟨m⟩⟩ := b
  revert m
  decide +kernel
theorem hTextS_ok (s : List UInt8) (hc : ile (slen s) 4000000 = true) : Contract hE 71 [.str s] (.tup [.str (ftT s), .int .i64 (ftW s)]) := by
  have hl := len_h hc
  refine contract_of_body hE_ok hS0_ok 5 4 ?_
  have e0 : ile 0 (idxFB s 34) = s.contains 34 := by
    rw [Bool.eq_iff_iff, ile_iff]
    exact (ib_has s 34).2
  have e1 : ile 0 (ixF s [32, 9, 35]) = s.any spB := by
    rw [← sp_any, Bool.eq_iff_iff, ile_iff]
    exact (ia_has [32, 9, 35] s).2
  have c1 : okCat [34] s = true := by rw [okCat_iff]; simp; omega
  have c2 : okCat (scat [34] s) [34] = true := by rw [okCat_iff]; unfold scat; simp; omega
  have c3 : band (ile (slen s) 4000000) (band (band (ile 2 (slen [32, 9, 35])) (ile (slen [32, 9, 35]) 1000)) (asciiFd [32, 9, 35])) = true := by rw [hc]; rfl
  rw [fText_top, e0, e1, c1, c2, c3]
  unfold ftT ftW txP
  cases h1 : s.contains 34 with
  | true => rfl
  | false =>
    rw [if_neg (by decide)]
    by_cases h2 : s = []
    · rw [if_pos (Or.inl h2), show seq s [] = true by rw [seq_iff]; exact h2]; rfl
    · rw [show seq s [] = false by cases e : seq s [] with | false => rfl | true => rw [seq_iff] at e; exact absurd e h2]
      cases h3 : s.any spB with
      | true => rw [if_pos (Or.inr rfl)]; rfl
      | false => rw [if_neg (fun h => h.elim h2 (fun h => by cases h))]; rfl
theorem u8q (c : UInt8) (n : Nat) (d : UInt8) (h : d.toNat = n) : ieq ((c.toNat : Nat) : Int) (n : Int) = (c == d) := by
  rw [Bool.eq_iff_iff, ieq_iff, beq_iff_eq, ← UInt8.toNat_inj, h]; omega
theorem rt_loop (F : Nat) (s x2 : List UInt8) (x3 : Int) (hl : s.length ≤ 4000000) : ∀ (j i n : Nat) (p : Bool), i + j = s.length → j < n →
    rText14_L0 F [] n s x2 x3 p (i : Int) some = some (.tup [.str (if (s.drop i).contains 34 = true then [] else if (p && !(s.drop i).any spB) = true then s else [34] ++ s ++ [34]), .int .i64 (if (s.drop i).contains 34 = true then 8 else 0)]) := by
  intro j
  induction j with
  | zero =>
    intro i n p hi hn
    obtain ⟨n, rfl⟩ : ∃ m, n = m + 1 := ⟨n - 1, by omega⟩
    have c1 : okCat [34] s = true := by rw [okCat_iff]; simp; omega
    have c2 : okCat (scat [34] s) [34] = true := by rw [okCat_iff]; unfold scat; simp; omega
    rw [rText14_L0_succ, sel_neg (ilt_f (by rw [slen_nat]; omega)), List.drop_of_length_le (by omega), c1, c2]
    cases p <;> rfl
  | succ j ih =>
    intro i n p hi hn
    obtain ⟨n, rfl⟩ : ∃ m, n = m + 1 := ⟨n - 1, by omega⟩
    have hil : i < s.length := by omega
    have e : sat s (i : Int) = ((s[i].toNat : Nat) : Int) := by
      rw [sat_nat, List.getD_eq_getElem?_getD, List.getElem?_eq_getElem hil]; rfl
    have hb : band (ile 0 (i : Int)) (ilt (i : Int) (slen s)) = true := by rw [band_iff, ile_iff, ilt_iff, slen_nat]; omega
    have e34 : ieq ((s[i].toNat : Nat) : Int) 34 = (s[i] == 34) := u8q _ 34 34 rfl
    have e9 : ieq ((s[i].toNat : Nat) : Int) 9 = (s[i] == 9) := u8q _ 9 9 rfl
    have e32 : ieq ((s[i].toNat : Nat) : Int) 32 = (s[i] == 32) := u8q _ 32 32 rfl
    have e35 : ieq ((s[i].toNat : Nat) : Int) 35 = (s[i] == 35) := u8q _ 35 35 rfl
    rw [rText14_L0_succ, sel_pos (ilt_t (by rw [slen_nat]; omega)), hb, e, e34, e9, e32, e35, iadd64 (by omega), show (i : Int) + 1 = ((i + 1 : Nat) : Int) by omega, ih (i + 1) n p (by omega) (by omega), ih (i + 1) n false (by omega) (by omega), List.drop_eq_getElem_cons hil, List.contains_cons, List.any_cons]
    have e43 : ((34 : UInt8) == s[i]) = (s[i] == 34) := by rw [Bool.eq_iff_iff, beq_iff_eq, beq_iff_eq]; exact eq_comm
    rw [e43]
    show _ = some (V.tup [.str (if ((s[i] == 34) || (s.drop (i + 1)).contains 34) = true then [] else if (p && !((s[i] == 9 || s[i] == 32 || s[i] == 35) || (s.drop (i + 1)).any spB)) = true then s else [34] ++ s ++ [34]), _])
    cases s[i] == 34 <;> cases s[i] == 9 <;> cases s[i] == 32 <;> cases s[i] == 35 <;> cases p <;> rfl
theorem hTextS_ok_noontideref14_Text (s : List UInt8) (hc : ile (slen s) 4000000 = true) : Contract hE 84 [.str s] (.tup [.str (ftT s), .int .i64 (ftW s)]) := by
  have hl := len_h hc
  refine contract_of_body hE_ok hS0_ok (s.length + 2) 3 ?_
  rw [rText14_top]
  refine (rt_loop _ s [] 0 hl s.length 0 (s.length + 2) _ (by omega) (by omega)).trans ?_
  rw [List.drop_zero]
  unfold ftT ftW
  cases h1 : s.contains 34 with
  | true =>
    have e : txP s = ([], 8) := by unfold txP; rw [h1, if_pos rfl]
    rw [e]; rfl
  | false =>
    by_cases h2 : s = []
    · subst h2; rfl
    · rw [show seq s [] = false by cases e : seq s [] with | false => rfl | true => rw [seq_iff] at e; exact absurd e h2]
      cases h3 : s.any spB with
      | true =>
        have e : txP s = ([34] ++ s ++ [34], 0) := by unfold txP; rw [h1, if_neg (by decide), if_pos (Or.inr h3)]
        rw [e]; rfl
      | false =>
        have e : txP s = (s, 0) := by unfold txP; rw [h1, if_neg (by decide), if_neg (fun h => h.elim h2 (fun h => by rw [h3] at h; cases h))]
        rw [e]; rfl
theorem hS1_ok : SOk hE hS1 := by
  unfold hS1
  refine SOk.cons (fun args r h => ?_) (SOk.cons (fun args r h => ?_) (hS0_ok))
  · unfold hTextS at h
    split at h
    · simp only [Option.some.injEq, Prod.mk.injEq] at h
      obtain ⟨hc, rfl⟩ := h
      exact hTextS_ok _ hc
    · cases h
  · unfold hTextS at h
    split at h
    · simp only [Option.some.injEq, Prod.mk.injEq] at h
      obtain ⟨hc, rfl⟩ := h
      exact hTextS_ok_noontideref14_Text _ hc
    · cases h
def strsV (l : List (List UInt8)) : List V := l.map V.str
end Nt.Ev.YtjkfndcpiihniaaGreatDoor

namespace Nt.Ev.YtjkfndcpiihniaaGreatDoor
open Go Nt.Num Go.Proofs.YtjkfndcpiihniaaGreatDoor
def irI (s : List UInt8) (r : Int) : Int := if r < 128 then idxFB s r else -1
noncomputable def hByS : FSpec := fun a => match a with | [.str s, .int .u8 c] => some (true, .int .i64 (idxFB s c)) | _ => none
noncomputable def hRnS : FSpec := fun a => match a with | [.str s, .int .i32 r] => some (band (ile 0 r) (band (asciiFd s) (ile (slen s) 1000)), .int .i64 (irI s r)) | _ => none
noncomputable def hS2 : List (Nat × FSpec) := (76, hByS) :: (110, hRnS) :: []
end Nt.Ev.YtjkfndcpiihniaaGreatDoor

namespace Nt.Ev.YtjkfndcpiihniaaGreatDoor
set_option maxRecDepth 100000
open Go Go.RowKit Nt Nt.Num Nt.Fld Go.Proofs.YtjkfndcpiihniaaGreatDoor
theorem hByS_ok (s : List UInt8) (c : Int) (hc : true = true) : Contract hE 76 [.str s, .int .u8 c] (.int .i64 (idxFB s c)) := by
  refine contract_old fun G w vs hG hg hp => ?_
  obtain ⟨x, y, rfl, hx, hy⟩ := PW_two hp
  unfold rep at hx hy
  subst hx; subst hy
  refine (Go.Proofs.Tryz.strings_IndexByte ⟨s.toArray⟩ c w).mono ?_
  rintro e w' ⟨rfl, rfl⟩
  exact ⟨_, rfl, Below.refl _ _, res_int _ _⟩
theorem hRnS_ok (s : List UInt8) (r : Int) (hc : band (ile 0 r) (band (asciiFd s) (ile (slen s) 1000)) = true) : Contract hE 110 [.str s, .int .i32 r] (.int .i64 (irI s r)) := by
  obtain ⟨h1, h2⟩ := band_true hc
  obtain ⟨h2, h4⟩ := band_true h2
  rw [ile_iff] at h1 h4
  rw [slen_nat] at h4
  refine contract_old fun G w vs hG hg hp => ?_
  obtain ⟨x, y, rfl, hx, hy⟩ := PW_two hp
  unfold rep at hx hy
  subst hx; subst hy
  unfold irI
  by_cases hr : r < 128
  · rw [if_pos hr]
    refine (Go.Proofs.Tryz.strings_IndexRune_ascii ⟨s.toArray⟩ r w h1 hr).mono ?_
    rintro e w' ⟨rfl, rfl⟩
    exact ⟨_, rfl, Below.refl _ _, res_int _ _⟩
  · rw [if_neg hr]
    refine (Nt.AnyS.index_rune_high Go.Proofs.Tryz.lays152 ⟨s.toArray⟩ r w (by omega) (fun b hb => ?_) (by rw [ba_sz]; omega)).mono ?_
    · have h3 : (s.all fun c => decide (c.toNat < 128)) = true := h2
      exact of_decide_eq_true (List.all_eq_true.1 h3 b hb)
    · rintro e w' ⟨rfl, hb⟩
      exact ⟨_, rfl, hb, res_int _ _⟩
theorem hS2_ok : SOk hE hS2 := by
  unfold hS2
  refine SOk.cons (fun args r h => ?_) (SOk.cons (fun args r h => ?_) (SOk.nil))
  · unfold hByS at h
    split at h
    · simp only [Option.some.injEq, Prod.mk.injEq] at h
      obtain ⟨hc, rfl⟩ := h
      exact hByS_ok _ _ rfl
    · cases h
  · unfold hRnS at h
    split at h
    · simp only [Option.some.injEq, Prod.mk.injEq] at h
      obtain ⟨hc, rfl⟩ := h
      exact hRnS_ok _ _ hc
    · cases h
end Nt.Ev.YtjkfndcpiihniaaGreatDoor

namespace Nt.Ev.YtjkfndcpiihniaaGreatDoor
open Go Nt.Num Go.Proofs.YtjkfndcpiihniaaGreatDoor
noncomputable def cpOk : V → Bool | .nilp => true | .box k off => k == HL && off == 0 | _ => false
noncomputable def bufOk : V → Bool | .nilsl => true | .sl e sh (some L) xs => e == 5 && Kd.eqL [.int .u8] sh && L == 1000001002 | _ => false
noncomputable def bufS : V → List UInt8 | .sl _ _ _ xs => vbytes xs | _ => []
noncomputable def bufN : V → V | .sl e sh _ xs => .sl e sh none xs | v => v
noncomputable def hCpS : FSpec := fun a => match a with | [.bxa 0 [x, b]] => some (cpOk x, .out false (.tup []) [[.box HL 0, b]]) | _ => none
noncomputable def hStS : FSpec := fun a => match a with | [.bxa 0 [x, b]] => some (band (cpOk x) (bufOk b), .out false (.str (bufS b)) [[x, bufN b]]) | _ => none
noncomputable def hS3 : List (Nat × FSpec) := (GX + 73, hCpS) :: (GX + 19, hStS) :: hS2
end Nt.Ev.YtjkfndcpiihniaaGreatDoor

namespace Nt.Ev.YtjkfndcpiihniaaGreatDoor
set_option maxRecDepth 100000
open Go Go.RowKit Nt Nt.Num Nt.Fld Go.Proofs.YtjkfndcpiihniaaGreatDoor
theorem cp_cases {x : V} (h : cpOk x = true) : x = .nilp ∨ x = .box HL 0 := by
  unfold cpOk at h
  split at h
  · exact .inl rfl
  · rename_i k off
    rw [Bool.and_eq_true, beq_iff_eq, beq_iff_eq] at h
    rw [h.1, h.2]; exact .inr rfl
  · cases h
theorem hCpS_ok (x b : V) (hc : cpOk x = true) : XOk hE 73 [.bxa 0 [x, b]] (.out false (.tup []) [[.box HL 0, b]]) :=
  XOk.out (copy_xc rfl x b [] (cp_cases hc))
theorem hStS_ok (x b : V) (hc : band (cpOk x) (bufOk b) = true) : XOk hE 19 [.bxa 0 [x, b]] (.out false (.str (bufS b)) [[x, bufN b]]) := by
  obtain ⟨h1, h2⟩ := band_true hc
  refine XOk.out ?_
  unfold bufOk at h2
  split at h2
  · exact string_nil_xc rfl x []
  · rename_i e sh L xs
    rw [Bool.and_eq_true, Bool.and_eq_true, beq_iff_eq, beq_iff_eq] at h2
    obtain ⟨⟨rfl, h3⟩, rfl⟩ := h2
    have h3 := Kd.eqL_sound _ _ h3
    subst h3
    exact string_xc rfl x [] (by rcases cp_cases h1 with rfl | rfl <;> rfl) rfl xs
  · cases h2
theorem hS3_ok : SOk hE hS3 := by
  unfold hS3
  refine SOk.consX (fun args r h => ?_) (SOk.consX (fun args r h => ?_) (hS2_ok))
  · unfold hCpS at h
    split at h
    · simp only [Option.some.injEq, Prod.mk.injEq] at h
      obtain ⟨hc, rfl⟩ := h
      exact hCpS_ok _ _ hc
    · cases h
  · unfold hStS at h
    split at h
    · simp only [Option.some.injEq, Prod.mk.injEq] at h
      obtain ⟨hc, rfl⟩ := h
      exact hStS_ok _ _ hc
    · cases h
theorem vb_map (l : List UInt8) : vbytes (bytesV l) = l := by
  unfold vbytes bytesV
  rw [List.map_map]
  exact (List.map_congr_left fun c _ => by show UInt8.ofNat ((c.toNat : Int)).toNat = c; simp).trans (List.map_id l)
end Nt.Ev.YtjkfndcpiihniaaGreatDoor

namespace Nt.Ev.YtjkfndcpiihniaaGreatDoor
set_option maxRecDepth 100000
open Go Nt.Num Go.Proofs.YtjkfndcpiihniaaGreatDoor
noncomputable def hGrS : FSpec := fun a => match a with | [.bxa 0 [x, .nilsl], .int .i64 n] => some (band (cpOk x) (band (ile 0 n) (ile n 281474976710656)), .out false (.tup []) [[x, .sl 5 [.int .u8] (some 1002) []]]) | _ => none
noncomputable def hS6 : List (Nat × FSpec) := (GX + 112, hGrS) :: (GX + 73, hCpS) :: (GX + 19, hStS) :: []
noncomputable def sJoin_L0 (F : Nat) (ns : List Nat) (n : Nat) (x0 : List V) (x1 : List UInt8) (x5 : Int) (x12 : Int) (x39 : List V) (x40 : Int) (x41 : Int) (K : V → Option V) : Option V :=
 loopAt hE hS6 F 4 72 [1, 1, 1, 1, 0, 1, 0] ns K n (mkSt 75 [(0, V.sl 9 [(Kd.str)] none x0), (1, V.str x1), (4, V.str []), (5, V.int .i64 x5), (8, V.tup []), (10, V.tup []), (12, V.int .i64 x12), (39, V.sl 9 [(Kd.str)] none x39), (40, V.int .i64 x40), (41, V.int .i64 x41), (63, V.tup []), (64, V.tup []), (65, V.tup [])] [])
noncomputable def sJoin_L1 (F : Nat) (ns : List Nat) (n : Nat) (x0 : List V) (x1 : List UInt8) (x5 : Int) (x12 : Int) (x39 : List V) (x40 : Int) (x41 : Int) (x63 : List V) (x64 : Int) (x65 : Int) (b8_1 : List V) (K : V → Option V) : Option V :=
 loopAt hE hS6 F 4 72 [1, 1, 1, 1, 1, 1, 1, 1, 0, 1, 0] ns K n (mkSt 75 [(0, V.sl 9 [(Kd.str)] none x0), (1, V.str x1), (4, V.str []), (5, V.int .i64 x5), (8, (V.box 8 0)), (12, V.int .i64 x12), (39, V.sl 9 [(Kd.str)] none x39), (40, V.int .i64 x40), (41, V.int .i64 x41), (63, V.sl 9 [(Kd.str)] none x63), (64, V.int .i64 x64), (65, V.int .i64 x65)] [(8, [(V.box 8 0), V.sl 5 [(Kd.int .u8)] (some 90001) b8_1])])
theorem sJoin_top (F : Nat) (xs : List V) (c : List UInt8) (K : V → Option V) :
 evBd hE (evFn hE hS6 F 4) F 72 [(V.sl 9 [(Kd.str)] none xs), (V.str c)] K =
 sel (ieq (llen xs) 0)
 (K (V.str []))
 (sel (ieq (llen xs) 1)
 (sel (band (ile 0 0) (ilt 0 (llen xs)))
 (K (V.str (asStr (acell (lget xs 0) 0))))
 (none))
 (sel (ilt 0 (slen c))
 (sel (bnot (ieq (isub .i64 (llen xs) 1) 0))
 (sel (ile (iquo .i64 9223372036854775807 (isub .i64 (llen xs) 1)) (slen c))
 (none)
 (sJoin_L0 F [] F xs c (iadd .i64 0 (imul .i64 (slen c) (isub .i64 (llen xs) 1))) (llen xs) xs (llen xs) 0 K))
 (none))
 (sJoin_L0 F [] F xs c 0 (llen xs) xs (llen xs) 0 K))) := by kernel_rfl
theorem sJoin_L0_succ (F : Nat) (n : Nat) (x0 : List V) (x1 : List UInt8) (x5 : Int) (x12 : Int) (x39 : List V) (x40 : Int) (x41 : Int) (K : V → Option V) :
 sJoin_L0 F [] (n + 1) x0 x1 x5 x12 x39 x40 x41 K =
 sel (ilt x41 x40)
 (sel (band (ile 0 x41) (ilt x41 (llen x39)))
 (sel (ilt (isub .i64 9223372036854775807 x5) (slen (asStr (acell (lget x39 x41) 0))))
 (none)
 (sJoin_L0 F [] n x0 x1 (iadd .i64 x5 (slen (asStr (acell (lget x39 x41) 0)))) x12 x39 x40 (iadd .i64 x41 1) K))
 (none))
 (sel (ilt x5 0)
 (none)
 (sel (ilt (isub .i64 0 0) x5)
 (sel (band true (band (ile 0 x5) (ile x5 281474976710656)))
 (sel (band (ile 0 0) (ilt 0 (llen x0)))
 (sel (okApp [] (bytesV (asStr (acell (lget x0 0) 0))))
 (sel (band (ile 0 1) (ile 1 (llen x0)))
 (sJoin_L1 F [] F x0 x1 x5 x12 x39 x40 x41 (lsub x0 1 (llen x0)) (llen (lsub x0 1 (llen x0))) 0 (lcat [] (bytesV (asStr (acell (lget x0 0) 0)))) K)
 (none))
 (none))
 (none))
 (none))
 (sel (band (ile 0 0) (ilt 0 (llen x0)))
 (sel (okNew (bytesV (asStr (acell (lget x0 0) 0))))
 (sel (band (ile 0 1) (ile 1 (llen x0)))
 (sJoin_L1 F [] F x0 x1 x5 x12 x39 x40 x41 (lsub x0 1 (llen x0)) (llen (lsub x0 1 (llen x0))) 0 (bytesV (asStr (acell (lget x0 0) 0))) K)
 (none))
 (none))
 (none)))) := by kernel_rfl
theorem sJoin_L1_succ (F : Nat) (n : Nat) (x0 : List V) (x1 : List UInt8) (x5 : Int) (x12 : Int) (x39 : List V) (x40 : Int) (x41 : Int) (x63 : List V) (x64 : Int) (x65 : Int) (b8_1 : List V) (K : V → Option V) :
 sJoin_L1 F [] (n + 1) x0 x1 x5 x12 x39 x40 x41 x63 x64 x65 b8_1 K =
 sel (ilt x65 x64)
 (sel (band (ile 0 x65) (ilt x65 (llen x63)))
 (sel (okApp b8_1 (bytesV x1))
 (sel (okApp (lcat b8_1 (bytesV x1)) (bytesV (asStr (acell (lget x63 x65) 0))))
 (sJoin_L1 F [] n x0 x1 x5 x12 x39 x40 x41 x63 x64 (iadd .i64 x65 1) (lcat (lcat b8_1 (bytesV x1)) (bytesV (asStr (acell (lget x63 x65) 0)))) K)
 (none))
 (none))
 (none))
 (K (V.str (vbytes b8_1))) := by kernel_rfl
end Nt.Ev.YtjkfndcpiihniaaGreatDoor

namespace Nt.Ev.YtjkfndcpiihniaaGreatDoor
set_option maxRecDepth 100000
open Go Go.RowKit Nt Nt.Num Nt.Fld Go.Proofs.YtjkfndcpiihniaaGreatDoor
theorem hGrS_ok (x : V) (n : Int) (hc : band (cpOk x) (band (ile 0 n) (ile n 281474976710656)) = true) : XOk hE 112 [.bxa 0 [x, .nilsl], .int .i64 n] (.out false (.tup []) [[x, .sl 5 [.int .u8] (some 1002) []]]) := by
  obtain ⟨h1, h2⟩ := band_true hc
  rw [band_iff, ile_iff, ile_iff] at h2
  exact XOk.out (grow_xc rfl x ((cp_cases h1).imp id fun h => ⟨0, h⟩) n h2.1 h2.2)
theorem hS6_ok : SOk hE hS6 := by
  unfold hS6
  refine SOk.consX (fun args r h => ?_) (SOk.consX (fun args r h => ?_) (SOk.consX (fun args r h => ?_) (SOk.nil)))
  · unfold hGrS at h
    split at h
    · simp only [Option.some.injEq, Prod.mk.injEq] at h
      obtain ⟨hc, rfl⟩ := h
      exact hGrS_ok _ _ hc
    · cases h
  · unfold hCpS at h
    split at h
    · simp only [Option.some.injEq, Prod.mk.injEq] at h
      obtain ⟨hc, rfl⟩ := h
      exact hCpS_ok _ _ hc
    · cases h
  · unfold hStS at h
    split at h
    · simp only [Option.some.injEq, Prod.mk.injEq] at h
      obtain ⟨hc, rfl⟩ := h
      exact hStS_ok _ _ hc
    · cases h
def strV (x : V) : List UInt8 := asStr (acell x 0)
def restJ (c : List UInt8) (l : List V) : List UInt8 := (l.map fun y => c ++ strV y).flatten
def joinS (xs : List V) (c : List UInt8) : List UInt8 := match xs with | [] => [] | x :: l => strV x ++ restJ c l
def jnB (xs : List V) (c : List UInt8) : Bool := decide ((joinS xs c).length ≤ 9000000 ∧ xs.length ≤ 1000 ∧ c.length ≤ 1000)
def sumJ (l : List V) : Nat := (l.map fun y => (strV y).length).sum
theorem rest_len (c : List UInt8) : ∀ l : List V, (restJ c l).length = c.length * l.length + sumJ l
  | [] => rfl
  | x :: l => by
    have := rest_len c l
    unfold restJ sumJ at this ⊢
    simp only [List.map_cons, List.flatten_cons, List.length_append, List.sum_cons, List.length_cons, Nat.mul_add, Nat.mul_one, this]
    omega
theorem get_drop (l : List V) (i : Nat) (h : i < l.length) : lget l (i : Int) = l[i] ∧ l.drop i = l[i] :: l.drop (i + 1) := by
  refine ⟨?_, List.drop_eq_getElem_cons h⟩
  rw [lget_nat, List.getD_eq_getElem?_getD, List.getElem?_eq_getElem h]; rfl
theorem sj1 (F : Nat) (x0 : List V) (c : List UInt8) (x5 x12 : Int) (x39 : List V) (x40 x41 : Int) (rest : List V) (hr : rest.length ≤ 1000) : ∀ (j i n : Nat) (f : List UInt8), i + j = rest.length → j < n → f.length + (restJ c (rest.drop i)).length ≤ 9000000 →
    sJoin_L1 F [] n x0 c x5 x12 x39 x40 x41 rest (llen rest) (i : Int) (bytesV f) some = some (.str (f ++ restJ c (rest.drop i))) := by
  intro j
  induction j with
  | zero =>
    intro i n f hi hn hl
    obtain ⟨n, rfl⟩ : ∃ m, n = m + 1 := ⟨n - 1, by omega⟩
    rw [sJoin_L1_succ, ilt_f (by rw [llen_nat]; omega), vb_map, List.drop_of_length_le (by omega)]
    show some (V.str f) = some (V.str (f ++ []))
    rw [List.append_nil]
  | succ j ih =>
    intro i n f hi hn hl
    obtain ⟨n, rfl⟩ : ∃ m, n = m + 1 := ⟨n - 1, by omega⟩
    obtain ⟨g1, g2⟩ := get_drop rest i (by omega)
    have e1 : restJ c (rest.drop i) = c ++ strV rest[i] ++ restJ c (rest.drop (i + 1)) := by rw [g2]; unfold restJ; rw [List.map_cons, List.flatten_cons]
    rw [e1] at hl ⊢
    simp only [List.length_append] at hl
    have k1 : ilt (i : Int) (llen rest) = true := ilt_t (by rw [llen_nat]; omega)
    have k2 : band (ile 0 (i : Int)) true = true := by rw [ile_t (by omega)]; rfl
    have k3 : asStr (acell rest[i] 0) = strV rest[i] := rfl
    have k4 : okApp (bytesV f) (bytesV c) = true := by rw [okApp_iff]; unfold bytesV; simp; omega
    have k5 : ∀ a b : List UInt8, lcat (bytesV a) (bytesV b) = bytesV (a ++ b) := fun a b => by unfold lcat bytesV; simp
    have k6 : okApp (bytesV (f ++ c)) (bytesV (strV rest[i])) = true := by rw [okApp_iff]; unfold bytesV; simp; omega
    have k7 : iadd .i64 (i : Int) 1 = ((i + 1 : Nat) : Int) := by rw [iadd64 (by omega)]; omega
    rw [sJoin_L1_succ, k1, k2, g1, k3, k4, k5, k6, k5, k7]
    show sJoin_L1 F [] n x0 c x5 x12 x39 x40 x41 rest (llen rest) ((i + 1 : Nat) : Int) (bytesV (f ++ c ++ strV rest[i])) some = _
    rw [ih (i + 1) n (f ++ c ++ strV rest[i]) (by omega) (by omega) (by simp only [List.length_append]; omega)]
    simp
theorem sj0 (F : Nat) (x : V) (l : List V) (c : List UInt8) (hF : l.length < F) (x12 : Int) (hl : (joinS (x :: l) c).length ≤ 9000000) (hn : l.length ≤ 999) : ∀ (j i n : Nat) (m : Nat), i + j = l.length + 1 → j < n → m + sumJ ((x :: l).drop i) = (joinS (x :: l) c).length →
    sJoin_L0 F [] n (x :: l) c (m : Int) x12 (x :: l) (llen (x :: l)) (i : Int) some = some (.str (joinS (x :: l) c)) := by
  intro j
  induction j with
  | zero =>
    intro i n m hi hn2 hm
    obtain ⟨n, rfl⟩ : ∃ k, n = k + 1 := ⟨n - 1, by omega⟩
    have k0 : lsub (x :: l) 1 (llen (x :: l)) = l := by
      unfold lsub
      rw [llen_nat]
      have : ((((x :: l).length : Nat) : Int).toNat - (1 : Int).toNat) = l.length := by simp
      rw [this]
      exact List.take_of_length_le (Nat.le_refl _)
    have hj : (joinS (x :: l) c).length = (strV x).length + (restJ c l).length := by unfold joinS; simp
    have k1 : asStr (acell (lget (x :: l) 0) 0) = strV x := rfl
    have k2 : band (ile 0 0) (ilt 0 (llen (x :: l))) = true := by rw [band_iff, ile_iff, ilt_iff, llen_nat, List.length_cons]; omega
    have k3 : band (ile 0 1) (ile 1 (llen (x :: l))) = true := by rw [band_iff, ile_iff, ile_iff, llen_nat]; simp; omega
    have k4 : okApp [] (bytesV (strV x)) = true := by rw [okApp_iff]; unfold bytesV; simp; omega
    have k5 : okNew (bytesV (strV x)) = true := by unfold okNew bytesV; rw [nle_iff]; simp; omega
    have k6 : lcat [] (bytesV (strV x)) = bytesV (strV x) := rfl
    have hm2 : m ≤ 9000000 := by omega
    have k7 : ilt (m : Int) 0 = false := ilt_f (by omega)
    have k8 : band true (band (ile 0 (m : Int)) (ile (m : Int) 281474976710656)) = true := by rw [ile_t (by omega), ile_t (by omega)]; rfl
    have e1 := sj1 F (x :: l) c (m : Int) x12 (x :: l) (llen (x :: l)) (i : Int) l (by omega) l.length 0 F (strV x) (by omega) hF (by simp only [List.drop_zero]; omega)
    have e1 : sJoin_L1 F [] F (x :: l) c (m : Int) x12 (x :: l) (llen (x :: l)) (i : Int) l (llen l) 0 (bytesV (strV x)) some = some (.str (joinS (x :: l) c)) := e1
    rw [sJoin_L0_succ, ilt_f (by rw [llen_nat, List.length_cons]; omega), k7, k0, k1, k2, k3, k4, k5, k6, k8, e1]
    cases ilt (isub .i64 0 0) (m : Int) <;> rfl
  | succ j ih =>
    intro i n m hi hn2 hm
    obtain ⟨n, rfl⟩ : ∃ k, n = k + 1 := ⟨n - 1, by omega⟩
    have hil : i < (x :: l).length := by simp; omega
    obtain ⟨g1, g2⟩ := get_drop (x :: l) i hil
    have e1 : sumJ ((x :: l).drop i) = (strV (x :: l)[i]).length + sumJ ((x :: l).drop (i + 1)) := by rw [g2]; unfold sumJ; simp
    generalize (x :: l)[i] = y at g1 g2 e1
    rw [e1] at hm
    have k1 : ilt (i : Int) (llen (x :: l)) = true := ilt_t (by rw [llen_nat]; omega)
    have k2 : band (ile 0 (i : Int)) true = true := by rw [ile_t (by omega)]; rfl
    have k3 : asStr (acell y 0) = strV y := rfl
    have k4 : ilt (isub .i64 9223372036854775807 (m : Int)) (slen (strV y)) = false := ilt_f (by rw [isub64 (by omega), slen_nat]; omega)
    have k5 : iadd .i64 (m : Int) (slen (strV y)) = ((m + (strV y).length : Nat) : Int) := by rw [slen_nat, iadd64 (by omega)]; omega
    have k7 : iadd .i64 (i : Int) 1 = ((i + 1 : Nat) : Int) := by rw [iadd64 (by omega)]; omega
    rw [sJoin_L0_succ, k1, k2, g1, k3, k4, k5, k7]
    exact ih (i + 1) n (m + (strV y).length) (by omega) (by omega) (by omega)
theorem sJoin_ev (xs : List V) (c : List UInt8) (hc : jnB xs c = true) : Contract hE 72 [.sl 9 [.str] none xs, .str c] (.str (joinS xs c)) := by
  have hc : (joinS xs c).length ≤ 9000000 ∧ xs.length ≤ 1000 ∧ c.length ≤ 1000 := of_decide_eq_true hc
  refine contract_of_body hE_ok hS6_ok 2000 4 ?_
  rw [sJoin_top]
  match xs, hc with
  | [], _ => rfl
  | [x], _ =>
    show some (V.str (strV x)) = some (V.str (strV x ++ []))
    rw [List.append_nil]
  | x :: y :: l, hc =>
    obtain ⟨h1, h2, h3⟩ := hc
    have h2 : l.length + 2 ≤ 1000 := by simpa using h2
    have k1 : ieq (llen (x :: y :: l)) 0 = false := ieq_f (by rw [llen_nat]; simp; omega)
    have k2 : ieq (llen (x :: y :: l)) 1 = false := ieq_f (by rw [llen_nat]; simp; omega)
    have k3 : isub .i64 (llen (x :: y :: l)) 1 = ((l.length + 1 : Nat) : Int) := by rw [llen_nat, List.length_cons, List.length_cons, isub64 (by omega)]; omega
    have k4 : bnot (ieq ((l.length + 1 : Nat) : Int) 0) = true := by rw [ieq_f (by omega)]; rfl
    have hmul : c.length * (l.length + 1) ≤ 1000 * 1000 := Nat.mul_le_mul h3 (by omega)
    have k5 : imul .i64 (slen c) ((l.length + 1 : Nat) : Int) = ((c.length * (l.length + 1) : Nat) : Int) := by
      rw [slen_nat]
      have e : (c.length : Int) * ((l.length + 1 : Nat) : Int) = ((c.length * (l.length + 1) : Nat) : Int) := by rw [Int.natCast_mul]
      rw [imul64 (by rw [e]; omega), e]
    have k6 : iadd .i64 0 ((c.length * (l.length + 1) : Nat) : Int) = ((c.length * (l.length + 1) : Nat) : Int) := by rw [iadd64 (by omega)]; omega
    have k7 : ile (iquo .i64 9223372036854775807 ((l.length + 1 : Nat) : Int)) (slen c) = false := by
      refine ile_f ?_
      have q1 : (2000 : Int) ≤ 9223372036854775807 / ((l.length + 1 : Nat) : Int) := by
        rw [Int.le_ediv_iff_mul_le (by omega)]; omega
      have q2 : (9223372036854775807 : Int) / ((l.length + 1 : Nat) : Int) ≤ 9223372036854775807 := Int.ediv_le_self _ (by omega)
      have q3 : iquo .i64 9223372036854775807 ((l.length + 1 : Nat) : Int) = 9223372036854775807 / ((l.length + 1 : Nat) : Int) := by
        unfold iquo
        rw [Int.tdiv_eq_ediv_of_nonneg (by omega)]
        exact IntWalk.i64_in _ ⟨by omega, q2⟩
      rw [q3, slen_nat]; omega
    have hj : (joinS (x :: y :: l) c).length = c.length * (l.length + 1) + sumJ (x :: y :: l) := by
      unfold joinS
      rw [List.length_append, rest_len]
      unfold sumJ
      simp only [List.map_cons, List.sum_cons, List.length_cons]
      omega
    have e0 := sj0 2000 x (y :: l) c (by rw [List.length_cons]; omega) (llen (x :: y :: l)) h1 (by rw [List.length_cons]; omega) (l.length + 2) 0 2000 (c.length * (l.length + 1)) (by rw [List.length_cons]; omega) (by omega) (by rw [hj]; rfl)
    have e0 : sJoin_L0 2000 [] 2000 (x :: y :: l) c ((c.length * (l.length + 1) : Nat) : Int) (llen (x :: y :: l)) (x :: y :: l) (llen (x :: y :: l)) 0 some = some (.str (joinS (x :: y :: l) c)) := e0
    rw [k1, k2, k3, k4, k5, k6, k7, e0]
    cases hq : ilt 0 (slen c) with
    | true => rfl
    | false =>
      have hc0 : c = [] := by
        cases c with
        | nil => rfl
        | cons a b => rw [ilt_t (by rw [slen_nat, List.length_cons]; omega)] at hq; cases hq
      subst hc0
      have e0 : sJoin_L0 2000 [] 2000 (x :: y :: l) [] 0 (llen (x :: y :: l)) (x :: y :: l) (llen (x :: y :: l)) 0 some = some (.str (joinS (x :: y :: l) [])) := by
        have := e0
        rw [show (([] : List UInt8).length * (l.length + 1) : Nat) = 0 by simp] at this
        exact this
      exact e0
end Nt.Ev.YtjkfndcpiihniaaGreatDoor

namespace Nt.Ev.YtjkfndcpiihniaaGreatDoor
set_option maxRecDepth 100000
open Go Nt.Num Go.Proofs.YtjkfndcpiihniaaGreatDoor
open Nt.Fld
noncomputable def hJoS : FSpec := fun a => match a with | [.sl e sh o xs, .str c] => some (band (e == 9 && Kd.eqL [.str] sh) (jnB xs c), .str (joinS xs c)) | _ => none
noncomputable def hS5 : List (Nat × FSpec) := (72, hJoS) :: (71, hTextS) :: hS3
noncomputable def fJoin_L0 (F : Nat) (ns : List Nat) (n : Nat) (x0 : List V) (x2 : List UInt8) (x3 : Int) (x4 : List V) (x15 : List V) (x16 : Int) (x17 : Int) (K : V → Option V) : Option V :=
 loopAt hE hS5 F 3 42 [1, 1, 1, 0, 1, 0] ns K n (mkSt 38 [(0, V.old (V.sl 9 [(Kd.str)] none x0)), (2, V.str x2), (3, V.int .i64 x3), (4, V.sl 9 [(Kd.str)] (some 4) x4), (15, V.old (V.sl 9 [(Kd.str)] none x15)), (16, V.int .i64 x16), (17, V.int .i64 x17)] [])
theorem fJoin_top (F : Nat) (xs : List V) (K : V → Option V) :
 evBd hE (evFn hE hS5 F 3) F 42 [(V.old (V.sl 9 [(Kd.str)] none xs))] K =
 sel (ilt 16 (llen xs))
 (K (V.tup [(V.str []), (V.int .i64 6)]))
 (sel (band (ile 0 (llen xs)) (band (ile (llen xs) (llen xs)) (ile (llen xs) 16777216)))
 (fJoin_L0 F [] F xs [] 0 (lrep (llen xs) (V.str [])) xs (llen xs) 0 K)
 (none)) := by kernel_rfl
theorem fJoin_L0_succ (F : Nat) (n : Nat) (x0 : List V) (x2 : List UInt8) (x3 : Int) (x4 : List V) (x15 : List V) (x16 : Int) (x17 : Int) (K : V → Option V) :
 fJoin_L0 F [] (n + 1) x0 x2 x3 x4 x15 x16 x17 K =
 sel (ilt x17 x16)
 (sel (band (ile 0 x17) (ilt x17 (llen x15)))
 (sel (ile (slen (asStr (acell (lget x15 x17) 0))) 4000000)
 (sel (bnot (ieq (ftW (asStr (acell (lget x15 x17) 0))) 0))
 (K (V.tup [(V.str []), (V.int .i64 (ftW (asStr (acell (lget x15 x17) 0))))]))
 (sel (band (ile 0 x17) (ilt x17 (llen x4)))
 (fJoin_L0 F [] n x0 x2 x3 (lset x4 x17 (V.str (ftT (asStr (acell (lget x15 x17) 0))))) x15 x16 (iadd .i64 x17 1) K)
 (none)))
 (none))
 (none))
 (sel (band (ile 0 1) (ile 1 (slen [32, 9])))
 (sel (band true (jnB x4 (ssub [32, 9] 0 1)))
 (K (V.tup [(V.str (joinS x4 (ssub [32, 9] 0 1))), (V.int .i64 0)]))
 (none))
 (none)) := by kernel_rfl
end Nt.Ev.YtjkfndcpiihniaaGreatDoor

namespace Nt.Ev.YtjkfndcpiihniaaGreatDoor
set_option maxRecDepth 100000
open Go Go.RowKit Nt Nt.Num Nt.Fld Go.Proofs.YtjkfndcpiihniaaGreatDoor
def ssV (xs : List V) : List (List UInt8) := xs.map strV
theorem str_strs (l : List (List UInt8)) : ssV (strsV l) = l := by
  unfold ssV strsV
  rw [List.map_map]
  exact (List.map_congr_left fun _ _ => rfl).trans (List.map_id l)
def tx1 (x : List UInt8) : List UInt8 := (txP x).1
theorem joinR_txt : ∀ (l : List (List UInt8)), (joinR l).2 = 0 → (joinR l).1 = restJ [32] (strsV (l.map tx1))
  | [], _ => rfl
  | x :: l, h => by
    unfold joinR at h ⊢
    by_cases h1 : (txP x).2 = 0
    · rw [if_pos h1] at h ⊢
      by_cases h2 : (joinR l).2 = 0
      · rw [if_pos h2]
        have := joinR_txt l h2
        show [32] ++ (txP x).1 ++ (joinR l).1 = ([32] ++ tx1 x) ++ restJ [32] (strsV (l.map tx1))
        rw [this]; rfl
      · rw [if_neg h2] at h; exact absurd h h2
    · rw [if_neg h1] at h; exact absurd h h1
theorem joinS_txt (l : List (List UInt8)) (h : (joinR l).2 = 0) : (joinR l).1.drop 1 = joinS (strsV (l.map tx1)) [32] := by
  rw [joinR_txt l h]
  cases l with
  | nil => rfl
  | cons x l => rfl
theorem joinR_cons (x : List UInt8) (l : List (List UInt8)) : (joinR (x :: l)).2 = if (txP x).2 = 0 then (joinR l).2 else (txP x).2 := by
  show (if (txP x).2 = 0 then (if (joinR l).2 = 0 then (([32] ++ (txP x).1 ++ (joinR l).1, 0) : List UInt8 × Int) else ([], (joinR l).2)) else ([], (txP x).2)).2 = _
  by_cases h1 : (txP x).2 = 0
  · rw [if_pos h1, if_pos h1]
    by_cases h2 : (joinR l).2 = 0
    · rw [if_pos h2, h2]
    · rw [if_neg h2]
  · rw [if_neg h1, if_neg h1]
theorem tx1_len (x : List UInt8) : (tx1 x).length ≤ x.length + 2 := by
  unfold tx1 txP
  (repeat' split) <;> simp
theorem ft_eq (x : List UInt8) : ftT x = tx1 x ∧ ftW x = (txP x).2 := ⟨rfl, rfl⟩
def jnV (e : Int) (t : List UInt8) : V := sel (ieq e 0) (.tup [.str t, .int .i64 0]) (.tup [.str [], .int .i64 e])
def totL (l : List (List UInt8)) : Nat := (l.map List.length).sum
theorem joinS_len (l : List (List UInt8)) : (joinS (strsV (l.map tx1)) [32]).length ≤ totL l + 3 * l.length := by
  have key : ∀ l : List (List UInt8), (restJ [32] (strsV (l.map tx1))).length ≤ totL l + 3 * l.length := by
    intro l
    induction l with
    | nil => exact Nat.le_refl _
    | cons x l ih =>
      have e : restJ [32] (strsV ((x :: l).map tx1)) = [32] ++ tx1 x ++ restJ [32] (strsV (l.map tx1)) := rfl
      have e2 : totL (x :: l) = x.length + totL l := rfl
      have := tx1_len x
      rw [e, e2]
      simp only [List.length_append, List.length_cons, List.length_nil]
      omega
  cases l with
  | nil => exact Nat.le_refl _
  | cons x l =>
    have e : joinS (strsV ((x :: l).map tx1)) [32] = tx1 x ++ restJ [32] (strsV (l.map tx1)) := rfl
    have e2 : totL (x :: l) = x.length + totL l := rfl
    have := tx1_len x
    have := key l
    rw [e, e2]
    simp only [List.length_append, List.length_cons]
    omega
theorem totL_mem {x : List UInt8} : ∀ {l : List (List UInt8)}, x ∈ l → x.length ≤ totL l
  | y :: l, h => by
    have e2 : totL (y :: l) = y.length + totL l := rfl
    rcases List.mem_cons.1 h with rfl | h
    · omega
    · have := totL_mem h; omega
theorem jn_spec (hS : SOk hE hS5) (F : Nat) (xs : List V) (h16 : xs.length ≤ 16) (ht : totL (ssV xs) ≤ 3000000) : ∀ (j i n : Nat) (done : List (List UInt8)), i + j = xs.length → j < n → done = ((ssV xs).take i).map tx1 →
    fJoin_L0 F [] n xs [] 0 (strsV done ++ List.replicate j (V.str [])) xs (llen xs) (i : Int) some = some (jnV (joinR ((ssV xs).drop i)).2 (joinS (strsV ((ssV xs).map tx1)) [32])) := by
  intro j
  induction j with
  | zero =>
    intro i n done hi hn hd
    obtain ⟨n, rfl⟩ : ∃ k, n = k + 1 := ⟨n - 1, by omega⟩
    have hsl : (ssV xs).length = xs.length := by unfold ssV; simp
    have e1 : (ssV xs).drop i = [] := List.drop_of_length_le (by omega)
    have e2 : done = (ssV xs).map tx1 := by rw [hd, List.take_of_length_le (by omega)]
    have e3 : strsV done ++ List.replicate 0 (V.str []) = strsV ((ssV xs).map tx1) := by rw [e2]; simp
    have e4 : ssub [32, 9] 0 1 = [32] := rfl
    have hl := joinS_len (ssV xs)
    have e5 : band true (jnB (strsV ((ssV xs).map tx1)) [32]) = true := by
      show jnB _ _ = true
      unfold jnB
      rw [decide_eq_true_iff]
      refine ⟨by omega, ?_, by decide⟩
      unfold strsV ssV; simp; omega
    rw [fJoin_L0_succ, ilt_f (by rw [llen_nat]; omega), e1, e3, e4, e5]
    rfl
  | succ j ih =>
    intro i n done hi hn hd
    obtain ⟨n, rfl⟩ : ∃ k, n = k + 1 := ⟨n - 1, by omega⟩
    have hsl : (ssV xs).length = xs.length := by unfold ssV; simp
    have hil : i < xs.length := by omega
    obtain ⟨g1, _⟩ := get_drop xs i hil
    have hx : asStr (acell (lget xs (i : Int)) 0) = (ssV xs)[i]'(by omega) := by
      rw [g1]; unfold ssV; rw [List.getElem_map]; rfl
    have g2 : (ssV xs).drop i = (ssV xs)[i]'(by omega) :: (ssV xs).drop (i + 1) := List.drop_eq_getElem_cons (by omega)
    have hmem : (ssV xs)[i]'(by omega) ∈ ssV xs := List.getElem_mem _
    generalize (ssV xs)[i]'(by omega) = x at hx g2 hmem
    have hxl := totL_mem hmem
    have k1 : ilt (i : Int) (llen xs) = true := ilt_t (by rw [llen_nat]; omega)
    have k2 : band (ile 0 (i : Int)) true = true := by rw [ile_t (by omega)]; rfl
    have k3 : ile (slen x) 4000000 = true := ile_t (by rw [slen_nat]; omega)
    have hdl : done.length = i := by rw [hd, List.length_map, List.length_take]; omega
    have k4 : band (ile 0 (i : Int)) (ilt (i : Int) (llen (strsV done ++ List.replicate (j + 1) (V.str [])))) = true := by
      rw [band_iff, ile_iff, ilt_iff, llen_nat]
      unfold strsV
      simp only [List.length_append, List.length_map, List.length_replicate]
      omega
    have k5 : iadd .i64 (i : Int) 1 = ((i + 1 : Nat) : Int) := by rw [iadd64 (by omega)]; omega
    have k6 : lset (strsV done ++ List.replicate (j + 1) (V.str [])) (i : Int) (V.str (tx1 x)) = strsV (done ++ [tx1 x]) ++ List.replicate j (V.str []) := by
      unfold lset
      rw [Int.toNat_natCast]
      have : (strsV done).length = i := by unfold strsV; rw [List.length_map]; exact hdl
      rw [List.set_append_right _ _ (by omega), this, Nat.sub_self, List.replicate_succ, List.set_cons_zero]
      unfold strsV
      simp
    rw [fJoin_L0_succ, k1, k2, hx, k3, k4, k5, (ft_eq x).1, (ft_eq x).2, k6, g2]
    have ih := ih (i + 1) n (done ++ [tx1 x]) (by omega) (by omega) (by
      rw [hd]
      have : (ssV xs).take (i + 1) = (ssV xs).take i ++ [x] := by
        rw [List.take_add_one]
        congr 1
        have h2 : (ssV xs)[i]? = some x := by
          have := congrArg (fun l => l[0]?) g2
          simpa using this
        rw [h2]; rfl
      rw [this, List.map_append]; rfl)
    show sel (bnot (ieq (txP x).2 0)) (some (V.tup [(V.str []), (V.int .i64 (txP x).2)])) (fJoin_L0 F [] n xs [] 0 (strsV (done ++ [tx1 x]) ++ List.replicate j (V.str [])) xs (llen xs) ((i + 1 : Nat) : Int) some) = _
    rw [ih, joinR_cons]
    rcases tx_err x with h | h
    · rw [h]; rfl
    · rw [h]; rfl
def jnC (xs : List V) : Bool := decide (totL (ssV xs) ≤ 3000000)
def jnT (xs : List V) : List UInt8 := (joinP (ssV xs)).1
def jnW (xs : List V) : Int := (joinP (ssV xs)).2
theorem jnV_eq (xs : List V) (h16 : xs.length ≤ 16) : jnV (joinR (ssV xs)).2 (joinS (strsV ((ssV xs).map tx1)) [32]) = .tup [.str (jnT xs), .int .i64 (jnW xs)] := by
  have hsl : (ssV xs).length = xs.length := by unfold ssV; simp
  unfold jnV jnT jnW joinP
  rw [if_neg (by omega)]
  by_cases h : (joinR (ssV xs)).2 = 0
  · rw [if_pos h, ieq_t h, joinS_txt _ h]; rfl
  · rw [if_neg h, ieq_f h]; rfl
theorem hJoS_ok (e : Nat) (sh : List Kd) (o : Option Nat) (xs : List V) (c : List UInt8) (hc : band (e == 9 && Kd.eqL [.str] sh) (jnB xs c) = true) : Contract hE 72 [.sl e sh o xs, .str c] (.str (joinS xs c)) := by
  obtain ⟨h1, h2⟩ := band_true hc
  rw [Bool.and_eq_true] at h1
  have he : e = 9 := by simpa using h1.1
  have hs : [Kd.str] = sh := Kd.eqL_sound _ _ h1.2
  subst he hs
  exact contract_unl (args := [.sl _ _ o xs, .str c]) (sJoin_ev xs c h2)
theorem hS5_ok : SOk hE hS5 := by
  unfold hS5
  refine SOk.cons (fun args r h => ?_) (SOk.cons (fun args r h => ?_) (hS3_ok))
  · unfold hJoS at h
    split at h
    · simp only [Option.some.injEq, Prod.mk.injEq] at h
      obtain ⟨hc, rfl⟩ := h
      exact hJoS_ok _ _ _ _ _ hc
    · cases h
  · unfold hTextS at h
    split at h
    · simp only [Option.some.injEq, Prod.mk.injEq] at h
      obtain ⟨hc, rfl⟩ := h
      exact hTextS_ok _ hc
    · cases h
theorem hJnS_ok (xs : List V) (hc : jnC xs = true) : Contract hE 42 [.sl 9 [.str] none xs] (.tup [.str (jnT xs), .int .i64 (jnW xs)]) := by
  unfold jnC at hc
  rw [decide_eq_true_iff] at hc
  have hsl : (ssV xs).length = xs.length := by unfold ssV; simp
  refine contract_of_old hE_ok hS5_ok (args := [.old (.sl 9 [.str] none xs)]) 18 3 ?_
  rw [fJoin_top]
  by_cases h16 : 16 < xs.length
  · rw [ilt_t (by rw [llen_nat]; omega)]
    unfold jnT jnW joinP
    rw [if_pos (by omega)]
    rfl
  · have k : band (ile 0 (llen xs)) (band (ile (llen xs) (llen xs)) (ile (llen xs) 16777216)) = true := by rw [band_iff, band_iff, ile_iff, ile_iff, ile_iff, llen_nat]; omega
    rw [ilt_f (by rw [llen_nat]; omega), k]
    have e : lrep (llen xs) (V.str []) = strsV [] ++ List.replicate xs.length (V.str []) := by unfold lrep; rw [llen_nat, Int.toNat_natCast]; rfl
    rw [e]
    have := jn_spec hS5_ok 18 xs (by omega) hc xs.length 0 18 [] (by omega) (by omega) (by simp)
    rw [show (((0 : Nat) : Int)) = 0 from rfl, List.drop_zero] at this
    rw [← jnV_eq xs (by omega), ← this]
    rfl
end Nt.Ev.YtjkfndcpiihniaaGreatDoor

namespace Nt.Ev.YtjkfndcpiihniaaGreatDoor
open Go Nt.Num Go.Proofs.YtjkfndcpiihniaaGreatDoor
open Nt.Fld
noncomputable def hJnS : FSpec := fun a => match a with | [.sl 9 [.str] none xs] => some (jnC xs, .tup [.str (jnT xs), .int .i64 (jnW xs)]) | _ => none
noncomputable def hLd : List (Nat × FSpec) := (42, hJnS) :: (56, hJnS) :: (71, hTextS) :: (84, hTextS) :: hS0
noncomputable def hL : List (Nat × FSpec) := hLd
end Nt.Ev.YtjkfndcpiihniaaGreatDoor

namespace Nt.Ev.YtjkfndcpiihniaaGreatDoor
set_option maxRecDepth 100000
open Go Go.RowKit Nt Nt.Num Nt.Fld Go.Proofs.YtjkfndcpiihniaaGreatDoor
theorem rj_loop (F : Nat) (xs : List V) (hx : xs.length ≤ 16) : ∀ (j i n : Nat) (x4 : List UInt8), 0 < i → i + j = xs.length → j < n → x4.length + totL ((ssV xs).drop i) + 3 * j ≤ 4000000 →
    rJoin14_L0 F [] n xs [] 0 x4 xs (llen xs) (i : Int) some = some (jnV (joinR ((ssV xs).drop i)).2 (x4 ++ (joinR ((ssV xs).drop i)).1)) := by
  intro j
  induction j with
  | zero =>
    intro i n x4 h0 hi hn hl
    obtain ⟨n, rfl⟩ : ∃ k, n = k + 1 := ⟨n - 1, by omega⟩
    have hsl : (ssV xs).length = xs.length := by unfold ssV; simp
    rw [rJoin14_L0_succ, ilt_f (by rw [llen_nat]; omega), List.drop_of_length_le (by omega), show (joinR []).1 = [] from rfl, List.append_nil]
    rfl
  | succ j ih =>
    intro i n x4 h0 hi hn hl
    obtain ⟨n, rfl⟩ : ∃ k, n = k + 1 := ⟨n - 1, by omega⟩
    have hsl : (ssV xs).length = xs.length := by unfold ssV; simp
    obtain ⟨g1, _⟩ := get_drop xs i (by omega)
    have hxv : asStr (acell (lget xs (i : Int)) 0) = (ssV xs)[i]'(by omega) := by
      rw [g1]; unfold ssV; rw [List.getElem_map]; rfl
    have g2 : (ssV xs).drop i = (ssV xs)[i]'(by omega) :: (ssV xs).drop (i + 1) := List.drop_eq_getElem_cons (by omega)
    generalize (ssV xs)[i]'(by omega) = x at hxv g2
    rw [g2] at hl ⊢
    have et : totL (x :: (ssV xs).drop (i + 1)) = x.length + totL ((ssV xs).drop (i + 1)) := rfl
    rw [et] at hl
    have tl := tx1_len x
    have k2 : band (ile 0 (i : Int)) (ilt (i : Int) (llen xs)) = true := by rw [band_iff, ile_iff, ilt_iff, llen_nat]; omega
    have k3 : ile (slen x) 4000000 = true := ile_t (by rw [slen_nat]; omega)
    have k4 : okCat x4 [32] = true := by rw [okCat_iff]; simp only [List.length_cons, List.length_nil]; omega
    have k5 : okCat (scat x4 [32]) (tx1 x) = true := by rw [okCat_iff]; unfold scat; simp only [List.length_append, List.length_cons, List.length_nil]; omega
    have k6 : iadd .i64 (i : Int) 1 = ((i + 1 : Nat) : Int) := by rw [iadd64 (by omega)]; omega
    rw [rJoin14_L0_succ, k2, ilt_t (show (i : Int) < llen xs by rw [llen_nat]; omega), hxv, k3, (ft_eq x).1, (ft_eq x).2, ilt_t (show (0 : Int) < (i : Int) by omega), k4, k5, k6]
    show sel (bnot (ieq (txP x).2 0)) (some (V.tup [(V.str []), (V.int .i64 (txP x).2)])) (rJoin14_L0 F [] n xs [] 0 (x4 ++ [32] ++ tx1 x) xs (llen xs) ((i + 1 : Nat) : Int) some) = _
    rw [ih (i + 1) n (x4 ++ [32] ++ tx1 x) (by omega) (by omega) (by omega) (by simp only [List.length_append, List.length_cons, List.length_nil]; omega)]
    rw [joinR_cons]
    rcases tx_err x with h | h
    · rw [h]
      have e : (joinR (x :: (ssV xs).drop (i + 1))).1 = if (joinR ((ssV xs).drop (i + 1))).2 = 0 then [32] ++ tx1 x ++ (joinR ((ssV xs).drop (i + 1))).1 else [] := by
        show (if (txP x).2 = 0 then (if (joinR ((ssV xs).drop (i + 1))).2 = 0 then (([32] ++ (txP x).1 ++ (joinR ((ssV xs).drop (i + 1))).1, 0) : List UInt8 × Int) else ([], (joinR ((ssV xs).drop (i + 1))).2)) else ([], (txP x).2)).1 = _
        rw [if_pos h]
        split <;> rfl
      rw [e]
      by_cases h2 : (joinR ((ssV xs).drop (i + 1))).2 = 0
      · rw [if_pos h2, h2]
        simp only [List.append_assoc]
        rfl
      · rw [if_neg h2]
        unfold jnV
        rw [if_pos rfl, ieq_f h2]; rfl
    · rw [h]; rfl
theorem hJnS_ok_noontideref14_Join (xs : List V) (hc : jnC xs = true) : Contract hE 56 [.sl 9 [.str] none xs] (.tup [.str (jnT xs), .int .i64 (jnW xs)]) := by
  unfold jnC at hc
  rw [decide_eq_true_iff] at hc
  have hsl : (ssV xs).length = xs.length := by unfold ssV; simp
  refine contract_of_body hE_ok hS1_ok 18 3 ?_
  rw [rJoin14_top]
  by_cases h16 : 16 < xs.length
  · rw [ilt_t (by rw [llen_nat]; omega)]
    unfold jnT jnW joinP
    rw [if_pos (by omega)]
    rfl
  · rw [ilt_f (by rw [llen_nat]; omega)]
    unfold jnT jnW joinP
    rw [if_neg (by omega)]
    match xs, hc, hsl, h16 with
    | [], _, _, _ => rfl
    | y :: l, hc, hsl, h16 =>
      have g1 : lget (y :: l) 0 = y := rfl
      generalize hx : asStr (acell y 0) = x
      have g3 : ssV (y :: l) = x :: ssV l := by rw [← hx]; rfl
      have et : totL (x :: ssV l) = x.length + totL (ssV l) := rfl
      rw [g3, et] at hc
      have tl := tx1_len x
      have k1 : ilt 0 (llen (y :: l)) = true := ilt_t (by rw [llen_nat, List.length_cons]; omega)
      have k3 : ile (slen x) 4000000 = true := ile_t (by rw [slen_nat]; omega)
      have k4 : okCat [] (tx1 x) = true := by rw [okCat_iff]; simp only [List.length_nil]; omega
      have k6 : iadd .i64 0 1 = ((1 : Nat) : Int) := rfl
      rw [sF', rJoin14_L0_succ, k1, g1, hx, k3, (ft_eq x).1, (ft_eq x).2, k4, k6, g3]
      show sel (bnot (ieq (txP x).2 0)) (some (V.tup [(V.str []), (V.int .i64 (txP x).2)])) (rJoin14_L0 18 [] 17 (y :: l) [] 0 (tx1 x) (y :: l) (llen (y :: l)) ((1 : Nat) : Int) some) = _
      have g4 : (ssV (y :: l)).drop 1 = ssV l := by rw [g3]; rfl
      have := rj_loop 18 (y :: l) (by omega) l.length 1 17 (tx1 x) (by omega) (by rw [List.length_cons]; omega) (by rw [List.length_cons] at h16; omega) (by rw [g4]; rw [List.length_cons] at h16; omega)
      rw [g4] at this
      rw [this, joinR_cons]
      rcases tx_err x with h | h
      · rw [h]
        have e : (joinR (x :: ssV l)).1 = if (joinR (ssV l)).2 = 0 then [32] ++ tx1 x ++ (joinR (ssV l)).1 else [] := by
          show (if (txP x).2 = 0 then (if (joinR (ssV l)).2 = 0 then (([32] ++ (txP x).1 ++ (joinR (ssV l)).1, 0) : List UInt8 × Int) else ([], (joinR (ssV l)).2)) else ([], (txP x).2)).1 = _
          rw [if_pos h]
          split <;> rfl
        rw [e]
        unfold jnV
        by_cases h2 : (joinR (ssV l)).2 = 0
        · rw [if_pos h2, h2]; rfl
        · rw [if_neg h2, if_pos rfl, if_neg h2, ieq_f h2]; rfl
      · rw [h]; rfl
end Nt.Ev.YtjkfndcpiihniaaGreatDoor
