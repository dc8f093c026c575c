/-
  Clock: equations of functions, as the evaluator prints them. Times of day: what the program's functions and the document's answer. ClockLaw: equations of functions, as the evaluator prints them. Times of day: the statements ClockTells and ClockBack.
-/
import Derived.Test.YtpmemdamcadbgaaGreatDoorMF
import Derived.Test.YtpmemdamcadbgaaGreatDoorME
import Derived.Shelf.Strings.SlTrimAscii
set_option linter.unusedVariables false
set_option linter.unusedSimpArgs false
set_option linter.unusedSectionVars false
namespace Nt.Ev.YtpmemdamcadbgaaGreatDoor
open Go Nt.Num Go.Proofs.YtpmemdamcadbgaaGreatDoor
variable [MLen]
def rdI (s : List UInt8) : Int := (Amount.read s).1
def rdWc (s : List UInt8) : Int := (Amount.read s).2
def txL (n : Int) : List UInt8 := (Amount.text n).1
def txW (n : Int) : Int := (Amount.text n).2
def asciiBc (l : List UInt8) : Bool := l.all fun c => decide (c.toNat < 128)
def trimRC (s c : List UInt8) : List UInt8 := Lib.trimRightS s c
noncomputable def cReadS : FSpec := fun a => match a with | [.str s] => some (ile (slen s) 1000, .tup [.int .i64 (rdI s), .int .i64 (rdWc s)]) | _ => none
noncomputable def cTextS : FSpec := fun a => match a with | [.int .i64 n] => some (band (ile (-9223372036854775808) n) (ile n 9223372036854775807), .tup [.str (txL n), .int .i64 (txW n)]) | _ => none
noncomputable def trimRS : FSpec := fun a => match a with | [.str s, .str c] => some (band (ile (slen s) 1000) (band (ile (slen c) 1000) (asciiBc c)), .str (trimRC s c)) | _ => none
noncomputable def cS : List (Nat × FSpec) := (62, cReadS) :: (18, cTextS) :: (119, trimRS) :: []
def clsI (x : Int) : Int := if x = 119 ∨ x = 87 then 0 else if x = 115 ∨ x = 83 then 1 else if x = 117 ∨ x = 85 ∨ x = 103 ∨ x = 71 ∨ x = 122 ∨ x = 90 then 2 else 3
def bsP (s : List UInt8) : List UInt8 × Int := match s.getLast? with | none => (s, 0) | some c => if clsI (c.toNat : Int) = 3 then (s, 0) else (s.dropLast, clsI (c.toNat : Int))
def bsT (s : List UInt8) : List UInt8 := (bsP s).1
def bsB (s : List UInt8) : Int := (bsP s).2
noncomputable def cBaseS : FSpec := fun a => match a with | [.str s] => some (ile (slen s) 1000, .tup [.str (bsT s), .int .i64 (bsB s)]) | _ => none
noncomputable def cS2 : List (Nat × FSpec) := (91, cBaseS) :: cS
noncomputable def cBase_L0 (F : Nat) (ns : List Nat) (n : Nat) (x0 : List UInt8) (x2 : List UInt8) (x3 : Int) (x7_0 : List UInt8) (x7_1 : List UInt8) (x7_2 : List UInt8) (x8 : Int) (K : V → Option V) : Option V :=
 loopAt aE cS F 2 91 [1, 0, 1, 0] ns K n (mkSt 28 [(0, V.str x0), (2, V.str x2), (3, V.int .i64 x3), (7, V.agg [V.str x7_0, V.str x7_1, V.str x7_2]), (8, V.int .i64 x8)] [])
set_option maxRecDepth 100000 in
theorem cBase_top (F : Nat) (s : List UInt8) (K : V → Option V) :
 evBd aE (evFn aE cS F 2) F 91 [(V.str s)] K =
 cBase_L0 F [] F s [] 0 [119, 87] [115, 83] [117, 85, 103, 71, 122, 90] 0 K := by kernel_rfl
set_option maxRecDepth 100000 in
theorem cBase_L0_succ (F : Nat) (n : Nat) (x0 : List UInt8) (x2 : List UInt8) (x3 : Int) (x7_0 : List UInt8) (x7_1 : List UInt8) (x7_2 : List UInt8) (x8 : Int) (K : V → Option V) :
 cBase_L0 F [] (n + 1) x0 x2 x3 x7_0 x7_1 x7_2 x8 K =
 sel (ilt x8 3)
 (sel (ieq x8 0)
 (sel (band (ile (slen x0) 1000) (band (ile (slen x7_0) 1000) (asciiBc x7_0)))
 (sel (ilt (slen (trimRC x0 x7_0)) (slen x0))
 (sel (band (ile 0 (isub .i64 (slen x0) 1)) (ile (isub .i64 (slen x0) 1) (slen x0)))
 (K (V.tup [(V.str (ssub x0 0 (isub .i64 (slen x0) 1))), (V.int .i64 x8)]))
 (none))
 (cBase_L0 F [] n x0 x2 x3 x7_0 x7_1 x7_2 (iadd .i64 x8 1) K))
 (none))
 (sel (ieq x8 1)
 (sel (band (ile (slen x0) 1000) (band (ile (slen x7_1) 1000) (asciiBc x7_1)))
 (sel (ilt (slen (trimRC x0 x7_1)) (slen x0))
 (sel (band (ile 0 (isub .i64 (slen x0) 1)) (ile (isub .i64 (slen x0) 1) (slen x0)))
 (K (V.tup [(V.str (ssub x0 0 (isub .i64 (slen x0) 1))), (V.int .i64 x8)]))
 (none))
 (cBase_L0 F [] n x0 x2 x3 x7_0 x7_1 x7_2 (iadd .i64 x8 1) K))
 (none))
 (sel (ieq x8 2)
 (sel (band (ile (slen x0) 1000) (band (ile (slen x7_2) 1000) (asciiBc x7_2)))
 (sel (ilt (slen (trimRC x0 x7_2)) (slen x0))
 (sel (band (ile 0 (isub .i64 (slen x0) 1)) (ile (isub .i64 (slen x0) 1) (slen x0)))
 (K (V.tup [(V.str (ssub x0 0 (isub .i64 (slen x0) 1))), (V.int .i64 x8)]))
 (none))
 (cBase_L0 F [] n x0 x2 x3 x7_0 x7_1 x7_2 (iadd .i64 x8 1) K))
 (none))
 (none))))
 (K (V.tup [(V.str x0), (V.int .i64 0)])) := by kernel_rfl
set_option maxRecDepth 100000 in
theorem cRight_top (F : Nat) (n : Int) (b : Int) (K : V → Option V) :
 evBd aE (evFn aE cS F 2) F 35 [(V.agg [(V.int .i64 n), (V.int .i64 b)])] K =
 sel (ieq b 0)
 (sel (ieq b 0)
 (sel (ile 0 n)
 (K (V.bool (ile n 172800)))
 (K (V.bool false)))
 (K (V.bool false)))
 (sel (ieq b 1)
 (sel (ieq b 1)
 (sel (ile 0 n)
 (K (V.bool (ile n 172800)))
 (K (V.bool false)))
 (K (V.bool false)))
 (sel (ieq b 2)
 (sel (ile 0 n)
 (K (V.bool (ile n 172800)))
 (K (V.bool false)))
 (K (V.bool false)))) := by kernel_rfl
set_option maxRecDepth 100000 in
theorem cText19_top (F : Nat) (n : Int) (b : Int) (K : V → Option V) :
 evBd aE (evFn aE cS F 2) F 17 [(V.agg [(V.int .i64 n), (V.int .i64 b)])] K =
 sel (ieq b 0)
 (sel (ieq b 0)
 (sel (ile 0 n)
 (sel (bnot (ile n 172800))
 (K (V.tup [(V.str []), (V.int .i64 4)]))
 (sel (band (ile (-9223372036854775808) n) (ile n 9223372036854775807))
 (sel (ieq b 0)
 (sel (okCat (txL n) [])
 (K (V.tup [(V.str (scat (txL n) [])), (V.int .i64 (txW n))]))
 (none))
 (sel (ieq b 1)
 (sel (okCat (txL n) [115])
 (K (V.tup [(V.str (scat (txL n) [115])), (V.int .i64 (txW n))]))
 (none))
 (sel (ieq b 2)
 (sel (okCat (txL n) [117])
 (K (V.tup [(V.str (scat (txL n) [117])), (V.int .i64 (txW n))]))
 (none))
 (none))))
 (none)))
 (K (V.tup [(V.str []), (V.int .i64 4)])))
 (K (V.tup [(V.str []), (V.int .i64 4)])))
 (sel (ieq b 1)
 (sel (ieq b 1)
 (sel (ile 0 n)
 (sel (bnot (ile n 172800))
 (K (V.tup [(V.str []), (V.int .i64 4)]))
 (sel (band (ile (-9223372036854775808) n) (ile n 9223372036854775807))
 (sel (ieq b 0)
 (sel (okCat (txL n) [])
 (K (V.tup [(V.str (scat (txL n) [])), (V.int .i64 (txW n))]))
 (none))
 (sel (ieq b 1)
 (sel (okCat (txL n) [115])
 (K (V.tup [(V.str (scat (txL n) [115])), (V.int .i64 (txW n))]))
 (none))
 (sel (ieq b 2)
 (sel (okCat (txL n) [117])
 (K (V.tup [(V.str (scat (txL n) [117])), (V.int .i64 (txW n))]))
 (none))
 (none))))
 (none)))
 (K (V.tup [(V.str []), (V.int .i64 4)])))
 (K (V.tup [(V.str []), (V.int .i64 4)])))
 (sel (ieq b 2)
 (sel (ile 0 n)
 (sel (bnot (ile n 172800))
 (K (V.tup [(V.str []), (V.int .i64 4)]))
 (sel (band (ile (-9223372036854775808) n) (ile n 9223372036854775807))
 (sel (ieq b 0)
 (sel (okCat (txL n) [])
 (K (V.tup [(V.str (scat (txL n) [])), (V.int .i64 (txW n))]))
 (none))
 (sel (ieq b 1)
 (sel (okCat (txL n) [115])
 (K (V.tup [(V.str (scat (txL n) [115])), (V.int .i64 (txW n))]))
 (none))
 (sel (ieq b 2)
 (sel (okCat (txL n) [117])
 (K (V.tup [(V.str (scat (txL n) [117])), (V.int .i64 (txW n))]))
 (none))
 (none))))
 (none)))
 (K (V.tup [(V.str []), (V.int .i64 4)])))
 (K (V.tup [(V.str []), (V.int .i64 4)])))) := by kernel_rfl
set_option maxRecDepth 100000 in
theorem cRead_top (F : Nat) (s : List UInt8) (K : V → Option V) :
 evBd aE (evFn aE cS2 F 3) F 60 [(V.str s)] K =
 sel (ile (slen s) 1000)
 (sel (ile (slen (bsT s)) 1000)
 (sel (bnot (ieq (rdWc (bsT s)) 0))
 (K (V.tup [(V.agg [(V.int .i64 0), (V.int .i64 0)]), (V.int .i64 (rdWc (bsT s)))]))
 (sel (ieq (bsB s) 0)
 (sel (ieq (bsB s) 0)
 (sel (ile 0 (rdI (bsT s)))
 (sel (bnot (ile (rdI (bsT s)) 172800))
 (K (V.tup [(V.agg [(V.int .i64 0), (V.int .i64 0)]), (V.int .i64 1)]))
 (K (V.tup [(V.agg [(V.int .i64 (rdI (bsT s))), (V.int .i64 (bsB s))]), (V.int .i64 0)])))
 (K (V.tup [(V.agg [(V.int .i64 0), (V.int .i64 0)]), (V.int .i64 1)])))
 (K (V.tup [(V.agg [(V.int .i64 0), (V.int .i64 0)]), (V.int .i64 1)])))
 (sel (ieq (bsB s) 1)
 (sel (ieq (bsB s) 1)
 (sel (ile 0 (rdI (bsT s)))
 (sel (bnot (ile (rdI (bsT s)) 172800))
 (K (V.tup [(V.agg [(V.int .i64 0), (V.int .i64 0)]), (V.int .i64 1)]))
 (K (V.tup [(V.agg [(V.int .i64 (rdI (bsT s))), (V.int .i64 (bsB s))]), (V.int .i64 0)])))
 (K (V.tup [(V.agg [(V.int .i64 0), (V.int .i64 0)]), (V.int .i64 1)])))
 (K (V.tup [(V.agg [(V.int .i64 0), (V.int .i64 0)]), (V.int .i64 1)])))
 (sel (ieq (bsB s) 2)
 (sel (ile 0 (rdI (bsT s)))
 (sel (bnot (ile (rdI (bsT s)) 172800))
 (K (V.tup [(V.agg [(V.int .i64 0), (V.int .i64 0)]), (V.int .i64 1)]))
 (K (V.tup [(V.agg [(V.int .i64 (rdI (bsT s))), (V.int .i64 (bsB s))]), (V.int .i64 0)])))
 (K (V.tup [(V.agg [(V.int .i64 0), (V.int .i64 0)]), (V.int .i64 1)])))
 (K (V.tup [(V.agg [(V.int .i64 0), (V.int .i64 0)]), (V.int .i64 1)]))))))
 (none))
 (none) := by kernel_rfl
end Nt.Ev.YtpmemdamcadbgaaGreatDoor

set_option linter.unusedVariables false
set_option linter.unusedSimpArgs false
set_option linter.unusedSectionVars false
namespace Nt.Ev.YtpmemdamcadbgaaGreatDoor
open Go Nt Nt.Num Go.Proofs.YtpmemdamcadbgaaGreatDoor
variable [MLen]
theorem toAk {f : Nat} {args : List V} {r : V} (h : Contract nE f args r) : Contract aE f args r := Contract.env (E := nE) rfl (fun n v h => by cases h) h
theorem lenA {s : List UInt8} (h : ile (slen s) 1000 = true) : s.length ≤ 1000 := by rw [ile_iff, slen_nat] at h; omega
theorem fitsA {m : Int} (h : band (ile (-9223372036854775808) m) (ile m 9223372036854775807) = true) : Fits m := by rw [band_iff, ile_iff, ile_iff] at h; exact h
open Go.Lib in
theorem trimR_c (s c : List UInt8) (hs : s.length ≤ 1000) (hc : c.length ≤ 1000) (ha : asciiBc c = true) : Contract nE 119 [.str s, .str c] (.str (trimRC s c)) := by
  refine contract_old fun G w vs hG hg hp => ?_
  obtain ⟨x, y, rfl, hx, hy⟩ := PW_two hp
  unfold rep at hx hy
  subst hx; subst hy
  have hasc : ∀ (j : Nat) b, (⟨c.toArray⟩ : ByteArray).data.toList[j]? = some b → b.toNat < 128 := fun j b hb => by
    unfold asciiBc at ha
    rw [List.all_eq_true] at ha
    have := ha b (List.mem_of_getElem? hb)
    simpa using this
  refine (Go.Proofs.Any.strings_TrimRight_laid Go.Proofs.Tryz.lays162 (by kernel_rfl) ⟨s.toArray⟩ ⟨c.toArray⟩ w (by rw [ba_size]; omega) (by rw [ba_size]; omega) hasc).mono ?_
  rintro e w' ⟨rfl, hb⟩
  exact ⟨_, rfl, hb, res_str _⟩
theorem cReadS_ok (s : List UInt8) (hc : ile (slen s) 1000 = true) : Contract aE 62 [.str s] (.tup [.int .i64 (rdI s), .int .i64 (rdWc s)]) := aread_ev s (lenA hc)
theorem cTextS_ok (n : Int) (hc : band (ile (-9223372036854775808) n) (ile n 9223372036854775807) = true) : Contract aE 18 [.int .i64 n] (.tup [.str (txL n), .int .i64 (txW n)]) := atext_ev n (fitsA hc).1 (fitsA hc).2
theorem trimRS_ok (s c : List UInt8) (hc : band (ile (slen s) 1000) (band (ile (slen c) 1000) (asciiBc c)) = true) : Contract aE 119 [.str s, .str c] (.str (trimRC s c)) := by
  obtain ⟨h1, h2⟩ := band_true hc
  obtain ⟨h2, h3⟩ := band_true h2
  exact toAk (trimR_c s c (lenA h1) (lenA h2) h3)
theorem cS_ok : SOk aE cS := by
  unfold cS
  refine SOk.cons (fun args r h => ?_) (SOk.cons (fun args r h => ?_) (SOk.cons (fun args r h => ?_) (SOk.nil)))
  · unfold cReadS at h
    split at h
    · simp only [Option.some.injEq, Prod.mk.injEq] at h
      obtain ⟨hc, rfl⟩ := h
      exact cReadS_ok _ hc
    · cases h
  · unfold cTextS at h
    split at h
    · simp only [Option.some.injEq, Prod.mk.injEq] at h
      obtain ⟨hc, rfl⟩ := h
      exact cTextS_ok _ hc
    · cases h
  · unfold trimRS at h
    split at h
    · simp only [Option.some.injEq, Prod.mk.injEq] at h
      obtain ⟨hc, rfl⟩ := h
      exact trimRS_ok _ _ hc
    · cases h
theorem trim_last (l : List UInt8) (c : UInt8) (cs : List UInt8) : ilt (slen (trimRC (l ++ [c]) cs)) (slen (l ++ [c])) = cs.contains c := by
  unfold trimRC Lib.trimRightS
  rw [List.reverse_append, List.reverse_singleton, List.singleton_append, List.dropWhile_cons]
  cases hc : cs.contains c with
  | true =>
    rw [if_pos rfl]
    refine ilt_t ?_
    rw [slen_nat, slen_nat, List.length_reverse, List.length_append]
    have := (List.dropWhile_suffix (l := l.reverse) fun x => cs.contains x).sublist.length_le
    rw [List.length_reverse] at this
    simp only [List.length_singleton]
    omega
  | false =>
    rw [if_neg (by decide)]
    refine ilt_f ?_
    simp [slen]
theorem sub_last (l : List UInt8) (c : UInt8) (h : (l ++ [c]).length ≤ 1000) : isub .i64 (slen (l ++ [c])) 1 = (l.length : Int) := by
  rw [slen_nat] at *
  rw [isub64 (by omega)]; simp
theorem ssub_last (l : List UInt8) (c : UInt8) : ssub (l ++ [c]) 0 (l.length : Int) = l := by
  unfold ssub; simp
theorem slen_last (l : List UInt8) (c : UInt8) : slen (l ++ [c]) = (l.length : Int) + 1 := by unfold slen; simp
theorem bsP_last (l : List UInt8) (c : UInt8) : bsP (l ++ [c]) = if clsI (c.toNat : Int) = 3 then (l ++ [c], 0) else (l, clsI (c.toNat : Int)) := by
  unfold bsP; simp
theorem cont_cls (c : UInt8) : ([119, 87] : List UInt8).contains c = decide (clsI (c.toNat : Int) = 0) ∧ ([115, 83] : List UInt8).contains c = decide (clsI (c.toNat : Int) = 1) ∧ ([117, 85, 103, 71, 122, 90] : List UInt8).contains c = decide (clsI (c.toNat : Int) = 2) := by
  have h : ∀ n : Fin 256, ([119, 87] : List UInt8).contains (UInt8.ofNat n) = decide (clsI ((n.val : Nat) : Int) = 0) ∧ ([115, 83] : List UInt8).contains (UInt8.ofNat n) = decide (clsI ((n.val : Nat) : Int) = 1) ∧ ([117, 85, 103, 71, 122, 90] : List UInt8).contains (UInt8.ofNat n) = decide (clsI ((n.val : Nat) : Int) = 2) := by decide +kernel
  have := h ⟨c.toNat, c.toNat_lt⟩
  simpa using this
theorem cls_le (x : Int) : clsI x = 0 ∨ clsI x = 1 ∨ clsI x = 2 ∨ clsI x = 3 := by
  unfold clsI
  (repeat' split) <;> omega
theorem cBase_ev (s : List UInt8) (hs : s.length ≤ 1000) : Contract aE 91 [.str s] (.tup [.str (bsT s), .int .i64 (bsB s)]) := by
  refine contract_of_body aE_ok cS_ok 5 2 ?_
  rw [cBase_top]
  have h1 : ile (slen s) 1000 = true := ile_t (by rw [slen_nat]; omega)
  have a0 : band (ile (slen s) 1000) (band (ile (slen [119, 87]) 1000) (asciiBc [119, 87])) = true := by rw [h1]; rfl
  have a1 : band (ile (slen s) 1000) (band (ile (slen [115, 83]) 1000) (asciiBc [115, 83])) = true := by rw [h1]; rfl
  have a2 : band (ile (slen s) 1000) (band (ile (slen [117, 85, 103, 71, 122, 90]) 1000) (asciiBc [117, 85, 103, 71, 122, 90])) = true := by rw [h1]; rfl
  have i1 : iadd .i64 0 1 = 1 := rfl
  have i2 : iadd .i64 1 1 = 2 := rfl
  have i3 : iadd .i64 2 1 = 3 := rfl
  have st : ∀ x y : Option V, sel true x y = x := fun _ _ => rfl
  have sf : ∀ x y : Option V, sel false x y = y := fun _ _ => rfl
  have l0 : ilt 0 3 = true := rfl
  have l1 : ilt 1 3 = true := rfl
  have l2 : ilt 2 3 = true := rfl
  have l3 : ilt 3 3 = false := rfl
  have e00 : ieq 0 0 = true := rfl
  have e10 : ieq 1 0 = false := rfl
  have e11 : ieq 1 1 = true := rfl
  have e20 : ieq 2 0 = false := rfl
  have e21 : ieq 2 1 = false := rfl
  have e22 : ieq 2 2 = true := rfl
  rw [cBase_L0_succ, cBase_L0_succ, cBase_L0_succ, cBase_L0_succ]
  simp only [a0, a1, a2, i1, i2, i3, l0, l1, l2, l3, e00, e10, e11, e20, e21, e22, st, sf]
  rcases List.eq_nil_or_concat s with rfl | ⟨l, c, rfl⟩
  · rfl
  · rw [List.concat_eq_append] at *
    have b : band (ile 0 (isub .i64 (slen (l ++ [c])) 1)) (ile (isub .i64 (slen (l ++ [c])) 1) (slen (l ++ [c]))) = true := by
      rw [sub_last l c hs, band_iff, ile_iff, ile_iff, slen_last]; omega
    obtain ⟨c0, c1, c2⟩ := cont_cls c
    rw [trim_last, trim_last, trim_last, c0, c1, c2, b, sub_last l c hs, ssub_last]
    unfold bsT bsB
    rw [bsP_last]
    have hcl := cls_le (c.toNat : Int)
    generalize clsI (c.toNat : Int) = q at *
    rcases hcl with rfl | rfl | rfl | rfl <;> rfl
theorem cBaseS_ok (s : List UInt8) (hc : ile (slen s) 1000 = true) : Contract aE 91 [.str s] (.tup [.str (bsT s), .int .i64 (bsB s)]) := cBase_ev s (lenA hc)
theorem cS2_ok : SOk aE cS2 := by
  unfold cS2
  refine SOk.cons (fun args r h => ?_) (cS_ok)
  · unfold cBaseS at h
    split at h
    · simp only [Option.some.injEq, Prod.mk.injEq] at h
      obtain ⟨hc, rfl⟩ := h
      exact cBaseS_ok _ hc
    · cases h
def readC (s : List UInt8) : Int × Int × Int := if rdWc (bsT s) = 0 then (if 0 ≤ rdI (bsT s) ∧ rdI (bsT s) ≤ 172800 then (rdI (bsT s), bsB s, 0) else (0, 0, 1)) else (0, 0, rdWc (bsT s))
def resC (p : Int × Int × Int) : V := .tup [.agg [.int .i64 p.1, .int .i64 p.2.1], .int .i64 p.2.2]
theorem bs_len (s : List UInt8) : (bsT s).length ≤ s.length ∧ (bsB s = 0 ∨ bsB s = 1 ∨ bsB s = 2) := by
  rcases List.eq_nil_or_concat s with rfl | ⟨l, c, rfl⟩
  · exact ⟨by simp [bsT, bsP], .inl rfl⟩
  · rw [List.concat_eq_append]
    unfold bsT bsB
    rw [bsP_last]
    have hcl := cls_le (c.toNat : Int)
    split
    · exact ⟨by simp, .inl rfl⟩
    · exact ⟨by simp, by simp only; omega⟩
theorem cRead_ev (s : List UInt8) (hs : s.length ≤ 1000) : Contract aE 60 [.str s] (resC (readC s)) := by
  refine contract_of_body aE_ok cS2_ok 5 3 ?_
  rw [cRead_top]
  obtain ⟨h1, h2⟩ := bs_len s
  have h3 : ile (slen s) 1000 = true := ile_t (by rw [slen_nat]; omega)
  have h4 : ile (slen (bsT s)) 1000 = true := ile_t (by rw [slen_nat]; omega)
  unfold readC resC
  simp only [h3, h4, sel_if, band_iff, bnot_iff, ieq_iff, ile_iff, ilt_iff, if_true, and_self, Bool.false_eq_true, if_false]
  generalize rdI (bsT s) = a at *
  generalize rdWc (bsT s) = b at *
  generalize bsB s = q at *
  repeat' split
  all_goals first | rfl | (exfalso; omega)
def rightC (n b : Int) : Bool := decide (0 ≤ n ∧ n ≤ 172800 ∧ 0 ≤ b ∧ b ≤ 2)
theorem cRight_ev (n b : Int) : Contract aE 35 [.agg [.int .i64 n, .int .i64 b]] (.bool (rightC n b)) := by
  refine contract_of_body aE_ok cS_ok 5 2 ?_
  rw [cRight_top]
  unfold rightC
  simp only [sel_if, ile_iff, ieq_iff]
  repeat' split
  all_goals first | (rw [decide_eq_false (by omega)]; done) | (congr 2; unfold ile; rw [Bool.eq_iff_iff]; simp; omega)
def letC (b : Int) : List UInt8 := if b = 0 then [] else if b = 1 then [115] else [117]
def textC (n b : Int) : List UInt8 × Int := if rightC n b = true then (txL n ++ letC b, 0) else ([], 4)
theorem tx_week (n : Int) (h : 0 ≤ n ∧ n ≤ 172800) : txW n = 0 ∧ (txL n).length ≤ 10 := by
  unfold txW txL Amount.text
  rw [if_neg (by omega)]
  by_cases h0 : n = 0
  · subst h0; exact ⟨rfl, by decide⟩
  · rw [if_neg h0]
    refine ⟨rfl, ?_⟩
    have := digs_len 3 (n.natAbs / 3600) (by omega) (by decide)
    simp only [Amount.two]
    split <;> split <;> simp <;> omega
theorem cText19_ev (n b : Int) : Contract aE 17 [.agg [.int .i64 n, .int .i64 b]] (.tup [.str (textC n b).1, .int .i64 (textC n b).2]) := by
  refine contract_of_body aE_ok cS_ok 5 2 ?_
  rw [cText19_top]
  unfold textC
  by_cases hr : rightC n b = true
  · rw [if_pos hr]
    unfold rightC at hr
    have hr := of_decide_eq_true hr
    obtain ⟨h1, h2⟩ := tx_week n (by omega)
    have f1 : ile 0 n = true := ile_t (by omega)
    have f2 : ile n 172800 = true := ile_t (by omega)
    have f3 : band (ile (-9223372036854775808) n) (ile n 9223372036854775807) = true := by rw [band_iff, ile_iff, ile_iff]; omega
    have f4 : ∀ p : List UInt8, p.length ≤ 10 → okCat (txL n) p = true := fun p hp => by rw [okCat_iff]; omega
    have g0 := f4 [] (by decide)
    have g1 := f4 [115] (by decide)
    have g2 := f4 [117] (by decide)
    have hb : b = 0 ∨ b = 1 ∨ b = 2 := by omega
    rcases hb with rfl | rfl | rfl
    · simp only [f1, f2, f3, g0, g1, g2, h1]; rfl
    · simp only [f1, f2, f3, g0, g1, g2, h1]; rfl
    · simp only [f1, f2, f3, g0, g1, g2, h1]; rfl
  · rw [if_neg hr]
    unfold rightC at hr
    have hr : ¬ (0 ≤ n ∧ n ≤ 172800 ∧ 0 ≤ b ∧ b ≤ 2) := fun h => hr (decide_eq_true h)
    simp only [sel_if, ile_iff, ieq_iff, bnot_iff]
    repeat' split
    all_goals first | rfl | (exfalso; omega)
end Nt.Ev.YtpmemdamcadbgaaGreatDoor

set_option linter.unusedVariables false
set_option linter.unusedSimpArgs false
set_option linter.unusedSectionVars false
namespace Nt.Ev.YtpmemdamcadbgaaGreatDoor
open Go Nt.Num Go.Proofs.YtpmemdamcadbgaaGreatDoor
variable [MLen]
end Nt.Ev.YtpmemdamcadbgaaGreatDoor

set_option linter.unusedVariables false
set_option linter.unusedSimpArgs false
set_option linter.unusedSectionVars false
namespace Nt.Ev.YtpmemdamcadbgaaGreatDoor
open Go Nt Nt.Num Go.Proofs.YtpmemdamcadbgaaGreatDoor
variable [MLen]
theorem readC_last (l : List UInt8) (x : UInt8) (n q : Int) (hx : clsI (x.toNat : Int) = q) (hq : q ≠ 3) (hr : Amount.read l = (n, 0)) (hn : 0 ≤ n ∧ n ≤ 172800) : readC (l ++ [x]) = (n, q, 0) := by
  have h1 : bsT (l ++ [x]) = l := by unfold bsT; rw [bsP_last, hx, if_neg hq]
  have h2 : bsB (l ++ [x]) = q := by unfold bsB; rw [bsP_last, hx, if_neg hq]
  have h3 : rdI l = n := by unfold rdI; rw [hr]
  have h4 : rdWc l = 0 := by unfold rdWc; rw [hr]
  unfold readC
  rw [h1, h2, h3, h4, if_pos rfl, if_pos hn]
theorem readC_none (l : List UInt8) (c : UInt8) (n : Int) (hx : clsI (c.toNat : Int) = 3) (hr : Amount.read (l ++ [c]) = (n, 0)) (hn : 0 ≤ n ∧ n ≤ 172800) : readC (l ++ [c]) = (n, 0, 0) := by
  have h1 : bsT (l ++ [c]) = l ++ [c] := by unfold bsT; rw [bsP_last, hx, if_pos rfl]
  have h2 : bsB (l ++ [c]) = 0 := by unfold bsB; rw [bsP_last, hx, if_pos rfl]
  have h3 : rdI (l ++ [c]) = n := by unfold rdI; rw [hr]
  have h4 : rdWc (l ++ [c]) = 0 := by unfold rdWc; rw [hr]
  unfold readC
  rw [h1, h2, h3, h4, if_pos rfl, if_pos hn]
end Nt.Ev.YtpmemdamcadbgaaGreatDoor
