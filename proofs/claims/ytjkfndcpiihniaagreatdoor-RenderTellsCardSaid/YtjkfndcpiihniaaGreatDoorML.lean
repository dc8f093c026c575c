/-
  Words: equations of functions, as the evaluator prints them. Words: weekdays, and whether two texts are the same, for the evaluator, both sides. Dayspec: equations of functions, as the evaluator prints them. Names of days: what the program's functions and the document's answer. DayspecLaw: equations of functions, as the evaluator prints them. Names of days: the statements DayspecTells and DayspecBack.
-/
import Derived.Test.YtjkfndcpiihniaaGreatDoorME
import Derived.Test.YtjkfndcpiihniaaGreatDoorMD
set_option linter.unusedVariables false
set_option linter.unusedSimpArgs false
set_option linter.unusedSectionVars false
namespace Nt.Ev.YtjkfndcpiihniaaGreatDoor
set_option maxRecDepth 100000
open Go Nt.Num Go.Proofs.YtjkfndcpiihniaaGreatDoor
noncomputable def weekdaysV : V := .rptr [.str, .str, .str, .str, .str, .str, .str] (.agg [.str [83, 117, 110, 100, 97, 121], .str [77, 111, 110, 100, 97, 121], .str [84, 117, 101, 115, 100, 97, 121], .str [87, 101, 100, 110, 101, 115, 100, 97, 121], .str [84, 104, 117, 114, 115, 100, 97, 121], .str [70, 114, 105, 100, 97, 121], .str [83, 97, 116, 117, 114, 100, 97, 121]]) 0
noncomputable def wE : Env := ⟨Go.Proofs.Tryz.prog, fun g => bif g == 2 then some weekdaysV else none⟩
noncomputable def wS : List (Nat × FSpec) := []
theorem wWText_top (F : Nat) (n : Int) (K : V → Option V) :
 evBd wE (evFn wE wS F 2) F 67 [(V.int .i64 n)] K =
 sel (ilt n 0)
 (K (V.str []))
 (sel (ile (llen [(V.str [83, 117, 110, 100, 97, 121]), (V.str [77, 111, 110, 100, 97, 121]), (V.str [84, 117, 101, 115, 100, 97, 121]), (V.str [87, 101, 100, 110, 101, 115, 100, 97, 121]), (V.str [84, 104, 117, 114, 115, 100, 97, 121]), (V.str [70, 114, 105, 100, 97, 121]), (V.str [83, 97, 116, 117, 114, 100, 97, 121])]) n)
 (K (V.str []))
 (sel (band (ile 0 n) (ilt n (llen [(V.str [83, 117, 110, 100, 97, 121]), (V.str [77, 111, 110, 100, 97, 121]), (V.str [84, 117, 101, 115, 100, 97, 121]), (V.str [87, 101, 100, 110, 101, 115, 100, 97, 121]), (V.str [84, 104, 117, 114, 115, 100, 97, 121]), (V.str [70, 114, 105, 100, 97, 121]), (V.str [83, 97, 116, 117, 114, 100, 97, 121])])))
 (sel (band (ile 0 3) (ile 3 (slen (asStr (acell (lget [(V.str [83, 117, 110, 100, 97, 121]), (V.str [77, 111, 110, 100, 97, 121]), (V.str [84, 117, 101, 115, 100, 97, 121]), (V.str [87, 101, 100, 110, 101, 115, 100, 97, 121]), (V.str [84, 104, 117, 114, 115, 100, 97, 121]), (V.str [70, 114, 105, 100, 97, 121]), (V.str [83, 97, 116, 117, 114, 100, 97, 121])] n) 0)))))
 (K (V.str (ssub (asStr (acell (lget [(V.str [83, 117, 110, 100, 97, 121]), (V.str [77, 111, 110, 100, 97, 121]), (V.str [84, 117, 101, 115, 100, 97, 121]), (V.str [87, 101, 100, 110, 101, 115, 100, 97, 121]), (V.str [84, 104, 117, 114, 115, 100, 97, 121]), (V.str [70, 114, 105, 100, 97, 121]), (V.str [83, 97, 116, 117, 114, 100, 97, 121])] n) 0)) 0 3)))
 (none))
 (none))) := by kernel_rfl
theorem rWText_top (F : Nat) (n : Int) (K : V → Option V) :
 evBd wE (evFn wE wS F 2) F 80 [(V.int .i64 n)] K =
 sel (ilt n 0)
 (K (V.str []))
 (sel (ilt 6 n)
 (K (V.str []))
 (sel (band (ile 0 n) (ilt n (llen [(V.str [83, 117, 110, 100, 97, 121]), (V.str [77, 111, 110, 100, 97, 121]), (V.str [84, 117, 101, 115, 100, 97, 121]), (V.str [87, 101, 100, 110, 101, 115, 100, 97, 121]), (V.str [84, 104, 117, 114, 115, 100, 97, 121]), (V.str [70, 114, 105, 100, 97, 121]), (V.str [83, 97, 116, 117, 114, 100, 97, 121])])))
 (sel (band (ile 0 3) (ile 3 (slen (asStr (acell (lget [(V.str [83, 117, 110, 100, 97, 121]), (V.str [77, 111, 110, 100, 97, 121]), (V.str [84, 117, 101, 115, 100, 97, 121]), (V.str [87, 101, 100, 110, 101, 115, 100, 97, 121]), (V.str [84, 104, 117, 114, 115, 100, 97, 121]), (V.str [70, 114, 105, 100, 97, 121]), (V.str [83, 97, 116, 117, 114, 100, 97, 121])] n) 0)))))
 (K (V.str (ssub (asStr (acell (lget [(V.str [83, 117, 110, 100, 97, 121]), (V.str [77, 111, 110, 100, 97, 121]), (V.str [84, 117, 101, 115, 100, 97, 121]), (V.str [87, 101, 100, 110, 101, 115, 100, 97, 121]), (V.str [84, 104, 117, 114, 115, 100, 97, 121]), (V.str [70, 114, 105, 100, 97, 121]), (V.str [83, 97, 116, 117, 114, 100, 97, 121])] n) 0)) 0 3)))
 (none))
 (none))) := by kernel_rfl
end Nt.Ev.YtjkfndcpiihniaaGreatDoor

namespace Nt.Ev.YtjkfndcpiihniaaGreatDoor
open Go Go.RowKit Nt Nt.Num Go.Proofs.YtjkfndcpiihniaaGreatDoor
theorem wE_ok : EOk wE := ⟨by kernel_rfl, by kernel_rfl⟩
theorem toW {f : Nat} {args : List V} {r : V} (h : Contract nE f args r) : Contract wE f args r := Contract.env (E := nE) rfl (fun n v h => by cases h) h
theorem len_w {s : List UInt8} (h : ile (slen s) 1000 = true) : s.length ≤ 1000 := by rw [ile_iff, slen_nat] at h; omega
theorem wS_ok : SOk wE wS := by
  unfold wS
  refine SOk.nil
def wdV : List V := [.str [83, 117, 110, 100, 97, 121], .str [77, 111, 110, 100, 97, 121], .str [84, 117, 101, 115, 100, 97, 121], .str [87, 101, 100, 110, 101, 115, 100, 97, 121], .str [84, 104, 117, 114, 115, 100, 97, 121], .str [70, 114, 105, 100, 97, 121], .str [83, 97, 116, 117, 114, 100, 97, 121]]
def wtT (n : Int) : List UInt8 := if 0 ≤ n ∧ n ≤ 6 then (asStr (wdV.getD n.toNat .any)).take 3 else []
theorem wWText_ev (n : Int) : Contract wE 67 [.int .i64 n] (.str (wtT n)) := by
  refine contract_of_body wE_ok wS_ok 5 2 ?_
  rw [wWText_top]
  by_cases h : 0 ≤ n ∧ n ≤ 6
  · obtain rfl | rfl | rfl | rfl | rfl | rfl | rfl : n = 0 ∨ n = 1 ∨ n = 2 ∨ n = 3 ∨ n = 4 ∨ n = 5 ∨ n = 6 := by omega
    all_goals rfl
  · have e : wtT n = [] := by unfold wtT; rw [if_neg h]
    rw [e]
    by_cases h1 : n < 0
    · rw [sel_pos (ilt_t h1)]
    · rw [sel_neg (ilt_f (by omega)), sel_pos (ile_t (by rw [llen_nat]; show (7 : Int) ≤ n; omega))]
theorem rWText_ev (n : Int) : Contract wE 80 [.int .i64 n] (.str (wtT n)) := by
  refine contract_of_body wE_ok wS_ok 5 2 ?_
  rw [rWText_top]
  by_cases h : 0 ≤ n ∧ n ≤ 6
  · obtain rfl | rfl | rfl | rfl | rfl | rfl | rfl : n = 0 ∨ n = 1 ∨ n = 2 ∨ n = 3 ∨ n = 4 ∨ n = 5 ∨ n = 6 := by omega
    all_goals rfl
  · have e : wtT n = [] := by unfold wtT; rw [if_neg h]
    rw [e]
    by_cases h1 : n < 0
    · rw [sel_pos (ilt_t h1)]
    · rw [sel_neg (ilt_f (by omega)), sel_pos (ilt_t (by omega))]
end Nt.Ev.YtjkfndcpiihniaaGreatDoor

namespace Nt.Ev.YtjkfndcpiihniaaGreatDoor
set_option maxRecDepth 100000
open Go Nt.Num Go.Proofs.YtjkfndcpiihniaaGreatDoor
def ixA (s c : List UInt8) : Int := Lib.indexAny s c
def asciiBd (l : List UInt8) : Bool := l.all fun c => decide (c.toNat < 128)
def onB (k w d : Int) : Bool := if k = 1 then decide (0 ≤ w ∧ w ≤ 6 ∧ d = 0) else if k = 0 then decide (w = 0 ∧ 1 ≤ d ∧ d ≤ 31) else decide ((k = 2 ∨ k = 3) ∧ 0 ≤ w ∧ w ≤ 6 ∧ 1 ≤ d ∧ d ≤ 31)
noncomputable def dAnyS : FSpec := fun a => match a with | [.str s, .str c] => some (band (ile (slen s) 1000) (band (band (ile 2 (slen c)) (ile (slen c) 1000)) (asciiBd c)), .int .i64 (ixA s c)) | _ => none
noncomputable def dByteS : FSpec := fun a => match a with | [.str s, .int .u8 c] => some (true, .int .i64 (idxB s c)) | _ => none
noncomputable def dTextS : FSpec := fun a => match a with | [.int .i64 n] => some (band (ile (-9223372036854775808) n) (ile n 9223372036854775807), .str (text n)) | _ => none
noncomputable def dWtS : FSpec := fun a => match a with | [.int .i64 n] => some (true, .str (wtT n)) | _ => none
noncomputable def dOnS : FSpec := fun a => match a with | [.agg [.int .i64 k, .int .i64 w, .int .i64 d]] => some (true, .bool (onB k w d)) | _ => none
noncomputable def dS : List (Nat × FSpec) := (111, dAnyS) :: (76, dByteS) :: (65, dTextS) :: (58, dTextS) :: (67, dWtS) :: (80, dWtS) :: []
noncomputable def dS2 : List (Nat × FSpec) := (66, dOnS) :: (79, dOnS) :: dS
theorem dRight_top (F : Nat) (k : Int) (w : Int) (d : Int) (K : V → Option V) :
 evBd wE (evFn wE dS F 3) F 66 [(V.agg [(V.int .i64 k), (V.int .i64 w), (V.int .i64 d)])] K =
 sel (ieq k 1)
 (sel (ile 0 w)
 (sel (ile w 6)
 (K (V.bool (ieq d 0)))
 (K (V.bool false)))
 (K (V.bool false)))
 (sel (ieq k 0)
 (sel (ile 0 k)
 (sel (ile k 3)
 (sel (ile 0 w)
 (sel (ile w 0)
 (sel (ile 1 d)
 (K (V.bool (ile d 31)))
 (K (V.bool false)))
 (K (V.bool false)))
 (K (V.bool false)))
 (K (V.bool false)))
 (K (V.bool false)))
 (sel (ile 0 k)
 (sel (ile k 3)
 (sel (ile 0 w)
 (sel (ile w 6)
 (sel (ile 1 d)
 (K (V.bool (ile d 31)))
 (K (V.bool false)))
 (K (V.bool false)))
 (K (V.bool false)))
 (K (V.bool false)))
 (K (V.bool false)))) := by kernel_rfl
theorem rRight5_top (F : Nat) (k : Int) (w : Int) (d : Int) (K : V → Option V) :
 evBd wE (evFn wE dS F 3) F 79 [(V.agg [(V.int .i64 k), (V.int .i64 w), (V.int .i64 d)])] K =
 sel (ile 1 d)
 (sel (ile 0 w)
 (sel (ieq k 0)
 (sel (ile d 31)
 (K (V.bool (ieq w 0)))
 (K (V.bool false)))
 (sel (ieq k 1)
 (sel (ile w 6)
 (K (V.bool (ieq d 0)))
 (K (V.bool false)))
 (sel (ieq k 2)
 (sel (ieq k 2)
 (sel (ile w 6)
 (K (V.bool (ile d 31)))
 (K (V.bool false)))
 (K (V.bool false)))
 (sel (ieq k 3)
 (sel (ile w 6)
 (K (V.bool (ile d 31)))
 (K (V.bool false)))
 (K (V.bool false))))))
 (sel (ieq k 0)
 (sel (ile d 31)
 (K (V.bool (ieq w 0)))
 (K (V.bool false)))
 (sel (ieq k 1)
 (K (V.bool false))
 (sel (ieq k 2)
 (sel (ieq k 2)
 (K (V.bool false))
 (K (V.bool false)))
 (sel (ieq k 3)
 (K (V.bool false))
 (K (V.bool false)))))))
 (sel (ile 0 w)
 (sel (ieq k 0)
 (K (V.bool false))
 (sel (ieq k 1)
 (sel (ile w 6)
 (K (V.bool (ieq d 0)))
 (K (V.bool false)))
 (sel (ieq k 2)
 (sel (ieq k 2)
 (sel (ile w 6)
 (K (V.bool false))
 (K (V.bool false)))
 (K (V.bool false)))
 (sel (ieq k 3)
 (sel (ile w 6)
 (K (V.bool false))
 (K (V.bool false)))
 (K (V.bool false))))))
 (sel (ieq k 0)
 (K (V.bool false))
 (sel (ieq k 1)
 (K (V.bool false))
 (sel (ieq k 2)
 (sel (ieq k 2)
 (K (V.bool false))
 (K (V.bool false)))
 (sel (ieq k 3)
 (K (V.bool false))
 (K (V.bool false))))))) := by kernel_rfl
theorem dText_top (F : Nat) (k : Int) (w : Int) (d : Int) (K : V → Option V) :
 evBd wE (evFn wE dS2 F 3) F 37 [(V.agg [(V.int .i64 k), (V.int .i64 w), (V.int .i64 d)])] K =
 sel (bnot (onB k w d))
 (K (V.tup [(V.str []), (V.int .i64 4)]))
 (sel (band (ile (-9223372036854775808) d) (ile d 9223372036854775807))
 (sel (ieq k 1)
 (sel (okCat [108, 97, 115, 116] (wtT w))
 (K (V.tup [(V.str (scat [108, 97, 115, 116] (wtT w))), (V.int .i64 0)]))
 (none))
 (sel (ieq k 2)
 (sel (okCat (wtT w) [62, 61])
 (sel (okCat (scat (wtT w) [62, 61]) (text d))
 (K (V.tup [(V.str (scat (scat (wtT w) [62, 61]) (text d))), (V.int .i64 0)]))
 (none))
 (none))
 (sel (ieq k 3)
 (sel (okCat (wtT w) [60, 61])
 (sel (okCat (scat (wtT w) [60, 61]) (text d))
 (K (V.tup [(V.str (scat (scat (wtT w) [60, 61]) (text d))), (V.int .i64 0)]))
 (none))
 (none))
 (K (V.tup [(V.str (text d)), (V.int .i64 0)])))))
 (none)) := by kernel_rfl
theorem rText18_top (F : Nat) (k : Int) (w : Int) (d : Int) (K : V → Option V) :
 evBd wE (evFn wE dS2 F 3) F 51 [(V.agg [(V.int .i64 k), (V.int .i64 w), (V.int .i64 d)])] K =
 sel (bnot (onB k w d))
 (K (V.tup [(V.str []), (V.int .i64 4)]))
 (sel (band (ile (-9223372036854775808) d) (ile d 9223372036854775807))
 (sel (ieq k 1)
 (sel (okCat [108, 97, 115, 116] (wtT w))
 (K (V.tup [(V.str (scat [108, 97, 115, 116] (wtT w))), (V.int .i64 0)]))
 (none))
 (sel (ieq k 2)
 (sel (okCat (wtT w) [62, 61])
 (sel (okCat (scat (wtT w) [62, 61]) (text d))
 (K (V.tup [(V.str (scat (scat (wtT w) [62, 61]) (text d))), (V.int .i64 0)]))
 (none))
 (none))
 (sel (ieq k 3)
 (sel (okCat (wtT w) [60, 61])
 (sel (okCat (scat (wtT w) [60, 61]) (text d))
 (K (V.tup [(V.str (scat (scat (wtT w) [60, 61]) (text d))), (V.int .i64 0)]))
 (none))
 (none))
 (K (V.tup [(V.str (text d)), (V.int .i64 0)])))))
 (none)) := by kernel_rfl
end Nt.Ev.YtjkfndcpiihniaaGreatDoor

namespace Nt.Ev.YtjkfndcpiihniaaGreatDoor
open Go Go.RowKit Nt Nt.Num Go.Proofs.YtjkfndcpiihniaaGreatDoor
theorem dAnyS_ok (s c : List UInt8) (hc : band (ile (slen s) 1000) (band (band (ile 2 (slen c)) (ile (slen c) 1000)) (asciiBd c)) = true) : Contract wE 111 [.str s, .str c] (.int .i64 (ixA s c)) := by
  obtain ⟨h1, h2⟩ := band_true hc
  obtain ⟨h2, h3⟩ := band_true h2
  obtain ⟨h2, h4⟩ := band_true h2
  have h1 := len_w h1
  have h4 := len_w h4
  rw [ile_iff, slen_nat] at h2
  refine contract_old fun G w vs hG hg hp => ?_
  obtain ⟨x, y, rfl, hx, hy⟩ := PW_two hp
  unfold rep at hx hy
  subst hx; subst hy
  refine (Nt.AnyS.index_any Go.Proofs.Tryz.lays153 (by kernel_rfl) ⟨s.toArray⟩ ⟨c.toArray⟩ w (by rw [ba_size]; omega) (by rw [ba_size]; omega) (by rw [ba_size]; omega) (fun b hb => ?_)).mono ?_
  · have h3 : (c.all fun c => decide (c.toNat < 128)) = true := h3
    exact of_decide_eq_true (List.all_eq_true.1 h3 b hb)
  · rintro e w' ⟨rfl, hb⟩
    exact ⟨_, rfl, hb, res_int _ _⟩
theorem dByteS_ok (s : List UInt8) (c : Int) (hc : true = true) : Contract wE 76 [.str s, .int .u8 c] (.int .i64 (idxB s c)) := toW (idx_c s c)
theorem fits_w {m : Int} (h : band (ile (-9223372036854775808) m) (ile m 9223372036854775807) = true) : Fits m := by rw [band_iff, ile_iff, ile_iff] at h; exact h
theorem dTextS_ok (m : Int) (hc : band (ile (-9223372036854775808) m) (ile m 9223372036854775807) = true) : Contract wE 65 [.int .i64 m] (.str (text m)) := toW (nText_ev m (fits_w hc))
theorem dTextS_ok_noontideref01_Text (m : Int) (hc : band (ile (-9223372036854775808) m) (ile m 9223372036854775807) = true) : Contract wE 58 [.int .i64 m] (.str (text m)) := toW (rText_ev m (fits_w hc))
theorem dWtS_ok (n : Int) (hc : true = true) : Contract wE 67 [.int .i64 n] (.str (wtT n)) := wWText_ev n
theorem dWtS_ok_noontideref15_WeekdayText (n : Int) (hc : true = true) : Contract wE 80 [.int .i64 n] (.str (wtT n)) := rWText_ev n
theorem dS_ok : SOk wE dS := by
  unfold dS
  refine SOk.cons (fun args r h => ?_) (SOk.cons (fun args r h => ?_) (SOk.cons (fun args r h => ?_) (SOk.cons (fun args r h => ?_) (SOk.cons (fun args r h => ?_) (SOk.cons (fun args r h => ?_) (SOk.nil))))))
  · unfold dAnyS at h
    split at h
    · simp only [Option.some.injEq, Prod.mk.injEq] at h
      obtain ⟨hc, rfl⟩ := h
      exact dAnyS_ok _ _ hc
    · cases h
  · unfold dByteS at h
    split at h
    · simp only [Option.some.injEq, Prod.mk.injEq] at h
      obtain ⟨hc, rfl⟩ := h
      exact dByteS_ok _ _ rfl
    · cases h
  · unfold dTextS at h
    split at h
    · simp only [Option.some.injEq, Prod.mk.injEq] at h
      obtain ⟨hc, rfl⟩ := h
      exact dTextS_ok _ hc
    · cases h
  · unfold dTextS at h
    split at h
    · simp only [Option.some.injEq, Prod.mk.injEq] at h
      obtain ⟨hc, rfl⟩ := h
      exact dTextS_ok_noontideref01_Text _ hc
    · cases h
  · unfold dWtS at h
    split at h
    · simp only [Option.some.injEq, Prod.mk.injEq] at h
      obtain ⟨hc, rfl⟩ := h
      exact dWtS_ok _ rfl
    · cases h
  · unfold dWtS at h
    split at h
    · simp only [Option.some.injEq, Prod.mk.injEq] at h
      obtain ⟨hc, rfl⟩ := h
      exact dWtS_ok_noontideref15_WeekdayText _ rfl
    · cases h
theorem dRight_ev (k w d : Int) : Contract wE 66 [.agg [.int .i64 k, .int .i64 w, .int .i64 d]] (.bool (onB k w d)) := by
  refine contract_of_body wE_ok dS_ok 5 3 ?_
  rw [dRight_top]
  unfold onB
  simp only [sel_if, ieq_iff, ile_iff]
  repeat' split
  all_goals first
    | (rw [decide_eq_false (by omega)]; done)
    | (exfalso; omega)
    | (congr 2; unfold ile; rw [Bool.eq_iff_iff]; simp; omega)
    | (congr 2; unfold ieq; rw [Bool.eq_iff_iff]; simp; omega)
theorem rRight5_ev (k w d : Int) : Contract wE 79 [.agg [.int .i64 k, .int .i64 w, .int .i64 d]] (.bool (onB k w d)) := by
  refine contract_of_body wE_ok dS_ok 5 3 ?_
  rw [rRight5_top]
  unfold onB
  simp only [sel_if, ieq_iff, ile_iff]
  repeat' split
  all_goals first
    | (rw [decide_eq_false (by omega)]; done)
    | (exfalso; omega)
    | (congr 2; unfold ile; rw [Bool.eq_iff_iff]; simp; omega)
    | (congr 2; unfold ieq; rw [Bool.eq_iff_iff]; simp; omega)
theorem dOnS_ok (k w d : Int) (hc : true = true) : Contract wE 66 [.agg [.int .i64 k, .int .i64 w, .int .i64 d]] (.bool (onB k w d)) := dRight_ev k w d
theorem dOnS_ok_noontideref05_Right (k w d : Int) (hc : true = true) : Contract wE 79 [.agg [.int .i64 k, .int .i64 w, .int .i64 d]] (.bool (onB k w d)) := rRight5_ev k w d
theorem dS2_ok : SOk wE dS2 := by
  unfold dS2
  refine SOk.cons (fun args r h => ?_) (SOk.cons (fun args r h => ?_) (dS_ok))
  · unfold dOnS at h
    split at h
    · simp only [Option.some.injEq, Prod.mk.injEq] at h
      obtain ⟨hc, rfl⟩ := h
      exact dOnS_ok _ _ _ rfl
    · cases h
  · unfold dOnS at h
    split at h
    · simp only [Option.some.injEq, Prod.mk.injEq] at h
      obtain ⟨hc, rfl⟩ := h
      exact dOnS_ok_noontideref05_Right _ _ _ rfl
    · cases h
def dsT (k w d : Int) : List UInt8 := if k = 1 then [108, 97, 115, 116] ++ wtT w else if k = 2 then wtT w ++ [62, 61] ++ text d else if k = 3 then wtT w ++ [60, 61] ++ text d else text d
def dsTx (k w d : Int) : List UInt8 := if onB k w d = true then dsT k w d else []
def dsTe (k w d : Int) : Int := if onB k w d = true then 0 else 4
theorem on_day {k w d : Int} (h : onB k w d = true) : 0 ≤ d ∧ d ≤ 31 ∧ 0 ≤ w ∧ w ≤ 6 ∧ 0 ≤ k ∧ k ≤ 3 := by
  unfold onB at h
  repeat' split at h
  all_goals (rw [decide_eq_true_eq] at h; omega)
theorem wt_len (n : Int) : (wtT n).length ≤ 3 := by
  unfold wtT
  split
  · rw [List.length_take]; omega
  · simp
theorem text_small (d : Int) (h : 0 ≤ d ∧ d ≤ 31) : (text d).length ≤ 40 := by
  have := (text_len d (by unfold Fits; omega)).1
  omega
theorem dText_ev (k w d : Int) : Contract wE 37 [.agg [.int .i64 k, .int .i64 w, .int .i64 d]] (.tup [.str (dsTx k w d), .int .i64 (dsTe k w d)]) := by
  refine contract_of_body wE_ok dS2_ok 5 3 ?_
  rw [dText_top]
  unfold dsTx dsTe
  cases h : onB k w d with
  | false => rfl
  | true =>
    obtain ⟨d0, d1, w0, w1, k0, k1⟩ := on_day h
    have hw := wt_len w
    have ht := text_small d ⟨d0, d1⟩
    rw [sel_neg (by rfl), sel_pos (by rw [band_iff, ile_iff, ile_iff]; omega), if_pos rfl, if_pos rfl]
    unfold dsT
    obtain rfl | rfl | rfl | rfl : k = 0 ∨ k = 1 ∨ k = 2 ∨ k = 3 := by omega
    · rfl
    · rw [sel_pos (ieq_t rfl), sel_pos (by rw [okCat_iff]; simp only [List.length_cons, List.length_nil]; omega)]; rfl
    · rw [sel_neg (ieq_f (by decide)), sel_pos (ieq_t rfl), sel_pos (by rw [okCat_iff]; simp only [List.length_cons, List.length_nil]; omega), sel_pos (by rw [okCat_iff]; unfold scat; simp only [List.length_append, List.length_cons, List.length_nil]; omega)]; rfl
    · rw [sel_neg (ieq_f (by decide)), sel_neg (ieq_f (by decide)), sel_pos (ieq_t rfl), sel_pos (by rw [okCat_iff]; simp only [List.length_cons, List.length_nil]; omega), sel_pos (by rw [okCat_iff]; unfold scat; simp only [List.length_append, List.length_cons, List.length_nil]; omega)]; rfl
theorem rText18_ev (k w d : Int) : Contract wE 51 [.agg [.int .i64 k, .int .i64 w, .int .i64 d]] (.tup [.str (dsTx k w d), .int .i64 (dsTe k w d)]) := by
  refine contract_of_body wE_ok dS2_ok 5 3 ?_
  rw [rText18_top]
  unfold dsTx dsTe
  cases h : onB k w d with
  | false => rfl
  | true =>
    obtain ⟨d0, d1, w0, w1, k0, k1⟩ := on_day h
    have hw := wt_len w
    have ht := text_small d ⟨d0, d1⟩
    rw [sel_neg (by rfl), sel_pos (by rw [band_iff, ile_iff, ile_iff]; omega), if_pos rfl, if_pos rfl]
    unfold dsT
    obtain rfl | rfl | rfl | rfl : k = 0 ∨ k = 1 ∨ k = 2 ∨ k = 3 := by omega
    · rfl
    · rw [sel_pos (ieq_t rfl), sel_pos (by rw [okCat_iff]; simp only [List.length_cons, List.length_nil]; omega)]; rfl
    · rw [sel_neg (ieq_f (by decide)), sel_pos (ieq_t rfl), sel_pos (by rw [okCat_iff]; simp only [List.length_cons, List.length_nil]; omega), sel_pos (by rw [okCat_iff]; unfold scat; simp only [List.length_append, List.length_cons, List.length_nil]; omega)]; rfl
    · rw [sel_neg (ieq_f (by decide)), sel_neg (ieq_f (by decide)), sel_pos (ieq_t rfl), sel_pos (by rw [okCat_iff]; simp only [List.length_cons, List.length_nil]; omega), sel_pos (by rw [okCat_iff]; unfold scat; simp only [List.length_append, List.length_cons, List.length_nil]; omega)]; rfl
end Nt.Ev.YtjkfndcpiihniaaGreatDoor

namespace Nt.Ev.YtjkfndcpiihniaaGreatDoor
open Go Nt.Num Go.Proofs.YtjkfndcpiihniaaGreatDoor
end Nt.Ev.YtjkfndcpiihniaaGreatDoor

namespace Nt.Ev.YtjkfndcpiihniaaGreatDoor
open Go Nt Nt.Num Go.Proofs.YtjkfndcpiihniaaGreatDoor
theorem dsTx_len (k w d : Int) : (dsTx k w d).length ≤ 100 := by
  unfold dsTx
  split
  · rename_i h
    obtain ⟨d0, d1, w0, w1, k0, k1⟩ := on_day h
    have hw := wt_len w
    have ht := text_small d ⟨d0, d1⟩
    unfold dsT
    repeat' split
    all_goals (try simp only [List.length_append, List.length_cons, List.length_nil]
               omega)
  · simp
end Nt.Ev.YtjkfndcpiihniaaGreatDoor
