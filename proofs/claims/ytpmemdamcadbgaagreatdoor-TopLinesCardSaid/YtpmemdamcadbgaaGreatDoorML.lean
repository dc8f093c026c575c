/-
  Words: equations of functions, as the evaluator prints them. Words: weekdays, and whether two texts are the same, for the evaluator, both sides. Dayspec: equations of functions, as the evaluator prints them. Names of days: what the program's functions and the document's answer. DayspecLaw: equations of functions, as the evaluator prints them. Names of days: the statements DayspecTells and DayspecBack.
-/
import Derived.Test.YtpmemdamcadbgaaGreatDoorME
import Derived.Test.YtpmemdamcadbgaaGreatDoorMD
set_option linter.unusedVariables false
set_option linter.unusedSimpArgs false
set_option linter.unusedSectionVars false
namespace Nt.Ev.YtpmemdamcadbgaaGreatDoor
open Go Nt.Num Go.Proofs.YtpmemdamcadbgaaGreatDoor
noncomputable def weekdaysV : V := .rptr [.str, .str, .str, .str, .str, .str, .str] (.agg [.str [83, 117, 110, 100, 97, 121], .str [77, 111, 110, 100, 97, 121], .str [84, 117, 101, 115, 100, 97, 121], .str [87, 101, 100, 110, 101, 115, 100, 97, 121], .str [84, 104, 117, 114, 115, 100, 97, 121], .str [70, 114, 105, 100, 97, 121], .str [83, 97, 116, 117, 114, 100, 97, 121]]) 0
noncomputable def wE : Env := ⟨Go.Proofs.Tryz.prog, fun g => bif g == 2 then some weekdaysV else none⟩
noncomputable def wMatchS : FSpec := fun a => match a with | [.str s, .sl e [.str] o ws] => some (band (ile (slen s) 1000) (wsOk ws), .tup [.int .i64 (mtI s ws), .int .i64 (mtW s ws)]) | _ => none
noncomputable def wS : List (Nat × FSpec) := (88, wMatchS) :: []
set_option maxRecDepth 100000 in
theorem wWeekday_top (F : Nat) (s : List UInt8) (K : V → Option V) :
 evBd wE (evFn wE wS F 2) F 118 [(V.str s)] K =
 sel (band (ile (slen s) 1000) (wsOk [(V.str [83, 117, 110, 100, 97, 121]), (V.str [77, 111, 110, 100, 97, 121]), (V.str [84, 117, 101, 115, 100, 97, 121]), (V.str [87, 101, 100, 110, 101, 115, 100, 97, 121]), (V.str [84, 104, 117, 114, 115, 100, 97, 121]), (V.str [70, 114, 105, 100, 97, 121]), (V.str [83, 97, 116, 117, 114, 100, 97, 121])]))
 (K (V.tup [(V.int .i64 (mtI s [(V.str [83, 117, 110, 100, 97, 121]), (V.str [77, 111, 110, 100, 97, 121]), (V.str [84, 117, 101, 115, 100, 97, 121]), (V.str [87, 101, 100, 110, 101, 115, 100, 97, 121]), (V.str [84, 104, 117, 114, 115, 100, 97, 121]), (V.str [70, 114, 105, 100, 97, 121]), (V.str [83, 97, 116, 117, 114, 100, 97, 121])])), (V.int .i64 (mtW s [(V.str [83, 117, 110, 100, 97, 121]), (V.str [77, 111, 110, 100, 97, 121]), (V.str [84, 117, 101, 115, 100, 97, 121]), (V.str [87, 101, 100, 110, 101, 115, 100, 97, 121]), (V.str [84, 104, 117, 114, 115, 100, 97, 121]), (V.str [70, 114, 105, 100, 97, 121]), (V.str [83, 97, 116, 117, 114, 100, 97, 121])]))]))
 (none) := by kernel_rfl
set_option maxRecDepth 100000 in
theorem wWText_top (F : Nat) (n : Int) (K : V → Option V) :
 evBd wE (evFn wE wS F 2) F 39 [(V.int .i64 n)] K =
 sel (ilt n 0)
 (K (V.str []))
 (sel (ile (llen [(V.str [83, 117, 110, 100, 97, 121]), (V.str [77, 111, 110, 100, 97, 121]), (V.str [84, 117, 101, 115, 100, 97, 121]), (V.str [87, 101, 100, 110, 101, 115, 100, 97, 121]), (V.str [84, 104, 117, 114, 115, 100, 97, 121]), (V.str [70, 114, 105, 100, 97, 121]), (V.str [83, 97, 116, 117, 114, 100, 97, 121])]) n)
 (K (V.str []))
 (sel (band (ile 0 n) (ilt n (llen [(V.str [83, 117, 110, 100, 97, 121]), (V.str [77, 111, 110, 100, 97, 121]), (V.str [84, 117, 101, 115, 100, 97, 121]), (V.str [87, 101, 100, 110, 101, 115, 100, 97, 121]), (V.str [84, 104, 117, 114, 115, 100, 97, 121]), (V.str [70, 114, 105, 100, 97, 121]), (V.str [83, 97, 116, 117, 114, 100, 97, 121])])))
 (sel (band (ile 0 3) (ile 3 (slen (asStr (acell (lget [(V.str [83, 117, 110, 100, 97, 121]), (V.str [77, 111, 110, 100, 97, 121]), (V.str [84, 117, 101, 115, 100, 97, 121]), (V.str [87, 101, 100, 110, 101, 115, 100, 97, 121]), (V.str [84, 104, 117, 114, 115, 100, 97, 121]), (V.str [70, 114, 105, 100, 97, 121]), (V.str [83, 97, 116, 117, 114, 100, 97, 121])] n) 0)))))
 (K (V.str (ssub (asStr (acell (lget [(V.str [83, 117, 110, 100, 97, 121]), (V.str [77, 111, 110, 100, 97, 121]), (V.str [84, 117, 101, 115, 100, 97, 121]), (V.str [87, 101, 100, 110, 101, 115, 100, 97, 121]), (V.str [84, 104, 117, 114, 115, 100, 97, 121]), (V.str [70, 114, 105, 100, 97, 121]), (V.str [83, 97, 116, 117, 114, 100, 97, 121])] n) 0)) 0 3)))
 (none))
 (none))) := by kernel_rfl
end Nt.Ev.YtpmemdamcadbgaaGreatDoor

set_option linter.unusedVariables false
set_option linter.unusedSimpArgs false
namespace Nt.Ev.YtpmemdamcadbgaaGreatDoor
open Go Go.RowKit Nt Nt.Num Go.Proofs.YtpmemdamcadbgaaGreatDoor
theorem wE_ok : EOk wE := ⟨by kernel_rfl, by kernel_rfl⟩
theorem toW {f : Nat} {args : List V} {r : V} (h : Contract nE f args r) : Contract wE f args r := Contract.env (E := nE) rfl (fun n v h => by cases h) h
theorem len_w {s : List UInt8} (h : ile (slen s) 1000 = true) : s.length ≤ 1000 := by rw [ile_iff, slen_nat] at h; omega
theorem wMatchS_ok (s : List UInt8) (e : Nat) (o : Option Nat) (ws : List V) (hc : band (ile (slen s) 1000) (wsOk ws) = true) : Contract wE 88 [.str s, .sl e [.str] o ws] (.tup [.int .i64 (mtI s ws), .int .i64 (mtW s ws)]) := by
  obtain ⟨h1, h2⟩ := band_true hc
  exact toW (wMatch_c s e o ws (len_w h1) h2)
theorem wS_ok : SOk wE wS := by
  unfold wS
  refine SOk.cons (fun args r h => ?_) (SOk.nil)
  · unfold wMatchS at h
    split at h
    · simp only [Option.some.injEq, Prod.mk.injEq] at h
      obtain ⟨hc, rfl⟩ := h
      exact wMatchS_ok _ _ _ _ hc
    · cases h
theorem mt_lt (s : ByteArray) (ws : List ByteArray) (h : (Words.mt s ws).2 = 0) : (Words.mt s ws).1 < ws.length := by
  unfold Words.mt at *
  split at h
  · cases h
  · rename_i h1
    rw [if_neg h1]
    split at h
    · rename_i i hi
      have := List.mem_of_find?_eq_some hi
      exact List.mem_range.1 this
    · rename_i hi
      split at h
      · cases h
      · rename_i f r hf
        split at h
        · rename_i ha
          rw [if_pos ha]
          exact Words.found_lt s ws ws.length f (by rw [hf]; exact List.mem_cons_self)
        · cases h
def wdV : List V := [.str [83, 117, 110, 100, 97, 121], .str [77, 111, 110, 100, 97, 121], .str [84, 117, 101, 115, 100, 97, 121], .str [87, 101, 100, 110, 101, 115, 100, 97, 121], .str [84, 104, 117, 114, 115, 100, 97, 121], .str [70, 114, 105, 100, 97, 121], .str [83, 97, 116, 117, 114, 100, 97, 121]]
def wdI (s : List UInt8) : Int := mtI s wdV
def wdW (s : List UInt8) : Int := mtW s wdV
theorem wdV_ok : wsOk wdV = true := by decide
theorem wWeekday_ev (s : List UInt8) (hs : s.length ≤ 1000) : Contract wE 118 [.str s] (.tup [.int .i64 (wdI s), .int .i64 (wdW s)]) := by
  refine contract_of_body wE_ok wS_ok 5 2 ?_
  rw [wWeekday_top, sel_pos]
  · rfl
  · rw [band_iff]; exact ⟨ile_t (by rw [slen_nat]; omega), wdV_ok⟩
def wtT (n : Int) : List UInt8 := if 0 ≤ n ∧ n ≤ 6 then (asStr (wdV.getD n.toNat .any)).take 3 else []
theorem wWText_ev (n : Int) : Contract wE 39 [.int .i64 n] (.str (wtT n)) := by
  refine contract_of_body wE_ok wS_ok 5 2 ?_
  rw [wWText_top]
  by_cases h : 0 ≤ n ∧ n ≤ 6
  · obtain rfl | rfl | rfl | rfl | rfl | rfl | rfl : n = 0 ∨ n = 1 ∨ n = 2 ∨ n = 3 ∨ n = 4 ∨ n = 5 ∨ n = 6 := by omega
    all_goals rfl
  · have e : wtT n = [] := by unfold wtT; rw [if_neg h]
    rw [e]
    by_cases h1 : n < 0
    · rw [sel_pos (ilt_t h1)]
    · rw [sel_neg (ilt_f (by omega)), sel_pos (ile_t (by rw [llen_nat]; show (7 : Int) ≤ n; omega))]
def smB (a b : List UInt8) : Bool := Words.same ⟨a.toArray⟩ ⟨b.toArray⟩
theorem wSame_ev (a b : List UInt8) (ha : a.length ≤ 1000) (hb : b.length ≤ 1000) : Contract wE 113 [.str a, .str b] (.bool (smB a b)) := by
  refine contract_old fun G w vs hG hg hp => ?_
  obtain ⟨x, y, rfl, hx, hy⟩ := PW_two hp
  unfold rep at hx hy
  subst hx; subst hy
  refine (w_same ⟨a.toArray⟩ ⟨b.toArray⟩ w (ba_max ha) (ba_max hb)).mono ?_
  rintro e w' ⟨rfl, n, rfl⟩
  exact ⟨_, rfl, Nt.below_drewN (Below.refl _ _) _, res_bool _⟩
end Nt.Ev.YtpmemdamcadbgaaGreatDoor

set_option linter.unusedVariables false
set_option linter.unusedSimpArgs false
set_option linter.unusedSectionVars false
namespace Nt.Ev.YtpmemdamcadbgaaGreatDoor
open Go Nt.Num Go.Proofs.YtpmemdamcadbgaaGreatDoor
def cpBd (s p : List UInt8) : Bool := Lib.hasPrefix s p
def cpTd (s p : List UInt8) : List UInt8 := Lib.trimPrefix s p
def ixA (s c : List UInt8) : Int := Lib.indexAny s c
def asciiBd (l : List UInt8) : Bool := l.all fun c => decide (c.toNat < 128)
def onB (k w d : Int) : Bool := if k = 1 then decide (0 ≤ w ∧ w ≤ 6 ∧ d = 0) else if k = 0 then decide (w = 0 ∧ 1 ≤ d ∧ d ≤ 31) else decide ((k = 2 ∨ k = 3) ∧ 0 ≤ w ∧ w ≤ 6 ∧ 1 ≤ d ∧ d ≤ 31)
noncomputable def dCutS : FSpec := fun a => match a with | [.str s, .str p] => some (ile (slen s) 1000, .tup [.str (cpTd s p), .bool (cpBd s p)]) | _ => none
noncomputable def dAnyS : FSpec := fun a => match a with | [.str s, .str c] => some (band (ile (slen s) 1000) (band (band (ile 2 (slen c)) (ile (slen c) 1000)) (asciiBd c)), .int .i64 (ixA s c)) | _ => none
noncomputable def dByteS : FSpec := fun a => match a with | [.str s, .int .u8 c] => some (true, .int .i64 (idxB s c)) | _ => none
noncomputable def dReadNS : FSpec := fun a => match a with | [.str s] => some (ile (slen s) 1000, .tup [.int .i64 (nrI s), .int .i64 (nrW s)]) | _ => none
noncomputable def dTextS : FSpec := fun a => match a with | [.int .i64 n] => some (band (ile (-9223372036854775808) n) (ile n 9223372036854775807), .str (text n)) | _ => none
noncomputable def dWdS : FSpec := fun a => match a with | [.str s] => some (ile (slen s) 1000, .tup [.int .i64 (wdI s), .int .i64 (wdW s)]) | _ => none
noncomputable def dWtS : FSpec := fun a => match a with | [.int .i64 n] => some (true, .str (wtT n)) | _ => none
noncomputable def dSmS : FSpec := fun a => match a with | [.str a, .str b] => some (band (ile (slen a) 1000) (ile (slen b) 1000), .bool (smB a b)) | _ => none
noncomputable def dOnS : FSpec := fun a => match a with | [.agg [.int .i64 k, .int .i64 w, .int .i64 d]] => some (true, .bool (onB k w d)) | _ => none
noncomputable def dS : List (Nat × FSpec) := (92, dCutS) :: (78, dAnyS) :: (12, dByteS) :: (99, dReadNS) :: (30, dTextS) :: (118, dWdS) :: (39, dWtS) :: (113, dSmS) :: []
noncomputable def dS2 : List (Nat × FSpec) := (38, dOnS) :: dS
def dyP (s : List UInt8) : Int × Int := if nrW s = 0 then (if nrI s < 1 ∨ 31 < nrI s then (0, 1) else (nrI s, 0)) else (0, nrW s)
def dyD (s : List UInt8) : Int := (dyP s).1
def dyE (s : List UInt8) : Int := (dyP s).2
set_option maxRecDepth 100000 in
theorem dRight_top (F : Nat) (k : Int) (w : Int) (d : Int) (K : V → Option V) :
 evBd wE (evFn wE dS F 3) F 38 [(V.agg [(V.int .i64 k), (V.int .i64 w), (V.int .i64 d)])] K =
 sel (ieq k 1)
 (sel (ile 0 w)
 (sel (ile w 6)
 (K (V.bool (ieq d 0)))
 (K (V.bool false)))
 (K (V.bool false)))
 (sel (ieq k 0)
 (sel (ile 0 k)
 (sel (ile k 3)
 (sel (ile 0 w)
 (sel (ile w 0)
 (sel (ile 1 d)
 (K (V.bool (ile d 31)))
 (K (V.bool false)))
 (K (V.bool false)))
 (K (V.bool false)))
 (K (V.bool false)))
 (K (V.bool false)))
 (sel (ile 0 k)
 (sel (ile k 3)
 (sel (ile 0 w)
 (sel (ile w 6)
 (sel (ile 1 d)
 (K (V.bool (ile d 31)))
 (K (V.bool false)))
 (K (V.bool false)))
 (K (V.bool false)))
 (K (V.bool false)))
 (K (V.bool false)))) := by kernel_rfl
set_option maxRecDepth 100000 in
theorem dText_top (F : Nat) (k : Int) (w : Int) (d : Int) (K : V → Option V) :
 evBd wE (evFn wE dS2 F 3) F 16 [(V.agg [(V.int .i64 k), (V.int .i64 w), (V.int .i64 d)])] K =
 sel (bnot (onB k w d))
 (K (V.tup [(V.str []), (V.int .i64 4)]))
 (sel (band (ile (-9223372036854775808) d) (ile d 9223372036854775807))
 (sel (ieq k 1)
 (sel (okCat [108, 97, 115, 116] (wtT w))
 (K (V.tup [(V.str (scat [108, 97, 115, 116] (wtT w))), (V.int .i64 0)]))
 (none))
 (sel (ieq k 2)
 (sel (okCat (wtT w) [62, 61])
 (sel (okCat (scat (wtT w) [62, 61]) (text d))
 (K (V.tup [(V.str (scat (scat (wtT w) [62, 61]) (text d))), (V.int .i64 0)]))
 (none))
 (none))
 (sel (ieq k 3)
 (sel (okCat (wtT w) [60, 61])
 (sel (okCat (scat (wtT w) [60, 61]) (text d))
 (K (V.tup [(V.str (scat (scat (wtT w) [60, 61]) (text d))), (V.int .i64 0)]))
 (none))
 (none))
 (K (V.tup [(V.str (text d)), (V.int .i64 0)])))))
 (none)) := by kernel_rfl
set_option maxRecDepth 100000 in
theorem dRead_top (F : Nat) (s : List UInt8) (K : V → Option V) :
 evBd wE (evFn wE dS2 F 8) F 58 [(V.str s)] K =
 sel (band (ile (slen s) 1000) (band (band (ile 2 (slen [60, 62])) (ile (slen [60, 62]) 1000)) (asciiBd [60, 62])))
 (sel (ile 0 (ixA s [60, 62]))
 (sel (band (ile 0 (iadd .i64 (ixA s [60, 62]) 1)) (ile (iadd .i64 (ixA s [60, 62]) 1) (slen s)))
 (sel (ile (slen (ssub s (iadd .i64 (ixA s [60, 62]) 1) (slen s))) 1000)
 (sel (bnot (cpBd (ssub s (iadd .i64 (ixA s [60, 62]) 1) (slen s)) [61]))
 (K (V.tup [(V.agg [(V.int .i64 0), (V.int .i64 0), (V.int .i64 0)]), (V.int .i64 4)]))
 (sel (band (ile 0 (ixA s [60, 62])) (ile (ixA s [60, 62]) (slen s)))
 (sel (ile (slen (ssub s 0 (ixA s [60, 62]))) 1000)
 (sel (bnot (ieq (wdW (ssub s 0 (ixA s [60, 62]))) 0))
 (K (V.tup [(V.agg [(V.int .i64 0), (V.int .i64 0), (V.int .i64 0)]), (V.int .i64 (wdW (ssub s 0 (ixA s [60, 62]))))]))
 (sel (band (ile 0 (ixA s [60, 62])) (ilt (ixA s [60, 62]) (slen s)))
 (sel (ieq (sat s (ixA s [60, 62])) 60)
 (sel (ile (slen (cpTd (ssub s (iadd .i64 (ixA s [60, 62]) 1) (slen s)) [61])) 1000)
 (sel (bnot (ieq (nrW (cpTd (ssub s (iadd .i64 (ixA s [60, 62]) 1) (slen s)) [61])) 0))
 (K (V.tup [(V.agg [(V.int .i64 0), (V.int .i64 0), (V.int .i64 0)]), (V.int .i64 (nrW (cpTd (ssub s (iadd .i64 (ixA s [60, 62]) 1) (slen s)) [61])))]))
 (sel (ilt (nrI (cpTd (ssub s (iadd .i64 (ixA s [60, 62]) 1) (slen s)) [61])) 1)
 (K (V.tup [(V.agg [(V.int .i64 0), (V.int .i64 0), (V.int .i64 0)]), (V.int .i64 1)]))
 (sel (ilt 31 (nrI (cpTd (ssub s (iadd .i64 (ixA s [60, 62]) 1) (slen s)) [61])))
 (K (V.tup [(V.agg [(V.int .i64 0), (V.int .i64 0), (V.int .i64 0)]), (V.int .i64 1)]))
 (K (V.tup [(V.agg [(V.int .i64 3), (V.int .i64 (wdI (ssub s 0 (ixA s [60, 62])))), (V.int .i64 (nrI (cpTd (ssub s (iadd .i64 (ixA s [60, 62]) 1) (slen s)) [61])))]), (V.int .i64 0)])))))
 (none))
 (sel (ile (slen (cpTd (ssub s (iadd .i64 (ixA s [60, 62]) 1) (slen s)) [61])) 1000)
 (sel (bnot (ieq (nrW (cpTd (ssub s (iadd .i64 (ixA s [60, 62]) 1) (slen s)) [61])) 0))
 (K (V.tup [(V.agg [(V.int .i64 0), (V.int .i64 0), (V.int .i64 0)]), (V.int .i64 (nrW (cpTd (ssub s (iadd .i64 (ixA s [60, 62]) 1) (slen s)) [61])))]))
 (sel (ilt (nrI (cpTd (ssub s (iadd .i64 (ixA s [60, 62]) 1) (slen s)) [61])) 1)
 (K (V.tup [(V.agg [(V.int .i64 0), (V.int .i64 0), (V.int .i64 0)]), (V.int .i64 1)]))
 (sel (ilt 31 (nrI (cpTd (ssub s (iadd .i64 (ixA s [60, 62]) 1) (slen s)) [61])))
 (K (V.tup [(V.agg [(V.int .i64 0), (V.int .i64 0), (V.int .i64 0)]), (V.int .i64 1)]))
 (K (V.tup [(V.agg [(V.int .i64 2), (V.int .i64 (wdI (ssub s 0 (ixA s [60, 62])))), (V.int .i64 (nrI (cpTd (ssub s (iadd .i64 (ixA s [60, 62]) 1) (slen s)) [61])))]), (V.int .i64 0)])))))
 (none)))
 (none)))
 (none))
 (none)))
 (none))
 (none))
 (sel (bnot (seq s []))
 (sel (band (ile 0 0) (ilt 0 (slen s)))
 (sel (ile 0 (idxB [45, 48, 49, 50, 51, 52, 53, 54, 55, 56, 57] (sat s 0)))
 (sel (ile (slen s) 1000)
 (sel (bnot (ieq (nrW s) 0))
 (K (V.tup [(V.agg [(V.int .i64 0), (V.int .i64 0), (V.int .i64 0)]), (V.int .i64 (nrW s))]))
 (sel (ilt (nrI s) 1)
 (K (V.tup [(V.agg [(V.int .i64 0), (V.int .i64 0), (V.int .i64 0)]), (V.int .i64 1)]))
 (sel (ilt 31 (nrI s))
 (K (V.tup [(V.agg [(V.int .i64 0), (V.int .i64 0), (V.int .i64 0)]), (V.int .i64 1)]))
 (K (V.tup [(V.agg [(V.int .i64 0), (V.int .i64 0), (V.int .i64 (nrI s))]), (V.int .i64 0)])))))
 (none))
 (sel (ile 4 (slen s))
 (sel (band (ile 0 4) (ile 4 (slen s)))
 (sel (band (ile (slen (ssub s 0 4)) 1000) (ile (slen [108, 97, 115, 116]) 1000))
 (sel (smB (ssub s 0 4) [108, 97, 115, 116])
 (sel (band (ile 0 4) (ile 4 (slen s)))
 (sel (ile (slen (ssub s 4 (slen s))) 1000)
 (sel (bnot (ieq (wdW (ssub s 4 (slen s))) 0))
 (K (V.tup [(V.agg [(V.int .i64 0), (V.int .i64 0), (V.int .i64 0)]), (V.int .i64 (wdW (ssub s 4 (slen s))))]))
 (K (V.tup [(V.agg [(V.int .i64 1), (V.int .i64 (wdI (ssub s 4 (slen s)))), (V.int .i64 0)]), (V.int .i64 0)])))
 (none))
 (none))
 (K (V.tup [(V.agg [(V.int .i64 0), (V.int .i64 0), (V.int .i64 0)]), (V.int .i64 4)])))
 (none))
 (none))
 (K (V.tup [(V.agg [(V.int .i64 0), (V.int .i64 0), (V.int .i64 0)]), (V.int .i64 4)]))))
 (none))
 (sel (ile 4 (slen s))
 (sel (band (ile 0 4) (ile 4 (slen s)))
 (sel (band (ile (slen (ssub s 0 4)) 1000) (ile (slen [108, 97, 115, 116]) 1000))
 (sel (smB (ssub s 0 4) [108, 97, 115, 116])
 (sel (band (ile 0 4) (ile 4 (slen s)))
 (sel (ile (slen (ssub s 4 (slen s))) 1000)
 (sel (bnot (ieq (wdW (ssub s 4 (slen s))) 0))
 (K (V.tup [(V.agg [(V.int .i64 0), (V.int .i64 0), (V.int .i64 0)]), (V.int .i64 (wdW (ssub s 4 (slen s))))]))
 (K (V.tup [(V.agg [(V.int .i64 1), (V.int .i64 (wdI (ssub s 4 (slen s)))), (V.int .i64 0)]), (V.int .i64 0)])))
 (none))
 (none))
 (K (V.tup [(V.agg [(V.int .i64 0), (V.int .i64 0), (V.int .i64 0)]), (V.int .i64 4)])))
 (none))
 (none))
 (K (V.tup [(V.agg [(V.int .i64 0), (V.int .i64 0), (V.int .i64 0)]), (V.int .i64 4)])))))
 (none) := by kernel_rfl
end Nt.Ev.YtpmemdamcadbgaaGreatDoor

set_option linter.unusedVariables false
set_option linter.unusedSimpArgs false
namespace Nt.Ev.YtpmemdamcadbgaaGreatDoor
open Go Go.RowKit Nt Nt.Num Go.Proofs.YtpmemdamcadbgaaGreatDoor
theorem dCutS_ok (s p : List UInt8) (hc : ile (slen s) 1000 = true) : Contract wE 92 [.str s, .str p] (.tup [.str (cpTd s p), .bool (cpBd s p)]) := by
  refine contract_old fun G w vs hG hg hp => ?_
  obtain ⟨x, y, rfl, hx, hy⟩ := PW_two hp
  unfold rep at hx hy
  subst hx; subst hy
  refine (Go.Proofs.Tryz.strings_CutPrefix ⟨s.toArray⟩ ⟨p.toArray⟩ w).mono ?_
  rintro e w' ⟨rfl, rfl⟩
  exact ⟨_, rfl, Below.refl _ _, res_two (same_str _) (same_bool _)⟩
theorem dAnyS_ok (s c : List UInt8) (hc : band (ile (slen s) 1000) (band (band (ile 2 (slen c)) (ile (slen c) 1000)) (asciiBd c)) = true) : Contract wE 78 [.str s, .str c] (.int .i64 (ixA s c)) := by
  obtain ⟨h1, h2⟩ := band_true hc
  obtain ⟨h2, h3⟩ := band_true h2
  obtain ⟨h2, h4⟩ := band_true h2
  have h1 := len_w h1
  have h4 := len_w h4
  rw [ile_iff, slen_nat] at h2
  refine contract_old fun G w vs hG hg hp => ?_
  obtain ⟨x, y, rfl, hx, hy⟩ := PW_two hp
  unfold rep at hx hy
  subst hx; subst hy
  refine (Nt.AnyS.index_any Go.Proofs.Tryz.lays153 (by kernel_rfl) ⟨s.toArray⟩ ⟨c.toArray⟩ w (by rw [ba_size]; omega) (by rw [ba_size]; omega) (by rw [ba_size]; omega) (fun b hb => ?_)).mono ?_
  · have h3 : (c.all fun c => decide (c.toNat < 128)) = true := h3
    exact of_decide_eq_true (List.all_eq_true.1 h3 b hb)
  · rintro e w' ⟨rfl, hb⟩
    exact ⟨_, rfl, hb, res_int _ _⟩
theorem dByteS_ok (s : List UInt8) (c : Int) (hc : true = true) : Contract wE 12 [.str s, .int .u8 c] (.int .i64 (idxB s c)) := toW (idx_c s c)
theorem dReadNS_ok (s : List UInt8) (hc : ile (slen s) 1000 = true) : Contract wE 99 [.str s] (.tup [.int .i64 (nrI s), .int .i64 (nrW s)]) := toW (nRead_c s (len_w hc))
theorem fits_w {m : Int} (h : band (ile (-9223372036854775808) m) (ile m 9223372036854775807) = true) : Fits m := by rw [band_iff, ile_iff, ile_iff] at h; exact h
theorem dTextS_ok (m : Int) (hc : band (ile (-9223372036854775808) m) (ile m 9223372036854775807) = true) : Contract wE 30 [.int .i64 m] (.str (text m)) := toW (nText_ev m (fits_w hc))
theorem dWdS_ok (s : List UInt8) (hc : ile (slen s) 1000 = true) : Contract wE 118 [.str s] (.tup [.int .i64 (wdI s), .int .i64 (wdW s)]) := wWeekday_ev s (len_w hc)
theorem dWtS_ok (n : Int) (hc : true = true) : Contract wE 39 [.int .i64 n] (.str (wtT n)) := wWText_ev n
theorem dSmS_ok (a b : List UInt8) (hc : band (ile (slen a) 1000) (ile (slen b) 1000) = true) : Contract wE 113 [.str a, .str b] (.bool (smB a b)) := wSame_ev a b (len_w (band_true hc).1) (len_w (band_true hc).2)
theorem dS_ok : SOk wE dS := by
  unfold dS
  refine SOk.cons (fun args r h => ?_) (SOk.cons (fun args r h => ?_) (SOk.cons (fun args r h => ?_) (SOk.cons (fun args r h => ?_) (SOk.cons (fun args r h => ?_) (SOk.cons (fun args r h => ?_) (SOk.cons (fun args r h => ?_) (SOk.cons (fun args r h => ?_) (SOk.nil))))))))
  · unfold dCutS at h
    split at h
    · simp only [Option.some.injEq, Prod.mk.injEq] at h
      obtain ⟨hc, rfl⟩ := h
      exact dCutS_ok _ _ hc
    · cases h
  · unfold dAnyS at h
    split at h
    · simp only [Option.some.injEq, Prod.mk.injEq] at h
      obtain ⟨hc, rfl⟩ := h
      exact dAnyS_ok _ _ hc
    · cases h
  · unfold dByteS at h
    split at h
    · simp only [Option.some.injEq, Prod.mk.injEq] at h
      obtain ⟨hc, rfl⟩ := h
      exact dByteS_ok _ _ rfl
    · cases h
  · unfold dReadNS at h
    split at h
    · simp only [Option.some.injEq, Prod.mk.injEq] at h
      obtain ⟨hc, rfl⟩ := h
      exact dReadNS_ok _ hc
    · cases h
  · unfold dTextS at h
    split at h
    · simp only [Option.some.injEq, Prod.mk.injEq] at h
      obtain ⟨hc, rfl⟩ := h
      exact dTextS_ok _ hc
    · cases h
  · unfold dWdS at h
    split at h
    · simp only [Option.some.injEq, Prod.mk.injEq] at h
      obtain ⟨hc, rfl⟩ := h
      exact dWdS_ok _ hc
    · cases h
  · unfold dWtS at h
    split at h
    · simp only [Option.some.injEq, Prod.mk.injEq] at h
      obtain ⟨hc, rfl⟩ := h
      exact dWtS_ok _ rfl
    · cases h
  · unfold dSmS at h
    split at h
    · simp only [Option.some.injEq, Prod.mk.injEq] at h
      obtain ⟨hc, rfl⟩ := h
      exact dSmS_ok _ _ hc
    · cases h
theorem dRight_ev (k w d : Int) : Contract wE 38 [.agg [.int .i64 k, .int .i64 w, .int .i64 d]] (.bool (onB k w d)) := by
  refine contract_of_body wE_ok dS_ok 5 3 ?_
  rw [dRight_top]
  unfold onB
  simp only [sel_if, ieq_iff, ile_iff]
  repeat' split
  all_goals first
    | (rw [decide_eq_false (by omega)]; done)
    | (exfalso; omega)
    | (congr 2; unfold ile; rw [Bool.eq_iff_iff]; simp; omega)
    | (congr 2; unfold ieq; rw [Bool.eq_iff_iff]; simp; omega)
theorem dOnS_ok (k w d : Int) (hc : true = true) : Contract wE 38 [.agg [.int .i64 k, .int .i64 w, .int .i64 d]] (.bool (onB k w d)) := dRight_ev k w d
theorem dS2_ok : SOk wE dS2 := by
  unfold dS2
  refine SOk.cons (fun args r h => ?_) (dS_ok)
  · unfold dOnS at h
    split at h
    · simp only [Option.some.injEq, Prod.mk.injEq] at h
      obtain ⟨hc, rfl⟩ := h
      exact dOnS_ok _ _ _ rfl
    · cases h
def dsT (k w d : Int) : List UInt8 := if k = 1 then [108, 97, 115, 116] ++ wtT w else if k = 2 then wtT w ++ [62, 61] ++ text d else if k = 3 then wtT w ++ [60, 61] ++ text d else text d
def dsTx (k w d : Int) : List UInt8 := if onB k w d = true then dsT k w d else []
def dsTe (k w d : Int) : Int := if onB k w d = true then 0 else 4
theorem on_day {k w d : Int} (h : onB k w d = true) : 0 ≤ d ∧ d ≤ 31 ∧ 0 ≤ w ∧ w ≤ 6 ∧ 0 ≤ k ∧ k ≤ 3 := by
  unfold onB at h
  repeat' split at h
  all_goals (rw [decide_eq_true_eq] at h; omega)
theorem wt_len (n : Int) : (wtT n).length ≤ 3 := by
  unfold wtT
  split
  · rw [List.length_take]; omega
  · simp
theorem text_small (d : Int) (h : 0 ≤ d ∧ d ≤ 31) : (text d).length ≤ 40 := by
  have := (text_len d (by unfold Fits; omega)).1
  omega
theorem dText_ev (k w d : Int) : Contract wE 16 [.agg [.int .i64 k, .int .i64 w, .int .i64 d]] (.tup [.str (dsTx k w d), .int .i64 (dsTe k w d)]) := by
  refine contract_of_body wE_ok dS2_ok 5 3 ?_
  rw [dText_top]
  unfold dsTx dsTe
  cases h : onB k w d with
  | false => rfl
  | true =>
    obtain ⟨d0, d1, w0, w1, k0, k1⟩ := on_day h
    have hw := wt_len w
    have ht := text_small d ⟨d0, d1⟩
    rw [sel_neg (by rfl), sel_pos (by rw [band_iff, ile_iff, ile_iff]; omega), if_pos rfl, if_pos rfl]
    unfold dsT
    obtain rfl | rfl | rfl | rfl : k = 0 ∨ k = 1 ∨ k = 2 ∨ k = 3 := by omega
    · rfl
    · rw [sel_pos (ieq_t rfl), sel_pos (by rw [okCat_iff]; simp only [List.length_cons, List.length_nil]; omega)]; rfl
    · rw [sel_neg (ieq_f (by decide)), sel_pos (ieq_t rfl), sel_pos (by rw [okCat_iff]; simp only [List.length_cons, List.length_nil]; omega), sel_pos (by rw [okCat_iff]; unfold scat; simp only [List.length_append, List.length_cons, List.length_nil]; omega)]; rfl
    · rw [sel_neg (ieq_f (by decide)), sel_neg (ieq_f (by decide)), sel_pos (ieq_t rfl), sel_pos (by rw [okCat_iff]; simp only [List.length_cons, List.length_nil]; omega), sel_pos (by rw [okCat_iff]; unfold scat; simp only [List.length_append, List.length_cons, List.length_nil]; omega)]; rfl
theorem ssub_from (s : List UInt8) (k : Nat) : ssub s (k : Int) (slen s) = s.drop k := by
  rw [slen_nat, ssub_nat]
  exact List.take_of_length_le (by rw [List.length_drop]; omega)
theorem ssub_to (s : List UInt8) (k : Nat) : ssub s 0 (k : Int) = s.take k := by
  have : ssub s ((0 : Nat) : Int) (k : Int) = (s.drop 0).take (k - 0) := ssub_nat s 0 k
  rw [List.drop_zero, Nat.sub_zero] at this
  exact this
theorem ixA_cons (b : UInt8) (l : List UInt8) : ixA (b :: l) [60, 62] = if b = 60 ∨ b = 62 then 0 else if ixA l [60, 62] = -1 then -1 else ixA l [60, 62] + 1 := by
  unfold ixA
  rw [Lib.indexAny]
  have e : (List.contains [60, 62] b = true) = (b = 60 ∨ b = 62) := by simp
  simp only [e, beq_iff_eq]
theorem ixA_ge (l : List UInt8) : -1 ≤ ixA l [60, 62] := Lib.indexAny_ge _ _
theorem ixA_at : ∀ (l : List UInt8), 0 ≤ ixA l [60, 62] → ixA l [60, 62] < l.length ∧ (l.getD (ixA l [60, 62]).toNat 0 = 60 ∨ l.getD (ixA l [60, 62]).toNat 0 = 62)
  | [], h => by exact absurd h (by decide)
  | b :: l, h => by
    have ih := ixA_at l
    have hg := ixA_ge l
    rw [ixA_cons] at *
    split
    · rename_i h1
      exact ⟨by rw [List.length_cons]; omega, h1⟩
    · rename_i h1
      rw [if_neg h1] at h
      split
      · rename_i h2
        rw [if_pos h2] at h
        exact absurd h (by decide)
      · obtain ⟨k1, k2⟩ := ih (by omega)
        refine ⟨by rw [List.length_cons]; omega, ?_⟩
        rw [show (ixA l [60, 62] + 1).toNat = (ixA l [60, 62]).toNat + 1 by omega, List.getD_cons_succ]
        exact k2
def dsSg (s : List UInt8) (a : Nat) : Int × Int × Int × Int :=
  if cpBd (s.drop (a + 1)) [61] = true then (if wdW (s.take a) = 0 then (if dyE (s.drop (a + 2)) = 0 then (if s.getD a 0 = 60 then 3 else 2, wdI (s.take a), dyD (s.drop (a + 2)), 0) else (0, 0, 0, dyE (s.drop (a + 2)))) else (0, 0, 0, wdW (s.take a))) else (0, 0, 0, 4)
def dsNm (s : List UInt8) : Int × Int × Int × Int := if dyE s = 0 then (0, 0, dyD s, 0) else (0, 0, 0, dyE s)
def dsLs (s : List UInt8) : Int × Int × Int × Int := if 4 ≤ s.length ∧ smB (s.take 4) [108, 97, 115, 116] = true then (if wdW (s.drop 4) = 0 then (1, wdI (s.drop 4), 0, 0) else (0, 0, 0, wdW (s.drop 4))) else (0, 0, 0, 4)
def dmB (c : UInt8) : Bool := c == 45 || (decide (48 ≤ c.toNat) && decide (c.toNat ≤ 57))
def dsP (s : List UInt8) : Int × Int × Int × Int :=
  if 0 ≤ ixA s [60, 62] then dsSg s (ixA s [60, 62]).toNat else if s ≠ [] ∧ dmB (s.getD 0 0) = true then dsNm s else dsLs s
def resDs (p : Int × Int × Int × Int) : V := .tup [.agg [.int .i64 p.1, .int .i64 p.2.1, .int .i64 p.2.2.1], .int .i64 p.2.2.2]
theorem cpT_drop (s : List UInt8) (k : Nat) (h : cpBd (s.drop k) [61] = true) : cpTd (s.drop k) [61] = s.drop (k + 1) := by
  unfold cpTd Lib.trimPrefix
  rw [if_pos (show Lib.hasPrefix (s.drop k) [61] = true from h), List.drop_drop]; rfl
theorem idx_dm (c : UInt8) : ile 0 (idxB [45, 48, 49, 50, 51, 52, 53, 54, 55, 56, 57] ((c.toNat : Nat) : Int)) = dmB c := by
  have h : ∀ n : Fin 256, ile 0 (idxB [45, 48, 49, 50, 51, 52, 53, 54, 55, 56, 57] (((n : Nat)) : Int)) = dmB (UInt8.ofNat n) := by decide +kernel
  have := h ⟨c.toNat, c.toNat_lt⟩
  simpa using this
theorem day_sel (x : List UInt8) (e o : Int → Option V) : sel (bnot (ieq (nrW x) 0)) (e (nrW x)) (sel (ilt (nrI x) 1) (e 1) (sel (ilt 31 (nrI x)) (e 1) (o (nrI x)))) = if dyE x = 0 then o (dyD x) else e (dyE x) := by
  unfold dyE dyD
  by_cases h : nrW x = 0
  · rw [sel_neg (by rw [ieq_t h]; rfl)]
    by_cases h1 : nrI x < 1
    · have e1 : dyP x = (0, 1) := by unfold dyP; rw [if_pos h, if_pos (show nrI x < 1 ∨ 31 < nrI x from .inl h1)]
      rw [sel_pos (ilt_t h1), e1, if_neg (show ¬ (1 : Int) = 0 by decide)]
    · rw [sel_neg (ilt_f (by omega))]
      by_cases h2 : 31 < nrI x
      · have e1 : dyP x = (0, 1) := by unfold dyP; rw [if_pos h, if_pos (show nrI x < 1 ∨ 31 < nrI x from .inr h2)]
        rw [sel_pos (ilt_t h2), e1, if_neg (show ¬ (1 : Int) = 0 by decide)]
      · have e1 : dyP x = (nrI x, 0) := by unfold dyP; rw [if_pos h, if_neg (show ¬ (nrI x < 1 ∨ 31 < nrI x) by omega)]
        rw [sel_neg (ilt_f (by omega)), e1, if_pos (show (0 : Int) = 0 from rfl)]
  · have e1 : dyP x = (0, nrW x) := by unfold dyP; rw [if_neg h]
    rw [sel_pos (by rw [ieq_f h]; rfl), e1, if_neg h]
theorem ls_sel (s : List UInt8) (hs : s.length ≤ 1000) : (sel (ile 4 (slen s))
            (sel (band (ile 0 4) (ile 4 (slen s)))
              (sel (band (ile (slen (ssub s 0 4)) 1000) (ile (slen [108, 97, 115, 116]) 1000))
                (sel (smB (ssub s 0 4) [108, 97, 115, 116])
                  (sel (band (ile 0 4) (ile 4 (slen s)))
                    (sel (ile (slen (ssub s 4 (slen s))) 1000)
                      (sel (bnot (ieq (wdW (ssub s 4 (slen s))) 0))
                        (some (V.tup [(V.agg [(V.int .i64 0), (V.int .i64 0), (V.int .i64 0)]), (V.int .i64 (wdW (ssub s 4 (slen s))))]))
                        (some (V.tup [(V.agg [(V.int .i64 1), (V.int .i64 (wdI (ssub s 4 (slen s)))), (V.int .i64 0)]), (V.int .i64 0)])))
                      (none))
                    (none))
                  (some (V.tup [(V.agg [(V.int .i64 0), (V.int .i64 0), (V.int .i64 0)]), (V.int .i64 4)])))
                (none))
              (none))
            (some (V.tup [(V.agg [(V.int .i64 0), (V.int .i64 0), (V.int .i64 0)]), (V.int .i64 4)]))) = some (resDs (dsLs s)) := by
  have e0 : ssub s 0 4 = s.take 4 := ssub_to s 4
  have e1 : ssub s 4 (slen s) = s.drop 4 := ssub_from s 4
  rw [e0, e1]
  unfold dsLs
  by_cases h4 : 4 ≤ s.length
  · have hb : band (ile 0 4) (ile 4 (slen s)) = true := by rw [band_iff, ile_iff, ile_iff, slen_nat]; omega
    have l1 : (s.take 4).length ≤ 1000 := by rw [List.length_take]; omega
    have l2 : (s.drop 4).length ≤ 1000 := by rw [List.length_drop]; omega
    rw [sel_pos (ile_t (by rw [slen_nat]; omega)), sel_pos hb, sel_pos (by rw [band_iff, ile_iff, slen_nat]; exact ⟨by omega, rfl⟩)]
    by_cases h : smB (s.take 4) [108, 97, 115, 116] = true
    · rw [sel_pos h, sel_pos hb, sel_pos (ile_t (by rw [slen_nat]; omega)), if_pos (show 4 ≤ s.length ∧ smB (s.take 4) [108, 97, 115, 116] = true from ⟨h4, h⟩)]
      by_cases hw : wdW (s.drop 4) = 0
      · rw [sel_neg (by rw [ieq_t hw]; rfl), if_pos hw]; rfl
      · rw [sel_pos (by rw [ieq_f hw]; rfl), if_neg hw]; rfl
    · rw [sel_neg (by simpa using h), if_neg (fun e => h e.2)]; rfl
  · rw [sel_neg (ile_f (by rw [slen_nat]; omega)), if_neg (fun e => h4 e.1)]; rfl
theorem dRead_ev (s : List UInt8) (hs : s.length ≤ 900) : Contract wE 58 [.str s] (resDs (dsP s)) := by
  refine contract_of_body wE_ok dS2_ok 5 8 ?_
  have l0 : ile (slen s) 1000 = true := ile_t (by rw [slen_nat]; omega)
  rw [dRead_top, sel_pos (by rw [l0]; rfl)]
  unfold dsP
  by_cases h0 : 0 ≤ ixA s [60, 62]
  · obtain ⟨k1, k2⟩ := ixA_at s h0
    obtain ⟨a, ha⟩ : ∃ a : Nat, ixA s [60, 62] = (a : Int) := ⟨(ixA s [60, 62]).toNat, by omega⟩
    rw [ha] at h0 k1 k2 ⊢
    rw [if_pos h0, Int.toNat_natCast]
    have e1 : iadd .i64 (a : Int) 1 = ((a + 1 : Nat) : Int) := by rw [iadd64 (by omega)]; omega
    rw [e1, ssub_from, ssub_to, sel_pos (ile_t h0), sel_pos (show band (ile 0 ((a + 1 : Nat) : Int)) (ile ((a + 1 : Nat) : Int) (slen s)) = true by rw [band_iff, ile_iff, ile_iff, slen_nat]; omega), sel_pos (show ile (slen (s.drop (a + 1))) 1000 = true from ile_t (by rw [slen_nat, List.length_drop]; omega))]
    unfold dsSg
    by_cases hp : cpBd (s.drop (a + 1)) [61] = true
    · rw [if_pos hp, sel_neg (show bnot (cpBd (s.drop (a + 1)) [61]) = false by rw [hp]; rfl), cpT_drop s (a + 1) hp, sel_pos (show band (ile 0 (a : Int)) (ile (a : Int) (slen s)) = true by rw [band_iff, ile_iff, ile_iff, slen_nat]; omega), sel_pos (show ile (slen (s.take a)) 1000 = true from ile_t (by rw [slen_nat, List.length_take]; omega))]
      by_cases hw : wdW (s.take a) = 0
      · rw [sel_neg (show bnot (ieq (wdW (s.take a)) 0) = false by rw [ieq_t hw]; rfl), if_pos hw, sel_pos (show band (ile 0 (a : Int)) (ilt (a : Int) (slen s)) = true by rw [band_iff, ile_iff, ilt_iff, slen_nat]; omega)]
        have l2 : ile (slen (s.drop (a + 1 + 1))) 1000 = true := ile_t (by rw [slen_nat, List.length_drop]; omega)
        rw [l2, sat_nat]
        by_cases hk : s.getD a 0 = 60
        · rw [sel_pos (show ieq ((s.getD a 0).toNat : Int) 60 = true by rw [hk]; rfl), sel_pos rfl]
          refine (day_sel (s.drop (a + 2)) (fun n => some (resDs (0, 0, 0, n))) (fun n => some (resDs (3, wdI (s.take a), n, 0)))).trans ?_
          by_cases he : dyE (s.drop (a + 2)) = 0
          · rw [if_pos he, if_pos he, if_pos hk]
          · rw [if_neg he, if_neg he]
        · have hk' : ieq ((s.getD a 0).toNat : Int) 60 = false := ieq_f (fun e => hk (by rw [← UInt8.toNat_inj]; show (s.getD a 0).toNat = 60; omega))
          rw [sel_neg hk', sel_pos rfl]
          refine (day_sel (s.drop (a + 2)) (fun n => some (resDs (0, 0, 0, n))) (fun n => some (resDs (2, wdI (s.take a), n, 0)))).trans ?_
          by_cases he : dyE (s.drop (a + 2)) = 0
          · rw [if_pos he, if_pos he, if_neg hk]
          · rw [if_neg he, if_neg he]
      · rw [sel_pos (show bnot (ieq (wdW (s.take a)) 0) = true by rw [ieq_f hw]; rfl), if_neg hw]; rfl
    · rw [if_neg hp, sel_pos (show bnot (cpBd (s.drop (a + 1)) [61]) = true by rw [bnot_iff]; exact hp)]; rfl
  · rw [if_neg h0, sel_neg (ile_f (by omega)), ls_sel s (by omega)]
    cases s with
    | nil => rfl
    | cons c t =>
      have e2 : (c :: t).getD 0 0 = c := rfl
      have e3 : sat (c :: t) 0 = (c.toNat : Int) := rfl
      rw [sel_pos (show bnot (seq (c :: t) []) = true from rfl), sel_pos (show band (ile 0 0) (ilt 0 (slen (c :: t))) = true by rw [band_iff, ilt_iff, slen_nat]; exact ⟨rfl, by simp only [List.length_cons]; omega⟩), e3, e2, idx_dm, l0]
      cases hd : dmB c with
      | true =>
        rw [sel_pos rfl, sel_pos rfl, if_pos ⟨by simp, rfl⟩]
        refine (day_sel (c :: t) (fun n => some (resDs (0, 0, 0, n))) (fun n => some (resDs (0, 0, n, 0)))).trans ?_
        unfold dsNm
        by_cases he : dyE (c :: t) = 0
        · rw [if_pos he, if_pos he]
        · rw [if_neg he, if_neg he]
      | false =>
        rw [sel_neg rfl, if_neg (fun e => by cases e.2)]
end Nt.Ev.YtpmemdamcadbgaaGreatDoor

set_option linter.unusedVariables false
set_option linter.unusedSimpArgs false
set_option linter.unusedSectionVars false
namespace Nt.Ev.YtpmemdamcadbgaaGreatDoor
open Go Nt.Num Go.Proofs.YtpmemdamcadbgaaGreatDoor
def dsK (s : List UInt8) : Int := (dsP s).1
def dsWk (s : List UInt8) : Int := (dsP s).2.1
def dsD (s : List UInt8) : Int := (dsP s).2.2.1
def dsE (s : List UInt8) : Int := (dsP s).2.2.2
end Nt.Ev.YtpmemdamcadbgaaGreatDoor

set_option linter.unusedVariables false
set_option linter.unusedSimpArgs false
namespace Nt.Ev.YtpmemdamcadbgaaGreatDoor
open Go Nt Nt.Num Go.Proofs.YtpmemdamcadbgaaGreatDoor
set_option maxRecDepth 100000 in
theorem ds_all : ∀ (k : Fin 4) (w : Fin 7) (d : Fin 32), onB (k : Nat) (w : Nat) (d : Nat) = true → dsP (dsT (k : Nat) (w : Nat) (d : Nat)) = (((k : Nat) : Int), ((w : Nat) : Int), ((d : Nat) : Int), 0) := by decide +kernel
theorem ds_text (k w d : Int) (h : onB k w d = true) : dsP (dsTx k w d) = (k, w, d, 0) := by
  obtain ⟨d0, d1, w0, w1, k0, k1⟩ := on_day h
  have := ds_all ⟨k.toNat, by omega⟩ ⟨w.toNat, by omega⟩ ⟨d.toNat, by omega⟩
  simp only [show ((k.toNat : Nat) : Int) = k by omega, show ((w.toNat : Nat) : Int) = w by omega, show ((d.toNat : Nat) : Int) = d by omega] at this
  unfold dsTx
  rw [if_pos h]
  exact this h
theorem dsTx_len (k w d : Int) : (dsTx k w d).length ≤ 100 := by
  unfold dsTx
  split
  · rename_i h
    obtain ⟨d0, d1, w0, w1, k0, k1⟩ := on_day h
    have hw := wt_len w
    have ht := text_small d ⟨d0, d1⟩
    unfold dsT
    repeat' split
    all_goals (try simp only [List.length_append, List.length_cons, List.length_nil]
               omega)
  · simp
end Nt.Ev.YtpmemdamcadbgaaGreatDoor
