/-
  A table's source: Text, of both sides; whether a table may be written. A table's source: whether a table may be written; Text of both sides as contracts. Rv: equations of functions, as the evaluator prints them. A table's source: whether two tables are the same, tables that are not too much, and the statement. A table among a call's arguments: what its cells are. A table's source: tables that are not too much; the statement.
-/
import Derived.Test.YtjkfndcpiihniaaGreatDoorMXG
import Derived.Test.YtjkfndcpiihniaaGreatDoorMZ
set_option linter.unusedVariables false
set_option linter.unusedSimpArgs false
set_option linter.unusedSectionVars false
namespace Nt.Ev.YtjkfndcpiihniaaGreatDoor.Rx
set_option maxRecDepth 100000
open Go Go.RowKit Nt Nt.Num Nt.Civil Nt.Fld Go.Proofs.YtjkfndcpiihniaaGreatDoor Nt.Ev.YtjkfndcpiihniaaGreatDoor Nt.Ev.YtjkfndcpiihniaaGreatDoor.Lk
variable [MLen]
def cT (f : V → List UInt8) (l : List V) : Nat → Nat → List UInt8 | 0, _ => [] | k + 1, i => f (lget l i) ++ cT f l k (i + 1)
def foldI (g : Int → V → Int) (l : List V) : Nat → Nat → Int → Int | 0, _, w => w | k + 1, i, w => foldI g l k (i + 1) (g w (lget l i))
noncomputable def tR (e : V) : List UInt8 := lnT [82, 117, 108, 101] (fvR e)
noncomputable def tL (e : V) : List UInt8 := lnT [76, 105, 110, 107] (fvL e)
noncomputable def tZ (e : V) : List UInt8 := znT (zN e) (zE1 e)
noncomputable def gRw (w : Int) (e : V) : Int := or3 w (feR e) (jnW (fvR e))
noncomputable def gLw (w : Int) (e : V) : Int := or3 w (feL e) (jnW (fvL e))
noncomputable def gZw (xs : List V) (w : Int) (e : V) : Int := znW w xs (zN e) (zE1 e)
def resT (w : Int) (s : List UInt8) : V := .tup [.str (sel (bnot (ieq w 0)) [] s), .int .i64 (sel (bnot (ieq w 0)) 4 0)]
theorem tR_len (e : V) : (tR e).length ≤ 1500 := lnT_len (fR_good e) (by show 4 ≤ 950; omega)
theorem tL_len (e : V) : (tL e).length ≤ 1500 := lnT_len (fL_good e) (by show 4 ≤ 950; omega)
theorem gZ_iff {e : V} (h : gZ e = true) : (zN e).length ≤ 900 ∧ zoK (zE1 e) = true ∧ (zE1 e).length ≤ 12 := by
  unfold gZ at h
  obtain ⟨h1, h2⟩ := band_true h
  exact ⟨l9 h1, h2, zoK_12 h2⟩
theorem tZ_len {e : V} (h : gZ e = true) : (tZ e).length ≤ 18000 := by
  obtain ⟨h1, h2, h3⟩ := gZ_iff h
  have := eT_len (zN e) (zE1 e) h1 (zE1 e).length 0
  show (eT (zN e) (zE1 e) (zE1 e).length 0).length ≤ 18000
  omega
theorem rgK_iff {xs zs ls : List V} (h : rgK xs zs ls = true) : xs.length ≤ 50 ∧ zs.length ≤ 20 ∧ ls.length ≤ 100 ∧ xs.all gR = true ∧ zs.all gZ = true := by
  unfold rgK at h
  obtain ⟨h1, h2⟩ := band_true h
  obtain ⟨h3, h4⟩ := band_true h2
  obtain ⟨h5, h6⟩ := band_true h4
  obtain ⟨h7, h8⟩ := band_true h6
  exact ⟨ll1 (k := 50) h1, ll1 (k := 20) h3, ll1 (k := 100) h5, h7, h8⟩
theorem rs_of {xs : List V} (h1 : xs.length ≤ 50) (h2 : xs.all gR = true) : rsOk xs = true := by
  show (xs.all Oc.rOk && ile (llen xs) 1000) = true
  rw [Bool.and_eq_true]
  refine ⟨List.all_eq_true.2 fun x hx => ?_, ile_t (by rw [llen_nat]; omega)⟩
  have := List.all_eq_true.1 h2 x hx
  unfold gR at this
  exact (band_true (band_true this).1).2
theorem c0 : ((0 : Nat) : Int) = 0 := rfl
theorem bv_app (a b : List UInt8) : lcat (bytesV a) (bytesV b) = bytesV (a ++ b) := by unfold lcat bytesV; simp
theorem vb_bv (l : List UInt8) : vbytes (bytesV l) = l := Nt.Ev.YtjkfndcpiihniaaGreatDoor.bvb l
theorem bv_ile {s : List UInt8} {m : Int} (h : (s.length : Int) ≤ m) : ile (llen (bytesV s)) m = true := ile_t (by rw [llen_nat, bv_len]; omega)
theorem tx5 (F : Nat) (a b c d : List V) (x1 x2 : Int) (e : List V) (x3 x4 : Int) (ls p q r : List V) (hl : ls.length ≤ 100) (K : V → Option V) : ∀ (k i : Nat) (s : List UInt8) (w : Int) (G : Nat), i + k = ls.length → k < G → s.length + k * 1500 ≤ 900000 →
    wTx_L5 F [] G a b c d x1 x2 e x3 x4 ls (llen ls) i (bytesV s) w p q r K = K (resT (foldI gLw ls k i w) (s ++ cT tL ls k i)) := by
  intro k
  induction k with
  | zero =>
    intro i s w G h1 h2 h3
    obtain ⟨G, rfl⟩ := Nat.exists_eq_succ_of_ne_zero (show G ≠ 0 by omega)
    rw [wTx_L5_succ, sel_neg (idx_end (by omega)), vb_bv]
    unfold resT foldI cT
    rw [List.append_nil]
    cases bnot (ieq w 0) <;> rfl
  | succ k ih =>
    intro i s w G h1 h2 h3
    obtain ⟨G, rfl⟩ := Nat.exists_eq_succ_of_ne_zero (show G ≠ 0 by omega)
    obtain ⟨i1, i2, i3⟩ := idx_ok (xs := ls) (i := i) (by omega) (by omega)
    rw [wTx_L5_succ, sel_pos i1, sel_pos i2, i3]
    show sel (band true (band (lnK [76, 105, 110, 107] (fvL (lget ls i))) (ile (llen (bytesV s)) 1000000))) (wTx_L5 F [] G a b c d x1 x2 e x3 x4 ls (llen ls) ((i + 1 : Nat) : Int) (lcat (bytesV s) (bytesV (tL (lget ls i)))) (gLw w (lget ls i)) p q r K) none = _
    have ht := tL_len (lget ls i)
    rw [lnK_of (fL_good (lget ls i)) (by show 4 ≤ 1000; omega), bv_ile (m := 1000000) (by omega), sel_pos bttt, bv_app, ih (i + 1) _ _ G (by omega) (by omega) (by rw [List.length_append]; omega), List.append_assoc]
    rfl
theorem tx4 (F : Nat) (hF : 102 ≤ F) (a b c d : List V) (x1 x2 : Int) (e : List V) (x3 x4 : Int) (ls p q r : List V) (hl : ls.length ≤ 100) (w : Int) (K : V → Option V) :
    wTx_L4 F [] F a b c d x1 x2 e x3 x4 ls (llen ls) 0 w p q r K = K (resT (foldI gLw ls ls.length 0 w) (cT tL ls ls.length 0)) := by
  obtain ⟨G, rfl⟩ := Nat.exists_eq_succ_of_ne_zero (show F ≠ 0 by omega)
  rw [wTx_L4_succ]
  by_cases h0 : ls = []
  · subst h0
    rw [sel_neg (by rfl)]
    unfold resT
    show sel (bnot (ieq w 0)) _ _ = K (.tup [.str (sel (bnot (ieq w 0)) [] []), .int .i64 (sel (bnot (ieq w 0)) 4 0)])
    cases bnot (ieq w 0) <;> rfl
  obtain ⟨k, hk⟩ : ∃ k, ls.length = k + 1 := ⟨ls.length - 1, by have := List.length_pos_iff.2 h0; omega⟩
  obtain ⟨i1, i2, i3⟩ := idx_ok (xs := ls) (i := 0) (by omega) (by omega)
  have i1 : ilt 0 (llen ls) = true := i1
  have i2 : band (ile 0 0) (ilt 0 (llen ls)) = true := i2
  rw [sel_pos i1, sel_pos i2, show iadd .i64 (0 : Int) 1 = ((1 : Nat) : Int) from rfl]
  show sel (band true (band (lnK [76, 105, 110, 107] (fvL (lget ls 0))) (ile (llen []) 1000000))) (wTx_L5 (G + 1) [] G a b c d x1 x2 e x3 x4 ls (llen ls) ((1 : Nat) : Int) (bytesV (tL (lget ls 0))) (gLw w (lget ls 0)) p q r K) none = _
  have ht := tL_len (lget ls 0)
  rw [lnK_of (fL_good (lget ls 0)) (by show 4 ≤ 1000; omega), show ile (llen []) 1000000 = true from rfl, sel_pos bttt, tx5 (G + 1) a b c d x1 x2 e x3 x4 ls p q r hl K k 1 _ _ G (by omega) (by omega) (by omega), hk]
  rfl
theorem tx3 (F : Nat) (hF : 102 ≤ F) (a b c d : List V) (x1 x2 : Int) (zs xs q ls : List V) (hl : ls.length ≤ 100) (hr : rsOk xs = true) (hz : zs.all gZ = true) (hn : zs.length ≤ 20) (K : V → Option V) : ∀ (k i : Nat) (s : List UInt8) (w : Int) (G : Nat), i + k = zs.length → k < G → s.length + k * 18000 ≤ 500000 →
    wTx_L3 F [] G a b c d x1 x2 zs (llen zs) i (bytesV s) w xs q ls K = K (resT (foldI gLw ls ls.length 0 (foldI (gZw xs) zs k i w)) (s ++ cT tZ zs k i ++ cT tL ls ls.length 0)) := by
  intro k
  induction k with
  | zero =>
    intro i s w G h1 h2 h3
    rw [Nat.zero_mul] at h3
    obtain ⟨G, rfl⟩ := Nat.exists_eq_succ_of_ne_zero (show G ≠ 0 by omega)
    rw [wTx_L3_succ, sel_neg (idx_end (by omega))]
    have e := tx5 F a b c d x1 x2 zs (llen zs) i ls xs q ls hl K ls.length 0 s w F (by omega) (by omega) (by omega)
    rw [c0] at e
    rw [e]
    show _ = K (resT (foldI gLw ls ls.length 0 w) (s ++ [] ++ cT tL ls ls.length 0))
    rw [List.append_nil]
  | succ k ih =>
    intro i s w G h1 h2 h3
    obtain ⟨G, rfl⟩ := Nat.exists_eq_succ_of_ne_zero (show G ≠ 0 by omega)
    obtain ⟨i1, i2, i3⟩ := idx_ok (xs := zs) (i := i) (by omega) (by omega)
    have hg := all_get hz (i := i) (by omega)
    obtain ⟨g1, g2, g3⟩ := gZ_iff hg
    have hk : znK xs (zN (lget zs i)) (zE1 (lget zs i)) = true := by
      unfold znK
      rw [hr, g2, ile_t (show slen (zN (lget zs i)) ≤ 900 by rw [slen_nat]; omega)]; rfl
    rw [wTx_L3_succ, sel_pos i1, sel_pos i2, i3]
    show sel (band true (band (znK xs (zN (lget zs i)) (zE1 (lget zs i))) (ile (llen (bytesV s)) 500000))) (wTx_L3 F [] G a b c d x1 x2 zs (llen zs) ((i + 1 : Nat) : Int) (lcat (bytesV s) (bytesV (tZ (lget zs i)))) (gZw xs w (lget zs i)) xs q ls K) none = _
    have ht := tZ_len hg
    rw [hk, bv_ile (m := 500000) (by omega), sel_pos bttt, bv_app, ih (i + 1) _ _ G (by omega) (by omega) (by rw [List.length_append]; omega)]
    show _ = K (resT (foldI gLw ls ls.length 0 (foldI (gZw xs) zs k (i + 1) (gZw xs w (lget zs i)))) (s ++ (tZ (lget zs i) ++ cT tZ zs k (i + 1)) ++ cT tL ls ls.length 0))
    simp only [List.append_assoc]
theorem tx2 (F : Nat) (hF : 102 ≤ F) (a b c d : List V) (x1 x2 : Int) (zs xs q ls : List V) (hl : ls.length ≤ 100) (hr : rsOk xs = true) (hz : zs.all gZ = true) (hn : zs.length ≤ 20) (K : V → Option V) : ∀ (k i : Nat) (w : Int) (G : Nat), i + k = zs.length → k < G →
    wTx_L2 F [] G a b c d x1 x2 zs (llen zs) i w xs q ls K = K (resT (foldI gLw ls ls.length 0 (foldI (gZw xs) zs k i w)) (cT tZ zs k i ++ cT tL ls ls.length 0)) := by
  intro k
  induction k with
  | zero =>
    intro i w G h1 h2
    obtain ⟨G, rfl⟩ := Nat.exists_eq_succ_of_ne_zero (show G ≠ 0 by omega)
    rw [wTx_L2_succ, sel_neg (idx_end (by omega)), tx4 F hF a b c d x1 x2 zs (llen zs) i ls xs q ls hl w K]
    rfl
  | succ k ih =>
    intro i w G h1 h2
    obtain ⟨G, rfl⟩ := Nat.exists_eq_succ_of_ne_zero (show G ≠ 0 by omega)
    obtain ⟨i1, i2, i3⟩ := idx_ok (xs := zs) (i := i) (by omega) (by omega)
    have hg := all_get hz (i := i) (by omega)
    obtain ⟨g1, g2, g3⟩ := gZ_iff hg
    have hk : znK xs (zN (lget zs i)) (zE1 (lget zs i)) = true := by
      unfold znK
      rw [hr, g2, ile_t (show slen (zN (lget zs i)) ≤ 900 by rw [slen_nat]; omega)]; rfl
    rw [wTx_L2_succ, sel_pos i1, sel_pos i2, i3]
    show sel (band true (band (znK xs (zN (lget zs i)) (zE1 (lget zs i))) (ile (llen []) 500000))) (sel (band true (ieq (llen (zE1 (lget zs i))) 0)) (wTx_L2 F [] G a b c d x1 x2 zs (llen zs) ((i + 1 : Nat) : Int) (gZw xs w (lget zs i)) xs q ls K) (wTx_L3 F [] G a b c d x1 x2 zs (llen zs) ((i + 1 : Nat) : Int) (bytesV (tZ (lget zs i))) (gZw xs w (lget zs i)) xs q ls K)) none = _
    have ht := tZ_len hg
    rw [hk, show ile (llen []) 500000 = true from rfl, sel_pos bttt]
    show _ = K (resT (foldI gLw ls ls.length 0 (foldI (gZw xs) zs k (i + 1) (gZw xs w (lget zs i)))) (tZ (lget zs i) ++ cT tZ zs k (i + 1) ++ cT tL ls ls.length 0))
    by_cases h0 : zE1 (lget zs i) = []
    · have e : tZ (lget zs i) = [] := by unfold tZ znT; rw [h0]; rfl
      rw [sel_pos (by rw [h0]; rfl), ih (i + 1) _ G (by omega) (by omega), e]
      rfl
    · have hp := List.length_pos_iff.2 h0
      rw [sel_neg (by show band true (ieq (llen (zE1 (lget zs i))) 0) = false; rw [ieq_f (by rw [llen_nat]; omega)]; rfl), tx3 F hF a b c d x1 x2 zs xs q ls hl hr hz hn K k (i + 1) _ _ G (by omega) (by omega) (by omega)]
theorem tx1 (F : Nat) (hF : 102 ≤ F) (a b c : List V) (xs p zs ls : List V) (hl : ls.length ≤ 100) (hr : rsOk p = true) (hz : zs.all gZ = true) (hn : zs.length ≤ 20) (hx : xs.all gR = true) (hm : xs.length ≤ 50) (K : V → Option V) : ∀ (k i : Nat) (s : List UInt8) (w : Int) (G : Nat), i + k = xs.length → k < G → s.length + k * 1500 ≤ 75000 →
    wTx_L1 F [] G a b c xs (llen xs) i (bytesV s) w p zs ls K = K (resT (foldI gLw ls ls.length 0 (foldI (gZw p) zs zs.length 0 (foldI gRw xs k i w))) (s ++ cT tR xs k i ++ (cT tZ zs zs.length 0 ++ cT tL ls ls.length 0))) := by
  intro k
  induction k with
  | zero =>
    intro i s w G h1 h2 h3
    rw [Nat.zero_mul] at h3
    obtain ⟨G, rfl⟩ := Nat.exists_eq_succ_of_ne_zero (show G ≠ 0 by omega)
    rw [wTx_L1_succ, sel_neg (idx_end (by omega))]
    have e := tx3 F hF a b c xs (llen xs) i zs p zs ls hl hr hz hn K zs.length 0 s w F (by omega) (by omega) (by omega)
    rw [c0] at e
    rw [e]
    show _ = K (resT (foldI gLw ls ls.length 0 (foldI (gZw p) zs zs.length 0 w)) (s ++ [] ++ (cT tZ zs zs.length 0 ++ cT tL ls ls.length 0)))
    simp only [List.append_assoc, List.nil_append]
  | succ k ih =>
    intro i s w G h1 h2 h3
    obtain ⟨G, rfl⟩ := Nat.exists_eq_succ_of_ne_zero (show G ≠ 0 by omega)
    obtain ⟨i1, i2, i3⟩ := idx_ok (xs := xs) (i := i) (by omega) (by omega)
    have hg := all_get hx (i := i) (by omega)
    rw [wTx_L1_succ, sel_pos i1, sel_pos i2, i3]
    show sel (gR (lget xs i)) (sel (band true (band (lnK [82, 117, 108, 101] (fvR (lget xs i))) (ile (llen (bytesV s)) 1000000))) (wTx_L1 F [] G a b c xs (llen xs) ((i + 1 : Nat) : Int) (lcat (bytesV s) (bytesV (tR (lget xs i)))) (gRw w (lget xs i)) p zs ls K) none) none = _
    have ht := tR_len (lget xs i)
    rw [sel_pos hg, lnK_of (fR_good (lget xs i)) (by show 4 ≤ 1000; omega), bv_ile (m := 1000000) (by omega), sel_pos bttt, bv_app, ih (i + 1) _ _ G (by omega) (by omega) (by rw [List.length_append]; omega)]
    show _ = K (resT (foldI gLw ls ls.length 0 (foldI (gZw p) zs zs.length 0 (foldI gRw xs k (i + 1) (gRw w (lget xs i))))) (s ++ (tR (lget xs i) ++ cT tR xs k (i + 1)) ++ (cT tZ zs zs.length 0 ++ cT tL ls ls.length 0)))
    simp only [List.append_assoc]
theorem tx0 (F : Nat) (hF : 102 ≤ F) (a b c : List V) (xs p zs ls : List V) (hl : ls.length ≤ 100) (hr : rsOk p = true) (hz : zs.all gZ = true) (hn : zs.length ≤ 20) (hx : xs.all gR = true) (hm : xs.length ≤ 50) (w : Int) (K : V → Option V) :
    wTx_L0 F [] F a b c xs (llen xs) 0 w p zs ls K = K (resT (foldI gLw ls ls.length 0 (foldI (gZw p) zs zs.length 0 (foldI gRw xs xs.length 0 w))) (cT tR xs xs.length 0 ++ (cT tZ zs zs.length 0 ++ cT tL ls ls.length 0))) := by
  obtain ⟨G, rfl⟩ := Nat.exists_eq_succ_of_ne_zero (show F ≠ 0 by omega)
  rw [wTx_L0_succ]
  by_cases h0 : xs = []
  · subst h0
    rw [sel_neg (by rfl)]
    have e := tx2 (G + 1) hF a b c [] (llen []) 0 zs p zs ls hl hr hz hn K zs.length 0 w (G + 1) (by omega) (by omega)
    rw [c0] at e
    rw [e]
    rfl
  obtain ⟨k, hk⟩ : ∃ k, xs.length = k + 1 := ⟨xs.length - 1, by have := List.length_pos_iff.2 h0; omega⟩
  obtain ⟨i1, i2, i3⟩ := idx_ok (xs := xs) (i := 0) (by omega) (by omega)
  have i1 : ilt 0 (llen xs) = true := i1
  have i2 : band (ile 0 0) (ilt 0 (llen xs)) = true := i2
  have hg : gR (lget xs 0) = true := all_get hx (i := 0) (by omega)
  rw [sel_pos i1, sel_pos i2, show iadd .i64 (0 : Int) 1 = ((1 : Nat) : Int) from rfl]
  show sel (gR (lget xs 0)) (sel (band true (band (lnK [82, 117, 108, 101] (fvR (lget xs 0))) (ile (llen []) 1000000))) (wTx_L1 (G + 1) [] G a b c xs (llen xs) ((1 : Nat) : Int) (bytesV (tR (lget xs 0))) (gRw w (lget xs 0)) p zs ls K) none) none = _
  have ht := tR_len (lget xs 0)
  rw [sel_pos hg, lnK_of (fR_good (lget xs 0)) (by show 4 ≤ 1000; omega), show ile (llen []) 1000000 = true from rfl, sel_pos bttt, tx1 (G + 1) hF a b c xs p zs ls hl hr hz hn hx hm K k 1 _ _ G (by omega) (by omega) (by omega), hk]
  rfl
end Nt.Ev.YtjkfndcpiihniaaGreatDoor.Rx

namespace Nt.Ev.YtjkfndcpiihniaaGreatDoor.Rx
set_option maxRecDepth 100000
open Go Go.RowKit Nt Nt.Num Nt.Civil Nt.Fld Go.Proofs.YtjkfndcpiihniaaGreatDoor Nt.Ev.YtjkfndcpiihniaaGreatDoor Nt.Ev.YtjkfndcpiihniaaGreatDoor.Lk
variable [MLen]
theorem fold_zero (g : Int → V → Int) (p : V → Bool) (hg : ∀ w e, g w e = 0 ↔ w = 0 ∧ p e = true) (l : List V) : ∀ (k i : Nat) (w : Int), foldI g l k i w = 0 ↔ w = 0 ∧ allI p l k i = true
  | 0, i, w => by unfold foldI allI; simp
  | k + 1, i, w => by
    unfold foldI allI
    rw [fold_zero g p hg l k (i + 1), hg, Bool.and_eq_true]
    exact and_assoc
theorem feR_zero (e : V) : feR e = 0 ↔ rrR e = true := by
  show sel (rrR e) (0 : Int) 4 = 0 ↔ _
  cases rrR e <;> simp [sel]
theorem feE_zero (e : V) : feE e = 0 ↔ rrE e = true := by
  show sel (rrE e) (0 : Int) 4 = 0 ↔ _
  cases rrE e <;> simp [sel]
theorem feL_zero (e : V) : feL e = 0 ↔ rrL e = true := by
  show (if rrL e = true then (0 : Int) else 4) = 0 ↔ _
  cases rrL e <;> simp
theorem gR_zero (w : Int) (e : V) : gRw w e = 0 ↔ w = 0 ∧ rrR e = true := by
  unfold gRw
  rw [or3_zero, feR_zero, (fR_good e).2.1]; simp
theorem gL_zero (w : Int) (e : V) : gLw w e = 0 ↔ w = 0 ∧ rrL e = true := by
  unfold gLw
  rw [or3_zero, feL_zero, (fL_good e).2.1]; simp
theorem eW_zero (es : List V) : ∀ (k i : Nat) (w : Int), eW es k i w = 0 ↔ w = 0 ∧ allI rrE es k i = true
  | 0, i, w => by unfold eW allI; simp
  | k + 1, i, w => by
    unfold eW allI
    rw [eW_zero es k (i + 1), or3_zero, feE_zero, (fE_good _).2.1, Bool.and_eq_true]
    simp [and_assoc]
theorem eV_eq (e : V) : Rd.eV e = rrE e := by
  unfold Rd.eV rrE
  exact er_eq _ _ _ _ _ _ _ _ _ _ _ _ _
theorem enF_zero (xs es : List V) (last : Int) : ∀ (k i : Nat) (acc : List V), (Rd.enF xs es last k i acc).2 = 0 ↔ zB es last k i = true ∧ 0 ≤ last
  | 0, i, acc => by
    unfold Rd.enF zB
    split
    · simp; omega
    · simp; omega
  | k + 1, i, acc => by
    unfold Rd.enF zB
    have e : Rd.okE last i (lget es i) = (rrE (lget es i) && beq (asBool (acell (lget es i) 5)) (ilt i last)) := by unfold Rd.okE; rw [eV_eq]
    rw [e]
    cases h : (rrE (lget es i) && beq (asBool (acell (lget es i) 5)) (ilt i last)) with
    | false => simp
    | true =>
      rw [if_pos rfl, show ((i : Int) + 1) = ((i + 1 : Nat) : Int) by omega, enF_zero xs es last k (i + 1)]
      simp
theorem zB_all (es : List V) (last : Int) : ∀ (k i : Nat), zB es last k i = true → allI rrE es k i = true
  | 0, i, h => rfl
  | k + 1, i, h => by
    unfold zB at h
    unfold allI
    rw [Bool.and_eq_true, Bool.and_eq_true] at h
    rw [h.1.1, zB_all es last k (i + 1) h.2]; rfl
theorem ndE_zero (xs es : List V) : ndE xs es = 0 ↔ zoB es = true := by
  unfold ndE zoB
  have := enF_zero xs es ((es.length : Int) - 1) es.length 0 []
  rw [c0] at this
  rw [this, Bool.and_eq_true, ilt_iff, llen_nat]
  constructor
  · rintro ⟨h1, h2⟩; exact ⟨h1, by omega⟩
  · rintro ⟨h1, h2⟩; exact ⟨h1, by omega⟩
theorem gZ_zero (xs : List V) (w : Int) (e : V) : gZw xs w e = 0 ↔ w = 0 ∧ zP e = true := by
  unfold gZw znW zP
  rw [eW_zero, or3_zero, ndE_zero, Bool.and_eq_true, ieq_iff]
  constructor
  · rintro ⟨⟨h1, h2, h3⟩, h4⟩; exact ⟨h1, h3, h2⟩
  · rintro ⟨h1, h3, h2⟩
    have h2' := h2
    unfold zoB at h2'
    rw [Bool.and_eq_true] at h2'
    exact ⟨⟨h1, h2, h3⟩, zB_all _ _ _ _ h2'.1⟩
noncomputable def txA (xs zs ls : List V) : List UInt8 := cT tR xs xs.length 0 ++ (cT tZ zs zs.length 0 ++ cT tL ls ls.length 0)
noncomputable def txT (xs zs ls : List V) : List UInt8 := sel (rgT xs zs ls) (txA xs zs ls) []
noncomputable def txW (xs zs ls : List V) : Int := sel (rgT xs zs ls) 0 4
theorem txt_ev (xs zs ls : List V) (hc : rgK xs zs ls = true) : Contract rE 6 [.agg [.sl 49 [.str, .int .i64, .int .i64, .int .i64, .int .i64, .int .i64, .int .i64, .int .i64, .int .i64, .int .i64, .str] none xs, .sl 36 [.str, .sl 47 [.int .i64, .int .i64, .int .i64, .str, .str, .bool, .int .i64, .int .i64, .int .i64, .int .i64, .int .i64, .int .i64, .int .i64]] none zs, .sl 39 [.str, .str] none ls]] (.tup [.str (txT xs zs ls), .int .i64 (txW xs zs ls)]) := by
  obtain ⟨h1, h2, h3, h4, h5⟩ := rgK_iff hc
  refine contract_of_body rE_ok wS2_ok 200 4 ?_
  rw [wTx_top, tx0 200 (by omega) xs zs ls xs xs zs ls h3 (rs_of h1 h4) h5 h2 h4 h1 0 some]
  have e : foldI gLw ls ls.length 0 (foldI (gZw xs) zs zs.length 0 (foldI gRw xs xs.length 0 0)) = 0 ↔ rgT xs zs ls = true := by
    rw [fold_zero gLw rrL gL_zero, fold_zero (gZw xs) zP (gZ_zero xs), fold_zero gRw rrR gR_zero]
    unfold rgT
    rw [Bool.and_eq_true, Bool.and_eq_true]
    exact ⟨fun ⟨⟨⟨_, a⟩, b⟩, c⟩ => ⟨a, b, c⟩, fun ⟨a, b, c⟩ => ⟨⟨⟨rfl, a⟩, b⟩, c⟩⟩
  unfold resT txT txW txA
  cases h : rgT xs zs ls with
  | true => rw [e.2 h]; rfl
  | false =>
    have : ieq (foldI gLw ls ls.length 0 (foldI (gZw xs) zs zs.length 0 (foldI gRw xs xs.length 0 0))) 0 = false := ieq_f fun x => by rw [e.1 x] at h; cases h
    rw [this]; rfl
theorem zB_succ (es : List V) (last : Int) (k i : Nat) : zB es last (k + 1) i = ((rrE (lget es i) && beq (asBool (acell (lget es i) 5)) (ilt i last)) && zB es last k (i + 1)) := rfl
theorem allI_succ (p : V → Bool) (l : List V) (k i : Nat) : allI p l (k + 1) i = (p (lget l i) && allI p l k (i + 1)) := rfl
theorem cT_succ (f : V → List UInt8) (l : List V) (k i : Nat) : cT f l (k + 1) i = f (lget l i) ++ cT f l k (i + 1) := rfl
theorem eT_succ (n : List UInt8) (es : List V) (k i : Nat) : eT n es (k + 1) i = lnT (ahd n i) (fvE (lget es i)) ++ eT n es k (i + 1) := rfl
theorem zo_loop (F : Nat) (n m : List UInt8) (a es : List V) (x : Bool) (hz : zoK es = true) (K : V → Option V) : ∀ (k i G : Nat), i + k = es.length → k < G →
    wZo28_L0 F [] G n a x es (llen es) i m es K = K (.bool (zB es ((es.length : Int) - 1) k i && ilt 0 (llen es))) := by
  obtain ⟨z1, z2⟩ := zoK_iff hz
  intro k
  induction k with
  | zero =>
    intro i G h1 h2
    obtain ⟨G, rfl⟩ := Nat.exists_eq_succ_of_ne_zero (show G ≠ 0 by omega)
    rw [wZo28_L0_succ, sel_neg (idx_end (by omega))]
    unfold zB
    rw [Bool.true_and]
  | succ k ih =>
    intro i G h1 h2
    obtain ⟨G, rfl⟩ := Nat.exists_eq_succ_of_ne_zero (show G ≠ 0 by omega)
    obtain ⟨i1, i2, i3⟩ := idx_ok (xs := es) (i := i) (by omega) (by omega)
    have hg := all_get z2 (i := i) (by omega)
    have hq : band (ile (slen (asStr (acell (lget es i) 3))) 900) (ile (slen (asStr (acell (lget es i) 4))) 900) = true := (band_true hg).1
    rw [wZo28_L0_succ, sel_pos i1, sel_pos i2, sel_pos hq, i3, ih (i + 1) G (by omega) (by omega), isub64 (by rw [llen_nat]; omega), zB_succ]
    show sel (bnot (rrE (lget es i))) (K (.bool false)) (sel (bnot (beq (asBool (acell (lget es i) 5)) (ilt i ((es.length : Int) - 1)))) (K (.bool false)) _) = _
    cases rrE (lget es i) <;> cases beq (asBool (acell (lget es i) 5)) (ilt i ((es.length : Int) - 1)) <;> rfl
theorem wZoS_ok (n : List UInt8) (es : List V) (hc : zoK es = true) : Contract rE 26 [.agg [.str n, .sl 47 [.int .i64, .int .i64, .int .i64, .str, .str, .bool, .int .i64, .int .i64, .int .i64, .int .i64, .int .i64, .int .i64, .int .i64] none es]] (.bool (zoB es)) := by
  obtain ⟨z1, z2⟩ := zoK_iff hc
  refine contract_of_body rE_ok wS0_ok 200 3 ?_
  rw [wZo28_top]
  have e := zo_loop 200 n n es es false hc some es.length 0 200 (by omega) (by omega)
  rw [c0] at e
  exact e
theorem wS3_ok : SOk rE wS3 := by
  unfold wS3
  refine SOk.cons (fun args r h => ?_) (SOk.cons (fun args r h => ?_) (wS0_ok))
  · unfold wL31S at h
    split at h
    · simp only [Option.some.injEq, Prod.mk.injEq] at h
      obtain ⟨hc, rfl⟩ := h
      exact wL31S_ok _ _ hc
    · cases h
  · unfold wZoS at h
    split at h
    · simp only [Option.some.injEq, Prod.mk.injEq] at h
      obtain ⟨hc, rfl⟩ := h
      exact wZoS_ok _ _ hc
    · cases h
theorem rg2 (F : Nat) (a b c : List V) (x : Bool) (d : List V) (x1 x2 : Int) (e : List V) (x3 x4 : Int) (ls p q r : List V) (hl : ls.length ≤ 100) (K : V → Option V) : ∀ (k i G : Nat), i + k = ls.length → k < G →
    wRg31_L2 F [] G a b c x d x1 x2 e x3 x4 ls (llen ls) i p q r K = K (.bool (allI rrL ls k i)) := by
  intro k
  induction k with
  | zero =>
    intro i G h1 h2
    obtain ⟨G, rfl⟩ := Nat.exists_eq_succ_of_ne_zero (show G ≠ 0 by omega)
    rw [wRg31_L2_succ, sel_neg (idx_end (by omega))]; rfl
  | succ k ih =>
    intro i G h1 h2
    obtain ⟨G, rfl⟩ := Nat.exists_eq_succ_of_ne_zero (show G ≠ 0 by omega)
    obtain ⟨i1, i2, i3⟩ := idx_ok (xs := ls) (i := i) (by omega) (by omega)
    rw [wRg31_L2_succ, sel_pos i1, sel_pos i2, i3, ih (i + 1) G (by omega) (by omega), allI_succ]
    show sel (bnot (rrL (lget ls i))) (K (.bool false)) _ = _
    cases rrL (lget ls i) <;> rfl
theorem rg1 (F : Nat) (hF : 102 ≤ F) (a b c : List V) (x : Bool) (d : List V) (x1 x2 : Int) (zs p q ls : List V) (hl : ls.length ≤ 100) (hz : zs.all gZ = true) (hn : zs.length ≤ 20) (K : V → Option V) : ∀ (k i G : Nat), i + k = zs.length → k < G →
    wRg31_L1 F [] G a b c x d x1 x2 zs (llen zs) i p q ls K = K (.bool (allI zP zs k i && allI rrL ls ls.length 0)) := by
  intro k
  induction k with
  | zero =>
    intro i G h1 h2
    obtain ⟨G, rfl⟩ := Nat.exists_eq_succ_of_ne_zero (show G ≠ 0 by omega)
    rw [wRg31_L1_succ, sel_neg (idx_end (by omega))]
    have e := rg2 F a b c x d x1 x2 zs (llen zs) i ls p q ls hl K ls.length 0 F (by omega) (by omega)
    rw [c0] at e
    rw [e]; rfl
  | succ k ih =>
    intro i G h1 h2
    obtain ⟨G, rfl⟩ := Nat.exists_eq_succ_of_ne_zero (show G ≠ 0 by omega)
    obtain ⟨i1, i2, i3⟩ := idx_ok (xs := zs) (i := i) (by omega) (by omega)
    obtain ⟨g1, g2, g3⟩ := gZ_iff (all_get hz (i := i) (by omega))
    rw [wRg31_L1_succ, sel_pos i1, sel_pos i2, i3, ih (i + 1) G (by omega) (by omega), allI_succ]
    show sel (bnot (ieq (nmI (zN (lget zs i))) 0)) (K (.bool false)) (sel (zoK (zE1 (lget zs i))) (sel (bnot (zoB (zE1 (lget zs i)))) (K (.bool false)) (K (.bool (allI zP zs k (i + 1) && allI rrL ls ls.length 0)))) none) = K (.bool (((ieq (nmI (zN (lget zs i))) 0 && zoB (zE1 (lget zs i))) && allI zP zs k (i + 1)) && allI rrL ls ls.length 0))
    rw [g2]
    cases ieq (nmI (zN (lget zs i))) 0 <;> cases zoB (zE1 (lget zs i)) <;> rfl
theorem rg0 (F : Nat) (hF : 102 ≤ F) (a b c : List V) (x : Bool) (xs p zs ls : List V) (hl : ls.length ≤ 100) (hz : zs.all gZ = true) (hn : zs.length ≤ 20) (hx : xs.all gR = true) (hm : xs.length ≤ 50) (K : V → Option V) : ∀ (k i G : Nat), i + k = xs.length → k < G →
    wRg31_L0 F [] G a b c x xs (llen xs) i p zs ls K = K (.bool (allI rrR xs k i && (allI zP zs zs.length 0 && allI rrL ls ls.length 0))) := by
  intro k
  induction k with
  | zero =>
    intro i G h1 h2
    obtain ⟨G, rfl⟩ := Nat.exists_eq_succ_of_ne_zero (show G ≠ 0 by omega)
    rw [wRg31_L0_succ, sel_neg (idx_end (by omega))]
    have e := rg1 F hF a b c x xs (llen xs) i zs p zs ls hl hz hn K zs.length 0 F (by omega) (by omega)
    rw [c0] at e
    rw [e]; rfl
  | succ k ih =>
    intro i G h1 h2
    obtain ⟨G, rfl⟩ := Nat.exists_eq_succ_of_ne_zero (show G ≠ 0 by omega)
    obtain ⟨i1, i2, i3⟩ := idx_ok (xs := xs) (i := i) (by omega) (by omega)
    have hg := all_get hx (i := i) (by omega)
    have hq : ile (slen (asStr (acell (lget xs i) 10))) 900 = true := (band_true (band_true hg).1).2
    rw [wRg31_L0_succ, sel_pos i1, sel_pos i2, sel_pos hq, i3, ih (i + 1) G (by omega) (by omega), allI_succ]
    show sel (bnot (rrR (lget xs i))) (K (.bool false)) _ = _
    cases rrR (lget xs i) <;> rfl
theorem wRgS_ok (xs zs ls : List V) (hc : rgK xs zs ls = true) : Contract rE 9 [.agg [.sl 49 [.str, .int .i64, .int .i64, .int .i64, .int .i64, .int .i64, .int .i64, .int .i64, .int .i64, .int .i64, .str] none xs, .sl 36 [.str, .sl 47 [.int .i64, .int .i64, .int .i64, .str, .str, .bool, .int .i64, .int .i64, .int .i64, .int .i64, .int .i64, .int .i64, .int .i64]] none zs, .sl 39 [.str, .str] none ls]] (.bool (rgT xs zs ls)) := by
  obtain ⟨h1, h2, h3, h4, h5⟩ := rgK_iff hc
  refine contract_of_body rE_ok wS3_ok 200 3 ?_
  rw [wRg31_top]
  have e := rg0 200 (by omega) xs zs ls false xs xs zs ls h3 h5 h2 h4 h1 some xs.length 0 200 (by omega) (by omega)
  rw [c0] at e
  exact e
theorem wS4_ok : SOk rE wS4 := by
  unfold wS4
  refine SOk.cons (fun args r h => ?_) (wS3_ok)
  · unfold wRgS at h
    split at h
    · simp only [Option.some.injEq, Prod.mk.injEq] at h
      obtain ⟨hc, rfl⟩ := h
      exact wRgS_ok _ _ _ hc
    · cases h
theorem ok_cat {a b : List UInt8} (h : a.length + b.length ≤ 1000000) : okCat a b = true := cat_ok (by omega)
theorem dx3 (F : Nat) (a b c d : List V) (x1 x2 : Int) (e : List V) (x3 x4 : Int) (ls p q r : List V) (hl : ls.length ≤ 100) (K : V → Option V) : ∀ (k i : Nat) (s : List UInt8) (G : Nat), i + k = ls.length → k < G → s.length + k * 1500 ≤ 900000 →
    wTx31_L3 F [] G a b c s d x1 x2 e x3 x4 ls (llen ls) i p q r K = K (.tup [.str (s ++ cT tL ls k i), .int .i64 0]) := by
  intro k
  induction k with
  | zero =>
    intro i s G h1 h2 h3
    obtain ⟨G, rfl⟩ := Nat.exists_eq_succ_of_ne_zero (show G ≠ 0 by omega)
    rw [wTx31_L3_succ, sel_neg (idx_end (by omega))]
    show _ = K (.tup [.str (s ++ []), .int .i64 0])
    rw [List.append_nil]
  | succ k ih =>
    intro i s G h1 h2 h3
    obtain ⟨G, rfl⟩ := Nat.exists_eq_succ_of_ne_zero (show G ≠ 0 by omega)
    obtain ⟨i1, i2, i3⟩ := idx_ok (xs := ls) (i := i) (by omega) (by omega)
    have ht := tL_len (lget ls i)
    rw [wTx31_L3_succ, sel_pos i1, sel_pos i2, i3]
    show sel (lnK [76, 105, 110, 107] (fvL (lget ls i))) (sel (okCat s (tL (lget ls i))) (wTx31_L3 F [] G a b c (scat s (tL (lget ls i))) d x1 x2 e x3 x4 ls (llen ls) ((i + 1 : Nat) : Int) p q r K) none) none = _
    rw [sel_pos (lnK_of (fL_good (lget ls i)) (by show 4 ≤ 1000; omega)), sel_pos (ok_cat (by omega)), sc, ih (i + 1) _ G (by omega) (by omega) (by rw [List.length_append]; omega), List.append_assoc, cT_succ]
theorem dx2 (F m0 : Nat) (a b c : List V) (d : List V) (x1 x2 : Int) (e : List V) (x3 : Int) (x4 : Int) (es : List V) (n : List UInt8) (o p q r : List V) (hn : n.length ≤ 900) (hz : zoK es = true) (K : V → Option V) : ∀ (k i : Nat) (s : List UInt8) (G : Nat), i + k = es.length → k < G → s.length + k * 1500 ≤ 900000 →
    wTx31_L2 F [m0] G a b c s d x1 x2 e x3 x4 es (llen es) i n o p q r K = wTx31_L1 F [] m0 a b c (s ++ eT n es k i) d x1 x2 e x3 (iadd .i64 x4 1) p q r K := by
  obtain ⟨z1, z2⟩ := zoK_iff hz
  intro k
  induction k with
  | zero =>
    intro i s G h1 h2 h3
    obtain ⟨G, rfl⟩ := Nat.exists_eq_succ_of_ne_zero (show G ≠ 0 by omega)
    rw [wTx31_L2_succ, sel_neg (idx_end (by omega))]
    show _ = wTx31_L1 F [] m0 a b c (s ++ []) d x1 x2 e x3 (iadd .i64 x4 1) p q r K
    rw [List.append_nil]
  | succ k ih =>
    intro i s G h1 h2 h3
    obtain ⟨G, rfl⟩ := Nat.exists_eq_succ_of_ne_zero (show G ≠ 0 by omega)
    obtain ⟨i1, i2, i3⟩ := idx_ok (xs := es) (i := i) (by omega) (by omega)
    have hg := all_get z2 (i := i) (by omega)
    have hf := fE_good (lget es i)
    have ha := ahd_len n hn i
    have hl := lnT_len (a := ahd n i) hf (by omega)
    have hk := lnK_of (a := ahd n i) hf (by omega)
    have e' : ∀ a', a' = ahd n i → sel (lnK a' (fvE (lget es i))) (sel (okCat s (lnT a' (fvE (lget es i)))) (wTx31_L2 F [m0] G a b c (scat s (lnT a' (fvE (lget es i)))) d x1 x2 e x3 x4 es (llen es) ((i + 1 : Nat) : Int) n o p q r K) none) none = wTx31_L1 F [] m0 a b c (s ++ eT n es (k + 1) i) d x1 x2 e x3 (iadd .i64 x4 1) p q r K := by
      rintro _ rfl
      rw [sel_pos hk, sel_pos (ok_cat (by omega)), sc, ih (i + 1) _ G (by omega) (by omega) (by rw [List.length_append]; omega), List.append_assoc, eT_succ]
    rw [wTx31_L2_succ, sel_pos i1, sel_pos i2, i3]
    show sel (gE (lget es i)) (sel (ieq (i : Int) 0) (sel (okCat [90, 111, 110, 101, 32] n) (sel (lnK (scat [90, 111, 110, 101, 32] n) (fvE (lget es i))) (sel (okCat s (lnT (scat [90, 111, 110, 101, 32] n) (fvE (lget es i)))) (wTx31_L2 F [m0] G a b c (scat s (lnT (scat [90, 111, 110, 101, 32] n) (fvE (lget es i)))) d x1 x2 e x3 x4 es (llen es) ((i + 1 : Nat) : Int) n o p q r K) none) none) none)
      (sel (lnK [] (fvE (lget es i))) (sel (okCat s (lnT [] (fvE (lget es i)))) (wTx31_L2 F [m0] G a b c (scat s (lnT [] (fvE (lget es i)))) d x1 x2 e x3 x4 es (llen es) ((i + 1 : Nat) : Int) n o p q r K) none) none)) none = _
    rw [sel_pos hg]
    by_cases h0 : i = 0
    · rw [sel_pos (ieq_t (by omega)), sel_pos (cat_ok (by simp; omega))]
      exact e' _ (by unfold ahd; rw [if_pos h0])
    · rw [sel_neg (ieq_f (by omega))]
      exact e' _ (by unfold ahd; rw [if_neg h0])
theorem dx1 (F : Nat) (hF : 102 ≤ F) (a b c : List V) (d : List V) (x1 x2 : Int) (zs p q ls : List V) (hl : ls.length ≤ 100) (hz : zs.all gZ = true) (hn : zs.length ≤ 20) (K : V → Option V) : ∀ (k i : Nat) (s : List UInt8) (G : Nat), i + k = zs.length → k < G → s.length + k * 18000 ≤ 500000 →
    wTx31_L1 F [] G a b c s d x1 x2 zs (llen zs) i p q ls K = K (.tup [.str (s ++ (cT tZ zs k i ++ cT tL ls ls.length 0)), .int .i64 0]) := by
  intro k
  induction k with
  | zero =>
    intro i s G h1 h2 h3
    rw [Nat.zero_mul] at h3
    obtain ⟨G, rfl⟩ := Nat.exists_eq_succ_of_ne_zero (show G ≠ 0 by omega)
    rw [wTx31_L1_succ, sel_neg (idx_end (by omega))]
    have e := dx3 F a b c d x1 x2 zs (llen zs) i ls p q ls hl K ls.length 0 s F (by omega) (by omega) (by omega)
    rw [c0] at e
    rw [e]; rfl
  | succ k ih =>
    intro i s G h1 h2 h3
    obtain ⟨G, rfl⟩ := Nat.exists_eq_succ_of_ne_zero (show G ≠ 0 by omega)
    obtain ⟨i1, i2, i3⟩ := idx_ok (xs := zs) (i := i) (by omega) (by omega)
    have hg := all_get hz (i := i) (by omega)
    obtain ⟨g1, g2, g3⟩ := gZ_iff hg
    have ht := tZ_len hg
    rw [wTx31_L1_succ, sel_pos i1, sel_pos i2]
    have e := dx2 F G a b c d x1 x2 zs (llen zs) i (zE1 (lget zs i)) (zN (lget zs i)) (zE1 (lget zs i)) p q ls g1 g2 K (zE1 (lget zs i)).length 0 s F (by omega) (by omega) (by omega)
    rw [c0] at e
    refine e.trans ?_
    show wTx31_L1 F [] G a b c (s ++ tZ (lget zs i)) d x1 x2 zs (llen zs) (iadd .i64 i 1) p q ls K = _
    rw [i3, ih (i + 1) _ G (by omega) (by omega) (by rw [List.length_append]; omega), cT_succ]
    simp only [List.append_assoc]
theorem dx0 (F : Nat) (hF : 102 ≤ F) (a b c : List V) (xs p zs ls : List V) (hl : ls.length ≤ 100) (hz : zs.all gZ = true) (hn : zs.length ≤ 20) (hx : xs.all gR = true) (hm : xs.length ≤ 50) (K : V → Option V) : ∀ (k i : Nat) (s : List UInt8) (G : Nat), i + k = xs.length → k < G → s.length + k * 1500 ≤ 75000 →
    wTx31_L0 F [] G a b c s xs (llen xs) i p zs ls K = K (.tup [.str (s ++ (cT tR xs k i ++ (cT tZ zs zs.length 0 ++ cT tL ls ls.length 0))), .int .i64 0]) := by
  intro k
  induction k with
  | zero =>
    intro i s G h1 h2 h3
    rw [Nat.zero_mul] at h3
    obtain ⟨G, rfl⟩ := Nat.exists_eq_succ_of_ne_zero (show G ≠ 0 by omega)
    rw [wTx31_L0_succ, sel_neg (idx_end (by omega))]
    have e := dx1 F hF a b c xs (llen xs) i zs p zs ls hl hz hn K zs.length 0 s F (by omega) (by omega) (by omega)
    rw [c0] at e
    rw [e]; rfl
  | succ k ih =>
    intro i s G h1 h2 h3
    obtain ⟨G, rfl⟩ := Nat.exists_eq_succ_of_ne_zero (show G ≠ 0 by omega)
    obtain ⟨i1, i2, i3⟩ := idx_ok (xs := xs) (i := i) (by omega) (by omega)
    have hg := all_get hx (i := i) (by omega)
    have ht := tR_len (lget xs i)
    rw [wTx31_L0_succ, sel_pos i1, sel_pos i2, i3]
    show sel (gR (lget xs i)) (sel (lnK [82, 117, 108, 101] (fvR (lget xs i))) (sel (okCat s (tR (lget xs i))) (wTx31_L0 F [] G a b c (scat s (tR (lget xs i))) xs (llen xs) ((i + 1 : Nat) : Int) p zs ls K) none) none) none = _
    rw [sel_pos hg, sel_pos (lnK_of (fR_good (lget xs i)) (by show 4 ≤ 1000; omega)), sel_pos (ok_cat (by omega)), sc, ih (i + 1) _ G (by omega) (by omega) (by rw [List.length_append]; omega), List.append_assoc, cT_succ]
    simp only [List.append_assoc]
theorem txt31_ev (xs zs ls : List V) (hc : rgK xs zs ls = true) : Contract rE 7 [.agg [.sl 49 [.str, .int .i64, .int .i64, .int .i64, .int .i64, .int .i64, .int .i64, .int .i64, .int .i64, .int .i64, .str] none xs, .sl 36 [.str, .sl 47 [.int .i64, .int .i64, .int .i64, .str, .str, .bool, .int .i64, .int .i64, .int .i64, .int .i64, .int .i64, .int .i64, .int .i64]] none zs, .sl 39 [.str, .str] none ls]] (.tup [.str (txT xs zs ls), .int .i64 (txW xs zs ls)]) := by
  obtain ⟨h1, h2, h3, h4, h5⟩ := rgK_iff hc
  refine contract_of_body rE_ok wS4_ok 200 3 ?_
  rw [wTx31_top, sel_pos hc]
  unfold txT txW txA
  cases h : rgT xs zs ls with
  | false => rfl
  | true =>
    rw [sel_neg (show bnot true = false from rfl)]
    have e := dx0 200 (by omega) xs zs ls xs xs zs ls h3 h5 h2 h4 h1 some xs.length 0 [] 200 (by omega) (by omega) (by simp; omega)
    rw [c0] at e
    exact e
end Nt.Ev.YtjkfndcpiihniaaGreatDoor.Rx

namespace Nt.Ev.YtjkfndcpiihniaaGreatDoor.Rx
set_option maxRecDepth 100000
open Go Nt.Num Go.Proofs.YtjkfndcpiihniaaGreatDoor
variable [MLen]
open Nt.Ev.YtjkfndcpiihniaaGreatDoor
open Nt.Civil
open Nt.Fld
open Nt.Ev.YtjkfndcpiihniaaGreatDoor.Lk
noncomputable def slK (K : List Kd) (x : V) : Bool := match x with | .nilsl => true | .sl _ sh _ _ => Kd.eqL K sh | _ => false
noncomputable def xsOf : V → List V | .sl _ _ _ xs => xs | _ => []
noncomputable def tbL (x y z : V) : Bool := band (slK [.str, .int .i64, .int .i64, .int .i64, .int .i64, .int .i64, .int .i64, .int .i64, .int .i64, .int .i64, .str] x) (band (slK [.str, .sl 47 [.int .i64, .int .i64, .int .i64, .str, .str, .bool, .int .i64, .int .i64, .int .i64, .int .i64, .int .i64, .int .i64, .int .i64]] y) (slK [.str, .str] z))
noncomputable def tbK (x y z : V) : Bool := band (tbL x y z) (rgK (xsOf x) (xsOf y) (xsOf z))
noncomputable def vTxS : FSpec := fun a => match a with | [.agg [x, y, z]] => some (tbK x y z, .tup [.str (txT (xsOf x) (xsOf y) (xsOf z)), .int .i64 (txW (xsOf x) (xsOf y) (xsOf z))]) | _ => none
noncomputable def vRgS : FSpec := fun a => match a with | [.agg [x, y, z]] => some (tbK x y z, .bool (rgT (xsOf x) (xsOf y) (xsOf z))) | _ => none
noncomputable def qvS0 : List (Nat × FSpec) := (6, vTxS) :: (7, vTxS) :: (9, vRgS) :: []
def eqR (a b : V) : Bool := band (seq (asStr (acell a 0)) (asStr (acell b 0))) (band (ieq (asInt (acell a 1)) (asInt (acell b 1))) (band (ieq (asInt (acell a 2)) (asInt (acell b 2))) (band (ieq (asInt (acell a 3)) (asInt (acell b 3))) (band (band (ieq (asInt (acell a 4)) (asInt (acell b 4))) (band (ieq (asInt (acell a 5)) (asInt (acell b 5))) (ieq (asInt (acell a 6)) (asInt (acell b 6))))) (band (band (ieq (asInt (acell a 7)) (asInt (acell b 7))) (ieq (asInt (acell a 8)) (asInt (acell b 8)))) (band (ieq (asInt (acell a 9)) (asInt (acell b 9))) (seq (asStr (acell a 10)) (asStr (acell b 10)))))))))
def eqE (a b : V) : Bool := band (ieq (asInt (acell a 0)) (asInt (acell b 0))) (band (ieq (asInt (acell a 1)) (asInt (acell b 1))) (band (ieq (asInt (acell a 2)) (asInt (acell b 2))) (band (seq (asStr (acell a 3)) (asStr (acell b 3))) (band (seq (asStr (acell a 4)) (asStr (acell b 4))) (band (beq (asBool (acell a 5)) (asBool (acell b 5))) (band (ieq (asInt (acell a 6)) (asInt (acell b 6))) (band (ieq (asInt (acell a 7)) (asInt (acell b 7))) (band (band (ieq (asInt (acell a 8)) (asInt (acell b 8))) (band (ieq (asInt (acell a 9)) (asInt (acell b 9))) (ieq (asInt (acell a 10)) (asInt (acell b 10))))) (band (ieq (asInt (acell a 11)) (asInt (acell b 11))) (ieq (asInt (acell a 12)) (asInt (acell b 12))))))))))))
def eqLk (a b : V) : Bool := band (seq (asStr (acell a 0)) (asStr (acell b 0))) (seq (asStr (acell a 1)) (asStr (acell b 1)))
def all2 (p : V → V → Bool) (l m : List V) : Nat → Nat → Bool | 0, _ => true | k + 1, i => p (lget l i) (lget m i) && all2 p l m k (i + 1)
def eqs (p : V → V → Bool) (l m : List V) : Bool := ieq (llen l) (llen m) && all2 p l m l.length 0
def eqZ (a b : V) : Bool := band (seq (asStr (acell a 0)) (asStr (acell b 0))) (eqs eqE (asL (acell a 1)) (asL (acell b 1)))
def eqRs (l m : List V) : Bool := eqs eqR l m
def eqEs (l m : List V) : Bool := eqs eqE l m
def eqLs (l m : List V) : Bool := eqs eqLk l m
def eqZs (l m : List V) : Bool := eqs eqZ l m
noncomputable def vERs : FSpec := fun a => match a with | [.sl e1 [.str, .int .i64, .int .i64, .int .i64, .int .i64, .int .i64, .int .i64, .int .i64, .int .i64, .int .i64, .str] o1 xs, .sl e2 [.str, .int .i64, .int .i64, .int .i64, .int .i64, .int .i64, .int .i64, .int .i64, .int .i64, .int .i64, .str] o2 ys] => some (ile (llen xs) 1000, .bool (eqRs xs ys)) | _ => none
noncomputable def vEEs : FSpec := fun a => match a with | [.sl e1 [.int .i64, .int .i64, .int .i64, .str, .str, .bool, .int .i64, .int .i64, .int .i64, .int .i64, .int .i64, .int .i64, .int .i64] o1 xs, .sl e2 [.int .i64, .int .i64, .int .i64, .str, .str, .bool, .int .i64, .int .i64, .int .i64, .int .i64, .int .i64, .int .i64, .int .i64] o2 ys] => some (ile (llen xs) 1000, .bool (eqEs xs ys)) | _ => none
noncomputable def vELs : FSpec := fun a => match a with | [.sl e1 [.str, .str] o1 xs, .sl e2 [.str, .str] o2 ys] => some (ile (llen xs) 1000, .bool (eqLs xs ys)) | _ => none
noncomputable def vSzS : FSpec := fun a => match a with | [.agg [.str n, .sl e1 [.int .i64, .int .i64, .int .i64, .str, .str, .bool, .int .i64, .int .i64, .int .i64, .int .i64, .int .i64, .int .i64, .int .i64] o1 xs], .agg [.str m, .sl e2 [.int .i64, .int .i64, .int .i64, .str, .str, .bool, .int .i64, .int .i64, .int .i64, .int .i64, .int .i64, .int .i64, .int .i64] o2 ys]] => some (ile (llen xs) 1000, .bool (band (seq n m) (eqEs xs ys))) | _ => none
noncomputable def qvS1 : List (Nat × FSpec) := (30, vERs) :: (29, vEEs) :: (32, vELs) :: (33, vSzS) :: qvS0
def e12 (l : List V) : Bool := band (ile (llen l) 100) (l.all fun z => ile (llen (asL (acell z 1))) 12)
noncomputable def vEzS : FSpec := fun a => match a with | [.sl e1 [.str, .sl 47 [.int .i64, .int .i64, .int .i64, .str, .str, .bool, .int .i64, .int .i64, .int .i64, .int .i64, .int .i64, .int .i64, .int .i64]] o1 xs, .sl e2 [.str, .sl 47 [.int .i64, .int .i64, .int .i64, .str, .str, .bool, .int .i64, .int .i64, .int .i64, .int .i64, .int .i64, .int .i64, .int .i64]] o2 ys, .fn g []] => some (band (g == 28) (e12 xs), .bool (eqZs xs ys)) | _ => none
noncomputable def qvS2 : List (Nat × FSpec) := (31, vEzS) :: qvS1
def liR (e : V) : Bool := ile (slen (asStr (acell e 0))) 200 && ile (slen (asStr (acell e 10))) 200
def liE (e : V) : Bool := ile (slen (asStr (acell e 3))) 200 && ile (slen (asStr (acell e 4))) 200
def liL (e : V) : Bool := ile (slen (asStr (acell e 1))) 200 && ile (slen (asStr (acell e 0))) 200
def li5 (l : List V) : Bool := ile (llen l) 12 && allI liR l l.length 0
def li8 (n : List UInt8) (l : List V) : Bool := ile (llen l) 12 && (ile (slen n) 200 && allI liE l l.length 0)
def liZ (z : V) : Bool := li8 (asStr (acell z 0)) (asL (acell z 1))
def li9 (xs zs ls : List V) : Bool := (li5 xs && (ile (llen zs) 10 && ile (llen ls) 16)) && (allI liZ zs zs.length 0 && allI liL ls ls.length 0)
noncomputable def vL5S : FSpec := fun a => match a with | [.sl 49 [.str, .int .i64, .int .i64, .int .i64, .int .i64, .int .i64, .int .i64, .int .i64, .int .i64, .int .i64, .str] none xs] => some (true, .bool (li5 xs)) | _ => none
noncomputable def vL8S : FSpec := fun a => match a with | [.agg [.str n, .sl 47 [.int .i64, .int .i64, .int .i64, .str, .str, .bool, .int .i64, .int .i64, .int .i64, .int .i64, .int .i64, .int .i64, .int .i64] none es]] => some (true, .bool (li8 n es)) | _ => none
noncomputable def qvS3 : List (Nat × FSpec) := (12, vL5S) :: (13, vL8S) :: qvS2
noncomputable def vL9S : FSpec := fun a => match a with | [.agg [.sl 49 [.str, .int .i64, .int .i64, .int .i64, .int .i64, .int .i64, .int .i64, .int .i64, .int .i64, .int .i64, .str] none xs, .sl 36 [.str, .sl 47 [.int .i64, .int .i64, .int .i64, .str, .str, .bool, .int .i64, .int .i64, .int .i64, .int .i64, .int .i64, .int .i64, .int .i64]] none zs, .sl 39 [.str, .str] none ls]] => some (true, .bool (li9 xs zs ls)) | _ => none
noncomputable def vSmS : FSpec := fun a => match a with | [.agg [x, y, z], .agg [x2, y2, z2]] => some (band (band (tbL x y z) (tbL x2 y2 z2)) (band (ile (llen (xsOf x)) 1000) (band (e12 (xsOf y)) (ile (llen (xsOf z)) 1000))), .bool (band (eqRs (xsOf x) (xsOf x2)) (band (eqZs (xsOf y) (xsOf y2)) (eqLs (xsOf z) (xsOf z2))))) | _ => none
noncomputable def qvS4 : List (Nat × FSpec) := (4, vL9S) :: (10, vSmS) :: (11, vSmS) :: (8, vRgS) :: qvS3
noncomputable def vLvS : FSpec := fun a => match a with | [] => some (true, .bool true) | _ => none
noncomputable def qvS5 : List (Nat × FSpec) := (5, vLvS) :: qvS4
theorem vRr_top (F : Nat) (xs : List V) (zs : List V) (ls : List V) (K : V → Option V) :
 evBd rE (evFn rE qvS0 F 3) F 8 [(V.agg [(V.sl 49 kR none xs), (V.sl 36 kZ none zs), (V.sl 39 [(Kd.str), (Kd.str)] none ls)])] K =
 sel (band (band true (band true true)) (rgK xs zs ls))
 (K (V.bool (ieq (txW xs zs ls) 0)))
 (none) := by kernel_rfl
noncomputable def vEqR_L0 (F : Nat) (ns : List Nat) (n : Nat) (x0 : List V) (x1 : List V) (x4 : Bool) (x12 : Int) (x13 : Int) (K : V → Option V) : Option V :=
 loopAt rE qvS0 F 2 30 [1, 1, 0, 1, 0] ns K n (mkSt 26 [(0, V.sl 49 kR none x0), (1, V.sl 49 kR none x1), (4, V.bool x4), (12, V.int .i64 x12), (13, V.int .i64 x13)] [])
theorem vEqR_top (F : Nat) (xs : List V) (ys : List V) (K : V → Option V) :
 evBd rE (evFn rE qvS0 F 2) F 30 [(V.sl 49 kR none xs), (V.sl 49 kR none ys)] K =
 sel (bnot (ieq (llen xs) (llen ys)))
 (K (V.bool false))
 (vEqR_L0 F [] F xs ys false (llen xs) 0 K) := by kernel_rfl
theorem vEqR_L0_succ (F : Nat) (n : Nat) (x0 : List V) (x1 : List V) (x4 : Bool) (x12 : Int) (x13 : Int) (K : V → Option V) :
 vEqR_L0 F [] (n + 1) x0 x1 x4 x12 x13 K =
 sel (ilt x13 x12)
 (sel (band (ile 0 x13) (ilt x13 (llen x0)))
 (sel (band (ile 0 x13) (ilt x13 (llen x1)))
 (sel (bnot (band (seq (asStr (acell (lget x0 x13) 0)) (asStr (acell (lget x1 x13) 0))) (band (ieq (asInt (acell (lget x0 x13) 1)) (asInt (acell (lget x1 x13) 1))) (band (ieq (asInt (acell (lget x0 x13) 2)) (asInt (acell (lget x1 x13) 2))) (band (ieq (asInt (acell (lget x0 x13) 3)) (asInt (acell (lget x1 x13) 3))) (band (band (ieq (asInt (acell (lget x0 x13) 4)) (asInt (acell (lget x1 x13) 4))) (band (ieq (asInt (acell (lget x0 x13) 5)) (asInt (acell (lget x1 x13) 5))) (ieq (asInt (acell (lget x0 x13) 6)) (asInt (acell (lget x1 x13) 6))))) (band (band (ieq (asInt (acell (lget x0 x13) 7)) (asInt (acell (lget x1 x13) 7))) (ieq (asInt (acell (lget x0 x13) 8)) (asInt (acell (lget x1 x13) 8)))) (band (ieq (asInt (acell (lget x0 x13) 9)) (asInt (acell (lget x1 x13) 9))) (seq (asStr (acell (lget x0 x13) 10)) (asStr (acell (lget x1 x13) 10)))))))))))
 (K (V.bool false))
 (vEqR_L0 F [] n x0 x1 x4 x12 (iadd .i64 x13 1) K))
 (none))
 (none))
 (K (V.bool true)) := by kernel_rfl
noncomputable def vEqE_L0 (F : Nat) (ns : List Nat) (n : Nat) (x0 : List V) (x1 : List V) (x4 : Bool) (x12 : Int) (x13 : Int) (K : V → Option V) : Option V :=
 loopAt rE qvS0 F 2 29 [1, 1, 0, 1, 0] ns K n (mkSt 26 [(0, V.sl 47 kE none x0), (1, V.sl 47 kE none x1), (4, V.bool x4), (12, V.int .i64 x12), (13, V.int .i64 x13)] [])
theorem vEqE_top (F : Nat) (es : List V) (fs : List V) (K : V → Option V) :
 evBd rE (evFn rE qvS0 F 2) F 29 [(V.sl 47 kE none es), (V.sl 47 kE none fs)] K =
 sel (bnot (ieq (llen es) (llen fs)))
 (K (V.bool false))
 (vEqE_L0 F [] F es fs false (llen es) 0 K) := by kernel_rfl
theorem vEqE_L0_succ (F : Nat) (n : Nat) (x0 : List V) (x1 : List V) (x4 : Bool) (x12 : Int) (x13 : Int) (K : V → Option V) :
 vEqE_L0 F [] (n + 1) x0 x1 x4 x12 x13 K =
 sel (ilt x13 x12)
 (sel (band (ile 0 x13) (ilt x13 (llen x0)))
 (sel (band (ile 0 x13) (ilt x13 (llen x1)))
 (sel (bnot (band (ieq (asInt (acell (lget x0 x13) 0)) (asInt (acell (lget x1 x13) 0))) (band (ieq (asInt (acell (lget x0 x13) 1)) (asInt (acell (lget x1 x13) 1))) (band (ieq (asInt (acell (lget x0 x13) 2)) (asInt (acell (lget x1 x13) 2))) (band (seq (asStr (acell (lget x0 x13) 3)) (asStr (acell (lget x1 x13) 3))) (band (seq (asStr (acell (lget x0 x13) 4)) (asStr (acell (lget x1 x13) 4))) (band (beq (asBool (acell (lget x0 x13) 5)) (asBool (acell (lget x1 x13) 5))) (band (ieq (asInt (acell (lget x0 x13) 6)) (asInt (acell (lget x1 x13) 6))) (band (ieq (asInt (acell (lget x0 x13) 7)) (asInt (acell (lget x1 x13) 7))) (band (band (ieq (asInt (acell (lget x0 x13) 8)) (asInt (acell (lget x1 x13) 8))) (band (ieq (asInt (acell (lget x0 x13) 9)) (asInt (acell (lget x1 x13) 9))) (ieq (asInt (acell (lget x0 x13) 10)) (asInt (acell (lget x1 x13) 10))))) (band (ieq (asInt (acell (lget x0 x13) 11)) (asInt (acell (lget x1 x13) 11))) (ieq (asInt (acell (lget x0 x13) 12)) (asInt (acell (lget x1 x13) 12))))))))))))))
 (K (V.bool false))
 (vEqE_L0 F [] n x0 x1 x4 x12 (iadd .i64 x13 1) K))
 (none))
 (none))
 (K (V.bool true)) := by kernel_rfl
noncomputable def vEqL_L0 (F : Nat) (ns : List Nat) (n : Nat) (x0 : List V) (x1 : List V) (x4 : Bool) (x12 : Int) (x13 : Int) (K : V → Option V) : Option V :=
 loopAt rE qvS0 F 2 32 [1, 1, 0, 1, 0] ns K n (mkSt 26 [(0, V.sl 39 [(Kd.str), (Kd.str)] none x0), (1, V.sl 39 [(Kd.str), (Kd.str)] none x1), (4, V.bool x4), (12, V.int .i64 x12), (13, V.int .i64 x13)] [])
theorem vEqL_top (F : Nat) (ls : List V) (ms : List V) (K : V → Option V) :
 evBd rE (evFn rE qvS0 F 2) F 32 [(V.sl 39 [(Kd.str), (Kd.str)] none ls), (V.sl 39 [(Kd.str), (Kd.str)] none ms)] K =
 sel (bnot (ieq (llen ls) (llen ms)))
 (K (V.bool false))
 (vEqL_L0 F [] F ls ms false (llen ls) 0 K) := by kernel_rfl
theorem vEqL_L0_succ (F : Nat) (n : Nat) (x0 : List V) (x1 : List V) (x4 : Bool) (x12 : Int) (x13 : Int) (K : V → Option V) :
 vEqL_L0 F [] (n + 1) x0 x1 x4 x12 x13 K =
 sel (ilt x13 x12)
 (sel (band (ile 0 x13) (ilt x13 (llen x0)))
 (sel (band (ile 0 x13) (ilt x13 (llen x1)))
 (sel (bnot (band (seq (asStr (acell (lget x0 x13) 0)) (asStr (acell (lget x1 x13) 0))) (seq (asStr (acell (lget x0 x13) 1)) (asStr (acell (lget x1 x13) 1)))))
 (K (V.bool false))
 (vEqL_L0 F [] n x0 x1 x4 x12 (iadd .i64 x13 1) K))
 (none))
 (none))
 (K (V.bool true)) := by kernel_rfl
noncomputable def vSz_L0 (F : Nat) (ns : List Nat) (n : Nat) (x0_0 : List UInt8) (x0_1 : List V) (x1_0 : List UInt8) (x1_1 : List V) (x4 : Bool) (x22 : Int) (x23 : Int) (b3_0 : List UInt8) (b3_1 : List V) (b2_0 : List UInt8) (b2_1 : List V) (K : V → Option V) : Option V :=
 loopAt rE qvS0 F 3 33 [1, 1, 0, 1, 0] ns K n (mkSt 38 [(0, V.agg [V.str x0_0, V.sl 47 kE none x0_1]), (1, V.agg [V.str x1_0, V.sl 47 kE none x1_1]), (2, (V.box 2 0)), (3, (V.box 3 0)), (4, V.bool x4), (22, V.int .i64 x22), (23, V.int .i64 x23)] [(3, [V.str b3_0, V.sl 47 kE none b3_1]), (2, [V.str b2_0, V.sl 47 kE none b2_1])])
theorem vSz_top (F : Nat) (n : List UInt8) (m : List UInt8) (es : List V) (fs : List V) (K : V → Option V) :
 evBd rE (evFn rE qvS0 F 3) F 33 [(V.agg [(V.str n), (V.sl 47 kE none es)]), (V.agg [(V.str m), (V.sl 47 kE none fs)])] K =
 sel (bnot (seq n m))
 (K (V.bool false))
 (sel (bnot (ieq (llen es) (llen fs)))
 (K (V.bool false))
 (vSz_L0 F [] F n es m fs false (llen es) 0 m fs n es K)) := by kernel_rfl
theorem vSz_L0_succ (F : Nat) (n : Nat) (x0_0 : List UInt8) (x0_1 : List V) (x1_0 : List UInt8) (x1_1 : List V) (x4 : Bool) (x22 : Int) (x23 : Int) (b3_0 : List UInt8) (b3_1 : List V) (b2_0 : List UInt8) (b2_1 : List V) (K : V → Option V) :
 vSz_L0 F [] (n + 1) x0_0 x0_1 x1_0 x1_1 x4 x22 x23 b3_0 b3_1 b2_0 b2_1 K =
 sel (ilt x23 x22)
 (sel (band (ile 0 x23) (ilt x23 (llen b2_1)))
 (sel (band (ile 0 x23) (ilt x23 (llen b3_1)))
 (sel (bnot (band (ieq (asInt (acell (lget b2_1 x23) 0)) (asInt (acell (lget b3_1 x23) 0))) (band (ieq (asInt (acell (lget b2_1 x23) 1)) (asInt (acell (lget b3_1 x23) 1))) (band (ieq (asInt (acell (lget b2_1 x23) 2)) (asInt (acell (lget b3_1 x23) 2))) (band (seq (asStr (acell (lget b2_1 x23) 3)) (asStr (acell (lget b3_1 x23) 3))) (band (seq (asStr (acell (lget b2_1 x23) 4)) (asStr (acell (lget b3_1 x23) 4))) (band (beq (asBool (acell (lget b2_1 x23) 5)) (asBool (acell (lget b3_1 x23) 5))) (band (ieq (asInt (acell (lget b2_1 x23) 6)) (asInt (acell (lget b3_1 x23) 6))) (band (ieq (asInt (acell (lget b2_1 x23) 7)) (asInt (acell (lget b3_1 x23) 7))) (band (band (ieq (asInt (acell (lget b2_1 x23) 8)) (asInt (acell (lget b3_1 x23) 8))) (band (ieq (asInt (acell (lget b2_1 x23) 9)) (asInt (acell (lget b3_1 x23) 9))) (ieq (asInt (acell (lget b2_1 x23) 10)) (asInt (acell (lget b3_1 x23) 10))))) (band (ieq (asInt (acell (lget b2_1 x23) 11)) (asInt (acell (lget b3_1 x23) 11))) (ieq (asInt (acell (lget b2_1 x23) 12)) (asInt (acell (lget b3_1 x23) 12))))))))))))))
 (K (V.bool false))
 (vSz_L0 F [] n x0_0 x0_1 x1_0 x1_1 x4 x22 (iadd .i64 x23 1) b3_0 b3_1 b2_0 b2_1 K))
 (none))
 (none))
 (K (V.bool true)) := by kernel_rfl
noncomputable def vEz_L0 (F : Nat) (ns : List Nat) (n : Nat) (x0 : List V) (x1 : List V) (x6 : Bool) (x15 : List V) (x16 : Int) (x17 : Int) (K : V → Option V) : Option V :=
 loopAt rE qvS1 F 3 31 [1, 1, 0, 1, 0] ns K n (mkSt 32 [(0, V.sl 36 kZ none x0), (1, V.sl 36 kZ none x1), (2, (V.fn 28 [])), (6, V.bool x6), (15, V.sl 36 kZ none x15), (16, V.int .i64 x16), (17, V.int .i64 x17)] [])
theorem vEz_top (F : Nat) (zs : List V) (ws : List V) (K : V → Option V) :
 evBd rE (evFn rE qvS1 F 3) F 31 [(V.sl 36 kZ none zs), (V.sl 36 kZ none ws), (V.fn 28 [])] K =
 sel (bnot (ieq (llen zs) (llen ws)))
 (K (V.bool false))
 (vEz_L0 F [] F zs ws false zs (llen zs) 0 K) := by kernel_rfl
theorem vEz_L0_succ (F : Nat) (n : Nat) (x0 : List V) (x1 : List V) (x6 : Bool) (x15 : List V) (x16 : Int) (x17 : Int) (K : V → Option V) :
 vEz_L0 F [] (n + 1) x0 x1 x6 x15 x16 x17 K =
 sel (ilt x17 x16)
 (sel (band (ile 0 x17) (ilt x17 (llen x15)))
 (sel (band (ile 0 x17) (ilt x17 (llen x1)))
 (sel (seq (asStr (acell (lget x15 x17) 0)) (asStr (acell (lget x1 x17) 0)))
 (sel (ile (llen (asL (acell (lget x15 x17) 1))) 1000)
 (sel (bnot (eqEs (asL (acell (lget x15 x17) 1)) (asL (acell (lget x1 x17) 1))))
 (K (V.bool false))
 (vEz_L0 F [] n x0 x1 x6 x15 x16 (iadd .i64 x17 1) K))
 (none))
 (K (V.bool false)))
 (none))
 (none))
 (K (V.bool true)) := by kernel_rfl
theorem vSm_top (F : Nat) (xs : List V) (zs : List V) (ls : List V) (ys : List V) (ws : List V) (ms : List V) (K : V → Option V) :
 evBd rE (evFn rE qvS2 F 3) F 10 [(V.agg [(V.sl 49 kR none xs), (V.sl 36 kZ none zs), (V.sl 39 [(Kd.str), (Kd.str)] none ls)]), (V.agg [(V.sl 49 kR none ys), (V.sl 36 kZ none ws), (V.sl 39 [(Kd.str), (Kd.str)] none ms)])] K =
 sel (ile (llen xs) 1000)
 (sel (eqRs xs ys)
 (sel (band true (e12 zs))
 (sel (eqZs zs ws)
 (sel (ile (llen ls) 1000)
 (K (V.bool (eqLs ls ms)))
 (none))
 (K (V.bool false)))
 (none))
 (K (V.bool false)))
 (none) := by kernel_rfl
noncomputable def v24_L0 (F : Nat) (ns : List Nat) (n : Nat) (x0_0 : List V) (x0_1 : List V) (x0_2 : List V) (x1_0 : List V) (x1_1 : List V) (x1_2 : List V) (x4 : Bool) (x35 : Int) (x36 : Int) (b3_0 : List V) (b3_1 : List V) (b3_2 : List V) (b2_0 : List V) (b2_1 : List V) (b2_2 : List V) (K : V → Option V) : Option V :=
 loopAt rE qvS2 F 3 11 [1, 1, 0, 1, 0] ns K n (mkSt 88 [(0, V.agg [V.sl 49 kR none x0_0, V.sl 36 kZ none x0_1, V.sl 39 [(Kd.str), (Kd.str)] none x0_2]), (1, V.agg [V.sl 49 kR none x1_0, V.sl 36 kZ none x1_1, V.sl 39 [(Kd.str), (Kd.str)] none x1_2]), (2, (V.box 2 0)), (3, (V.box 3 0)), (4, V.bool x4), (6, V.tup []), (7, V.tup []), (35, V.int .i64 x35), (36, V.int .i64 x36), (53, V.tup []), (54, V.tup []), (71, V.tup []), (72, V.tup [])] [(3, [V.sl 49 kR none b3_0, V.sl 36 kZ none b3_1, V.sl 39 [(Kd.str), (Kd.str)] none b3_2]), (2, [V.sl 49 kR none b2_0, V.sl 36 kZ none b2_1, V.sl 39 [(Kd.str), (Kd.str)] none b2_2])])
noncomputable def v24_L1 (F : Nat) (ns : List Nat) (n : Nat) (x0_0 : List V) (x0_1 : List V) (x0_2 : List V) (x1_0 : List V) (x1_1 : List V) (x1_2 : List V) (x4 : Bool) (x35 : Int) (x36 : Int) (x53 : Int) (x54 : Int) (b3_0 : List V) (b3_1 : List V) (b3_2 : List V) (b2_0 : List V) (b2_1 : List V) (b2_2 : List V) (K : V → Option V) : Option V :=
 loopAt rE qvS2 F 3 11 [1, 1, 1, 0, 1, 0] ns K n (mkSt 88 [(0, V.agg [V.sl 49 kR none x0_0, V.sl 36 kZ none x0_1, V.sl 39 [(Kd.str), (Kd.str)] none x0_2]), (1, V.agg [V.sl 49 kR none x1_0, V.sl 36 kZ none x1_1, V.sl 39 [(Kd.str), (Kd.str)] none x1_2]), (2, (V.box 2 0)), (3, (V.box 3 0)), (4, V.bool x4), (7, V.tup []), (35, V.int .i64 x35), (36, V.int .i64 x36), (53, V.int .i64 x53), (54, V.int .i64 x54), (71, V.tup []), (72, V.tup [])] [(3, [V.sl 49 kR none b3_0, V.sl 36 kZ none b3_1, V.sl 39 [(Kd.str), (Kd.str)] none b3_2]), (2, [V.sl 49 kR none b2_0, V.sl 36 kZ none b2_1, V.sl 39 [(Kd.str), (Kd.str)] none b2_2])])
noncomputable def v24_L2 (F : Nat) (ns : List Nat) (n : Nat) (x0_0 : List V) (x0_1 : List V) (x0_2 : List V) (x1_0 : List V) (x1_1 : List V) (x1_2 : List V) (x4 : Bool) (x35 : Int) (x36 : Int) (x53 : Int) (x54 : Int) (x71 : Int) (x72 : Int) (b3_0 : List V) (b3_1 : List V) (b3_2 : List V) (b2_0 : List V) (b2_1 : List V) (b2_2 : List V) (K : V → Option V) : Option V :=
 loopAt rE qvS2 F 3 11 [1, 1, 1, 1, 0, 1, 0] ns K n (mkSt 88 [(0, V.agg [V.sl 49 kR none x0_0, V.sl 36 kZ none x0_1, V.sl 39 [(Kd.str), (Kd.str)] none x0_2]), (1, V.agg [V.sl 49 kR none x1_0, V.sl 36 kZ none x1_1, V.sl 39 [(Kd.str), (Kd.str)] none x1_2]), (2, (V.box 2 0)), (3, (V.box 3 0)), (4, V.bool x4), (35, V.int .i64 x35), (36, V.int .i64 x36), (53, V.int .i64 x53), (54, V.int .i64 x54), (71, V.int .i64 x71), (72, V.int .i64 x72)] [(3, [V.sl 49 kR none b3_0, V.sl 36 kZ none b3_1, V.sl 39 [(Kd.str), (Kd.str)] none b3_2]), (2, [V.sl 49 kR none b2_0, V.sl 36 kZ none b2_1, V.sl 39 [(Kd.str), (Kd.str)] none b2_2])])
theorem v24_top (F : Nat) (xs : List V) (zs : List V) (ls : List V) (ys : List V) (ws : List V) (ms : List V) (K : V → Option V) :
 evBd rE (evFn rE qvS2 F 3) F 11 [(V.agg [(V.sl 49 kR none xs), (V.sl 36 kZ none zs), (V.sl 39 [(Kd.str), (Kd.str)] none ls)]), (V.agg [(V.sl 49 kR none ys), (V.sl 36 kZ none ws), (V.sl 39 [(Kd.str), (Kd.str)] none ms)])] K =
 sel (bnot (ieq (llen xs) (llen ys)))
 (K (V.bool false))
 (sel (bnot (ieq (llen zs) (llen ws)))
 (K (V.bool false))
 (sel (bnot (ieq (llen ls) (llen ms)))
 (K (V.bool false))
 (v24_L0 F [] F xs zs ls ys ws ms false (llen xs) 0 ys ws ms xs zs ls K))) := by kernel_rfl
theorem v24_L0_succ (F : Nat) (n : Nat) (x0_0 : List V) (x0_1 : List V) (x0_2 : List V) (x1_0 : List V) (x1_1 : List V) (x1_2 : List V) (x4 : Bool) (x35 : Int) (x36 : Int) (b3_0 : List V) (b3_1 : List V) (b3_2 : List V) (b2_0 : List V) (b2_1 : List V) (b2_2 : List V) (K : V → Option V) :
 v24_L0 F [] (n + 1) x0_0 x0_1 x0_2 x1_0 x1_1 x1_2 x4 x35 x36 b3_0 b3_1 b3_2 b2_0 b2_1 b2_2 K =
 sel (ilt x36 x35)
 (sel (band (ile 0 x36) (ilt x36 (llen b2_0)))
 (sel (band (ile 0 x36) (ilt x36 (llen b3_0)))
 (sel (bnot (band (seq (asStr (acell (lget b2_0 x36) 0)) (asStr (acell (lget b3_0 x36) 0))) (band (ieq (asInt (acell (lget b2_0 x36) 1)) (asInt (acell (lget b3_0 x36) 1))) (band (ieq (asInt (acell (lget b2_0 x36) 2)) (asInt (acell (lget b3_0 x36) 2))) (band (ieq (asInt (acell (lget b2_0 x36) 3)) (asInt (acell (lget b3_0 x36) 3))) (band (band (ieq (asInt (acell (lget b2_0 x36) 4)) (asInt (acell (lget b3_0 x36) 4))) (band (ieq (asInt (acell (lget b2_0 x36) 5)) (asInt (acell (lget b3_0 x36) 5))) (ieq (asInt (acell (lget b2_0 x36) 6)) (asInt (acell (lget b3_0 x36) 6))))) (band (band (ieq (asInt (acell (lget b2_0 x36) 7)) (asInt (acell (lget b3_0 x36) 7))) (ieq (asInt (acell (lget b2_0 x36) 8)) (asInt (acell (lget b3_0 x36) 8)))) (band (ieq (asInt (acell (lget b2_0 x36) 9)) (asInt (acell (lget b3_0 x36) 9))) (seq (asStr (acell (lget b2_0 x36) 10)) (asStr (acell (lget b3_0 x36) 10)))))))))))
 (K (V.bool false))
 (v24_L0 F [] n x0_0 x0_1 x0_2 x1_0 x1_1 x1_2 x4 x35 (iadd .i64 x36 1) b3_0 b3_1 b3_2 b2_0 b2_1 b2_2 K))
 (none))
 (none))
 (v24_L1 F [] F x0_0 x0_1 x0_2 x1_0 x1_1 x1_2 x4 x35 x36 (llen b2_2) 0 b3_0 b3_1 b3_2 b2_0 b2_1 b2_2 K) := by kernel_rfl
theorem v24_L1_succ (F : Nat) (n : Nat) (x0_0 : List V) (x0_1 : List V) (x0_2 : List V) (x1_0 : List V) (x1_1 : List V) (x1_2 : List V) (x4 : Bool) (x35 : Int) (x36 : Int) (x53 : Int) (x54 : Int) (b3_0 : List V) (b3_1 : List V) (b3_2 : List V) (b2_0 : List V) (b2_1 : List V) (b2_2 : List V) (K : V → Option V) :
 v24_L1 F [] (n + 1) x0_0 x0_1 x0_2 x1_0 x1_1 x1_2 x4 x35 x36 x53 x54 b3_0 b3_1 b3_2 b2_0 b2_1 b2_2 K =
 sel (ilt x54 x53)
 (sel (band (ile 0 x54) (ilt x54 (llen b2_2)))
 (sel (band (ile 0 x54) (ilt x54 (llen b3_2)))
 (sel (bnot (band (seq (asStr (acell (lget b2_2 x54) 0)) (asStr (acell (lget b3_2 x54) 0))) (seq (asStr (acell (lget b2_2 x54) 1)) (asStr (acell (lget b3_2 x54) 1)))))
 (K (V.bool false))
 (v24_L1 F [] n x0_0 x0_1 x0_2 x1_0 x1_1 x1_2 x4 x35 x36 x53 (iadd .i64 x54 1) b3_0 b3_1 b3_2 b2_0 b2_1 b2_2 K))
 (none))
 (none))
 (v24_L2 F [] F x0_0 x0_1 x0_2 x1_0 x1_1 x1_2 x4 x35 x36 x53 x54 (llen b2_1) 0 b3_0 b3_1 b3_2 b2_0 b2_1 b2_2 K) := by kernel_rfl
theorem v24_L2_succ (F : Nat) (n : Nat) (x0_0 : List V) (x0_1 : List V) (x0_2 : List V) (x1_0 : List V) (x1_1 : List V) (x1_2 : List V) (x4 : Bool) (x35 : Int) (x36 : Int) (x53 : Int) (x54 : Int) (x71 : Int) (x72 : Int) (b3_0 : List V) (b3_1 : List V) (b3_2 : List V) (b2_0 : List V) (b2_1 : List V) (b2_2 : List V) (K : V → Option V) :
 v24_L2 F [] (n + 1) x0_0 x0_1 x0_2 x1_0 x1_1 x1_2 x4 x35 x36 x53 x54 x71 x72 b3_0 b3_1 b3_2 b2_0 b2_1 b2_2 K =
 sel (ilt x72 x71)
 (sel (band (ile 0 x72) (ilt x72 (llen b2_1)))
 (sel (band (ile 0 x72) (ilt x72 (llen b3_1)))
 (sel (ile (llen (asL (acell (lget b2_1 x72) 1))) 1000)
 (sel (bnot (band (seq (asStr (acell (lget b2_1 x72) 0)) (asStr (acell (lget b3_1 x72) 0))) (eqEs (asL (acell (lget b2_1 x72) 1)) (asL (acell (lget b3_1 x72) 1)))))
 (K (V.bool false))
 (v24_L2 F [] n x0_0 x0_1 x0_2 x1_0 x1_1 x1_2 x4 x35 x36 x53 x54 x71 (iadd .i64 x72 1) b3_0 b3_1 b3_2 b2_0 b2_1 b2_2 K))
 (none))
 (none))
 (none))
 (K (V.bool true)) := by kernel_rfl
noncomputable def vL25_L0 (F : Nat) (ns : List Nat) (n : Nat) (x0 : List V) (x2 : Bool) (x8 : List V) (x9 : Int) (x10 : Int) (K : V → Option V) : Option V :=
 loopAt rE qvS2 F 3 12 [1, 1, 0, 1, 0] ns K n (mkSt 25 [(0, V.sl 49 kR none x0), (2, V.bool x2), (8, V.sl 49 kR none x8), (9, V.int .i64 x9), (10, V.int .i64 x10)] [])
theorem vL25_top (F : Nat) (xs : List V) (K : V → Option V) :
 evBd rE (evFn rE qvS2 F 3) F 12 [(V.sl 49 kR none xs)] K =
 sel (ilt 12 (llen xs))
 (K (V.bool false))
 (vL25_L0 F [] F xs false xs (llen xs) 0 K) := by kernel_rfl
theorem vL25_L0_succ (F : Nat) (n : Nat) (x0 : List V) (x2 : Bool) (x8 : List V) (x9 : Int) (x10 : Int) (K : V → Option V) :
 vL25_L0 F [] (n + 1) x0 x2 x8 x9 x10 K =
 sel (ilt x10 x9)
 (sel (band (ile 0 x10) (ilt x10 (llen x8)))
 (sel (ilt 200 (slen (asStr (acell (lget x8 x10) 0))))
 (K (V.bool false))
 (sel (ilt 200 (slen (asStr (acell (lget x8 x10) 10))))
 (K (V.bool false))
 (vL25_L0 F [] n x0 x2 x8 x9 (iadd .i64 x10 1) K)))
 (none))
 (K (V.bool true)) := by kernel_rfl
noncomputable def vL28_L0 (F : Nat) (ns : List Nat) (n : Nat) (x0_0 : List UInt8) (x0_1 : List V) (x2 : Bool) (x16 : List V) (x17 : Int) (x18 : Int) (b1_0 : List UInt8) (b1_1 : List V) (K : V → Option V) : Option V :=
 loopAt rE qvS2 F 3 13 [1, 1, 0, 1, 0] ns K n (mkSt 33 [(0, V.agg [V.str x0_0, V.sl 47 kE none x0_1]), (1, (V.box 1 0)), (2, V.bool x2), (16, V.sl 47 kE none x16), (17, V.int .i64 x17), (18, V.int .i64 x18)] [(1, [V.str b1_0, V.sl 47 kE none b1_1])])
theorem vL28_top (F : Nat) (n : List UInt8) (es : List V) (K : V → Option V) :
 evBd rE (evFn rE qvS2 F 3) F 13 [(V.agg [(V.str n), (V.sl 47 kE none es)])] K =
 sel (ilt 12 (llen es))
 (K (V.bool false))
 (sel (ilt 200 (slen n))
 (K (V.bool false))
 (vL28_L0 F [] F n es false es (llen es) 0 n es K)) := by kernel_rfl
theorem vL28_L0_succ (F : Nat) (n : Nat) (x0_0 : List UInt8) (x0_1 : List V) (x2 : Bool) (x16 : List V) (x17 : Int) (x18 : Int) (b1_0 : List UInt8) (b1_1 : List V) (K : V → Option V) :
 vL28_L0 F [] (n + 1) x0_0 x0_1 x2 x16 x17 x18 b1_0 b1_1 K =
 sel (ilt x18 x17)
 (sel (band (ile 0 x18) (ilt x18 (llen x16)))
 (sel (ilt 200 (slen (asStr (acell (lget x16 x18) 3))))
 (K (V.bool false))
 (sel (ilt 200 (slen (asStr (acell (lget x16 x18) 4))))
 (K (V.bool false))
 (vL28_L0 F [] n x0_0 x0_1 x2 x16 x17 (iadd .i64 x18 1) b1_0 b1_1 K)))
 (none))
 (K (V.bool true)) := by kernel_rfl
noncomputable def vL29_L0 (F : Nat) (ns : List Nat) (n : Nat) (x0_0 : List V) (x0_1 : List V) (x0_2 : List V) (x2 : Bool) (x24 : List V) (x25 : Int) (x26 : Int) (b1_0 : List V) (b1_1 : List V) (b1_2 : List V) (K : V → Option V) : Option V :=
 loopAt rE qvS3 F 3 4 [1, 1, 0, 1, 0] ns K n (mkSt 52 [(0, V.agg [V.sl 49 kR none x0_0, V.sl 36 kZ none x0_1, V.sl 39 [(Kd.str), (Kd.str)] none x0_2]), (1, (V.box 1 0)), (2, V.bool x2), (6, V.tup []), (24, V.sl 36 kZ none x24), (25, V.int .i64 x25), (26, V.int .i64 x26), (35, V.tup []), (36, V.tup []), (37, V.tup [])] [(1, [V.sl 49 kR none b1_0, V.sl 36 kZ none b1_1, V.sl 39 [(Kd.str), (Kd.str)] none b1_2])])
noncomputable def vL29_L1 (F : Nat) (ns : List Nat) (n : Nat) (x0_0 : List V) (x0_1 : List V) (x0_2 : List V) (x2 : Bool) (x24 : List V) (x25 : Int) (x26 : Int) (x35 : List V) (x36 : Int) (x37 : Int) (b1_0 : List V) (b1_1 : List V) (b1_2 : List V) (K : V → Option V) : Option V :=
 loopAt rE qvS3 F 3 4 [1, 1, 1, 0, 1, 0] ns K n (mkSt 52 [(0, V.agg [V.sl 49 kR none x0_0, V.sl 36 kZ none x0_1, V.sl 39 [(Kd.str), (Kd.str)] none x0_2]), (1, (V.box 1 0)), (2, V.bool x2), (24, V.sl 36 kZ none x24), (25, V.int .i64 x25), (26, V.int .i64 x26), (35, V.sl 39 [(Kd.str), (Kd.str)] none x35), (36, V.int .i64 x36), (37, V.int .i64 x37)] [(1, [V.sl 49 kR none b1_0, V.sl 36 kZ none b1_1, V.sl 39 [(Kd.str), (Kd.str)] none b1_2])])
theorem vL29_top (F : Nat) (xs : List V) (zs : List V) (ls : List V) (K : V → Option V) :
 evBd rE (evFn rE qvS3 F 3) F 4 [(V.agg [(V.sl 49 kR none xs), (V.sl 36 kZ none zs), (V.sl 39 [(Kd.str), (Kd.str)] none ls)])] K =
 sel (bnot (li5 xs))
 (K (V.bool false))
 (sel (ilt 10 (llen zs))
 (K (V.bool false))
 (sel (ilt 16 (llen ls))
 (K (V.bool false))
 (vL29_L0 F [] F xs zs ls false zs (llen zs) 0 xs zs ls K))) := by kernel_rfl
theorem vL29_L0_succ (F : Nat) (n : Nat) (x0_0 : List V) (x0_1 : List V) (x0_2 : List V) (x2 : Bool) (x24 : List V) (x25 : Int) (x26 : Int) (b1_0 : List V) (b1_1 : List V) (b1_2 : List V) (K : V → Option V) :
 vL29_L0 F [] (n + 1) x0_0 x0_1 x0_2 x2 x24 x25 x26 b1_0 b1_1 b1_2 K =
 sel (ilt x26 x25)
 (sel (band (ile 0 x26) (ilt x26 (llen x24)))
 (sel (bnot (li8 (asStr (acell (lget x24 x26) 0)) (asL (acell (lget x24 x26) 1))))
 (K (V.bool false))
 (vL29_L0 F [] n x0_0 x0_1 x0_2 x2 x24 x25 (iadd .i64 x26 1) b1_0 b1_1 b1_2 K))
 (none))
 (vL29_L1 F [] F x0_0 x0_1 x0_2 x2 x24 x25 x26 b1_2 (llen b1_2) 0 b1_0 b1_1 b1_2 K) := by kernel_rfl
theorem vL29_L1_succ (F : Nat) (n : Nat) (x0_0 : List V) (x0_1 : List V) (x0_2 : List V) (x2 : Bool) (x24 : List V) (x25 : Int) (x26 : Int) (x35 : List V) (x36 : Int) (x37 : Int) (b1_0 : List V) (b1_1 : List V) (b1_2 : List V) (K : V → Option V) :
 vL29_L1 F [] (n + 1) x0_0 x0_1 x0_2 x2 x24 x25 x26 x35 x36 x37 b1_0 b1_1 b1_2 K =
 sel (ilt x37 x36)
 (sel (band (ile 0 x37) (ilt x37 (llen x35)))
 (sel (ilt 200 (slen (asStr (acell (lget x35 x37) 1))))
 (K (V.bool false))
 (sel (ilt 200 (slen (asStr (acell (lget x35 x37) 0))))
 (K (V.bool false))
 (vL29_L1 F [] n x0_0 x0_1 x0_2 x2 x24 x25 x26 x35 x36 (iadd .i64 x37 1) b1_0 b1_1 b1_2 K)))
 (none))
 (K (V.bool true)) := by kernel_rfl
theorem vT_top (F : Nat) (xs : List V) (zs : List V) (ls : List V) (ys : List V) (ws : List V) (ms : List V) (K : V → Option V) :
 evBd rE (evFn rE qvS5 F 2) F 3 [(V.agg [(V.sl 49 kR none xs), (V.sl 36 kZ none zs), (V.sl 39 [(Kd.str), (Kd.str)] none ls)]), (V.agg [(V.sl 49 kR none ys), (V.sl 36 kZ none ws), (V.sl 39 [(Kd.str), (Kd.str)] none ms)])] K =
 sel (bnot (li9 xs zs ls))
 (K (V.bool true))
 (sel (bnot (li9 ys ws ms))
 (K (V.bool true))
 (sel (band (band true (band true true)) (rgK xs zs ls))
 (sel (band (band true (band true true)) (rgK xs zs ls))
 (sel (seq (txT xs zs ls) (txT xs zs ls))
 (sel (ieq (txW xs zs ls) (txW xs zs ls))
 (sel (band (band true (band true true)) (rgK xs zs ls))
 (sel (band (band true (band true true)) (rgK xs zs ls))
 (sel (beq (rgT xs zs ls) (rgT xs zs ls))
 (sel (band (band (band true (band true true)) (band true (band true true))) (band (ile (llen xs) 1000) (band (e12 zs) (ile (llen ls) 1000))))
 (sel (band (band (band true (band true true)) (band true (band true true))) (band (ile (llen xs) 1000) (band (e12 zs) (ile (llen ls) 1000))))
 (sel (beq (band (eqRs xs ys) (band (eqZs zs ws) (eqLs ls ms))) (band (eqRs xs ys) (band (eqZs zs ws) (eqLs ls ms))))
 (K (V.bool true))
 (K (V.bool false)))
 (none))
 (none))
 (K (V.bool false)))
 (none))
 (none))
 (K (V.bool false)))
 (K (V.bool false)))
 (none))
 (none))) := by kernel_rfl
end Nt.Ev.YtjkfndcpiihniaaGreatDoor.Rx

namespace Nt.Ev.YtjkfndcpiihniaaGreatDoor.Rx
set_option maxRecDepth 100000
open Go Go.RowKit Nt Nt.Num Nt.Civil Nt.Fld Go.Proofs.YtjkfndcpiihniaaGreatDoor Nt.Ev.YtjkfndcpiihniaaGreatDoor Nt.Ev.YtjkfndcpiihniaaGreatDoor.Lk
variable [MLen]
theorem rep_sl {G : Known} {K : List Kd} {x : V} {v : Value} (e : Nat) (h : slK K x = true) (hr : rep G x v) : rep G (.sl e K none (xsOf x)) v := by
  unfold slK at h
  split at h
  · unfold rep at hr
    unfold rep
    exact ⟨none, 0, hr, Nat.le_refl _, .inl rfl⟩
  · rename_i e' sh o xs
    have := Kd.eqL_sound _ _ h
    subst this
    unfold rep at hr ⊢
    exact hr
  · cases h
theorem rep_tb {G : Known} {x y z : V} {v : Value} (h : tbL x y z = true) (hr : rep G (.agg [x, y, z]) v) : rep G (.agg [.sl 49 [.str, .int .i64, .int .i64, .int .i64, .int .i64, .int .i64, .int .i64, .int .i64, .int .i64, .int .i64, .str] none (xsOf x), .sl 36 [.str, .sl 47 [.int .i64, .int .i64, .int .i64, .str, .str, .bool, .int .i64, .int .i64, .int .i64, .int .i64, .int .i64, .int .i64, .int .i64]] none (xsOf y), .sl 39 [.str, .str] none (xsOf z)]) v := by
  unfold tbL at h
  obtain ⟨h1, h2⟩ := band_true h
  obtain ⟨h3, h4⟩ := band_true h2
  unfold rep at hr
  obtain ⟨a, rfl, b, t, rfl, r1, b2, t2, rfl, r2, b3, t3, rfl, r3, rfl⟩ := hr
  unfold rep
  exact ⟨_, rfl, _, _, rfl, rep_sl _ h1 r1, _, _, rfl, rep_sl _ h3 r2, _, _, rfl, rep_sl _ h4 r3, rfl⟩
theorem con_tb {f : Nat} {x y z r : V} (h : tbL x y z = true) (c : Contract rE f [.agg [.sl 49 [.str, .int .i64, .int .i64, .int .i64, .int .i64, .int .i64, .int .i64, .int .i64, .int .i64, .int .i64, .str] none (xsOf x), .sl 36 [.str, .sl 47 [.int .i64, .int .i64, .int .i64, .str, .str, .bool, .int .i64, .int .i64, .int .i64, .int .i64, .int .i64, .int .i64, .int .i64]] none (xsOf y), .sl 39 [.str, .str] none (xsOf z)]] r) : Contract rE f [.agg [x, y, z]] r := by
  intro G w vs hG hg hp
  refine c G w vs hG hg ?_
  obtain ⟨v, rfl, hv⟩ := PW_one hp
  exact .cons (rep_tb h hv) .nil
theorem con_tb2 {f : Nat} {x y z x2 y2 z2 r : V} (h : tbL x y z = true) (h2 : tbL x2 y2 z2 = true) (c : Contract rE f [.agg [.sl 49 [.str, .int .i64, .int .i64, .int .i64, .int .i64, .int .i64, .int .i64, .int .i64, .int .i64, .int .i64, .str] none (xsOf x), .sl 36 [.str, .sl 47 [.int .i64, .int .i64, .int .i64, .str, .str, .bool, .int .i64, .int .i64, .int .i64, .int .i64, .int .i64, .int .i64, .int .i64]] none (xsOf y), .sl 39 [.str, .str] none (xsOf z)], .agg [.sl 49 [.str, .int .i64, .int .i64, .int .i64, .int .i64, .int .i64, .int .i64, .int .i64, .int .i64, .int .i64, .str] none (xsOf x2), .sl 36 [.str, .sl 47 [.int .i64, .int .i64, .int .i64, .str, .str, .bool, .int .i64, .int .i64, .int .i64, .int .i64, .int .i64, .int .i64, .int .i64]] none (xsOf y2), .sl 39 [.str, .str] none (xsOf z2)]] r) : Contract rE f [.agg [x, y, z], .agg [x2, y2, z2]] r := by
  intro G w vs hG hg hp
  refine c G w vs hG hg ?_
  obtain ⟨v, v2, rfl, hv, hv2⟩ := PW_two hp
  exact .cons (rep_tb h hv) (.cons (rep_tb h2 hv2) .nil)
theorem vTxS_ok (x y z : V) (hc : tbK x y z = true) : Contract rE 6 [.agg [x, y, z]] (.tup [.str (txT (xsOf x) (xsOf y) (xsOf z)), .int .i64 (txW (xsOf x) (xsOf y) (xsOf z))]) := by
  obtain ⟨h1, h2⟩ := band_true hc
  exact con_tb h1 (txt_ev _ _ _ h2)
theorem vTxS_ok_noontideref31_Text (x y z : V) (hc : tbK x y z = true) : Contract rE 7 [.agg [x, y, z]] (.tup [.str (txT (xsOf x) (xsOf y) (xsOf z)), .int .i64 (txW (xsOf x) (xsOf y) (xsOf z))]) := by
  obtain ⟨h1, h2⟩ := band_true hc
  exact con_tb h1 (txt31_ev _ _ _ h2)
theorem vRgS_ok_noontideref31_Right (x y z : V) (hc : tbK x y z = true) : Contract rE 9 [.agg [x, y, z]] (.bool (rgT (xsOf x) (xsOf y) (xsOf z))) := by
  obtain ⟨h1, h2⟩ := band_true hc
  exact con_tb h1 (wRgS_ok _ _ _ h2)
theorem qvS0_ok : SOk rE qvS0 := by
  unfold qvS0
  refine SOk.cons (fun args r h => ?_) (SOk.cons (fun args r h => ?_) (SOk.cons (fun args r h => ?_) (SOk.nil)))
  · unfold vTxS at h
    split at h
    · simp only [Option.some.injEq, Prod.mk.injEq] at h
      obtain ⟨hc, rfl⟩ := h
      exact vTxS_ok _ _ _ hc
    · cases h
  · unfold vTxS at h
    split at h
    · simp only [Option.some.injEq, Prod.mk.injEq] at h
      obtain ⟨hc, rfl⟩ := h
      exact vTxS_ok_noontideref31_Text _ _ _ hc
    · cases h
  · unfold vRgS at h
    split at h
    · simp only [Option.some.injEq, Prod.mk.injEq] at h
      obtain ⟨hc, rfl⟩ := h
      exact vRgS_ok_noontideref31_Right _ _ _ hc
    · cases h
theorem vRgS_ok (x y z : V) (hc : tbK x y z = true) : Contract rE 8 [.agg [x, y, z]] (.bool (rgT (xsOf x) (xsOf y) (xsOf z))) := by
  obtain ⟨h1, h2⟩ := band_true hc
  refine con_tb h1 (contract_of_body rE_ok qvS0_ok 5 3 ?_)
  have e : ieq (txW (xsOf x) (xsOf y) (xsOf z)) 0 = rgT (xsOf x) (xsOf y) (xsOf z) := by
    unfold txW
    cases rgT (xsOf x) (xsOf y) (xsOf z) <;> rfl
  rw [vRr_top, h2, e]
  rfl
theorem all2_succ (p : V → V → Bool) (l m : List V) (k i : Nat) : all2 p l m (k + 1) i = (p (lget l i) (lget m i) && all2 p l m k (i + 1)) := rfl
theorem con_sl2 {f : Nat} {K K2 : List Kd} {e1 e2 t1 t2 : Nat} {o1 o2 : Option Nat} {xs ys : List V} {r : V} (c : Contract rE f [.sl t1 K none xs, .sl t2 K2 none ys] r) : Contract rE f [.sl e1 K o1 xs, .sl e2 K2 o2 ys] r := by
  intro G w vs hG hg hp
  refine c G w vs hG hg ?_
  obtain ⟨v, v2, rfl, hv, hv2⟩ := PW_two hp
  refine .cons ?_ (.cons ?_ .nil)
  · unfold rep at hv ⊢; exact hv
  · unfold rep at hv2 ⊢; exact hv2
theorem vEqR_loop (F : Nat) (xs ys : List V) (b : Bool) (hl : ys.length = xs.length) (hb : xs.length ≤ 1000) (K : V → Option V) : ∀ (k i G : Nat), i + k = xs.length → k < G → vEqR_L0 F [] G xs ys b (llen xs) i K = K (.bool (all2 eqR xs ys k i)) := by
  intro k
  induction k with
  | zero =>
    intro i G h1 h2
    obtain ⟨G, rfl⟩ := Nat.exists_eq_succ_of_ne_zero (show G ≠ 0 by omega)
    rw [vEqR_L0_succ, sel_neg (idx_end (by omega))]; rfl
  | succ k ih =>
    intro i G h1 h2
    obtain ⟨G, rfl⟩ := Nat.exists_eq_succ_of_ne_zero (show G ≠ 0 by omega)
    obtain ⟨i1, i2, i3⟩ := idx_ok (xs := xs) (i := i) (by omega) (by omega)
    obtain ⟨_, j2, _⟩ := idx_ok (xs := ys) (i := i) (by omega) (by omega)
    rw [vEqR_L0_succ, sel_pos i1, sel_pos i2, sel_pos j2, i3, ih (i + 1) G (by omega) (by omega), all2_succ]
    show sel (bnot (eqR (lget xs i) (lget ys i))) (K (.bool false)) _ = _
    cases eqR (lget xs i) (lget ys i) <;> rfl
theorem vERs_ok (e1 : Nat) (o1 : Option Nat) (xs : List V) (e2 : Nat) (o2 : Option Nat) (ys : List V) (hc : ile (llen xs) 1000 = true) : Contract rE 30 [.sl e1 [.str, .int .i64, .int .i64, .int .i64, .int .i64, .int .i64, .int .i64, .int .i64, .int .i64, .int .i64, .str] o1 xs, .sl e2 [.str, .int .i64, .int .i64, .int .i64, .int .i64, .int .i64, .int .i64, .int .i64, .int .i64, .int .i64, .str] o2 ys] (.bool (eqRs xs ys)) := by
  refine con_sl2 (t1 := 49) (t2 := 49) (contract_of_body rE_ok qvS0_ok 1010 2 ?_)
  have hb := ll1 (k := 1000) hc
  rw [vEqR_top]
  unfold eqRs eqs
  cases h : ieq (llen xs) (llen ys) with
  | false => rfl
  | true =>
    rw [ieq_iff, llen_nat, llen_nat] at h
    have e := vEqR_loop 1010 xs ys false (by omega) hb some xs.length 0 1010 (by omega) (by omega)
    rw [c0] at e
    rw [sel_neg (show bnot true = false from rfl), e]
    rfl
theorem vEqE_loop (F : Nat) (xs ys : List V) (b : Bool) (hl : ys.length = xs.length) (hb : xs.length ≤ 1000) (K : V → Option V) : ∀ (k i G : Nat), i + k = xs.length → k < G → vEqE_L0 F [] G xs ys b (llen xs) i K = K (.bool (all2 eqE xs ys k i)) := by
  intro k
  induction k with
  | zero =>
    intro i G h1 h2
    obtain ⟨G, rfl⟩ := Nat.exists_eq_succ_of_ne_zero (show G ≠ 0 by omega)
    rw [vEqE_L0_succ, sel_neg (idx_end (by omega))]; rfl
  | succ k ih =>
    intro i G h1 h2
    obtain ⟨G, rfl⟩ := Nat.exists_eq_succ_of_ne_zero (show G ≠ 0 by omega)
    obtain ⟨i1, i2, i3⟩ := idx_ok (xs := xs) (i := i) (by omega) (by omega)
    obtain ⟨_, j2, _⟩ := idx_ok (xs := ys) (i := i) (by omega) (by omega)
    rw [vEqE_L0_succ, sel_pos i1, sel_pos i2, sel_pos j2, i3, ih (i + 1) G (by omega) (by omega), all2_succ]
    show sel (bnot (eqE (lget xs i) (lget ys i))) (K (.bool false)) _ = _
    cases eqE (lget xs i) (lget ys i) <;> rfl
theorem vEEs_ok (e1 : Nat) (o1 : Option Nat) (xs : List V) (e2 : Nat) (o2 : Option Nat) (ys : List V) (hc : ile (llen xs) 1000 = true) : Contract rE 29 [.sl e1 [.int .i64, .int .i64, .int .i64, .str, .str, .bool, .int .i64, .int .i64, .int .i64, .int .i64, .int .i64, .int .i64, .int .i64] o1 xs, .sl e2 [.int .i64, .int .i64, .int .i64, .str, .str, .bool, .int .i64, .int .i64, .int .i64, .int .i64, .int .i64, .int .i64, .int .i64] o2 ys] (.bool (eqEs xs ys)) := by
  refine con_sl2 (t1 := 47) (t2 := 47) (contract_of_body rE_ok qvS0_ok 1010 2 ?_)
  have hb := ll1 (k := 1000) hc
  rw [vEqE_top]
  unfold eqEs eqs
  cases h : ieq (llen xs) (llen ys) with
  | false => rfl
  | true =>
    rw [ieq_iff, llen_nat, llen_nat] at h
    have e := vEqE_loop 1010 xs ys false (by omega) hb some xs.length 0 1010 (by omega) (by omega)
    rw [c0] at e
    rw [sel_neg (show bnot true = false from rfl), e]
    rfl
theorem vEqL_loop (F : Nat) (xs ys : List V) (b : Bool) (hl : ys.length = xs.length) (hb : xs.length ≤ 1000) (K : V → Option V) : ∀ (k i G : Nat), i + k = xs.length → k < G → vEqL_L0 F [] G xs ys b (llen xs) i K = K (.bool (all2 eqLk xs ys k i)) := by
  intro k
  induction k with
  | zero =>
    intro i G h1 h2
    obtain ⟨G, rfl⟩ := Nat.exists_eq_succ_of_ne_zero (show G ≠ 0 by omega)
    rw [vEqL_L0_succ, sel_neg (idx_end (by omega))]; rfl
  | succ k ih =>
    intro i G h1 h2
    obtain ⟨G, rfl⟩ := Nat.exists_eq_succ_of_ne_zero (show G ≠ 0 by omega)
    obtain ⟨i1, i2, i3⟩ := idx_ok (xs := xs) (i := i) (by omega) (by omega)
    obtain ⟨_, j2, _⟩ := idx_ok (xs := ys) (i := i) (by omega) (by omega)
    rw [vEqL_L0_succ, sel_pos i1, sel_pos i2, sel_pos j2, i3, ih (i + 1) G (by omega) (by omega), all2_succ]
    show sel (bnot (eqLk (lget xs i) (lget ys i))) (K (.bool false)) _ = _
    cases eqLk (lget xs i) (lget ys i) <;> rfl
theorem vELs_ok (e1 : Nat) (o1 : Option Nat) (xs : List V) (e2 : Nat) (o2 : Option Nat) (ys : List V) (hc : ile (llen xs) 1000 = true) : Contract rE 32 [.sl e1 [.str, .str] o1 xs, .sl e2 [.str, .str] o2 ys] (.bool (eqLs xs ys)) := by
  refine con_sl2 (t1 := 39) (t2 := 39) (contract_of_body rE_ok qvS0_ok 1010 2 ?_)
  have hb := ll1 (k := 1000) hc
  rw [vEqL_top]
  unfold eqLs eqs
  cases h : ieq (llen xs) (llen ys) with
  | false => rfl
  | true =>
    rw [ieq_iff, llen_nat, llen_nat] at h
    have e := vEqL_loop 1010 xs ys false (by omega) hb some xs.length 0 1010 (by omega) (by omega)
    rw [c0] at e
    rw [sel_neg (show bnot true = false from rfl), e]
    rfl
theorem vSz_loop (F : Nat) (n m n2 m2 : List UInt8) (a c xs ys : List V) (b : Bool) (hl : ys.length = xs.length) (hb : xs.length ≤ 1000) (K : V → Option V) : ∀ (k i G : Nat), i + k = xs.length → k < G → vSz_L0 F [] G n a m c b (llen xs) i m2 ys n2 xs K = K (.bool (all2 eqE xs ys k i)) := by
  intro k
  induction k with
  | zero =>
    intro i G h1 h2
    obtain ⟨G, rfl⟩ := Nat.exists_eq_succ_of_ne_zero (show G ≠ 0 by omega)
    rw [vSz_L0_succ, sel_neg (idx_end (by omega))]; rfl
  | succ k ih =>
    intro i G h1 h2
    obtain ⟨G, rfl⟩ := Nat.exists_eq_succ_of_ne_zero (show G ≠ 0 by omega)
    obtain ⟨i1, i2, i3⟩ := idx_ok (xs := xs) (i := i) (by omega) (by omega)
    obtain ⟨_, j2, _⟩ := idx_ok (xs := ys) (i := i) (by omega) (by omega)
    rw [vSz_L0_succ, sel_pos i1, sel_pos i2, sel_pos j2, i3, ih (i + 1) G (by omega) (by omega), all2_succ]
    show sel (bnot (eqE (lget xs i) (lget ys i))) (K (.bool false)) _ = _
    cases eqE (lget xs i) (lget ys i) <;> rfl
theorem vSzS_ok (n : List UInt8) (e1 : Nat) (o1 : Option Nat) (xs : List V) (m : List UInt8) (e2 : Nat) (o2 : Option Nat) (ys : List V) (hc : ile (llen xs) 1000 = true) : Contract rE 33 [.agg [.str n, .sl e1 [.int .i64, .int .i64, .int .i64, .str, .str, .bool, .int .i64, .int .i64, .int .i64, .int .i64, .int .i64, .int .i64, .int .i64] o1 xs], .agg [.str m, .sl e2 [.int .i64, .int .i64, .int .i64, .str, .str, .bool, .int .i64, .int .i64, .int .i64, .int .i64, .int .i64, .int .i64, .int .i64] o2 ys]] (.bool (band (seq n m) (eqEs xs ys))) := by
  have h : Contract rE 33 [.agg [.str n, .sl 47 [.int .i64, .int .i64, .int .i64, .str, .str, .bool, .int .i64, .int .i64, .int .i64, .int .i64, .int .i64, .int .i64, .int .i64] none xs], .agg [.str m, .sl 47 [.int .i64, .int .i64, .int .i64, .str, .str, .bool, .int .i64, .int .i64, .int .i64, .int .i64, .int .i64, .int .i64, .int .i64] none ys]] (.bool (band (seq n m) (eqEs xs ys))) := by
    refine contract_of_body rE_ok qvS0_ok 1010 3 ?_
    have hb := ll1 (k := 1000) hc
    rw [vSz_top]
    cases hs : seq n m with
    | false => rfl
    | true =>
    unfold eqEs eqs
    cases h : ieq (llen xs) (llen ys) with
    | false => rfl
    | true =>
      rw [ieq_iff, llen_nat, llen_nat] at h
      have e := vSz_loop 1010 n m n m xs ys xs ys false (by omega) hb some xs.length 0 1010 (by omega) (by omega)
      rw [c0] at e
      rw [sel_neg (show bnot true = false from rfl), sel_neg (show bnot true = false from rfl), e]
      rfl
  intro G w vs hG hg hp
  refine h G w vs hG hg ?_
  obtain ⟨v, v2, rfl, hv, hv2⟩ := PW_two hp
  refine .cons ?_ (.cons ?_ .nil)
  · unfold rep at hv ⊢
    obtain ⟨a, rfl, b, t, rfl, r1, b2, t2, rfl, r2, rfl⟩ := hv
    refine ⟨_, rfl, _, _, rfl, r1, _, _, rfl, ?_, rfl⟩
    unfold rep at r2 ⊢; exact r2
  · unfold rep at hv2 ⊢
    obtain ⟨a, rfl, b, t, rfl, r1, b2, t2, rfl, r2, rfl⟩ := hv2
    refine ⟨_, rfl, _, _, rfl, r1, _, _, rfl, ?_, rfl⟩
    unfold rep at r2 ⊢; exact r2
theorem qvS1_ok : SOk rE qvS1 := by
  unfold qvS1
  refine SOk.cons (fun args r h => ?_) (SOk.cons (fun args r h => ?_) (SOk.cons (fun args r h => ?_) (SOk.cons (fun args r h => ?_) (qvS0_ok))))
  · unfold vERs at h
    split at h
    · simp only [Option.some.injEq, Prod.mk.injEq] at h
      obtain ⟨hc, rfl⟩ := h
      exact vERs_ok _ _ _ _ _ _ hc
    · cases h
  · unfold vEEs at h
    split at h
    · simp only [Option.some.injEq, Prod.mk.injEq] at h
      obtain ⟨hc, rfl⟩ := h
      exact vEEs_ok _ _ _ _ _ _ hc
    · cases h
  · unfold vELs at h
    split at h
    · simp only [Option.some.injEq, Prod.mk.injEq] at h
      obtain ⟨hc, rfl⟩ := h
      exact vELs_ok _ _ _ _ _ _ hc
    · cases h
  · unfold vSzS at h
    split at h
    · simp only [Option.some.injEq, Prod.mk.injEq] at h
      obtain ⟨hc, rfl⟩ := h
      exact vSzS_ok _ _ _ _ _ _ _ _ hc
    · cases h
theorem e12_iff {l : List V} (h : e12 l = true) : l.length ≤ 100 ∧ ∀ i, i < l.length → (asL (acell (lget l (i : Int)) 1)).length ≤ 12 := by
  unfold e12 at h
  obtain ⟨h1, h2⟩ := band_true h
  refine ⟨ll1 (k := 100) h1, fun i hi => ?_⟩
  exact ll1 (k := 12) (all_get h2 hi)
theorem vEz_loop (F : Nat) (xs ys : List V) (b : Bool) (hl : ys.length = xs.length) (he : e12 xs = true) (K : V → Option V) : ∀ (k i G : Nat), i + k = xs.length → k < G → vEz_L0 F [] G xs ys b xs (llen xs) i K = K (.bool (all2 eqZ xs ys k i)) := by
  obtain ⟨hb, h12⟩ := e12_iff he
  intro k
  induction k with
  | zero =>
    intro i G h1 h2
    obtain ⟨G, rfl⟩ := Nat.exists_eq_succ_of_ne_zero (show G ≠ 0 by omega)
    rw [vEz_L0_succ, sel_neg (idx_end (by omega))]; rfl
  | succ k ih =>
    intro i G h1 h2
    obtain ⟨G, rfl⟩ := Nat.exists_eq_succ_of_ne_zero (show G ≠ 0 by omega)
    obtain ⟨i1, i2, i3⟩ := idx_ok (xs := xs) (i := i) (by omega) (by omega)
    obtain ⟨_, j2, _⟩ := idx_ok (xs := ys) (i := i) (by omega) (by omega)
    have hz := h12 i (by omega)
    rw [vEz_L0_succ, sel_pos i1, sel_pos i2, sel_pos j2, i3, ih (i + 1) G (by omega) (by omega), all2_succ, sel_pos (c := ile (llen (asL (acell (lget xs i) 1))) 1000) (ile_t (by rw [llen_nat]; omega))]
    show sel (seq (asStr (acell (lget xs i) 0)) (asStr (acell (lget ys i) 0))) (sel (bnot (eqEs (asL (acell (lget xs i) 1)) (asL (acell (lget ys i) 1)))) (K (.bool false)) _) (K (.bool false)) = K (.bool (band (seq (asStr (acell (lget xs i) 0)) (asStr (acell (lget ys i) 0))) (eqEs (asL (acell (lget xs i) 1)) (asL (acell (lget ys i) 1))) && all2 eqZ xs ys k (i + 1)))
    cases seq (asStr (acell (lget xs i) 0)) (asStr (acell (lget ys i) 0)) <;> cases eqEs (asL (acell (lget xs i) 1)) (asL (acell (lget ys i) 1)) <;> rfl
theorem vEzS_ok (e1 : Nat) (o1 : Option Nat) (xs : List V) (e2 : Nat) (o2 : Option Nat) (ys : List V) (g : Nat) (hc : band (g == 28) (e12 xs) = true) : Contract rE 31 [.sl e1 [.str, .sl 47 [.int .i64, .int .i64, .int .i64, .str, .str, .bool, .int .i64, .int .i64, .int .i64, .int .i64, .int .i64, .int .i64, .int .i64]] o1 xs, .sl e2 [.str, .sl 47 [.int .i64, .int .i64, .int .i64, .str, .str, .bool, .int .i64, .int .i64, .int .i64, .int .i64, .int .i64, .int .i64, .int .i64]] o2 ys, .fn g []] (.bool (eqZs xs ys)) := by
  obtain ⟨h1, h2⟩ := band_true hc
  obtain rfl : g = 28 := by simpa using h1
  have h : Contract rE 31 [.sl 36 [.str, .sl 47 [.int .i64, .int .i64, .int .i64, .str, .str, .bool, .int .i64, .int .i64, .int .i64, .int .i64, .int .i64, .int .i64, .int .i64]] none xs, .sl 36 [.str, .sl 47 [.int .i64, .int .i64, .int .i64, .str, .str, .bool, .int .i64, .int .i64, .int .i64, .int .i64, .int .i64, .int .i64, .int .i64]] none ys, .fn 28 []] (.bool (eqZs xs ys)) := by
    refine contract_of_body rE_ok qvS1_ok 1010 3 ?_
    obtain ⟨hb, h12⟩ := e12_iff h2
    rw [vEz_top]
    unfold eqZs eqs
    cases h : ieq (llen xs) (llen ys) with
    | false => rfl
    | true =>
      rw [ieq_iff, llen_nat, llen_nat] at h
      have e := vEz_loop 1010 xs ys false (by omega) h2 some xs.length 0 1010 (by omega) (by omega)
      rw [c0] at e
      rw [sel_neg (show bnot true = false from rfl), e]
      rfl
  intro G w vs hG hg hp
  refine h G w vs hG hg ?_
  obtain ⟨v, t, rfl, hv, hp⟩ := hp.cons_inv
  obtain ⟨v2, v3, rfl, hv2, hv3⟩ := PW_two hp
  refine .cons ?_ (.cons ?_ (.cons hv3 .nil))
  · unfold rep at hv ⊢; exact hv
  · unfold rep at hv2 ⊢; exact hv2
theorem qvS2_ok : SOk rE qvS2 := by
  unfold qvS2
  refine SOk.cons (fun args r h => ?_) (qvS1_ok)
  · unfold vEzS at h
    split at h
    · simp only [Option.some.injEq, Prod.mk.injEq] at h
      obtain ⟨hc, rfl⟩ := h
      exact vEzS_ok _ _ _ _ _ _ _ hc
    · cases h
noncomputable def smT (xs zs ls ys ws ms : List V) : Bool := band (eqRs xs ys) (band (eqZs zs ws) (eqLs ls ms))
theorem same_ev (xs zs ls ys ws ms : List V) (hx : ile (llen xs) 1000 = true) (hz : e12 zs = true) (hl : ile (llen ls) 1000 = true) : Contract rE 10 [.agg [.sl 49 [.str, .int .i64, .int .i64, .int .i64, .int .i64, .int .i64, .int .i64, .int .i64, .int .i64, .int .i64, .str] none xs, .sl 36 [.str, .sl 47 [.int .i64, .int .i64, .int .i64, .str, .str, .bool, .int .i64, .int .i64, .int .i64, .int .i64, .int .i64, .int .i64, .int .i64]] none zs, .sl 39 [.str, .str] none ls], .agg [.sl 49 [.str, .int .i64, .int .i64, .int .i64, .int .i64, .int .i64, .int .i64, .int .i64, .int .i64, .int .i64, .str] none ys, .sl 36 [.str, .sl 47 [.int .i64, .int .i64, .int .i64, .str, .str, .bool, .int .i64, .int .i64, .int .i64, .int .i64, .int .i64, .int .i64, .int .i64]] none ws, .sl 39 [.str, .str] none ms]] (.bool (smT xs zs ls ys ws ms)) := by
  refine contract_of_body rE_ok qvS2_ok 5 3 ?_
  rw [vSm_top, hx, hl, hz]
  unfold smT
  cases eqRs xs ys <;> cases eqZs zs ws <;> rfl
theorem s24_2 (F : Nat) (a b c a2 b2 c2 : List V) (x : Bool) (x1 x2 x3 x4 : Int) (p zs r p2 ws r2 : List V) (hl : ws.length = zs.length) (he : e12 zs = true) (K : V → Option V) : ∀ (k i G : Nat), i + k = zs.length → k < G → v24_L2 F [] G a b c a2 b2 c2 x x1 x2 x3 x4 (llen zs) i p2 ws r2 p zs r K = K (.bool (all2 eqZ zs ws k i)) := by
  obtain ⟨hb, h12⟩ := e12_iff he
  intro k
  induction k with
  | zero =>
    intro i G h1 h2
    obtain ⟨G, rfl⟩ := Nat.exists_eq_succ_of_ne_zero (show G ≠ 0 by omega)
    rw [v24_L2_succ, sel_neg (idx_end (by omega))]; rfl
  | succ k ih =>
    intro i G h1 h2
    obtain ⟨G, rfl⟩ := Nat.exists_eq_succ_of_ne_zero (show G ≠ 0 by omega)
    obtain ⟨i1, i2, i3⟩ := idx_ok (xs := zs) (i := i) (by omega) (by omega)
    obtain ⟨_, j2, _⟩ := idx_ok (xs := ws) (i := i) (by omega) (by omega)
    have hz := h12 i (by omega)
    rw [v24_L2_succ, sel_pos i1, sel_pos i2, sel_pos j2, i3, ih (i + 1) G (by omega) (by omega), all2_succ, sel_pos (c := ile (llen (asL (acell (lget zs i) 1))) 1000) (ile_t (by rw [llen_nat]; omega))]
    show sel (bnot (eqZ (lget zs i) (lget ws i))) (K (.bool false)) _ = _
    cases eqZ (lget zs i) (lget ws i) <;> rfl
theorem s24_1 (F : Nat) (hF : 1001 ≤ F) (a b c a2 b2 c2 : List V) (x : Bool) (x1 x2 : Int) (p zs ls p2 ws ms : List V) (hl : ws.length = zs.length) (he : e12 zs = true) (hm : ms.length = ls.length) (hb : ls.length ≤ 1000) (K : V → Option V) : ∀ (k i G : Nat), i + k = ls.length → k < G → v24_L1 F [] G a b c a2 b2 c2 x x1 x2 (llen ls) i p2 ws ms p zs ls K = K (.bool (all2 eqLk ls ms k i && all2 eqZ zs ws zs.length 0)) := by
  obtain ⟨hb', h12⟩ := e12_iff he
  intro k
  induction k with
  | zero =>
    intro i G h1 h2
    obtain ⟨G, rfl⟩ := Nat.exists_eq_succ_of_ne_zero (show G ≠ 0 by omega)
    rw [v24_L1_succ, sel_neg (idx_end (by omega))]
    have e := s24_2 F a b c a2 b2 c2 x x1 x2 (llen ls) i p zs ls p2 ws ms hl he K zs.length 0 F (by omega) (by omega)
    rw [c0] at e
    rw [e]; rfl
  | succ k ih =>
    intro i G h1 h2
    obtain ⟨G, rfl⟩ := Nat.exists_eq_succ_of_ne_zero (show G ≠ 0 by omega)
    obtain ⟨i1, i2, i3⟩ := idx_ok (xs := ls) (i := i) (by omega) (by omega)
    obtain ⟨_, j2, _⟩ := idx_ok (xs := ms) (i := i) (by omega) (by omega)
    rw [v24_L1_succ, sel_pos i1, sel_pos i2, sel_pos j2, i3, ih (i + 1) G (by omega) (by omega), all2_succ]
    show sel (bnot (eqLk (lget ls i) (lget ms i))) (K (.bool false)) _ = _
    cases eqLk (lget ls i) (lget ms i) <;> rfl
theorem s24_0 (F : Nat) (hF : 1001 ≤ F) (a b c a2 b2 c2 : List V) (x : Bool) (xs zs ls ys ws ms : List V) (hy : ys.length = xs.length) (hx : xs.length ≤ 1000) (hl : ws.length = zs.length) (he : e12 zs = true) (hm : ms.length = ls.length) (hb : ls.length ≤ 1000) (K : V → Option V) : ∀ (k i G : Nat), i + k = xs.length → k < G → v24_L0 F [] G a b c a2 b2 c2 x (llen xs) i ys ws ms xs zs ls K = K (.bool (all2 eqR xs ys k i && (all2 eqLk ls ms ls.length 0 && all2 eqZ zs ws zs.length 0))) := by
  intro k
  induction k with
  | zero =>
    intro i G h1 h2
    obtain ⟨G, rfl⟩ := Nat.exists_eq_succ_of_ne_zero (show G ≠ 0 by omega)
    rw [v24_L0_succ, sel_neg (idx_end (by omega))]
    have e := s24_1 F hF a b c a2 b2 c2 x (llen xs) i xs zs ls ys ws ms hl he hm hb K ls.length 0 F (by omega) (by omega)
    rw [c0] at e
    rw [e]; rfl
  | succ k ih =>
    intro i G h1 h2
    obtain ⟨G, rfl⟩ := Nat.exists_eq_succ_of_ne_zero (show G ≠ 0 by omega)
    obtain ⟨i1, i2, i3⟩ := idx_ok (xs := xs) (i := i) (by omega) (by omega)
    obtain ⟨_, j2, _⟩ := idx_ok (xs := ys) (i := i) (by omega) (by omega)
    rw [v24_L0_succ, sel_pos i1, sel_pos i2, sel_pos j2, i3, ih (i + 1) G (by omega) (by omega), all2_succ]
    show sel (bnot (eqR (lget xs i) (lget ys i))) (K (.bool false)) _ = _
    cases eqR (lget xs i) (lget ys i) <;> rfl
theorem same24_ev (xs zs ls ys ws ms : List V) (hx : ile (llen xs) 1000 = true) (hz : e12 zs = true) (hl : ile (llen ls) 1000 = true) : Contract rE 11 [.agg [.sl 49 [.str, .int .i64, .int .i64, .int .i64, .int .i64, .int .i64, .int .i64, .int .i64, .int .i64, .int .i64, .str] none xs, .sl 36 [.str, .sl 47 [.int .i64, .int .i64, .int .i64, .str, .str, .bool, .int .i64, .int .i64, .int .i64, .int .i64, .int .i64, .int .i64, .int .i64]] none zs, .sl 39 [.str, .str] none ls], .agg [.sl 49 [.str, .int .i64, .int .i64, .int .i64, .int .i64, .int .i64, .int .i64, .int .i64, .int .i64, .int .i64, .str] none ys, .sl 36 [.str, .sl 47 [.int .i64, .int .i64, .int .i64, .str, .str, .bool, .int .i64, .int .i64, .int .i64, .int .i64, .int .i64, .int .i64, .int .i64]] none ws, .sl 39 [.str, .str] none ms]] (.bool (smT xs zs ls ys ws ms)) := by
  refine contract_of_body rE_ok qvS2_ok 1010 3 ?_
  rw [v24_top]
  unfold smT eqRs eqZs eqLs eqs
  cases a1 : ieq (llen xs) (llen ys) with
  | false => rfl
  | true =>
  cases a2 : ieq (llen zs) (llen ws) with
  | false => cases all2 eqR xs ys xs.length 0 <;> rfl
  | true =>
  cases a3 : ieq (llen ls) (llen ms) with
  | false => cases all2 eqR xs ys xs.length 0 <;> cases all2 eqZ zs ws zs.length 0 <;> rfl
  | true =>
  rw [ieq_iff, llen_nat, llen_nat] at a1 a2 a3
  have e := s24_0 1010 (by omega) xs zs ls ys ws ms false xs zs ls ys ws ms (by omega) (ll1 (k := 1000) hx) (by omega) hz (by omega) (ll1 (k := 1000) hl) some xs.length 0 1010 (by omega) (by have := ll1 (k := 1000) hx; omega)
  rw [c0] at e
  rw [sel_neg (show bnot true = false from rfl), sel_neg (show bnot true = false from rfl), sel_neg (show bnot true = false from rfl), e]
  cases all2 eqR xs ys xs.length 0 <;> cases all2 eqZ zs ws zs.length 0 <;> cases all2 eqLk ls ms ls.length 0 <;> rfl
theorem vSmS_ok (x y z x2 y2 z2 : V) (hc : band (band (tbL x y z) (tbL x2 y2 z2)) (band (ile (llen (xsOf x)) 1000) (band (e12 (xsOf y)) (ile (llen (xsOf z)) 1000))) = true) : Contract rE 10 [.agg [x, y, z], .agg [x2, y2, z2]] (.bool (band (eqRs (xsOf x) (xsOf x2)) (band (eqZs (xsOf y) (xsOf y2)) (eqLs (xsOf z) (xsOf z2))))) := by
  obtain ⟨h1, h2⟩ := band_true hc
  obtain ⟨h3, h4⟩ := band_true h2
  obtain ⟨h5, h6⟩ := band_true h4
  exact con_tb2 (band_true h1).1 (band_true h1).2 (same_ev _ _ _ _ _ _ h3 h5 h6)
theorem vSmS_ok_noontideref24_Same (x y z x2 y2 z2 : V) (hc : band (band (tbL x y z) (tbL x2 y2 z2)) (band (ile (llen (xsOf x)) 1000) (band (e12 (xsOf y)) (ile (llen (xsOf z)) 1000))) = true) : Contract rE 11 [.agg [x, y, z], .agg [x2, y2, z2]] (.bool (band (eqRs (xsOf x) (xsOf x2)) (band (eqZs (xsOf y) (xsOf y2)) (eqLs (xsOf z) (xsOf z2))))) := by
  obtain ⟨h1, h2⟩ := band_true hc
  obtain ⟨h3, h4⟩ := band_true h2
  obtain ⟨h5, h6⟩ := band_true h4
  exact con_tb2 (band_true h1).1 (band_true h1).2 (same24_ev _ _ _ _ _ _ h3 h5 h6)
end Nt.Ev.YtjkfndcpiihniaaGreatDoor.Rx

namespace Nt.Ev.YtjkfndcpiihniaaGreatDoor.Rx
set_option maxRecDepth 100000
open Go Go.RowKit Nt Nt.Num Go.Proofs.YtjkfndcpiihniaaGreatDoor Nt.Ev.YtjkfndcpiihniaaGreatDoor
theorem bd0 {a b : Bool} (h1 : a = true) (h2 : b = true) : band a b = true := by rw [h1, h2]; rfl
def fitR (e : V) : Prop := Fits (asInt (acell e 9)) ∧ Fits (asInt (acell e 3))
def fitE (e : V) : Prop := Fits (asInt (acell e 0)) ∧ Fits (asInt (acell e 2)) ∧ Fits (asInt (acell e 6)) ∧ Fits (asInt (acell e 7))
theorem fits0 : Fits 0 := by unfold Fits; omega
def i64K : Kd → Bool | .int k => k == .i64 | _ => true
theorem asInt_fits {P : Program} : ∀ (sh : List Kd) (ys : List V), sh.all i64K = true → fitsL sh ys = true → (∀ y ∈ ys, okC P y) → ∀ i, Fits (asInt (ys.getD i .any))
  | [], ys, _, hf, _, i => by
    obtain rfl := fitsL_nil hf
    rw [show asInt (([] : List V).getD i .any) = 0 from rfl]
    unfold Fits; omega
  | k :: sh, ys, hs, hf, ho, i => by
    obtain ⟨x, t, rfl, f1, f2⟩ := fitsL_cons hf
    rw [List.all_cons, Bool.and_eq_true] at hs
    cases i with
    | succ i => exact asInt_fits sh t hs.2 f2 (fun y hy => ho y (List.mem_cons_of_mem _ hy)) i
    | zero =>
      show Fits (asInt x)
      have hx := ho x List.mem_cons_self
      cases x with
      | int k' n =>
        have hk : k = .int k' := by
          cases k <;> simp [fits] at f1
          rw [f1]
        subst hk
        have : k' = IntKind.i64 := by simpa [i64K] using hs.1
        subst this
        unfold okC at hx
        exact bounds_i64 hx
      | _ => exact fits0
theorem sl_cell {P : Program} {e : Nat} {sh : List Kd} {x : V} (ha : isAggT P e = some true) (hf : fits (.sl e sh) x = true) (ho : okC P x) : slK sh x = true ∧ ∀ r ∈ xsOf x, ∃ ys, r = .agg ys ∧ fitsL sh ys = true ∧ ∀ y ∈ ys, okC P y := by
  cases x with
  | sl e' sh' o xs =>
    simp only [fits] at hf
    rw [Bool.and_eq_true, beq_iff_eq] at hf
    obtain ⟨rfl, h3⟩ := hf
    have h4 := Kd.eqL_sound _ _ h3
    subst h4
    unfold okC at ho
    obtain ⟨_, _, q2, q3⟩ := ho
    exact ⟨h3, aggs_of ha fun x hx => ⟨q2 x hx, (okCl_iff _ _).1 q3 x hx⟩⟩
  | nilsl => exact ⟨rfl, fun r hr => by cases hr⟩
  | _ => simp [fits] at hf
theorem xs_asL (x : V) : xsOf x = asL x := by cases x <;> rfl
theorem tab_cells {P : Program} {cs : List V} (h1 : isAggT P 49 = some true) (h2 : isAggT P 36 = some true) (h3 : isAggT P 39 = some true) (h4 : isAggT P 47 = some true)
    (hf : fitsL [.sl 49 [.str, .int .i64, .int .i64, .int .i64, .int .i64, .int .i64, .int .i64, .int .i64, .int .i64, .int .i64, .str], .sl 36 [.str, .sl 47 [.int .i64, .int .i64, .int .i64, .str, .str, .bool, .int .i64, .int .i64, .int .i64, .int .i64, .int .i64, .int .i64, .int .i64]], .sl 39 [.str, .str]] cs = true) (ho : ∀ c ∈ cs, okC P c) :
    ∃ x y z, cs = [x, y, z] ∧ tbL x y z = true ∧ (∀ e ∈ xsOf x, fitR e) ∧ (∀ z ∈ xsOf y, ∀ e ∈ asL (acell z 1), fitE e) := by
  obtain ⟨x, t, rfl, f1, hf⟩ := fitsL_cons hf
  obtain ⟨y, t, rfl, f2, hf⟩ := fitsL_cons hf
  obtain ⟨z, t, rfl, f3, hf⟩ := fitsL_cons hf
  obtain rfl := fitsL_nil hf
  obtain ⟨a1, a2⟩ := sl_cell h1 f1 (ho x (by simp))
  obtain ⟨b1, b2⟩ := sl_cell h2 f2 (ho y (by simp))
  obtain ⟨c1, c2⟩ := sl_cell h3 f3 (ho z (by simp))
  refine ⟨x, y, z, rfl, bd0 a1 (bd0 b1 c1), fun e he => ?_, fun q hq e he => ?_⟩
  · obtain ⟨ys, rfl, g1, g2⟩ := a2 e he
    exact ⟨asInt_fits _ ys (by rfl) g1 g2 9, asInt_fits _ ys (by rfl) g1 g2 3⟩
  · obtain ⟨ys, rfl, g1, g2⟩ := b2 q hq
    obtain ⟨n, t, rfl, g3, g4⟩ := fitsL_cons g1
    obtain ⟨u, t, rfl, g5, g6⟩ := fitsL_cons g4
    obtain ⟨d1, d2⟩ := sl_cell h4 g5 (g2 u (by simp))
    have he' : e ∈ xsOf u := by rw [xs_asL]; exact he
    obtain ⟨vs, rfl, k1, k2⟩ := d2 e he'
    exact ⟨asInt_fits _ vs (by rfl) k1 k2 0, asInt_fits _ vs (by rfl) k1 k2 2, asInt_fits _ vs (by rfl) k1 k2 6, asInt_fits _ vs (by rfl) k1 k2 7⟩
end Nt.Ev.YtjkfndcpiihniaaGreatDoor.Rx

namespace Nt.Ev.YtjkfndcpiihniaaGreatDoor.Rx
set_option maxRecDepth 100000
open Go Go.RowKit Nt Nt.Num Nt.Civil Nt.Fld Go.Proofs.YtjkfndcpiihniaaGreatDoor Nt.Ev.YtjkfndcpiihniaaGreatDoor Nt.Ev.YtjkfndcpiihniaaGreatDoor.Lk
variable [MLen]
theorem le_bn (a b : Int) : ilt a b = bnot (ile b a) := by
  unfold ilt ile bnot
  by_cases h : a < b
  · rw [decide_eq_true h, decide_eq_false (by omega)]; rfl
  · rw [decide_eq_false h, decide_eq_true (by omega)]; rfl
theorem l25_loop (F : Nat) (a xs : List V) (b : Bool) (hb : xs.length ≤ 12) (K : V → Option V) : ∀ (k i G : Nat), i + k = xs.length → k < G → vL25_L0 F [] G a b xs (llen xs) i K = K (.bool (allI liR xs k i)) := by
  intro k
  induction k with
  | zero =>
    intro i G h1 h2
    obtain ⟨G, rfl⟩ := Nat.exists_eq_succ_of_ne_zero (show G ≠ 0 by omega)
    rw [vL25_L0_succ, sel_neg (idx_end (by omega))]; rfl
  | succ k ih =>
    intro i G h1 h2
    obtain ⟨G, rfl⟩ := Nat.exists_eq_succ_of_ne_zero (show G ≠ 0 by omega)
    obtain ⟨i1, i2, i3⟩ := idx_ok (xs := xs) (i := i) (by omega) (by omega)
    rw [vL25_L0_succ, sel_pos i1, sel_pos i2, i3, ih (i + 1) G (by omega) (by omega), allI_succ, le_bn, le_bn]
    unfold liR
    cases ile (slen (asStr (acell (lget xs i) 0))) 200 <;> cases ile (slen (asStr (acell (lget xs i) 10))) 200 <;> rfl
theorem vL5S_ok (xs : List V) (hc : true = true) : Contract rE 12 [.sl 49 [.str, .int .i64, .int .i64, .int .i64, .int .i64, .int .i64, .int .i64, .int .i64, .int .i64, .int .i64, .str] none xs] (.bool (li5 xs)) := by
  refine contract_of_body rE_ok qvS2_ok 100 3 ?_
  rw [vL25_top, le_bn]
  unfold li5
  cases h : ile (llen xs) 12 with
  | false => rfl
  | true =>
    have hb := ll1 (k := 12) h
    have e := l25_loop 100 xs xs false hb some xs.length 0 100 (by omega) (by omega)
    rw [c0] at e
    rw [sel_neg (show bnot true = false from rfl), e]; rfl
theorem l28_loop (F : Nat) (n m : List UInt8) (a es q : List V) (b : Bool) (hb : es.length ≤ 12) (K : V → Option V) : ∀ (k i G : Nat), i + k = es.length → k < G → vL28_L0 F [] G n a b es (llen es) i m q K = K (.bool (allI liE es k i)) := by
  intro k
  induction k with
  | zero =>
    intro i G h1 h2
    obtain ⟨G, rfl⟩ := Nat.exists_eq_succ_of_ne_zero (show G ≠ 0 by omega)
    rw [vL28_L0_succ, sel_neg (idx_end (by omega))]; rfl
  | succ k ih =>
    intro i G h1 h2
    obtain ⟨G, rfl⟩ := Nat.exists_eq_succ_of_ne_zero (show G ≠ 0 by omega)
    obtain ⟨i1, i2, i3⟩ := idx_ok (xs := es) (i := i) (by omega) (by omega)
    rw [vL28_L0_succ, sel_pos i1, sel_pos i2, i3, ih (i + 1) G (by omega) (by omega), allI_succ, le_bn, le_bn]
    unfold liE
    cases ile (slen (asStr (acell (lget es i) 3))) 200 <;> cases ile (slen (asStr (acell (lget es i) 4))) 200 <;> rfl
theorem vL8S_ok (n : List UInt8) (es : List V) (hc : true = true) : Contract rE 13 [.agg [.str n, .sl 47 [.int .i64, .int .i64, .int .i64, .str, .str, .bool, .int .i64, .int .i64, .int .i64, .int .i64, .int .i64, .int .i64, .int .i64] none es]] (.bool (li8 n es)) := by
  refine contract_of_body rE_ok qvS2_ok 100 3 ?_
  rw [vL28_top, le_bn, le_bn]
  unfold li8
  cases h : ile (llen es) 12 with
  | false => rfl
  | true =>
  cases h2 : ile (slen n) 200 with
  | false => rfl
  | true =>
    have hb := ll1 (k := 12) h
    have e := l28_loop 100 n n es es es false hb some es.length 0 100 (by omega) (by omega)
    rw [c0] at e
    rw [sel_neg (show bnot true = false from rfl), sel_neg (show bnot true = false from rfl), e]; rfl
theorem qvS3_ok : SOk rE qvS3 := by
  unfold qvS3
  refine SOk.cons (fun args r h => ?_) (SOk.cons (fun args r h => ?_) (qvS2_ok))
  · unfold vL5S at h
    split at h
    · simp only [Option.some.injEq, Prod.mk.injEq] at h
      obtain ⟨hc, rfl⟩ := h
      exact vL5S_ok _ rfl
    · cases h
  · unfold vL8S at h
    split at h
    · simp only [Option.some.injEq, Prod.mk.injEq] at h
      obtain ⟨hc, rfl⟩ := h
      exact vL8S_ok _ _ rfl
    · cases h
theorem l29_1 (F : Nat) (a b c : List V) (x : Bool) (d : List V) (x1 x2 : Int) (ls p q r : List V) (hb : ls.length ≤ 16) (K : V → Option V) : ∀ (k i G : Nat), i + k = ls.length → k < G → vL29_L1 F [] G a b c x d x1 x2 ls (llen ls) i p q r K = K (.bool (allI liL ls k i)) := by
  intro k
  induction k with
  | zero =>
    intro i G h1 h2
    obtain ⟨G, rfl⟩ := Nat.exists_eq_succ_of_ne_zero (show G ≠ 0 by omega)
    rw [vL29_L1_succ, sel_neg (idx_end (by omega))]; rfl
  | succ k ih =>
    intro i G h1 h2
    obtain ⟨G, rfl⟩ := Nat.exists_eq_succ_of_ne_zero (show G ≠ 0 by omega)
    obtain ⟨i1, i2, i3⟩ := idx_ok (xs := ls) (i := i) (by omega) (by omega)
    rw [vL29_L1_succ, sel_pos i1, sel_pos i2, i3, ih (i + 1) G (by omega) (by omega), allI_succ, le_bn, le_bn]
    unfold liL
    cases ile (slen (asStr (acell (lget ls i) 1))) 200 <;> cases ile (slen (asStr (acell (lget ls i) 0))) 200 <;> rfl
theorem l29_0 (F : Nat) (hF : 20 ≤ F) (a b c : List V) (x : Bool) (zs p q ls : List V) (hz : zs.length ≤ 10) (hb : ls.length ≤ 16) (K : V → Option V) : ∀ (k i G : Nat), i + k = zs.length → k < G → vL29_L0 F [] G a b c x zs (llen zs) i p q ls K = K (.bool (allI liZ zs k i && allI liL ls ls.length 0)) := by
  intro k
  induction k with
  | zero =>
    intro i G h1 h2
    obtain ⟨G, rfl⟩ := Nat.exists_eq_succ_of_ne_zero (show G ≠ 0 by omega)
    rw [vL29_L0_succ, sel_neg (idx_end (by omega))]
    have e := l29_1 F a b c x zs (llen zs) i ls p q ls hb K ls.length 0 F (by omega) (by omega)
    rw [c0] at e
    rw [e]; rfl
  | succ k ih =>
    intro i G h1 h2
    obtain ⟨G, rfl⟩ := Nat.exists_eq_succ_of_ne_zero (show G ≠ 0 by omega)
    obtain ⟨i1, i2, i3⟩ := idx_ok (xs := zs) (i := i) (by omega) (by omega)
    rw [vL29_L0_succ, sel_pos i1, sel_pos i2, i3, ih (i + 1) G (by omega) (by omega), allI_succ]
    show sel (bnot (liZ (lget zs i))) (K (.bool false)) _ = _
    cases liZ (lget zs i) <;> rfl
theorem vL9S_ok (xs zs ls : List V) (hc : true = true) : Contract rE 4 [.agg [.sl 49 [.str, .int .i64, .int .i64, .int .i64, .int .i64, .int .i64, .int .i64, .int .i64, .int .i64, .int .i64, .str] none xs, .sl 36 [.str, .sl 47 [.int .i64, .int .i64, .int .i64, .str, .str, .bool, .int .i64, .int .i64, .int .i64, .int .i64, .int .i64, .int .i64, .int .i64]] none zs, .sl 39 [.str, .str] none ls]] (.bool (li9 xs zs ls)) := by
  refine contract_of_body rE_ok qvS3_ok 100 3 ?_
  rw [vL29_top, le_bn, le_bn]
  unfold li9
  cases h0 : li5 xs with
  | false => rfl
  | true =>
  cases h : ile (llen zs) 10 with
  | false => rfl
  | true =>
  cases h2 : ile (llen ls) 16 with
  | false => rfl
  | true =>
    have e := l29_0 100 (by omega) xs zs ls false zs xs zs ls (ll1 (k := 10) h) (ll1 (k := 16) h2) some zs.length 0 100 (by omega) (by have := ll1 (k := 10) h; omega)
    rw [c0] at e
    rw [sel_neg (show bnot true = false from rfl), sel_neg (show bnot true = false from rfl), sel_neg (show bnot true = false from rfl), e]; rfl
theorem qvS4_ok : SOk rE qvS4 := by
  unfold qvS4
  refine SOk.cons (fun args r h => ?_) (SOk.cons (fun args r h => ?_) (SOk.cons (fun args r h => ?_) (SOk.cons (fun args r h => ?_) (qvS3_ok))))
  · unfold vL9S at h
    split at h
    · simp only [Option.some.injEq, Prod.mk.injEq] at h
      obtain ⟨hc, rfl⟩ := h
      exact vL9S_ok _ _ _ rfl
    · cases h
  · unfold vSmS at h
    split at h
    · simp only [Option.some.injEq, Prod.mk.injEq] at h
      obtain ⟨hc, rfl⟩ := h
      exact vSmS_ok _ _ _ _ _ _ hc
    · cases h
  · unfold vSmS at h
    split at h
    · simp only [Option.some.injEq, Prod.mk.injEq] at h
      obtain ⟨hc, rfl⟩ := h
      exact vSmS_ok_noontideref24_Same _ _ _ _ _ _ hc
    · cases h
  · unfold vRgS at h
    split at h
    · simp only [Option.some.injEq, Prod.mk.injEq] at h
      obtain ⟨hc, rfl⟩ := h
      exact vRgS_ok _ _ _ hc
    · cases h
theorem lives_ev : Contract rE 5 [] (.bool true) := contract_of_body rE_ok qvS4_ok 20 3 (by kernel_rfl)
theorem vLvS_ok (hc : true = true) : Contract rE 5 [] (.bool true) := lives_ev
theorem qvS5_ok : SOk rE qvS5 := by
  unfold qvS5
  refine SOk.cons (fun args r h => ?_) (qvS4_ok)
  · unfold vLvS at h
    split at h
    · simp only [Option.some.injEq, Prod.mk.injEq] at h
      obtain ⟨hc, rfl⟩ := h
      exact vLvS_ok  rfl
    · cases h
theorem allI_get (p : V → Bool) (l : List V) : ∀ (k i : Nat), allI p l k i = true → ∀ j, i ≤ j → j < i + k → p (lget l (j : Int)) = true
  | 0, i, h, j, h1, h2 => by omega
  | k + 1, i, h, j, h1, h2 => by
    rw [allI_succ, Bool.and_eq_true] at h
    by_cases e : j = i
    · subst e; exact h.1
    · exact allI_get p l k (i + 1) h.2 j (by omega) (by omega)
theorem allI_mem {p : V → Bool} {l : List V} (h : allI p l l.length 0 = true) : ∀ x ∈ l, p x = true := by
  intro x hx
  obtain ⟨j, hj, rfl⟩ := List.mem_iff_getElem.1 hx
  have := allI_get p l l.length 0 h j (by omega) (by omega)
  rw [lget_nat, List.getD_eq_getElem?_getD, List.getElem?_eq_getElem hj] at this
  exact this
theorem bd {a b : Bool} (h1 : a = true) (h2 : b = true) : band a b = true := by rw [h1, h2]; rfl
theorem ft {a : Int} (h : Fits a) : band (ile (-9223372036854775808) a) (ile a 9223372036854775807) = true := by
  unfold Fits at h
  rw [band_iff, ile_iff, ile_iff]; omega
theorem l2 {s : List UInt8} (h : ile (slen s) 200 = true) : ile (slen s) 900 = true := by rw [ile_iff] at h ⊢; omega
theorem rgK_of {xs zs ls : List V} (h : li9 xs zs ls = true) (h1 : ∀ e ∈ xs, fitR e) (h2 : ∀ z ∈ zs, ∀ e ∈ asL (acell z 1), fitE e) : rgK xs zs ls = true ∧ e12 zs = true ∧ ile (llen xs) 1000 = true ∧ ile (llen ls) 1000 = true := by
  unfold li9 at h
  simp only [Bool.and_eq_true] at h
  obtain ⟨⟨a1, a2, a3⟩, a4, a5⟩ := h
  unfold li5 at a1
  rw [Bool.and_eq_true] at a1
  obtain ⟨b1, b2⟩ := a1
  have zz : ∀ z ∈ zs, (ile (llen (asL (acell z 1))) 12 = true ∧ gZ z = true) := by
    intro z hz
    have := allI_mem a4 z hz
    unfold liZ li8 at this
    rw [Bool.and_eq_true, Bool.and_eq_true] at this
    obtain ⟨c1, c2, c3⟩ := this
    refine ⟨c1, ?_⟩
    unfold gZ zoK
    refine bd (l2 c2) (bd c1 (List.all_eq_true.2 fun e he => ?_))
    have d := allI_mem c3 e he
    unfold liE at d
    rw [Bool.and_eq_true] at d
    obtain ⟨f1, f2, f3, f4⟩ := h2 z hz e he
    unfold gE
    exact bd (bd (l2 d.1) (l2 d.2)) (bd (bd (ft f1) (ft f2)) (bd (ft f3) (ft f4)))
  refine ⟨?_, ?_, ?_, ?_⟩
  · unfold rgK
    refine bd ?_ (bd ?_ (bd ?_ (bd (List.all_eq_true.2 fun e he => ?_) (List.all_eq_true.2 fun z hz => (zz z hz).2))))
    · rw [ile_iff] at b1 ⊢; omega
    · rw [ile_iff] at a2 ⊢; omega
    · rw [ile_iff] at a3 ⊢; omega
    · have d := allI_mem b2 e he
      unfold liR at d
      rw [Bool.and_eq_true] at d
      obtain ⟨f1, f2⟩ := h1 e he
      unfold gR
      exact bd (bd (l2 d.1) (l2 d.2)) (bd (ft f1) (ft f2))
  · unfold e12
    refine bd ?_ (List.all_eq_true.2 fun z hz => (zz z hz).1)
    rw [ile_iff] at a2 ⊢; omega
  · rw [ile_iff] at b1 ⊢; omega
  · rw [ile_iff] at a3 ⊢; omega
theorem rdr_all (x y z x2 y2 z2 : V) (t1 : tbL x y z = true) (t2 : tbL x2 y2 z2 = true) (h1 : ∀ e ∈ xsOf x, fitR e) (h2 : ∀ z ∈ xsOf y, ∀ e ∈ asL (acell z 1), fitE e) :
    Contract rE 3 [.agg [x, y, z], .agg [x2, y2, z2]] (.bool true) := by
  refine con_tb2 t1 t2 (contract_of_body rE_ok qvS5_ok 5 2 ?_)
  rw [vT_top]
  cases h : li9 (xsOf x) (xsOf y) (xsOf z) with
  | false => rfl
  | true =>
  cases h' : li9 (xsOf x2) (xsOf y2) (xsOf z2) with
  | false => rfl
  | true =>
  obtain ⟨k1, k2, k3, k4⟩ := rgK_of h h1 h2
  have s : seq (txT (xsOf x) (xsOf y) (xsOf z)) (txT (xsOf x) (xsOf y) (xsOf z)) = true := by rw [seq_iff]
  have i : ieq (txW (xsOf x) (xsOf y) (xsOf z)) (txW (xsOf x) (xsOf y) (xsOf z)) = true := ieq_t rfl
  have b : ∀ a : Bool, beq a a = true := fun a => by cases a <;> rfl
  rw [k1, k2, k3, k4, s, i, b, b]
  rfl
end Nt.Ev.YtjkfndcpiihniaaGreatDoor.Rx
