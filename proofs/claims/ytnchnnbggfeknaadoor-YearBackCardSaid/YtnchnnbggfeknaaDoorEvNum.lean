/-
  Numbers' digits and texts: the program's and the reference's.
-/
import Derived.Test.YtnchnnbggfeknaaDoorProg
import Derived.Test.YtnchnnbggfeknaaDoorEvLib
import Derived.Test.YtnchnnbggfeknaaDoorNumBackPlain
set_option linter.unusedVariables false
set_option linter.unusedSimpArgs false
namespace Go.Proofs.YtnchnnbggfeknaaDoor
open Go Nt Nt.Ev Nt.Num

noncomputable def nE : Env := ⟨Tryd.prog, fun _ => none⟩
theorem nE_ok : EOk nE := ⟨by kernel_rfl, by kernel_rfl⟩
def nS0 : List (Nat × FSpec) := []

/-- A number's digits, as a function of whole numbers. -/
def digsI (n : Int) : List UInt8 := digs n.toNat
def digitsB (l : List UInt8) : Bool := l.all isDigit && !l.isEmpty

def digitsR (n : Int) : FSpec := fun a => match a with | [.int .u64 m] => some (band (ile 0 m) (ilt m n), .str (digsI m)) | _ => none
def nSR (n : Int) : List (Nat × FSpec) := [(119, digitsR n)]

noncomputable def rDigits_L0 (F : Nat) (ns : List Nat) (n : Nat) (x0 : List UInt8) (x2 : Bool) (x3 : Int) (K : V → Option V) : Option V :=
  loopAt nE nS0 F 1 92 [1, 0, 1, 0] ns K n (mkSt 22 [(0, V.str x0), (2, V.bool x2), (3, V.int .i64 x3)] [])

set_option maxRecDepth 100000 in
theorem rDigits_top (F : Nat) (s : List UInt8) (K : V → Option V) :
    evBd nE (evFn nE nS0 F 1) F 92 [(V.str s)] K =
    rDigits_L0 F [] F s false 0 K := by kernel_rfl

set_option maxRecDepth 100000 in
theorem rDigits_L0_zero (F : Nat) (ns : List Nat) (x0 : List UInt8) (x2 : Bool) (x3 : Int) (K : V → Option V) : rDigits_L0 F ns 0 x0 x2 x3 K = none := by kernel_rfl
set_option maxRecDepth 100000 in
theorem rDigits_L0_succ (F : Nat) (n : Nat) (x0 : List UInt8) (x2 : Bool) (x3 : Int) (K : V → Option V) :
    rDigits_L0 F [] (n + 1) x0 x2 x3 K =
    sel (ilt x3 (slen x0))
      (sel (band (ile 0 x3) (ilt x3 (slen x0)))
        (sel (ilt (sat x0 x3) 48)
          (K (V.bool false))
          (sel (band (ile 0 x3) (ilt x3 (slen x0)))
            (sel (ilt 57 (sat x0 x3))
              (K (V.bool false))
              (rDigits_L0 F [] n x0 x2 (iadd .i64 x3 1) K))
            (none)))
        (none))
      (K (V.bool (bnot (seq x0 [])))) := by kernel_rfl

set_option maxRecDepth 100000 in
theorem rdigits_top (F : Nat) (nn : Int) (m : Int) (K : V → Option V) :
    evBd nE (evFn nE (nSR nn) F 1) F 119 [(V.int .u64 m)] K =
    sel (ilt m 10)
      (sel (band (band (ile 0 (iadd .u64 m 1)) (ile (iadd .u64 m 1) (slen [48, 49, 50, 51, 52, 53, 54, 55, 56, 57]))) (band (ile 0 m) (ile m (iadd .u64 m 1))))
        (K (V.str (ssub [48, 49, 50, 51, 52, 53, 54, 55, 56, 57] m (iadd .u64 m 1))))
        (none))
      (sel (band (ile 0 (iquo .u64 m 10)) (ilt (iquo .u64 m 10) nn))
        (sel (band (ile 0 (irem m 10)) (ilt (irem m 10) nn))
          (sel (okCat (digsI (iquo .u64 m 10)) (digsI (irem m 10)))
            (K (V.str (scat (digsI (iquo .u64 m 10)) (digsI (irem m 10)))))
            (none))
          (none))
        (none)) := by kernel_rfl


set_option maxRecDepth 100000 in
theorem rText_top (F : Nat) (nn : Int) (m : Int) (K : V → Option V) :
    evBd nE (evFn nE (nSR nn) F 1) F 76 [(V.int .i64 m)] K =
    sel (ilt m 0)
      (sel (band (ile 0 (iadd .u64 (icnv .u64 (isub .i64 0 (iadd .i64 m 1))) 1)) (ilt (iadd .u64 (icnv .u64 (isub .i64 0 (iadd .i64 m 1))) 1) nn))
        (sel (okCat [45] (digsI (iadd .u64 (icnv .u64 (isub .i64 0 (iadd .i64 m 1))) 1)))
          (K (V.str (scat [45] (digsI (iadd .u64 (icnv .u64 (isub .i64 0 (iadd .i64 m 1))) 1)))))
          (none))
        (none))
      (sel (band (ile 0 (icnv .u64 m)) (ilt (icnv .u64 m) nn))
        (K (V.str (digsI (icnv .u64 m))))
        (none)) := by kernel_rfl


set_option maxRecDepth 100000 in
theorem nfar_top (F : Nat) (m : Int) (K : V → Option V) :
    evBd nE (evFn nE nS0 F 1) F 118 [(V.int .i64 m)] K =
    sel (ilt m 0)
      (K (V.int .u64 (isub .u64 0 (icnv .u64 m))))
      (K (V.int .u64 (icnv .u64 m))) := by kernel_rfl

noncomputable def nText_L0 (F : Nat) (ns : List Nat) (n : Nat) (x0 : Int) (x3 : List V) (x4 : Int) (x5 : Int) (K : V → Option V) : Option V :=
  loopAt nE nS0 F 1 74 [1, 1, 1, 1, 1, 0, 0] ns K n (mkSt 35 [(0, V.int .i64 x0), (2, V.str []), (3, V.sl 5 [(Kd.int .u8)] (some 3) x3), (4, V.int .u64 x4), (5, V.int .u64 x5)] [])

noncomputable def nText_L1 (F : Nat) (ns : List Nat) (n : Nat) (x0 : Int) (x3 : List V) (x4 : Int) (x5 : Int) (K : V → Option V) : Option V :=
  loopAt nE nS0 F 1 74 [1, 1, 1, 1, 1, 1, 0, 0] ns K n (mkSt 35 [(0, V.int .i64 x0), (2, V.str []), (3, V.sl 5 [(Kd.int .u8)] (some 3) x3), (4, V.int .u64 x4), (5, V.int .u64 x5)] [])

set_option maxRecDepth 100000 in
theorem nText_top (F : Nat) (m : Int) (K : V → Option V) :
    evBd nE (evFn nE nS0 F 1) F 74 [(V.int .i64 m)] K =
    sel (ilt m 0)
      (sel (okApp (lrep 0 (V.int .u8 0)) [(V.int .u8 45)])
        (sel (ilt m 0)
          (nText_L0 F [] F m (lcat (lrep 0 (V.int .u8 0)) [(V.int .u8 45)]) (isub .u64 0 (icnv .u64 m)) 1 K)
          (nText_L0 F [] F m (lcat (lrep 0 (V.int .u8 0)) [(V.int .u8 45)]) (icnv .u64 m) 1 K))
        (none))
      (sel (ilt m 0)
        (nText_L0 F [] F m (lrep 0 (V.int .u8 0)) (isub .u64 0 (icnv .u64 m)) 1 K)
        (nText_L0 F [] F m (lrep 0 (V.int .u8 0)) (icnv .u64 m) 1 K)) := by kernel_rfl

set_option maxRecDepth 100000 in
theorem nText_L0_zero (F : Nat) (ns : List Nat) (x0 : Int) (x3 : List V) (x4 : Int) (x5 : Int) (K : V → Option V) : nText_L0 F ns 0 x0 x3 x4 x5 K = none := by kernel_rfl
set_option maxRecDepth 100000 in
theorem nText_L0_succ (F : Nat) (n : Nat) (x0 : Int) (x3 : List V) (x4 : Int) (x5 : Int) (K : V → Option V) :
    nText_L0 F [] (n + 1) x0 x3 x4 x5 K =
    sel (bnot (ieq x5 0))
      (sel (ile 10 (iquo .u64 x4 x5))
        (nText_L0 F [] n x0 x3 x4 (imul .u64 x5 10) K)
        (nText_L1 F [] F x0 x3 x4 x5 K))
      (none) := by kernel_rfl

set_option maxRecDepth 100000 in
theorem nText_L1_zero (F : Nat) (ns : List Nat) (x0 : Int) (x3 : List V) (x4 : Int) (x5 : Int) (K : V → Option V) : nText_L1 F ns 0 x0 x3 x4 x5 K = none := by kernel_rfl
set_option maxRecDepth 100000 in
theorem nText_L1_succ (F : Nat) (n : Nat) (x0 : Int) (x3 : List V) (x4 : Int) (x5 : Int) (K : V → Option V) :
    nText_L1 F [] (n + 1) x0 x3 x4 x5 K =
    sel (ilt 0 x5)
      (sel (bnot (ieq x5 0))
        (sel (okApp x3 [(V.int .u8 (icnv .u8 (iadd .u64 48 (irem (iquo .u64 x4 x5) 10))))])
          (nText_L1 F [] n x0 (lcat x3 [(V.int .u8 (icnv .u8 (iadd .u64 48 (irem (iquo .u64 x4 x5) 10))))]) x4 (iquo .u64 x5 10) K)
          (none))
        (none))
      (K (V.str (vbytes x3))) := by kernel_rfl



theorem isDigit_iff (c : UInt8) : isDigit c = true ↔ 48 ≤ c.toNat ∧ c.toNat ≤ 57 := by unfold isDigit; simp

theorem rDigits_loop (s : List UInt8) (hs : s.length ≤ 9223372036854775806) (F : Nat) (K : V → Option V) : ∀ (n k : Nat), k ≤ s.length → s.length - k < n → rDigits_L0 F [] n s false (k : Int) K = K (.bool ((s.drop k).all isDigit && !s.isEmpty)) := by
  intro n
  induction n with
  | zero => intro k _ h; omega
  | succ n ih =>
    intro k hk hn
    rw [rDigits_L0_succ]
    simp only [sel_if, ilt_iff, ile_iff, band_iff, slen_nat, sat_nat]
    by_cases hlt : k < s.length
    · rw [if_pos (by omega), if_pos (by omega)]
      have hd : s.drop k = s.getD k 0 :: s.drop (k + 1) := by
        rw [List.drop_eq_getElem_cons hlt, List.getD_eq_getElem?_getD, List.getElem?_eq_getElem hlt]; rfl
      rw [hd, List.all_cons]
      generalize s.getD k 0 = c
      have hc := c.toNat_lt
      by_cases h1 : c.toNat < 48
      · rw [if_pos (by omega)]
        have : isDigit c = false := by rw [Bool.eq_false_iff, ne_eq, isDigit_iff]; omega
        rw [this]; rfl
      · rw [if_neg (by omega), if_pos (by omega)]
        by_cases h2 : 57 < c.toNat
        · rw [if_pos (by omega)]
          have : isDigit c = false := by rw [Bool.eq_false_iff, ne_eq, isDigit_iff]; omega
          rw [this]; rfl
        · rw [if_neg (by omega), iadd64 (by omega)]
          have : isDigit c = true := by rw [isDigit_iff]; omega
          rw [this, Bool.true_and]
          exact ih (k + 1) (by omega) (by omega)
    · rw [if_neg (by omega)]
      have : s.drop k = [] := List.drop_of_length_le (by omega)
      rw [this, List.all_nil, Bool.true_and]
      cases s with
      | nil => rfl
      | cons a l => rfl

theorem rDigits_ev (s : List UInt8) (hs : s.length ≤ 9223372036854775806) : Contract nE 92 [.str s] (.bool (digitsB s)) := by
  refine contract_of_body nE_ok (S := nS0) SOk.nil (s.length + 1) 1 ?_
  rw [rDigits_top]
  have := rDigits_loop s hs (s.length + 1) some (s.length + 1) 0 (by omega) (by omega)
  rw [List.drop_zero] at this
  exact this

theorem rdigits_ev : ∀ (b : Nat) (m : Int), 0 ≤ m → m < b → m ≤ 18446744073709551615 → Contract nE 119 [.int .u64 m] (.str (digsI m)) := by
  intro b
  induction b with
  | zero => intro m h0 h1; omega
  | succ b ih =>
    intro m h0 h1 h2
    have hS : SOk nE (nSR (min b m)) := by
      refine SOk.cons (fun args r h => ?_) SOk.nil
      unfold digitsR at h
      split at h
      · rename_i k
        simp only [Option.some.injEq, Prod.mk.injEq] at h
        obtain ⟨hc, rfl⟩ := h
        rw [band_iff, ile_iff, ilt_iff] at hc
        exact ih k hc.1 (by omega) (by omega)
      · cases h
    refine contract_of_body nE_ok hS 0 1 ?_
    rw [rdigits_top]
    simp only [sel_if, ilt_iff, ile_iff, band_iff, okCat_iff]
    by_cases hm : m < 10
    · rw [if_pos hm, iaddu64 (by omega), if_pos (by have : slen [48, 49, 50, 51, 52, 53, 54, 55, 56, 57] = 10 := rfl; omega)]
      obtain ⟨k, rfl⟩ : ∃ k : Nat, m = k := ⟨m.toNat, by omega⟩
      have hd : digsI (k : Int) = [digit k] := by unfold digsI; rw [Int.toNat_natCast, digs_small k (by omega)]
      rw [hd]
      have : ∀ k : Fin 10, ssub [48, 49, 50, 51, 52, 53, 54, 55, 56, 57] ((k : Nat) : Int) ((k : Nat) + 1 : Int) = [digit k] := by decide
      exact congrArg (fun l => some (V.str l)) (this ⟨k, by omega⟩)
    · have hq : iquo .u64 m 10 = m / 10 := iquou64 h0 (by omega) h2
      have hr : irem m 10 = m % 10 := irem_pos h0
      rw [if_neg hm, hq, hr, if_pos (by omega), if_pos (by omega)]
      have hd : digsI m = digsI (m / 10) ++ digsI (m % 10) := by
        obtain ⟨k, rfl⟩ : ∃ k : Nat, m = k := ⟨m.toNat, by omega⟩
        unfold digsI
        have e1 : ((k : Int) / 10).toNat = k / 10 := by omega
        have e2 : ((k : Int) % 10).toNat = k % 10 := by omega
        rw [e1, e2, Int.toNat_natCast, digs_step k (by omega), digs_small (k % 10) (by omega)]
      have hb1 : (m / 10).toNat < 10 ^ 20 := by omega
      have hb2 : (m % 10).toNat < 10 ^ 20 := by omega
      have hl1 : (digsI (m / 10)).length ≤ 20 := (digs_len 20 _ hb1 (by decide)).1
      have hl2 : (digsI (m % 10)).length ≤ 20 := (digs_len 20 _ hb2 (by decide)).1
      rw [if_pos (by omega), hd]
      rfl

theorem rText_ev (m : Int) (h : Fits m) : Contract nE 76 [.int .i64 m] (.str (text m)) := by
  obtain ⟨h1, h2⟩ := h
  have hS : SOk nE (nSR 18446744073709551616) := by
    refine SOk.cons (fun args r h => ?_) SOk.nil
    unfold digitsR at h
    split at h
    · rename_i k
      simp only [Option.some.injEq, Prod.mk.injEq] at h
      obtain ⟨hc, rfl⟩ := h
      rw [band_iff, ile_iff, ilt_iff] at hc
      exact rdigits_ev (k.toNat + 1) k hc.1 (by omega) (by omega)
    · cases h
  refine contract_of_body nE_ok hS 0 1 ?_
  rw [rText_top]
  simp only [sel_if, ilt_iff, ile_iff, band_iff, okCat_iff]
  by_cases hm : m < 0
  · rw [if_pos hm, iadd64 (by omega), isub64 (by omega), icnvu64 (by omega), iaddu64 (by omega), if_pos (by omega)]
    have e1 : digsI (0 - (m + 1) + 1) = digs m.natAbs := by unfold digsI; congr 1; omega
    have hb : m.natAbs < 10 ^ 20 := by omega
    have hl : (digs m.natAbs).length ≤ 20 := (digs_len 20 _ hb (by decide)).1
    rw [e1, if_pos (by simp; omega)]
    unfold text scat
    rw [if_pos hm]
  · rw [if_neg hm, icnvu64 (by omega), if_pos (by omega)]
    unfold text
    rw [if_neg hm]
    have e1 : digsI m = digs m.natAbs := by unfold digsI; congr 1; omega
    rw [e1]
    rfl

theorem pow_le_u (u k : Nat) (h : u / 10 ^ k < 10) : u < 10 ^ (k + 1) := by
  rw [Nat.div_lt_iff_lt_mul (Nat.pow_pos (by decide))] at h
  rw [Nat.pow_succ]; omega

/-- The first loop: the greatest power of ten in the number. -/
theorem nText_up (m : Int) (x3 : List V) (F : Nat) (K : V → Option V) (u : Nat) (hu : u ≤ 9223372036854775808) : ∀ (n k : Nat), (k = 0 ∨ 10 ^ k ≤ u) → 20 < n + k →
    ∃ j, (j = 0 ∨ 10 ^ j ≤ u) ∧ u / 10 ^ j < 10 ∧ nText_L0 F [] n m x3 (u : Int) ((10 ^ k : Nat) : Int) K = nText_L1 F [] F m x3 (u : Int) ((10 ^ j : Nat) : Int) K := by
  intro n
  induction n with
  | zero =>
    intro k hk hn
    exfalso
    have h1 : 10 ^ 21 ≤ 10 ^ k := Nat.pow_le_pow_right (by decide) (by omega)
    rcases hk with rfl | hk <;> omega
  | succ n ih =>
    intro k hk hn
    have hp : 0 < 10 ^ k := Nat.pow_pos (by decide)
    have hple : 10 ^ k ≤ 9223372036854775808 := by
      rcases hk with rfl | hk
      · decide
      · omega
    rw [nText_L0_succ]
    simp only [sel_if, bnot_iff, ieq_iff, ile_iff]
    rw [if_pos (by omega)]
    have hq : iquo .u64 (u : Int) ((10 ^ k : Nat) : Int) = ((u / 10 ^ k : Nat) : Int) := by
      rw [iquou64 (by omega) (by omega) (by omega)]; rfl
    rw [hq]
    by_cases h10 : 10 ≤ u / 10 ^ k
    · rw [if_pos (by omega)]
      have h1 : 10 ^ (k + 1) ≤ u := by
        rw [Nat.le_div_iff_mul_le hp] at h10
        rw [Nat.pow_succ]; omega
      have hm : imul .u64 ((10 ^ k : Nat) : Int) 10 = ((10 ^ (k + 1) : Nat) : Int) := by
        rw [imulu64 (by rw [Nat.pow_succ] at h1; omega), Nat.pow_succ]; omega
      rw [hm]
      exact ih (k + 1) (.inr h1) (by omega)
    · rw [if_neg (by omega)]
      exact ⟨k, hk, by omega, rfl⟩

theorem lcat_map (l : List UInt8) (c : UInt8) : lcat (bytesV l) [V.int .u8 (c.toNat : Int)] = bytesV (l ++ [c]) := by unfold lcat bytesV; simp
theorem vbytes_map (l : List UInt8) : vbytes (bytesV l) = l := by
  unfold vbytes bytesV
  rw [List.map_map]
  conv => rhs; rw [← List.map_id l]
  refine List.map_congr_left fun c _ => ?_
  show UInt8.ofNat ((c.toNat : Int)).toNat = c
  simp

/-- The second loop: the digits from the greatest down. -/
theorem nText_down (m : Int) (F : Nat) (K : V → Option V) (u k : Nat) (hu : u ≤ 9223372036854775808) (hk : u / 10 ^ k < 10) (hl : k = 0 ∨ 10 ^ k ≤ u) (pre : List UInt8) (hpre : pre.length ≤ 1) :
    ∀ (j n : Nat), j ≤ k → j + 1 < n → nText_L1 F [] n m (bytesV (pre ++ Num.ahead u k (j + 1))) (u : Int) ((10 ^ j : Nat) : Int) K = K (.str (pre ++ digs u)) := by
  have hk20 : k ≤ 20 := by
    rcases Nat.lt_or_ge 20 k with h | h
    · exfalso
      have h1 : 10 ^ 21 ≤ 10 ^ k := Nat.pow_le_pow_right (by decide) (by omega)
      rcases hl with rfl | hl <;> omega
    · exact h
  have step : ∀ (j n : Nat), j ≤ k → nText_L1 F [] (n + 1) m (bytesV (pre ++ Num.ahead u k (j + 1))) (u : Int) ((10 ^ j : Nat) : Int) K = nText_L1 F [] n m (bytesV (pre ++ Num.ahead u k j)) (u : Int) ((10 ^ j / 10 : Nat) : Int) K := by
    intro j n hj
    have hp : 0 < 10 ^ j := Nat.pow_pos (by decide)
    have hple : 10 ^ j ≤ 9223372036854775808 := by
      rcases hl with rfl | hl
      · obtain rfl : j = 0 := by omega
        decide
      · exact Nat.le_trans (Nat.le_trans (Nat.pow_le_pow_right (by decide) hj) hl) hu
    rw [nText_L1_succ]
    simp only [sel_if, bnot_iff, ieq_iff, ilt_iff, okApp_iff]
    have hlen : (bytesV (pre ++ Num.ahead u k (j + 1))).length ≤ 100 := by
      unfold bytesV
      rw [List.length_map, List.length_append]
      have : (Num.ahead u k (j + 1)).length ≤ 20 := by
        unfold Num.ahead
        split
        · refine (digs_len 20 _ ?_ (by decide)).1
          have := Nat.div_le_self u (10 ^ (j + 1))
          omega
        · simp
      omega
    rw [if_pos (by omega), if_pos (by omega), if_pos (by simp; omega)]
    have hq : iquo .u64 (u : Int) ((10 ^ j : Nat) : Int) = ((u / 10 ^ j : Nat) : Int) := by
      rw [iquou64 (by omega) (by omega) (by omega)]; rfl
    have hr : irem ((u / 10 ^ j : Nat) : Int) 10 = ((u / 10 ^ j % 10 : Nat) : Int) := by rw [irem_pos (Int.natCast_nonneg _)]; rfl
    have hd := digit_toNat (u / 10 ^ j % 10) (Nat.mod_lt _ (by decide))
    have hc : icnv .u8 (iadd .u64 48 ((u / 10 ^ j % 10 : Nat) : Int)) = ((digit (u / 10 ^ j % 10)).toNat : Int) := by
      have hm := Nat.mod_lt (u / 10 ^ j) (show 0 < 10 by decide)
      rw [iaddu64 (by omega), icnvu8 (by omega), hd]; omega
    have hq2 : iquo .u64 ((10 ^ j : Nat) : Int) 10 = ((10 ^ j / 10 : Nat) : Int) := by
      rw [iquou64 (by omega) (by omega) (by omega)]; rfl
    rw [hq, hr, hc, hq2, lcat_map, List.append_assoc, ← ahead_step u k j hk hl hj]
  intro j
  induction j with
  | zero =>
    intro n hj hn
    obtain ⟨n, rfl⟩ : ∃ n', n = n' + 1 := ⟨n - 1, by omega⟩
    rw [step 0 n hj, ahead_all]
    obtain ⟨n, rfl⟩ : ∃ n', n = n' + 1 := ⟨n - 1, by omega⟩
    rw [nText_L1_succ]
    simp only [sel_if, ilt_iff]
    rw [if_neg (by decide), vbytes_map]
  | succ j ih =>
    intro n hj hn
    obtain ⟨n, rfl⟩ : ∃ n', n = n' + 1 := ⟨n - 1, by omega⟩
    have e1 : 10 ^ (j + 1) / 10 = 10 ^ j := by rw [Nat.pow_succ]; omega
    rw [step (j + 1) n hj, e1]
    exact ih n (by omega) (by omega)

theorem nText_ev (m : Int) (h : Fits m) : Contract nE 74 [.int .i64 m] (.str (text m)) := by
  obtain ⟨h1, h2⟩ := h
  refine contract_of_body nE_ok (S := nS0) SOk.nil 30 1 ?_
  rw [nText_top]
  simp only [sel_if, ilt_iff, okApp_iff]
  have both : ∀ (pre : List UInt8) (u : Nat), pre.length ≤ 1 → u ≤ 9223372036854775808 → nText_L0 30 [] 30 m (bytesV pre) (u : Int) 1 some = some (.str (pre ++ digs u)) := by
    intro pre u hp hu
    obtain ⟨j, hj1, hj2, hj⟩ := nText_up m (bytesV pre) 30 some u hu 30 0 (.inl rfl) (by omega)
    have hj20 : j ≤ 20 := by
      rcases Nat.lt_or_ge 20 j with h | h
      · exfalso
        have h1 : 10 ^ 21 ≤ 10 ^ j := Nat.pow_le_pow_right (by decide) (by omega)
        rcases hj1 with rfl | hl <;> omega
      · exact h
    have hd := nText_down m 30 some u j hu hj2 hj1 pre hp j 30 (Nat.le_refl _) (by omega)
    have e1 : Num.ahead u j (j + 1) = [] := by unfold Num.ahead; rw [if_neg (by omega)]
    rw [e1, List.append_nil] at hd
    rw [← hd, ← hj]
    rfl
  have e0 : lrep 0 (V.int .u8 0) = bytesV [] := rfl
  have e45 : lcat (bytesV []) [V.int .u8 45] = bytesV [45] := rfl
  rw [e0, e45]
  unfold text
  by_cases hm : m < 0
  · rw [if_pos hm, if_pos (by decide), if_pos hm, if_pos hm]
    have e1 : isub .u64 0 (icnv .u64 m) = ((m.natAbs : Nat) : Int) := by
      unfold isub icnv
      rw [IntKind.wrap_u64, IntKind.wrap_u64]
      omega
    rw [e1]
    exact both [45] m.natAbs (by simp) (by omega)
  · rw [if_neg hm, if_neg hm, if_neg hm]
    have e1 : icnv .u64 m = ((m.natAbs : Nat) : Int) := by rw [icnvu64 (by omega)]; omega
    rw [e1]
    exact both [] m.natAbs (by simp) (by omega)
end Go.Proofs.YtnchnnbggfeknaaDoor
