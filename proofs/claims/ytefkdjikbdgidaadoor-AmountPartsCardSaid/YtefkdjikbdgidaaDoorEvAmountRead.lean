/-
  Amounts: how they are read, by the program and by the document.
-/
import Derived.Test.YtefkdjikbdgidaaDoorEvAmountText
set_option linter.unusedVariables false
set_option linter.unusedSimpArgs false
set_option linter.unusedSectionVars false
namespace Nt.Ev.YtefkdjikbdgidaaDoor
open Go Nt.Num Go.Proofs.YtefkdjikbdgidaaDoor
variable [MLen]

noncomputable def tblV : List V := [(V.agg [(V.int .i64 1), (V.int .i64 3), (V.int .i64 3600)]), (V.agg [(V.int .i64 2), (V.int .i64 2), (V.int .i64 60)]), (V.agg [(V.int .i64 2), (V.int .i64 2), (V.int .i64 1)])]
theorem tbl_fold : [(V.agg [(V.int .i64 1), (V.int .i64 3), (V.int .i64 3600)]), (V.agg [(V.int .i64 2), (V.int .i64 2), (V.int .i64 60)]), (V.agg [(V.int .i64 2), (V.int .i64 2), (V.int .i64 1)])] = tblV := rfl
theorem tbl_at : ∀ k : Nat, k < 3 → asInt (acell (lget tblV (k : Int)) 0) = (Amount.least k : Int) ∧ asInt (acell (lget tblV (k : Int)) 1) = (Amount.most k : Int) ∧ asInt (acell (lget tblV (k : Int)) 2) = (Amount.unit k : Int)
  | 0, _ => ⟨rfl, rfl, rfl⟩
  | 1, _ => ⟨rfl, rfl, rfl⟩
  | 2, _ => ⟨rfl, rfl, rfl⟩
  | n + 3, h => by omega
noncomputable def unitsV : List V := [(V.int .i64 3600), (V.int .i64 60), (V.int .i64 1)]
theorem units_fold : [(V.int .i64 3600), (V.int .i64 60), (V.int .i64 1)] = unitsV := rfl
theorem units_len : llen unitsV = 3 := rfl
theorem units_at : ∀ k : Nat, k < 3 → asInt (acell (lget unitsV (k : Int)) 0) = (Amount.unit k : Int)
  | 0, _ => rfl
  | 1, _ => rfl
  | 2, _ => rfl
  | n + 3, h => by omega
theorem str_at (P : List (List UInt8)) (k : Nat) (hk : k < P.length) : asStr (acell (lget (strsV P) (k : Int)) 0) = P.getD k [] := by
  unfold strsV
  rw [lget_nat, List.getD_eq_getElem?_getD, List.getElem?_map, List.getElem?_eq_getElem hk, List.getD_eq_getElem?_getD, List.getElem?_eq_getElem hk]
  rfl
theorem pok_nat (s : List UInt8) (l m : Nat) : pok s (l : Int) (m : Int) = Amount.ok s l m := by
  unfold pok Amount.ok
  congr 2
  · apply decide_eq_decide.2; omega
  · apply decide_eq_decide.2; omega
theorem partB_nat (s : List UInt8) (l m : Nat) : partB s (l : Int) (m : Int) = Amount.ok s l m := pok_nat s l m
theorem partI_nat {s : List UInt8} {l m : Nat} (h : Amount.ok s l m = true) : partI s (l : Int) (m : Int) = (val s : Int) := by unfold partI; rw [pok_nat, if_pos h]
theorem ok_val {s : List UInt8} {l m : Nat} (hm : m ≤ 3) (h : Amount.ok s l m = true) : val s ≤ 999 := by
  unfold Amount.ok at h
  rw [Bool.and_eq_true, Bool.and_eq_true, decide_eq_true_eq, decide_eq_true_eq] at h
  have h3 := val_lt s h.2 s.length
  rw [List.take_length] at h3
  have h4 : 10 ^ s.length ≤ 10 ^ 3 := Nat.pow_le_pow_right (by decide) (by omega)
  omega
theorem most_le (k : Nat) : Amount.most k ≤ 3 ∧ 1 ≤ Amount.least k ∧ Amount.unit k ≤ 3600 := by
  unfold Amount.most Amount.least Amount.unit
  split <;> (try split) <;> omega

def toldV (P : List (List UInt8)) (below : Bool) : V := .tup [.int .i64 (Amount.told P below).1, .int .i64 (Amount.told P below).2]
theorem told_bad {P : List (List UInt8)} {b : Bool} {k : Nat} (hk : k < P.length) (h : ¬ Amount.ok (P.getD k []) (Amount.least k) (Amount.most k) = true) : Amount.told P b = (0, 2) := by
  have : Amount.goodK P P.length = false := by
    rw [Bool.eq_false_iff]
    intro hg
    have := Amount.goodK_le P (k + 1) P.length hk hg
    unfold Amount.goodK at this
    rw [Bool.and_eq_true] at this
    exact h this.2
  unfold Amount.told
  rw [this]; simp

theorem aread_loop (F : Nat) (K : V → Option V) (s rest : List UInt8) (x2 x3 : Int) (x6 : List V) (below : Bool) (P : List (List UInt8)) (hP : P.length ≤ 3) : ∀ (n k : Nat), k ≤ P.length → P.length - k < n →
    Amount.goodK P k = true → Amount.sumK P k ≤ k * 3596400 →
    aread_L0 F [] n s x2 x3 rest below x6 (if Amount.fitsK P k then 0 else 1) (Amount.sumK P k : Int) (strsV P) (P.length : Int) (k : Int) K = K (toldV P below) := by
  intro n
  induction n with
  | zero => intro k _ h; omega
  | succ n ih =>
    intro k hk hn hg hs
    rw [aread_L0_succ]
    by_cases he : k = P.length
    · subst he
      simp only [sel_if, ilt_iff, ile_iff, ieq_iff, bnot_iff]
      rw [if_neg (by omega)]
      unfold toldV Amount.told
      rw [decide_eq_false (by omega : ¬ 3 < P.length), hg]
      by_cases hf : Amount.fitsK P P.length = true
      · rw [if_pos hf, if_neg (by omega), hf]
        by_cases h6 : 604800 ≤ Amount.sumK P P.length
        · rw [if_pos (by omega), decide_eq_true h6]; rfl
        · rw [if_neg (by omega), decide_eq_false h6]
          cases below with
          | true =>
            rw [if_pos rfl, isub64 (by omega)]
            simp
          | false => rw [if_neg (by simp)]; rfl
      · rw [if_neg hf, if_pos (by omega), Bool.eq_false_iff.2 hf]; rfl
    · have hlt : k < P.length := by omega
      have hl : (strsV P).length = P.length := strsV_len P
      obtain ⟨t0, t1, t2⟩ := tbl_at k (by omega)
      obtain ⟨m1, m2, m3⟩ := most_le k
      simp only [tbl_fold, t0, t1, t2, str_at P k hlt, partB_nat]
      rw [sel_pos (ilt_t (by omega)), sel_pos (by rw [band_iff]; exact ⟨ile_t (by omega), ilt_t (by rw [llen_nat, hl]; omega)⟩), sel_pos (by rw [band_iff]; exact ⟨ile_t (by omega), ilt_t (by omega)⟩), sel_pos (by rw [band_iff]; exact ⟨ile_t (by omega), ile_t (by omega)⟩)]
      by_cases hok : Amount.ok (P.getD k []) (Amount.least k) (Amount.most k) = true
      · have hv := ok_val m1 hok
        simp only [partI_nat hok]
        rw [sel_neg (by rw [hok]; rfl)]
        have hmul : val (P.getD k []) * Amount.unit k ≤ 999 * 3600 := Nat.mul_le_mul hv m3
        have e1 : iadd .i64 (k : Int) 1 = ((k + 1 : Nat) : Int) := by rw [iadd64 (by omega)]; rfl
        have e2 : iadd .i64 (Amount.sumK P k : Int) (imul .i64 (val (P.getD k []) : Int) (Amount.unit k : Int)) = ((Amount.sumK P (k + 1) : Nat) : Int) := by
          have e3 : (val (P.getD k []) : Int) * (Amount.unit k : Int) = ((val (P.getD k []) * Amount.unit k : Nat) : Int) := by rw [Int.natCast_mul]
          rw [imul64 (by rw [e3]; omega), e3, iadd64 (by omega)]
          show _ = ((Amount.sumK P k + val (P.getD k []) * Amount.unit k : Nat) : Int)
          omega
        have hg1 : Amount.goodK P (k + 1) = true := by unfold Amount.goodK; rw [hg, hok]; rfl
        have hs1 : Amount.sumK P (k + 1) ≤ (k + 1) * 3596400 := by
          show Amount.sumK P k + val (P.getD k []) * Amount.unit k ≤ _
          omega
        have hnext := ih (k + 1) (by omega) (by omega) hg1 hs1
        have hb3 : band (ile 0 (k : Int)) (ilt (k : Int) 3) = true := by rw [band_iff]; exact ⟨ile_t (by omega), ilt_t (by omega)⟩
        rw [e1, e2]
        by_cases hk0 : k = 0
        · rw [sel_neg (ilt_f (by omega)), sel_pos hb3]
          have : Amount.fitsK P (k + 1) = Amount.fitsK P k := by
            show (Amount.fitsK P k && (decide (k = 0) || _)) = _
            rw [decide_eq_true hk0]; simp
          rw [← this]
          exact hnext
        · rw [sel_pos (ilt_t (by omega))]
          by_cases h60 : 60 ≤ val (P.getD k [])
          · rw [sel_pos (ile_t (by omega)), sel_pos hb3]
            have : Amount.fitsK P (k + 1) = false := by
              show (Amount.fitsK P k && (decide (k = 0) || decide (val (P.getD k []) ≤ 59))) = _
              rw [decide_eq_false hk0, decide_eq_false (by omega)]; simp
            rw [this] at hnext
            exact hnext
          · rw [sel_neg (ile_f (by omega)), sel_pos hb3]
            have : Amount.fitsK P (k + 1) = Amount.fitsK P k := by
              show (Amount.fitsK P k && (decide (k = 0) || decide (val (P.getD k []) ≤ 59))) = _
              rw [decide_eq_false hk0, decide_eq_true (by omega)]; simp
            rw [← this]
            exact hnext
      · rw [sel_pos (by rw [bnot_iff]; exact hok)]
        unfold toldV
        rw [told_bad hlt hok]

theorem rread_loop (F : Nat) (K : V → Option V) (s d : List UInt8) (x2 x3 : Int) (x5 : List V) (hd : d.length ≤ s.length) (P : List (List UInt8)) (hP : P.length ≤ 3) : ∀ (n k : Nat), k ≤ P.length → P.length - k < n →
    Amount.goodK P k = true → Amount.sumK P k ≤ k * 3596400 →
    rread_L0 F [] n s x2 x3 d x5 (Amount.sumK P k : Int) (Amount.fitsK P k) (strsV P) (P.length : Int) (k : Int) K = K (toldV P (decide (d.length < s.length))) := by
  intro n
  induction n with
  | zero => intro k _ h; omega
  | succ n ih =>
    intro k hk hn hg hs
    rw [rread_L0_succ]
    by_cases he : k = P.length
    · subst he
      simp only [sel_if, ilt_iff, ile_iff, ieq_iff, bnot_iff, slen_nat]
      rw [if_neg (by omega)]
      unfold toldV Amount.told
      rw [decide_eq_false (by omega : ¬ 3 < P.length), hg]
      by_cases hf : Amount.fitsK P P.length = true
      · rw [if_neg (by rw [hf]; simp), hf]
        by_cases h6 : 604800 ≤ Amount.sumK P P.length
        · rw [if_pos (by omega), decide_eq_true h6]; rfl
        · rw [if_neg (by omega), decide_eq_false h6]
          by_cases hb : d.length < s.length
          · rw [if_pos (by omega), isub64 (by omega), decide_eq_true hb]
            simp
          · rw [if_neg (by omega), decide_eq_false hb]; rfl
      · rw [if_pos hf, Bool.eq_false_iff.2 hf]; rfl
    · have hlt : k < P.length := by omega
      have hl : (strsV P).length = P.length := strsV_len P
      obtain ⟨m1, m2, m3⟩ := most_le k
      simp only [units_fold, units_len, units_at k (by omega), str_at P k hlt]
      rw [sel_pos (ilt_t (by omega)), sel_pos (by rw [band_iff]; exact ⟨ile_t (by omega), ilt_t (by rw [llen_nat, hl]; omega)⟩)]
      have hb3 : band (ile 0 (k : Int)) (ilt (k : Int) 3) = true := by rw [band_iff]; exact ⟨ile_t (by omega), ilt_t (by omega)⟩
      have both : ∀ (l m : Nat), l = Amount.least k → m = Amount.most k → sel (band (ile 1 (l : Int)) (ile (m : Int) 3))
            (sel (bnot (partB (P.getD k []) (l : Int) (m : Int)))
              (K (V.tup [(V.int .i64 0), (V.int .i64 2)]))
              (sel (Amount.fitsK P k)
                (sel (ieq (k : Int) 0)
                  (sel (band (ile 0 (k : Int)) (ilt (k : Int) 3))
                    (rread_L0 F [] n s x2 x3 d x5 (iadd .i64 (Amount.sumK P k : Int) (imul .i64 (partI (P.getD k []) (l : Int) (m : Int)) (Amount.unit k : Int))) true (strsV P) (P.length : Int) (iadd .i64 (k : Int) 1) K)
                    (none))
                  (sel (band (ile 0 (k : Int)) (ilt (k : Int) 3))
                    (rread_L0 F [] n s x2 x3 d x5 (iadd .i64 (Amount.sumK P k : Int) (imul .i64 (partI (P.getD k []) (l : Int) (m : Int)) (Amount.unit k : Int))) (ile (partI (P.getD k []) (l : Int) (m : Int)) 59) (strsV P) (P.length : Int) (iadd .i64 (k : Int) 1) K)
                    (none)))
                (sel (band (ile 0 (k : Int)) (ilt (k : Int) 3))
                  (rread_L0 F [] n s x2 x3 d x5 (iadd .i64 (Amount.sumK P k : Int) (imul .i64 (partI (P.getD k []) (l : Int) (m : Int)) (Amount.unit k : Int))) false (strsV P) (P.length : Int) (iadd .i64 (k : Int) 1) K)
                  (none))))
            (none) = K (toldV P (decide (d.length < s.length))) := by
        rintro l m rfl rfl
        rw [sel_pos (by rw [band_iff]; exact ⟨ile_t (by omega), ile_t (by omega)⟩), partB_nat]
        by_cases hok : Amount.ok (P.getD k []) (Amount.least k) (Amount.most k) = true
        · have hv := ok_val m1 hok
          simp only [partI_nat hok]
          rw [sel_neg (by rw [hok]; rfl)]
          have hmul : val (P.getD k []) * Amount.unit k ≤ 999 * 3600 := Nat.mul_le_mul hv m3
          have e1 : iadd .i64 (k : Int) 1 = ((k + 1 : Nat) : Int) := by rw [iadd64 (by omega)]; rfl
          have e2 : iadd .i64 (Amount.sumK P k : Int) (imul .i64 (val (P.getD k []) : Int) (Amount.unit k : Int)) = ((Amount.sumK P (k + 1) : Nat) : Int) := by
            have e3 : (val (P.getD k []) : Int) * (Amount.unit k : Int) = ((val (P.getD k []) * Amount.unit k : Nat) : Int) := by rw [Int.natCast_mul]
            rw [imul64 (by rw [e3]; omega), e3, iadd64 (by omega)]
            show _ = ((Amount.sumK P k + val (P.getD k []) * Amount.unit k : Nat) : Int)
            omega
          have hg1 : Amount.goodK P (k + 1) = true := by unfold Amount.goodK; rw [hg, hok]; rfl
          have hs1 : Amount.sumK P (k + 1) ≤ (k + 1) * 3596400 := by
            show Amount.sumK P k + val (P.getD k []) * Amount.unit k ≤ _
            omega
          have hnext := ih (k + 1) (by omega) (by omega) hg1 hs1
          have hfit : Amount.fitsK P (k + 1) = (Amount.fitsK P k && (decide (k = 0) || decide (val (P.getD k []) ≤ 59))) := rfl
          rw [e1, e2]
          by_cases hf : Amount.fitsK P k = true
          · rw [sel_pos hf]
            rw [hf, Bool.true_and] at hfit
            by_cases hk0 : k = 0
            · rw [sel_pos (ieq_t (by omega)), sel_pos hb3]
              rw [hfit, decide_eq_true hk0, Bool.true_or] at hnext
              exact hnext
            · rw [sel_neg (ieq_f (by omega)), sel_pos hb3]
              rw [hfit, decide_eq_false hk0, Bool.false_or] at hnext
              have : ile (val (P.getD k []) : Int) 59 = decide (val (P.getD k []) ≤ 59) := by
                unfold ile
                apply decide_eq_decide.2; omega
              rw [this]
              exact hnext
          · rw [sel_neg (Bool.eq_false_iff.2 hf), sel_pos hb3]
            rw [hfit, Bool.eq_false_iff.2 hf, Bool.false_and] at hnext
            exact hnext
        · rw [sel_pos (by rw [bnot_iff]; exact hok)]
          unfold toldV
          rw [told_bad hlt hok]
      by_cases hk0 : k = 0
      · rw [sel_pos (ieq_t (by omega))]
        have h := both 1 3 (by rw [hk0]; rfl) (by rw [hk0]; rfl)
        exact h
      · rw [sel_neg (ieq_f (by omega))]
        have h := both 2 2 (by unfold Amount.least; rw [if_neg hk0]) (by unfold Amount.most; rw [if_neg hk0])
        exact h

def readV (s : List UInt8) : V := .tup [.int .i64 (Amount.read s).1, .int .i64 (Amount.read s).2]

theorem bS_ok : SOk aE bS := by
  unfold bS
  refine SOk.cons (fun args r h => ?_) (SOk.cons (fun args r h => ?_) (SOk.cons (fun args r h => ?_) aS_ok))
  · unfold cutS at h
    split at h
    · simp only [Option.some.injEq, Prod.mk.injEq] at h
      obtain ⟨hc, rfl⟩ := h
      rw [ile_iff, slen_nat] at hc
      rename_i s
      exact fun G w vs h1 h2 h3 => cut_ev s (by omega) G w vs h1 h2 h3
    · cases h
  · unfold partS at h
    split at h
    · simp only [Option.some.injEq, Prod.mk.injEq] at h
      obtain ⟨hc, rfl⟩ := h
      rw [band_iff, ile_iff, ile_iff] at hc
      exact rpart_ev _ _ _ hc.1 hc.2
    · cases h
  · unfold readS at h
    split at h
    · simp only [Option.some.injEq, Prod.mk.injEq] at h
      obtain ⟨hc, rfl⟩ := h
      rw [band_iff, ile_iff, ile_iff] at hc
      exact apart_ev _ _ _ _ hc.1 hc.2
    · cases h

theorem told_many {P : List (List UInt8)} {b : Bool} (h : 3 < P.length) : Amount.told P b = (0, 2) := by
  unfold Amount.told
  rw [decide_eq_true h]; rfl

theorem pieces_llen (s : List UInt8) : llen (piecesV s) = ((Amount.pieces s).length : Int) := by unfold llen piecesV; rw [strsV_len]

theorem aread_ev (s : List UInt8) (hs : s.length ≤ 1000) : Contract aE 24 [.str s] (readV s) := by
  refine contract_of_body aE_ok bS_ok 5 3 ?_
  rw [aread_top]
  have rest : ∀ (d : List UInt8) (below : Bool), d.length ≤ 1000 → sel (band (seq [58] [58]) (ile (slen d) 1000))
        (sel (ilt 3 (llen (piecesV d)))
          (some (V.tup [(V.int .i64 0), (V.int .i64 2)]))
          (aread_L0 5 [] 5 s 0 0 d below (piecesV d) 0 0 (piecesV d) (llen (piecesV d)) 0 some))
        (none) = some (toldV (Amount.pieces d) below) := by
    intro d below hd
    rw [sel_pos (by rw [band_iff]; exact ⟨rfl, ile_t (by rw [slen_nat]; omega)⟩), pieces_llen]
    by_cases h3 : 3 < (Amount.pieces d).length
    · rw [sel_pos (ilt_t (by omega))]
      unfold toldV
      rw [told_many h3]
    · rw [sel_neg (ilt_f (by omega))]
      exact aread_loop 5 some s d 0 0 (piecesV d) below (Amount.pieces d) (by omega) 5 0 (by omega) (by omega) rfl (by show 0 ≤ _; omega)
  cases s with
  | nil =>
    rw [sel_neg (ile_f (by decide))]
    exact rest [] false (by simp)
  | cons c t =>
    have hlen : slen (c :: t) = (t.length : Int) + 1 := by rw [slen_nat, List.length_cons]; omega
    have e1 : ssub (c :: t) 0 (slen [45]) = [c] := rfl
    have e2 : ssub (c :: t) (slen [45]) (slen (c :: t)) = t := by
      rw [show slen [45] = ((1 : Nat) : Int) from rfl, slen_nat, ssub_nat]
      simp
    have h45 : slen [45] = 1 := rfl
    rw [e1, e2, sel_pos (ile_t (by rw [h45, hlen]; omega)), sel_pos (by rw [band_iff]; exact ⟨by decide, ile_t (by rw [h45, hlen]; omega)⟩)]
    by_cases hc : c = 45
    · subst hc
      rw [sel_neg (by decide), sel_pos (by rw [band_iff]; exact ⟨by decide, ile_t (by rw [h45, hlen]; omega)⟩)]
      by_cases ht : t = []
      · subst ht
        rw [sel_pos (by decide)]
        rfl
      · rw [sel_neg (by rw [Bool.eq_false_iff, ne_eq, seq_iff]; exact ht), rest t true (by simp at hs; omega)]
        unfold readV Amount.read
        rw [if_neg (by simpa using ht)]
        rfl
    · rw [sel_pos (by rw [bnot_iff, seq_iff]; simpa using hc), rest (c :: t) false hs]
      have hm : minus (c :: t) = false := by unfold minus; simpa using hc
      unfold readV Amount.read bare
      rw [if_neg (by simp [hc]), hm]
      rfl

theorem rread_ev (s : List UInt8) (hs : s.length ≤ 1000) : Contract aE 25 [.str s] (readV s) := by
  refine contract_of_body aE_ok bS_ok 5 2 ?_
  rw [rread_top]
  have rest : ∀ (d : List UInt8), d.length ≤ s.length → sel (ile (slen d) 1000)
        (sel (ilt 3 (llen (piecesV d)))
          (some (V.tup [(V.int .i64 0), (V.int .i64 2)]))
          (rread_L0 5 [] 5 s 0 0 d (piecesV d) 0 true (piecesV d) (llen (piecesV d)) 0 some))
        (none) = some (toldV (Amount.pieces d) (decide (d.length < s.length))) := by
    intro d hd
    rw [sel_pos (ile_t (by rw [slen_nat]; omega)), pieces_llen]
    by_cases h3 : 3 < (Amount.pieces d).length
    · rw [sel_pos (ilt_t (by omega))]
      unfold toldV
      rw [told_many h3]
    · rw [sel_neg (ilt_f (by omega))]
      exact rread_loop 5 some s d 0 0 (piecesV d) hd (Amount.pieces d) (by omega) 5 0 (by omega) (by omega) rfl (by show 0 ≤ _; omega)
  unfold readV Amount.read
  by_cases hm : s = [45]
  · subst hm
    rw [sel_pos (by decide)]
    rfl
  · rw [sel_neg (by rw [Bool.eq_false_iff, ne_eq, seq_iff]; exact hm), if_neg hm]
    cases s with
    | nil =>
      rw [sel_neg (ilt_f (by decide))]
      exact rest [] (by simp)
    | cons c t =>
      have hlen : slen (c :: t) = (t.length : Int) + 1 := by rw [slen_nat, List.length_cons]; omega
      have e2 : ssub (c :: t) 1 (slen (c :: t)) = t := by
        rw [show (1 : Int) = ((1 : Nat) : Int) from rfl, slen_nat, ssub_nat]
        simp
      have e3 : sat (c :: t) 0 = (c.toNat : Int) := rfl
      rw [e2, e3, sel_pos (ilt_t (by rw [hlen]; omega)), sel_pos (by rw [band_iff]; exact ⟨by decide, ilt_t (by rw [hlen]; omega)⟩)]
      by_cases hc : c = 45
      · subst hc
        rw [sel_pos (by decide), sel_pos (by rw [band_iff]; exact ⟨by decide, ile_t (by rw [hlen]; omega)⟩), rest t (by simp), decide_eq_true (by simp)]
        rfl
      · have hm : minus (c :: t) = false := by unfold minus; simpa using hc
        rw [sel_neg (ieq_f (by intro h; apply hc; apply UInt8.toNat_inj.1; show _ = 45; omega)), rest (c :: t) (Nat.le_refl _), decide_eq_false (by omega)]
        unfold bare
        rw [hm]
        rfl
end Nt.Ev.YtefkdjikbdgidaaDoor
