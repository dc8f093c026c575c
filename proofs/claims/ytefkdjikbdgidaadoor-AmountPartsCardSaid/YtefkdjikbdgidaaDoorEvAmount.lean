/-
  Amounts: what the program's functions and the document's answer.
-/
import Derived.Test.YtefkdjikbdgidaaDoorAmountEqs
import Derived.Test.YtefkdjikbdgidaaDoorShelf
set_option linter.unusedVariables false
set_option linter.unusedSimpArgs false
set_option linter.unusedSectionVars false
namespace Nt.Ev.YtefkdjikbdgidaaDoor
open Go Nt.Num Go.Proofs.YtefkdjikbdgidaaDoor
theorem pieces_count (s : List UInt8) : (Amount.pieces s).length ≤ s.length + 1 := by
  induction s with
  | nil => simp [Amount.pieces]
  | cons c l ih =>
    unfold Amount.pieces
    split
    · simp; omega
    · have := Amount.pieces_ne l
      cases e : Amount.pieces l with
      | nil => exact absurd e this
      | cons a t => rw [e] at ih; simp at ih ⊢; omega

variable [MLen]
theorem aE_ok : EOk aE := ⟨by kernel_rfl, by kernel_rfl⟩

theorem acut_loop (F : Nat) (K : V → Option V) (s : List UInt8) (hs : s.length ≤ 1000) : ∀ (n k a : Nat) (L : List (List UInt8)), a ≤ k → k ≤ s.length → L.length ≤ k → s.length + 1 - k < n →
    L ++ Amount.glue ((s.drop a).take (k - a)) (Amount.pieces (s.drop k)) = Amount.pieces s →
    acut_L0 F [] n s (strsV L) (a : Int) (k : Int) K = K (V.sl 9 [.str] (some 3) (piecesV s)) := by
  intro n
  induction n with
  | zero => intro k a L _ _ _ h; omega
  | succ n ih =>
    intro k a L ha hk hL hn hr
    rw [acut_L0_succ]
    have hl : (strsV L).length = L.length := by unfold strsV; simp
    simp only [sel_if, ilt_iff, ile_iff, ieq_iff, band_iff, okApp_iff, slen_nat, List.length_singleton, hl, lcat_str, ssub_nat, sat_nat]
    rw [if_pos (by omega)]
    have e1 : iadd .i64 (k : Int) 1 = ((k + 1 : Nat) : Int) := by rw [iadd64 (by omega)]; rfl
    rw [e1]
    by_cases he : k = s.length
    · rw [if_pos (by omega), if_pos (by omega), if_pos (by omega)]
      obtain ⟨n, rfl⟩ : ∃ n', n = n' + 1 := ⟨n - 1, by omega⟩
      rw [acut_L0_succ]
      simp only [sel_if, ilt_iff, ile_iff, slen_nat]
      rw [if_neg (by omega)]
      have h2 : s.drop k = [] := List.drop_of_length_le (by omega)
      rw [h2, Amount.glue_end] at hr
      rw [hr]
      rfl
    · rw [if_neg (by omega), if_pos (by omega)]
      have hlt : k < s.length := by omega
      rw [drop_get s k hlt] at hr
      by_cases hc : s.getD k 0 = 58
      · rw [if_pos (by rw [hc]; rfl), if_pos (by omega), if_pos (by omega)]
        refine ih (k + 1) (k + 1) _ (by omega) (by omega) (by simp; omega) (by omega) ?_
        rw [hc, Amount.glue_colon] at hr
        rw [← hr, show k + 1 - (k + 1) = 0 by omega, List.take_zero, Amount.glue_nil]
        simp
      · rw [if_neg (by intro h; apply hc; apply UInt8.toNat_inj.1; show _ = 58; omega)]
        refine ih (k + 1) a L (by omega) (by omega) (by omega) (by omega) ?_
        rw [Amount.glue_other _ _ _ hc] at hr
        rw [mid_next s a k ha hlt]
        exact hr

theorem aS_ok : SOk aE aS := by
  have toA : ∀ {f args r}, Contract nE f args r → Contract aE f args r := fun h => Contract.env (E := nE) rfl (fun n v h => by cases h) h
  have toI : ∀ m, fitsI m = true → Fits m := by
    intro m h
    unfold fitsI at h
    rw [band_iff, ile_iff, ile_iff] at h
    exact h
  unfold aS
  refine SOk.cons (fun args r h => ?_) (SOk.cons (fun args r h => ?_) (SOk.cons (fun args r h => ?_) (SOk.cons (fun args r h => ?_) SOk.nil)))
  · unfold textS at h
    split at h
    · simp only [Option.some.injEq, Prod.mk.injEq] at h
      obtain ⟨hc, rfl⟩ := h
      exact toA (nText_ev _ (toI _ hc))
    · cases h
  · unfold textS at h
    split at h
    · simp only [Option.some.injEq, Prod.mk.injEq] at h
      obtain ⟨hc, rfl⟩ := h
      exact toA (rText_ev _ (toI _ hc))
    · cases h
  · unfold digitsS at h
    split at h
    · simp only [Option.some.injEq, Prod.mk.injEq] at h
      obtain ⟨hc, rfl⟩ := h
      rw [ile_iff, slen_nat] at hc
      exact toA (rDigits_ev _ (by omega))
    · cases h
  · unfold splitS at h
    split at h
    · simp only [Option.some.injEq, Prod.mk.injEq] at h
      obtain ⟨hc, rfl⟩ := h
      rw [band_iff, ile_iff, seq_iff, slen_nat] at hc
      obtain ⟨rfl, hc⟩ := hc
      rename_i s
      have e := Amount.split_pieces s
      have c := contract_split (E := aE) (f := 49) (T := 9) (mx := 3) (mv := MLen.val) rfl s [58] (by decide) (by omega) (fun s sep m w h1 h2 h3 => Go.Proofs.Tryd.strings_Split s sep m w h1 h2 h3)
      rw [e] at c
      exact c
    · cases h

theorem cut_ev (s : List UInt8) (hs : s.length ≤ 1000) : Contract aE 51 [.str s] (.sl 9 [.str] (some 3) (piecesV s)) := by
  refine contract_of_body aE_ok aS_ok (s.length + 5) 1 ?_
  rw [acut_top]
  refine acut_loop _ _ s hs _ 0 0 [] (by omega) (by omega) (by simp) (by omega) ?_
  exact Amount.glue_nil _

theorem digit_step (s : List UInt8) (hd : s.all isDigit = true) (hl : s.length ≤ 3) (k : Nat) (hk : k < s.length) :
    48 ≤ (s.getD k 0).toNat ∧ (s.getD k 0).toNat ≤ 57 ∧ (val (s.take (k + 1)) : Int) = 10 * (val (s.take k) : Int) + (((s.getD k 0).toNat : Int) - 48) ∧ val (s.take (k + 1)) < 1000 := by
  have h1 : isDigit (s.getD k 0) = true := by
    rw [List.all_eq_true] at hd
    refine hd _ ?_
    rw [List.getD_eq_getElem?_getD, List.getElem?_eq_getElem hk]
    exact List.getElem_mem hk
  rw [isDigit_iff] at h1
  have h2 := val_take s k hk
  have h3 := val_lt s hd (k + 1)
  have h4 : 10 ^ (k + 1) ≤ 10 ^ 3 := Nat.pow_le_pow_right (by decide) (by omega)
  exact ⟨h1.1, h1.2, by omega, by omega⟩

theorem rpart_loop (F : Nat) (K : V → Option V) (s : List UInt8) (l m : Int) (hd : s.all isDigit = true) (hl : s.length ≤ 3) : ∀ (n k : Nat), k ≤ s.length → s.length - k < n →
    rpart_L0 F [] n s l m false (val (s.take k) : Int) (k : Int) K = K (.tup [.int .i64 (val s : Int), .bool true]) := by
  intro n
  induction n with
  | zero => intro k _ h; omega
  | succ n ih =>
    intro k hk hn
    rw [rpart_L0_succ]
    simp only [sel_if, ilt_iff, ile_iff, band_iff, slen_nat, sat_nat]
    by_cases he : k = s.length
    · rw [if_neg (by omega), he, List.take_length]
    · obtain ⟨h1, h2, h3, h4⟩ := digit_step s hd hl k (by omega)
      rw [if_pos (by omega), if_pos (by omega)]
      have e1 : iadd .i64 (k : Int) 1 = ((k + 1 : Nat) : Int) := by rw [iadd64 (by omega)]; rfl
      have e2 : iadd .i64 (imul .i64 10 (val (s.take k) : Int)) (icnv .i64 (isub .u8 ((s.getD k 0).toNat : Int) 48)) = (val (s.take (k + 1)) : Int) := by
        rw [isubu8 (by omega), icnv64 (by omega), imul64 (by omega), iadd64 (by omega)]; omega
      rw [e1, e2]
      exact ih (k + 1) (by omega) (by omega)

theorem pok_iff (s : List UInt8) (l m : Int) : pok s l m = true ↔ (l ≤ (s.length : Int) ∧ (s.length : Int) ≤ m ∧ s.all isDigit = true) := by
  unfold pok; rw [Bool.and_eq_true, Bool.and_eq_true, decide_eq_true_eq, decide_eq_true_eq, and_assoc]

noncomputable def partR (s : List UInt8) (l m : Int) : V := .tup [.int .i64 (partI s l m), .bool (partB s l m)]
theorem partR_t {s : List UInt8} {l m : Int} (h : pok s l m = true) : partR s l m = .tup [.int .i64 (val s : Int), .bool true] := by
  unfold partR partI partB; rw [if_pos h, h]
theorem partR_f {s : List UInt8} {l m : Int} (h : ¬ pok s l m = true) : partR s l m = .tup [.int .i64 0, .bool false] := by
  unfold partR partI partB; rw [if_neg h, Bool.eq_false_iff.2 h]

theorem rpart_ev (s : List UInt8) (l m : Int) (hl : 1 ≤ l) (hm : m ≤ 3) : Contract aE 52 [.str s, .int .i64 l, .int .i64 m] (partR s l m) := by
  refine contract_of_body aE_ok aS_ok 5 1 ?_
  rw [rpart_top]
  simp only [sel_if, ilt_iff, ile_iff, bnot_iff, slen_nat]
  by_cases h1 : (s.length : Int) < l
  · rw [if_pos h1, partR_f (by rw [pok_iff]; omega)]
  · rw [if_neg h1]
    by_cases h2 : m < (s.length : Int)
    · rw [if_pos h2, partR_f (by rw [pok_iff]; omega)]
    · rw [if_neg h2, if_pos (by omega)]
      have hne : s.isEmpty = false := by cases s with
        | nil => simp at h1; omega
        | cons c t => rfl
      by_cases h3 : s.all isDigit = true
      · rw [if_neg (by unfold digitsB; rw [h3, hne]; simp), partR_t (by rw [pok_iff]; exact ⟨by omega, by omega, h3⟩)]
        exact rpart_loop 5 some s l m h3 (by omega) 5 0 (by omega) (by omega)
      · rw [if_pos (by unfold digitsB; rw [Bool.eq_false_iff.2 h3]; simp), partR_f (by rw [pok_iff]; exact fun h => h3 h.2.2)]

theorem bytes_get (s : List UInt8) (k : Nat) (hk : k < s.length) : asInt (acell (lget (bytesV s) (k : Int)) 0) = ((s.getD k 0).toNat : Int) := by
  unfold bytesV
  rw [lget_nat, List.getD_eq_getElem?_getD, List.getElem?_map, List.getElem?_eq_getElem hk, List.getD_eq_getElem?_getD, List.getElem?_eq_getElem hk]
  rfl

theorem apart_loop (F : Nat) (K : V → Option V) (s : List UInt8) (l m u : Int) (x4 : Int) (hl : s.length ≤ 3) : ∀ (n k : Nat), k ≤ s.length → s.length - k < n → (s.take k).all isDigit = true →
    apart_L0 F [] n l m u s x4 false (val (s.take k) : Int) (bytesV s) (s.length : Int) (k : Int) l m u K = K (if s.all isDigit = true then .tup [.int .i64 (val s : Int), .bool true] else .tup [.int .i64 0, .bool false]) := by
  intro n
  induction n with
  | zero => intro k _ h; omega
  | succ n ih =>
    intro k hk hn hd
    rw [apart_L0_succ]
    have hb : (bytesV s).length = s.length := by unfold bytesV; simp
    simp only [sel_if, ilt_iff, ile_iff, band_iff, slen_nat, llen_nat, hb]
    by_cases he : k = s.length
    · rw [if_neg (by omega)]
      rw [he, List.take_length] at hd ⊢
      rw [if_pos hd]
    · have hlt : k < s.length := by omega
      rw [if_pos (by omega), if_pos (by omega), bytes_get s k hlt]
      have hmem : s.getD k 0 ∈ s := by
        rw [List.getD_eq_getElem?_getD, List.getElem?_eq_getElem hlt]
        exact List.getElem_mem hlt
      by_cases h1 : (s.getD k 0).toNat < 48
      · rw [if_pos (by omega), if_neg]
        intro ha
        have := (isDigit_iff _).1 (List.all_eq_true.1 ha _ hmem)
        omega
      · rw [if_neg (by omega)]
        by_cases h2 : 57 < (s.getD k 0).toNat
        · rw [if_pos (by omega), if_neg]
          intro ha
          have := (isDigit_iff _).1 (List.all_eq_true.1 ha _ hmem)
          omega
        · rw [if_neg (by omega)]
          have hd1 : (s.take (k + 1)).all isDigit = true := by
            rw [List.take_add_one, List.getElem?_eq_getElem hlt, List.all_append, hd]
            rw [List.getD_eq_getElem?_getD, List.getElem?_eq_getElem hlt] at h1 h2
            simp only [Option.getD_some] at h1 h2
            have : isDigit s[k] = true := (isDigit_iff _).2 ⟨by omega, by omega⟩
            simp [this]
          have hv := val_take s k hlt
          have hv3 := val_lt (s.take (k + 1)) hd1 (k + 1)
          rw [List.take_take, Nat.min_self] at hv3
          have h4 : 10 ^ (k + 1) ≤ 10 ^ 3 := Nat.pow_le_pow_right (by decide) (by omega)
          have e1 : iadd .i64 (k : Int) 1 = ((k + 1 : Nat) : Int) := by rw [iadd64 (by omega)]; rfl
          have e2 : iadd .i64 (imul .i64 (val (s.take k) : Int) 10) (icnv .i64 (isub .u8 ((s.getD k 0).toNat : Int) 48)) = (val (s.take (k + 1)) : Int) := by
            rw [isubu8 (by omega), icnv64 (by omega), imul64 (by omega), iadd64 (by omega)]; omega
          rw [e1, e2]
          exact ih (k + 1) (by omega) (by omega) hd1

theorem apart_ev (s : List UInt8) (l m u : Int) (hl : 1 ≤ l) (hm : m ≤ 3) : Contract aE 50 [.agg [.int .i64 l, .int .i64 m, .int .i64 u], .str s] (partR s l m) := by
  refine contract_of_body aE_ok aS_ok 5 1 ?_
  rw [apart_top]
  simp only [sel_if, ilt_iff, ile_iff, okStr_iff, slen_nat]
  by_cases h1 : (s.length : Int) < l
  · rw [if_pos h1, partR_f (by rw [pok_iff]; omega)]
  · rw [if_neg h1]
    by_cases h2 : m < (s.length : Int)
    · rw [if_pos h2, partR_f (by rw [pok_iff]; omega)]
    · rw [if_neg h2, if_pos (by omega)]
      have hb : llen (bytesV s) = (s.length : Int) := by unfold llen bytesV; simp
      rw [hb]
      have := apart_loop 5 some s l m u 0 (by omega) 5 0 (by omega) (by omega) rfl
      by_cases h3 : s.all isDigit = true
      · rw [partR_t (by rw [pok_iff]; exact ⟨by omega, by omega, h3⟩)]
        rw [if_pos h3] at this
        exact this
      · rw [partR_f (by rw [pok_iff]; exact fun h => h3 h.2.2)]
        rw [if_neg h3] at this
        exact this

theorem text_digit (k : Nat) (h : k < 10) : text (k : Int) = [digit k] := by
  unfold text
  rw [if_neg (by omega), Int.natAbs_natCast, digs_small k h]
  rfl
theorem text_two (k : Nat) (h10 : 10 ≤ k) (h : k < 100) : text (k : Int) = Amount.two k := by
  unfold text Amount.two
  rw [if_neg (by omega), Int.natAbs_natCast, digs_step k h10, digs_small (k / 10) (by omega)]
  rfl

theorem atwo_ev (k : Nat) (h : k ≤ 59) : Contract aE 53 [.int .i64 (k : Int)] (.str (scat [58] (twoI (k : Int)))) := by
  refine contract_of_body aE_ok aS_ok 5 2 ?_
  rw [atwo_top]
  simp only [sel_if, ile_iff, band_iff, okCat_iff]
  have e1 : iquo .i64 (k : Int) 10 = ((k / 10 : Nat) : Int) := by rw [iquo64 (by omega) (by omega) (by omega)]; rfl
  have e2 : irem (k : Int) 10 = ((k % 10 : Nat) : Int) := by rw [irem_pos (by omega)]; rfl
  rw [e1, e2, text_digit _ (by omega), text_digit _ (by omega), if_pos (by omega), if_pos (by simp), if_pos (by omega), if_pos (by simp [scat])]
  rfl
theorem rtwo_ev (k : Nat) (h : k ≤ 59) : Contract aE 54 [.int .i64 (k : Int)] (.str (twoI (k : Int))) := by
  refine contract_of_body aE_ok aS_ok 5 2 ?_
  rw [rtwo_top]
  simp only [sel_if, ile_iff, ilt_iff, band_iff, okCat_iff]
  have e0 : twoI (k : Int) = Amount.two k := rfl
  by_cases h10 : k < 10
  · rw [if_pos (by omega), if_pos (by omega), text_digit k h10, if_pos (by simp), e0]
    unfold Amount.two
    rw [show k / 10 = 0 by omega, show k % 10 = k by omega]
    rfl
  · rw [if_neg (by omega), if_pos (by omega), text_two k (by omega) (by omega), e0]
end Nt.Ev.YtefkdjikbdgidaaDoor
