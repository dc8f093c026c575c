/-
  Answers: the plain law of there and back: an info's text is four numbers and a field, joined. Answers: AnswerBack as a contract.
-/
import Derived.Test.YtdhegeecbbponaaDoorMW
set_option linter.unusedVariables false
set_option linter.unusedSimpArgs false
namespace Nt.Ev.YtdhegeecbbponaaDoor.An
open Go Nt Nt.Num Nt.Fld Nt.Ev.YtdhegeecbbponaaDoor
theorem digs_chars (n : Nat) : ∀ c ∈ digs n, 48 ≤ c.toNat ∧ c.toNat ≤ 57 := by
  induction n using Nat.strongRecOn with
  | _ n ih =>
    intro c hc
    by_cases h : n < 10
    · rw [digs_small n h, List.mem_singleton] at hc
      rw [hc, digit_toNat n h]
      omega
    · rw [digs_step n (by omega), List.mem_append, List.mem_singleton] at hc
      rcases hc with hc | hc
      · exact ih (n / 10) (by omega) c hc
      · rw [hc, digit_toNat _ (by omega)]
        omega
theorem text_chars (n : Int) : ∀ c ∈ text n, c.toNat = 45 ∨ (48 ≤ c.toNat ∧ c.toNat ≤ 57) := by
  intro c hc
  unfold text at hc
  rw [List.mem_append] at hc
  rcases hc with hc | hc
  · split at hc
    · rw [List.mem_singleton] at hc
      rw [hc]; exact .inl rfl
    · cases hc
  · exact .inr (digs_chars _ c hc)
theorem text_tx (n : Int) (h : Fits n) : txP (text n) = (text n, 0) := by
  have h1 : (text n).contains 34 = false := by
    rw [← Bool.not_eq_true, List.contains_iff_mem]
    intro hm
    have := text_chars n 34 hm
    have e : (34 : UInt8).toNat = 34 := rfl
    omega
  have h2 : (text n).any spB = false := by
    rw [← Bool.not_eq_true, List.any_eq_true]
    rintro ⟨c, hc, hs⟩
    have := text_chars n c hc
    unfold spB at hs
    rw [Bool.or_eq_true, Bool.or_eq_true, beq_iff_eq, beq_iff_eq, beq_iff_eq] at hs
    rcases hs with (rfl | rfl) | rfl
    · have e : (9 : UInt8).toNat = 9 := rfl
      omega
    · have e : (32 : UInt8).toNat = 32 := rfl
      omega
    · have e : (35 : UInt8).toNat = 35 := rfl
      omega
  have h3 : text n ≠ [] := fun e => by
    have := (text_len n h).2
    rw [e] at this
    exact Nat.lt_irrefl 0 this
  unfold txP
  rw [h1, if_neg (by decide), h2, if_neg (by rintro (q | q); exact h3 q; cases q)]
theorem in_join (a b c d : Int) (s : List UInt8) (ha : Fits a) (hb : Fits b) (hc : Fits c) (hd : Fits d) (h : ftW s = 0) : joinP [text a, text b, text c, text d, s] = (inT a b c d s, 0) := by
  have hs : (txP s).2 = 0 := h
  have e5 : joinR [s] = ([32] ++ ftT s, 0) := by
    show (if (txP s).2 = 0 then (if (0 : Int) = 0 then (([32] ++ (txP s).1 ++ [], 0) : List UInt8 × Int) else ([], 0)) else ([], (txP s).2)) = _
    rw [if_pos hs, if_pos rfl, List.append_nil]; rfl
  have step : ∀ (n : Int) (l : List (List UInt8)) (t : List UInt8), Fits n → joinR l = (t, 0) → joinR (text n :: l) = ([32] ++ text n ++ t, 0) := fun n l t hn hl => by
    show (if (txP (text n)).2 = 0 then (if (joinR l).2 = 0 then (([32] ++ (txP (text n)).1 ++ (joinR l).1, 0) : List UInt8 × Int) else ([], (joinR l).2)) else ([], (txP (text n)).2)) = _
    rw [text_tx n hn, if_pos rfl, hl, if_pos rfl]
  have e1 := step a _ _ ha (step b _ _ hb (step c _ _ hc (step d _ _ hd e5)))
  unfold joinP inT
  rw [if_neg (by simp), e1, if_pos rfl, if_pos h]
  simp
theorem ri_in (a b c d : Int) (s : List UInt8) (ha : Fits a) (hb : Fits b) (hc : Fits c) (hd : Fits d) (h : ftW s = 0) : Nt.Fld.ofP (inT a b c d s) = ([text a, text b, text c, text d, s], 0) ∧ riP (inT a b c d s) = ((a, b, c, d, s), 0) := by
  have hj := in_join a b c d s ha hb hc hd h
  have ho := of_join [text a, text b, text c, text d, s] (by rw [hj])
  rw [hj] at ho
  refine ⟨ho, ?_⟩
  have hw : ofW (inT a b c d s) = 0 := by
    show (Nt.Fld.ofP (inT a b c d s)).2 = 0
    rw [ho]
  have hb0 : ∀ n : Int, Fits n → nrI (text n) = n ∧ nrW (text n) = 0 := fun n hn => by
    have hr := read_text n hn
    exact ⟨by unfold nrI; rw [hr], by unfold nrW; rw [hr]⟩
  unfold riP
  rw [if_pos hw, ho]
  show (if nrW (text a) = 0 then (if nrW (text b) = 0 then (if nrW (text c) = 0 then (if nrW (text d) = 0 then (((nrI (text a), nrI (text b), nrI (text c), nrI (text d), s), 0) : I5 × Int) else (z5, nrW (text d))) else (z5, nrW (text c))) else (z5, nrW (text b))) else (z5, nrW (text a))) = _
  rw [if_pos (hb0 a ha).2, if_pos (hb0 b hb).2, if_pos (hb0 c hc).2, if_pos (hb0 d hd).2, (hb0 a ha).1, (hb0 b hb).1, (hb0 c hc).1, (hb0 d hd).1]
theorem riC_in (a b c d : Int) (s : List UInt8) (hs : s.length ≤ 1000) (ha : fb a = true) (hb : fb b = true) (hc : fb c = true) (hd : fb d = true) (h : ftW s = 0) : riC (inT a b c d s) = true := by
  rw [riC_iff, (ri_in a b c d s (fitN ha) (fitN hb) (fitN hc) (fitN hd) h).1]
  refine ⟨Nat.le_trans (inT_len a b c d s hs ha hb hc hd) (by omega), fun x hx => ?_⟩
  have la := tl a ha
  have lb := tl b hb
  have lc := tl c hc
  have ld := tl d hd
  have hx : x ∈ [text a, text b, text c, text d] := hx
  simp only [List.mem_cons, List.not_mem_nil, or_false] at hx
  rcases hx with rfl | rfl | rfl | rfl <;> omega
theorem joinR_all : ∀ (l : List (List UInt8)), (joinR l).2 = 0 → ∀ x ∈ l, ftW x = 0
  | [], _, x, hx => nomatch hx
  | y :: l, h, x, hx => by
    rw [joinR_cons] at h
    by_cases hy : (txP y).2 = 0
    · rw [if_pos hy] at h
      rcases List.mem_cons.1 hx with rfl | hx
      · exact hy
      · exact joinR_all l h x hx
    · rw [if_neg hy] at h
      exact absurd h hy
theorem ri_back {u : List UInt8} (h : riW u = 0) : fb (ri0 u) = true ∧ fb (ri1 u) = true ∧ fb (ri2 u) = true ∧ fb (ri3 u) = true ∧ ftW (riS u) = 0 ∧ (riS u).length ≤ u.length := by
  have hw : ofW u = 0 := by
    refine Classical.byContradiction fun hn => ?_
    have : riW u = ofW u := by unfold riW riP; rw [if_neg hn]
    exact hn (this.symm.trans h)
  have hr : riP u = riL (Nt.Fld.ofP u).1 := by unfold riP; rw [if_pos hw]
  have hj := (of_again u hw).1
  have hm : ∀ x ∈ (Nt.Fld.ofP u).1, x.length ≤ u.length := fun x hx => of_mem hx
  have h2 : (riL (Nt.Fld.ofP u).1).2 = 0 := by rw [← hr]; exact h
  have hjr : (joinR (Nt.Fld.ofP u).1).2 = 0 := by
    unfold joinP at hj
    split at hj
    · cases hj
    · split at hj
      · rename_i q; exact q
      · exact hj
  have hall := joinR_all _ hjr
  unfold ri0 ri1 ri2 ri3 riS
  rw [hr]
  generalize (Nt.Fld.ofP u).1 = l at hm h2 hall ⊢
  have fit : ∀ x : List UInt8, nrW x = 0 → fb (nrI x) = true := fun x hx => fb_w (text_read x hx).2
  have bad : ∀ l : List (List UInt8), l.length ≠ 5 → (riL l).2 ≠ 0 := fun l hl => by
    unfold riL
    split
    · exact absurd rfl hl
    · show (if l.length < 5 then (5 : Int) else 6) ≠ 0
      split <;> decide
  by_cases hl : l.length = 5
  · match l, hl, hm, h2, hall with
    | [a, b, c, d, e], _, hm, h2, hall =>
      have hz : riL [a, b, c, d, e] = if nrW a = 0 then (if nrW b = 0 then (if nrW c = 0 then (if nrW d = 0 then ((nrI a, nrI b, nrI c, nrI d, e), 0) else (z5, nrW d)) else (z5, nrW c)) else (z5, nrW b)) else (z5, nrW a) := rfl
      rw [hz] at h2 ⊢
      by_cases ha : nrW a = 0
      · rw [if_pos ha] at h2 ⊢
        by_cases hb : nrW b = 0
        · rw [if_pos hb] at h2 ⊢
          by_cases hc : nrW c = 0
          · rw [if_pos hc] at h2 ⊢
            by_cases hd : nrW d = 0
            · rw [if_pos hd]
              exact ⟨fit a ha, fit b hb, fit c hc, fit d hd, hall e (by simp), hm e (by simp)⟩
            · rw [if_neg hd] at h2
              exact absurd h2 hd
          · rw [if_neg hc] at h2
            exact absurd h2 hc
        · rw [if_neg hb] at h2
          exact absurd h2 hb
      · rw [if_neg ha] at h2
        exact absurd h2 ha
  · exact absurd h2 (bad l hl)
end Nt.Ev.YtdhegeecbbponaaDoor.An

set_option linter.unusedVariables false
set_option linter.unusedSimpArgs false
set_option linter.unusedSectionVars false
namespace Nt.Ev.YtdhegeecbbponaaDoor.An
set_option maxRecDepth 100000
open Go Go.RowKit Nt Nt.Num Nt.Fld Nt.Civil Nt.Ev.YtdhegeecbbponaaDoor Go.Proofs.YtdhegeecbbponaaDoor
theorem sel_f (x y : Option V) : sel false x y = y := rfl
theorem loc_law (k a b c d : Int) (s : List UInt8) (e f g h : Int) (t : List UInt8) (hA : (inT a b c d s).length ≤ 1100) (hB : (inT e f g h t).length ≤ 1100) (hA0 : ftW s ≠ 0 → inT a b c d s = []) :
    sel (ieq k 1) (sel (ieq (loW k a b c d s e f g h t) (ftW s)) (sel (bnot (ieq (loW k a b c d s e f g h t) 0)) (sel (seq (loT k a b c d s e f g h t) []) (some (V.bool true)) (sel (okCat [111, 110, 101, 32] (inT a b c d s)) (some (V.bool (seq (loT k a b c d s e f g h t) (scat [111, 110, 101, 32] (inT a b c d s))))) (none))) (sel (okCat [111, 110, 101, 32] (inT a b c d s)) (some (V.bool (seq (loT k a b c d s e f g h t) (scat [111, 110, 101, 32] (inT a b c d s))))) (none))) (some (V.bool false))) (sel (ieq k 2) (sel (ieq (ftW s) 0) (sel (ieq (ftW t) 0) (sel (okCat [110, 111, 110, 101, 32] (inT a b c d s)) (sel (okCat (scat [110, 111, 110, 101, 32] (inT a b c d s)) [32, 47, 32]) (sel (okCat (scat (scat [110, 111, 110, 101, 32] (inT a b c d s)) [32, 47, 32]) (inT e f g h t)) (sel (seq (loT k a b c d s e f g h t) (scat (scat (scat [110, 111, 110, 101, 32] (inT a b c d s)) [32, 47, 32]) (inT e f g h t))) (some (V.bool (ieq (loW k a b c d s e f g h t) 0))) (some (V.bool false))) (none)) (none)) (none)) (sel (ieq k 3) (sel (ieq (ftW s) 0) (sel (ieq (ftW t) 0) (sel (okCat [116, 119, 111, 32] (inT a b c d s)) (sel (okCat (scat [116, 119, 111, 32] (inT a b c d s)) [32, 47, 32]) (sel (okCat (scat (scat [116, 119, 111, 32] (inT a b c d s)) [32, 47, 32]) (inT e f g h t)) (sel (seq (loT k a b c d s e f g h t) (scat (scat (scat [116, 119, 111, 32] (inT a b c d s)) [32, 47, 32]) (inT e f g h t))) (some (V.bool (ieq (loW k a b c d s e f g h t) 0))) (some (V.bool false))) (none)) (none)) (none)) (sel (seq (loT k a b c d s e f g h t) []) (some (V.bool (bnot (ieq (loW k a b c d s e f g h t) 0)))) (some (V.bool false)))) (sel (seq (loT k a b c d s e f g h t) []) (some (V.bool (bnot (ieq (loW k a b c d s e f g h t) 0)))) (some (V.bool false)))) (sel (seq (loT k a b c d s e f g h t) []) (some (V.bool (bnot (ieq (loW k a b c d s e f g h t) 0)))) (some (V.bool false))))) (sel (ieq k 3) (sel (ieq (ftW s) 0) (sel (ieq (ftW t) 0) (sel (okCat [116, 119, 111, 32] (inT a b c d s)) (sel (okCat (scat [116, 119, 111, 32] (inT a b c d s)) [32, 47, 32]) (sel (okCat (scat (scat [116, 119, 111, 32] (inT a b c d s)) [32, 47, 32]) (inT e f g h t)) (sel (seq (loT k a b c d s e f g h t) (scat (scat (scat [116, 119, 111, 32] (inT a b c d s)) [32, 47, 32]) (inT e f g h t))) (some (V.bool (ieq (loW k a b c d s e f g h t) 0))) (some (V.bool false))) (none)) (none)) (none)) (sel (seq (loT k a b c d s e f g h t) []) (some (V.bool (bnot (ieq (loW k a b c d s e f g h t) 0)))) (some (V.bool false)))) (sel (seq (loT k a b c d s e f g h t) []) (some (V.bool (bnot (ieq (loW k a b c d s e f g h t) 0)))) (some (V.bool false)))) (sel (seq (loT k a b c d s e f g h t) []) (some (V.bool (bnot (ieq (loW k a b c d s e f g h t) 0)))) (some (V.bool false))))) (sel (ieq k 3) (sel (ieq (ftW s) 0) (sel (ieq (ftW t) 0) (sel (okCat [116, 119, 111, 32] (inT a b c d s)) (sel (okCat (scat [116, 119, 111, 32] (inT a b c d s)) [32, 47, 32]) (sel (okCat (scat (scat [116, 119, 111, 32] (inT a b c d s)) [32, 47, 32]) (inT e f g h t)) (sel (seq (loT k a b c d s e f g h t) (scat (scat (scat [116, 119, 111, 32] (inT a b c d s)) [32, 47, 32]) (inT e f g h t))) (some (V.bool (ieq (loW k a b c d s e f g h t) 0))) (some (V.bool false))) (none)) (none)) (none)) (sel (seq (loT k a b c d s e f g h t) []) (some (V.bool (bnot (ieq (loW k a b c d s e f g h t) 0)))) (some (V.bool false)))) (sel (seq (loT k a b c d s e f g h t) []) (some (V.bool (bnot (ieq (loW k a b c d s e f g h t) 0)))) (some (V.bool false)))) (sel (seq (loT k a b c d s e f g h t) []) (some (V.bool (bnot (ieq (loW k a b c d s e f g h t) 0)))) (some (V.bool false))))) = some (V.bool true) := by
  have hT : loT k a b c d s e f g h t = (loP k (inT a b c d s) (ftW s) (inT e f g h t) (ftW t)).1 := rfl
  have hW : loW k a b c d s e f g h t = (loP k (inT a b c d s) (ftW s) (inT e f g h t) (ftW t)).2 := rfl
  obtain ⟨T, hT0⟩ : ∃ T, loT k a b c d s e f g h t = T := ⟨_, rfl⟩
  obtain ⟨W, hW0⟩ : ∃ W, loW k a b c d s e f g h t = W := ⟨_, rfl⟩
  rw [hT0] at hT
  rw [hW0] at hW
  rw [hT0, hW0]
  obtain ⟨A, hA1⟩ : ∃ A, inT a b c d s = A := ⟨_, rfl⟩
  obtain ⟨B, hB1⟩ : ∃ B, inT e f g h t = B := ⟨_, rfl⟩
  obtain ⟨wa, hwa⟩ : ∃ wa, ftW s = wa := ⟨_, rfl⟩
  obtain ⟨wb, hwb⟩ : ∃ wb, ftW t = wb := ⟨_, rfl⟩
  rw [hA1] at hA hA0 hT hW
  rw [hwa] at hA0
  rw [hB1] at hB
  rw [hB1, hwa, hwb] at hT hW
  rw [hA1, hB1, hwa, hwb]
  clear hA1 hB1 hwa hwb hT0 hW0
  have key : ∀ x y : List UInt8, x.length ≤ 5000 → y.length ≤ 5000 → okCat x y = true := fun x y h1 h2 => okc (by omega)
  have i11 : ieq 1 1 = true := rfl
  have i21 : ieq 2 1 = false := rfl
  have i22 : ieq 2 2 = true := rfl
  have i31 : ieq 3 1 = false := rfl
  have i32 : ieq 3 2 = false := rfl
  have i33 : ieq 3 3 = true := rfl
  have i40 : ieq 4 0 = false := rfl
  have i00 : ieq 0 0 = true := rfl
  have lp2 : loP 2 A wa B wb = (if wa = 0 then (if wb = 0 then ([110, 111, 110, 101, 32] ++ (A ++ ([32, 47, 32] ++ B)), 0) else ([], wb)) else ([], wa)) := rfl
  have lp3 : loP 3 A wa B wb = (if wa = 0 then (if wb = 0 then ([116, 119, 111, 32] ++ (A ++ ([32, 47, 32] ++ B)), 0) else ([], wb)) else ([], wa)) := rfl
  have lp1 : loP 1 A wa B wb = (if wa = 0 then ([111, 110, 101, 32] ++ A, 0) else ([], wa)) := rfl
  have bt' : bnot true = false := rfl
  have bf' : bnot false = true := rfl
  have nz : ∀ {x : Int}, ¬ x = 0 → ieq x 0 = false := fun {x} hx => by rw [← Bool.not_eq_true, ieq_iff]; exact hx
  have zz : ∀ {x : Int}, x = 0 → ieq x 0 = true := fun {x} hx => by rw [ieq_iff]; exact hx
  have dsc : ∀ x y : List UInt8, scat x y = x ++ y := fun _ _ => rfl
  by_cases k1 : k = 1
  · subst k1
    rw [lp1] at hT hW
    by_cases ha : wa = 0
    · rw [if_pos ha] at hT hW
      subst hT; subst hW
      rw [ha]
      simp (disch := ((try simp only [List.length_append, List.length_cons, List.length_nil]); omega)) only [dsc, i11, i00, bt', st0, sel_f, key, seq_self, ieq_self]
    · rw [if_neg ha] at hT hW
      subst hT; subst hW
      simp only [i11, ieq_self, nz ha, bf', st0, seq_self]
  by_cases k2 : k = 2
  · subst k2
    rw [lp2] at hT hW
    by_cases ha : wa = 0
    · by_cases hb : wb = 0
      · rw [if_pos ha, if_pos hb] at hT hW
        subst hT; subst hW
        rw [ha, hb]
        simp (disch := ((try simp only [List.length_append, List.length_cons, List.length_nil]); omega)) only [dsc, i21, i22, i00, bt', st0, sel_f, key, List.append_assoc, seq_self, ieq_self]
      · rw [if_pos ha, if_neg hb] at hT hW
        subst hT; subst hW
        simp only [i21, i22, i32, zz ha, nz hb, (show ieq 2 3 = false from rfl), bf', st0, sel_f, seq_self]
    · rw [if_neg ha] at hT hW
      subst hT; subst hW
      simp only [i21, i22, nz ha, (show ieq 2 3 = false from rfl), bf', st0, sel_f, seq_self]
  by_cases k3 : k = 3
  · subst k3
    rw [lp3] at hT hW
    by_cases ha : wa = 0
    · by_cases hb : wb = 0
      · rw [if_pos ha, if_pos hb] at hT hW
        subst hT; subst hW
        rw [ha, hb]
        simp (disch := ((try simp only [List.length_append, List.length_cons, List.length_nil]); omega)) only [dsc, i31, i32, i33, i00, bt', st0, sel_f, key, List.append_assoc, seq_self, ieq_self]
      · rw [if_pos ha, if_neg hb] at hT hW
        subst hT; subst hW
        simp only [i31, i32, i33, zz ha, nz hb, bf', st0, sel_f, seq_self]
    · rw [if_neg ha] at hT hW
      subst hT; subst hW
      simp only [i31, i32, i33, nz ha, bf', st0, sel_f, seq_self]
  have n1 : ieq k 1 = false := by rw [← Bool.not_eq_true, ieq_iff]; exact k1
  have n2 : ieq k 2 = false := by rw [← Bool.not_eq_true, ieq_iff]; exact k2
  have n3 : ieq k 3 = false := by rw [← Bool.not_eq_true, ieq_iff]; exact k3
  have lp : loP k A wa B wb = ([], 4) := by unfold loP; rw [if_neg k1, if_neg (by omega)]
  rw [lp] at hT hW
  subst hT; subst hW
  simp only [n1, n2, n3, i40, bf', sel_f, st0, seq_self]
theorem aB_ev (k a b c d : Int) (s : List UInt8) (e f g h : Int) (t : List UInt8) (u : List UInt8) (hs : s.length ≤ 1152921504606846976) (ht : t.length ≤ 1152921504606846976) (hu : u.length ≤ 1152921504606846976)
    (ha : fb a = true) (hb : fb b = true) (hc : fb c = true) (hd : fb d = true) (he : fb e = true) (hf : fb f = true) (hg : fb g = true) (hh : fb h = true) :
    Contract uE 4 [.agg [.int .i64 k, .int .i64 a, .int .i64 b, .int .i64 c, .int .i64 d, .str s, .int .i64 e, .int .i64 f, .int .i64 g, .int .i64 h, .str t], .str u] (.bool true) := by
  refine contract_of_body uE_ok aL_ok 5 2 ?_
  rw [l45B_top]
  have q1 : iadd .i64 (slen s) (slen t) = (s.length : Int) + t.length := by rw [slen_nat, slen_nat, iadd64 (by omega)]
  rw [q1, slen_nat u, iadd64 (by omega)]
  by_cases c1 : 1000 < (s.length : Int) + t.length + u.length
  · rw [sel_pos (ilt_t c1)]
  rw [sel_neg (ilt_f (by omega))]
  have hs1 : s.length ≤ 1000 := by omega
  have ht1 : t.length ≤ 1000 := by omega
  have hu1 : u.length ≤ 1000 := by omega
  have hL := loc_law k a b c d s e f g h t (inT_len a b c d s hs1 ha hb hc hd) (inT_len e f g h t ht1 he hf hg hh) (fun hw => by unfold inT; rw [if_neg hw])
  have z1 : band (ile (slen s) 1000) (band (band (band (ile (-9223372036854775808) a) (ile a 9223372036854775807)) (band (ile (-9223372036854775808) b) (ile b 9223372036854775807))) (band (band (ile (-9223372036854775808) c) (ile c 9223372036854775807)) (band (ile (-9223372036854775808) d) (ile d 9223372036854775807)))) = true := by
    show band (ile (slen s) 1000) (band (band (fb a) (fb b)) (band (fb c) (fb d))) = true
    rw [band_iff, band_iff, band_iff, band_iff]
    exact ⟨ile_t (by rw [slen_nat]; omega), ⟨ha, hb⟩, hc, hd⟩
  have z2 : band (ile (slen t) 1000) (band (band (band (ile (-9223372036854775808) e) (ile e 9223372036854775807)) (band (ile (-9223372036854775808) f) (ile f 9223372036854775807))) (band (band (ile (-9223372036854775808) g) (ile g 9223372036854775807)) (band (ile (-9223372036854775808) h) (ile h 9223372036854775807)))) = true := by
    show band (ile (slen t) 1000) (band (band (fb e) (fb f)) (band (fb g) (fb h))) = true
    rw [band_iff, band_iff, band_iff, band_iff]
    exact ⟨ile_t (by rw [slen_nat]; omega), ⟨he, hf⟩, hg, hh⟩
  have rt : band true true = true := rfl
  have bt' : bnot true = false := rfl
  have bf' : bnot false = true := rfl
  have i00 : ieq 0 0 = true := rfl
  have nz : ∀ {x : Int}, ¬ x = 0 → ieq x 0 = false := fun {x} hx => by rw [← Bool.not_eq_true, ieq_iff]; exact hx
  have hru : riC u = true := riC_small hu1
  have U : riW u = 0 → band (ile (slen (riS u)) 1000) (band (band (band (ile (-9223372036854775808) (ri0 u)) (ile (ri0 u) 9223372036854775807)) (band (ile (-9223372036854775808) (ri1 u)) (ile (ri1 u) 9223372036854775807))) (band (band (ile (-9223372036854775808) (ri2 u)) (ile (ri2 u) 9223372036854775807)) (band (ile (-9223372036854775808) (ri3 u)) (ile (ri3 u) 9223372036854775807)))) = true ∧
      riC (inT (ri0 u) (ri1 u) (ri2 u) (ri3 u) (riS u)) = true ∧ ftW (riS u) = 0 ∧ riP (inT (ri0 u) (ri1 u) (ri2 u) (ri3 u) (riS u)) = ((ri0 u, ri1 u, ri2 u, ri3 u, riS u), 0) := fun hr => by
    obtain ⟨p0, p1, p2, p3, p4, p5⟩ := ri_back hr
    refine ⟨?_, riC_in _ _ _ _ _ (Nat.le_trans p5 hu1) p0 p1 p2 p3 p4, p4, (ri_in _ _ _ _ _ (fitN p0) (fitN p1) (fitN p2) (fitN p3) p4).2⟩
    show band (ile (slen (riS u)) 1000) (band (band (fb (ri0 u)) (fb (ri1 u))) (band (fb (ri2 u)) (fb (ri3 u)))) = true
    rw [band_iff, band_iff, band_iff, band_iff]
    exact ⟨ile_t (by rw [slen_nat]; omega), ⟨p0, p1⟩, p2, p3⟩
  have V0 : ∀ (x : List UInt8) (p : I5), riP x = (p, 0) → ri0 x = p.1 ∧ ri1 x = p.2.1 ∧ ri2 x = p.2.2.1 ∧ ri3 x = p.2.2.2.1 ∧ riS x = p.2.2.2.2 ∧ riW x = 0 := fun x p hx => by
    unfold ri0 ri1 ri2 ri3 riS riW
    rw [hx]
    exact ⟨rfl, rfl, rfl, rfl, rfl, rfl⟩
  by_cases hw : ftW s = 0
  · have r1 := riC_in a b c d s hs1 ha hb hc hd hw
    obtain ⟨w0, w1, w2, w3, w4, w5⟩ := V0 _ _ (ri_in a b c d s (fitN ha) (fitN hb) (fitN hc) (fitN hd) hw).2
    have hw' : ieq (ftW s) 0 = true := by rw [ieq_iff]; exact hw
    by_cases hr : riW u = 0
    · obtain ⟨u1, u2, u3, u4⟩ := U hr
      obtain ⟨x0, x1, x2, x3, x4, x5⟩ := V0 _ _ u4
      have hr' : ieq (riW u) 0 = true := by rw [ieq_iff]; exact hr
      simp only [z1, z2, rt, r1, w0, w1, w2, w3, w4, w5, hw', hru, hr', u1, u2, u3, x0, x1, x2, x3, x4, x5, i00, bt', ieq_self, seq_self, st0, sel_f]
      first | exact hL | (simpa only [hw', st0, sel_f] using hL)
    · simp only [z1, z2, rt, r1, w0, w1, w2, w3, w4, w5, hw', hru, nz hr, i00, bt', ieq_self, seq_self, st0, sel_f]
      first | exact hL | (simpa only [hw', st0, sel_f] using hL)
  · have hw' : ieq (ftW s) 0 = false := nz hw
    by_cases hr : riW u = 0
    · obtain ⟨u1, u2, u3, u4⟩ := U hr
      obtain ⟨x0, x1, x2, x3, x4, x5⟩ := V0 _ _ u4
      have hr' : ieq (riW u) 0 = true := by rw [ieq_iff]; exact hr
      simp only [z1, z2, rt, hw', hru, hr', u1, u2, u3, x0, x1, x2, x3, x4, x5, i00, bt', ieq_self, seq_self, st0, sel_f]
      first | exact hL | (simpa only [hw', st0, sel_f] using hL)
    · simp only [z1, z2, rt, hw', hru, nz hr, i00, bt', ieq_self, seq_self, st0, sel_f]
      first | exact hL | (simpa only [hw', st0, sel_f] using hL)
end Nt.Ev.YtdhegeecbbponaaDoor.An
