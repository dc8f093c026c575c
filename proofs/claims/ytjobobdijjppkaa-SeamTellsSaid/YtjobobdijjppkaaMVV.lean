/-
  Lists of infos: what the document merges, one info behind the other, is what is merged side by side. Infos: the document's Merge. SeamLaw2: equations of functions, as the evaluator prints them. Infos: SeamTells as a contract.
-/
import Derived.Test.YtjobobdijjppkaaMV
set_option linter.unusedVariables false
set_option linter.unusedSimpArgs false
namespace Nt.Ev.Ytjobobdijjppkaa.Sm
open Go Nt Nt.Num Nt.Sps Nt.Ev.Ytjobobdijjppkaa.Sp
def kL : List Inf → Inf → Nat
  | [], _ => 0
  | y :: o, x => if y.1.1 < x.1.1 then kL o x + 1 else 0
def insL : List Inf → Inf → List Inf
  | [], x => [x]
  | y :: o, x => if y.1.1 < x.1.1 then y :: insL o x else x :: y :: o
theorem kL_le : ∀ (o : List Inf) (x : Inf), kL o x ≤ o.length
  | [], _ => Nat.le_refl _
  | y :: o, x => by
    unfold kL
    split
    · have := kL_le o x
      rw [List.length_cons]; omega
    · exact Nat.zero_le _
theorem insL_cut : ∀ (o : List Inf) (x : Inf), insL o x = o.take (kL o x) ++ x :: o.drop (kL o x)
  | [], x => rfl
  | y :: o, x => by
    unfold insL kL
    split
    · rw [List.take_succ_cons, List.drop_succ_cons, List.cons_append, insL_cut o x]
    · rfl
theorem insL_mem : ∀ (o : List Inf) (x z : Inf), z ∈ insL o x ↔ z = x ∨ z ∈ o
  | [], x, z => by simp [insL]
  | y :: o, x, z => by
    unfold insL
    split
    · rw [List.mem_cons, insL_mem o x z, List.mem_cons]
      constructor
      · rintro (h | h | h)
        · exact .inr (.inl h)
        · exact .inl h
        · exact .inr (.inr h)
      · rintro (h | h | h)
        · exact .inr (.inl h)
        · exact .inl h
        · exact .inr (.inr h)
    · rw [List.mem_cons]
theorem insL_len (o : List Inf) (x : Inf) : (insL o x).length = o.length + 1 := by
  rw [insL_cut]
  have := kL_le o x
  rw [List.length_append, List.length_take, List.length_cons, List.length_drop]
  omega
def inL (a : List Inf) : List Inf → List Inf → List Inf
  | [], o => o
  | x :: b, o => if x ∈ a then inL a b o else inL a b (insL o x)
abbrev Srt (l : List Inf) : Prop := l.Pairwise fun x y => x.1.1 < y.1.1
theorem srt_ext : ∀ {l m : List Inf}, Srt l → Srt m → (∀ z, z ∈ l ↔ z ∈ m) → l = m
  | [], [], _, _, _ => rfl
  | [], y :: m, _, _, h => nomatch (h y).2 List.mem_cons_self
  | x :: l, [], _, _, h => nomatch (h x).1 List.mem_cons_self
  | x :: l, y :: m, hl, hm, h => by
    obtain ⟨l1, l2⟩ := List.pairwise_cons.1 hl
    obtain ⟨m1, m2⟩ := List.pairwise_cons.1 hm
    have e : x = y := by
      rcases List.mem_cons.1 ((h x).1 List.mem_cons_self) with e | h1
      · exact e
      · rcases List.mem_cons.1 ((h y).2 List.mem_cons_self) with e | h2
        · exact e.symm
        · have a := m1 x h1
          have b := l1 y h2
          omega
    subst e
    rw [srt_ext l2 m2 fun z => ⟨fun hz => ?_, fun hz => ?_⟩]
    · rcases List.mem_cons.1 ((h z).1 (List.mem_cons_of_mem _ hz)) with e | hz'
      · have := l1 z hz
        rw [e] at this; omega
      · exact hz'
    · rcases List.mem_cons.1 ((h z).2 (List.mem_cons_of_mem _ hz)) with e | hz'
      · have := m1 z hz
        rw [e] at this; omega
      · exact hz'
theorem sd_srt {l : List Inf} (h : sdL l = true) : Srt l := by
  obtain ⟨h1, h2⟩ := sdL_spec h
  exact h2.imp_of_mem fun {x y} hx hy q => by
    have := h1 x hx
    omega
theorem mwL_srt : ∀ (l m : List Inf), Srt l → Srt m → (∀ x ∈ l, ∀ y ∈ m, x.1.1 = y.1.1 → x = y) → Srt (mwL l m)
  | [], m, _, hm, _ => by unfold mwL; exact hm
  | x :: l, [], hl, _, _ => by unfold mwL; exact hl
  | x :: l, y :: m, hl, hm, h => by
    obtain ⟨l1, l2⟩ := List.pairwise_cons.1 hl
    obtain ⟨m1, m2⟩ := List.pairwise_cons.1 hm
    rw [mwL]
    by_cases e : x = y
    · rw [if_pos e]
      refine List.pairwise_cons.2 ⟨fun z hz => ?_, mwL_srt l m l2 m2 fun x hx y hy => h x (List.mem_cons_of_mem _ hx) y (List.mem_cons_of_mem _ hy)⟩
      rcases (mwL_mem l m z).1 hz with hz | hz
      · exact l1 z hz
      · rw [e]; exact m1 z hz
    · have hne : x.1.1 ≠ y.1.1 := fun q => e (h x List.mem_cons_self y List.mem_cons_self q)
      rw [if_neg e]
      by_cases hle : x.1.1 ≤ y.1.1
      · rw [if_pos hle]
        refine List.pairwise_cons.2 ⟨fun z hz => ?_, mwL_srt l (y :: m) l2 hm fun x hx y hy => h x (List.mem_cons_of_mem _ hx) y hy⟩
        rcases (mwL_mem l (y :: m) z).1 hz with hz | hz
        · exact l1 z hz
        · rcases List.mem_cons.1 hz with rfl | hz
          · omega
          · have := m1 z hz
            omega
      · rw [if_neg hle]
        refine List.pairwise_cons.2 ⟨fun z hz => ?_, mwL_srt (x :: l) m hl m2 fun x hx y hy => h x hx y (List.mem_cons_of_mem _ hy)⟩
        rcases (mwL_mem (x :: l) m z).1 hz with hz | hz
        · rcases List.mem_cons.1 hz with rfl | hz
          · omega
          · have := l1 z hz
            omega
        · exact m1 z hz
  termination_by l m => l.length + m.length
  decreasing_by all_goals (simp only [List.length_cons]; omega)
theorem insL_srt : ∀ (o : List Inf) (x : Inf), Srt o → (∀ y ∈ o, y.1.1 ≠ x.1.1) → Srt (insL o x)
  | [], x, _, _ => List.pairwise_singleton _ _
  | y :: o, x, ho, h => by
    obtain ⟨h1, h2⟩ := List.pairwise_cons.1 ho
    unfold insL
    split
    · rename_i hlt
      refine List.pairwise_cons.2 ⟨fun z hz => ?_, insL_srt o x h2 fun z hz => h z (List.mem_cons_of_mem _ hz)⟩
      rcases (insL_mem o x z).1 hz with rfl | hz
      · exact hlt
      · exact h1 z hz
    · rename_i hge
      have hne := h y List.mem_cons_self
      refine List.pairwise_cons.2 ⟨fun z hz => ?_, ho⟩
      rcases List.mem_cons.1 hz with rfl | hz
      · omega
      · have := h1 z hz
        omega
theorem inL_mem (a : List Inf) : ∀ (b o : List Inf), (∀ z ∈ a, z ∈ o) → ∀ z, z ∈ inL a b o ↔ z ∈ o ∨ z ∈ b
  | [], o, _, z => by simp [inL]
  | x :: b, o, h, z => by
    unfold inL
    split
    · rename_i hx
      rw [inL_mem a b o h z, List.mem_cons]
      constructor
      · rintro (q | q)
        · exact .inl q
        · exact .inr (.inr q)
      · rintro (q | q | q)
        · exact .inl q
        · rw [q]; exact .inl (h x hx)
        · exact .inr q
    · rw [inL_mem a b (insL o x) (fun z hz => (insL_mem o x z).2 (.inr (h z hz))) z, insL_mem, List.mem_cons]
      constructor
      · rintro ((q | q) | q)
        · exact .inr (.inl q)
        · exact .inl q
        · exact .inr (.inr q)
      · rintro (q | q | q)
        · exact .inl (.inr q)
        · exact .inl (.inl q)
        · exact .inr q
theorem inL_srt (a : List Inf) : ∀ (b o : List Inf), Srt b → Srt o → (∀ x ∈ b, x ∉ a → ∀ y ∈ o, y.1.1 ≠ x.1.1) → Srt (inL a b o)
  | [], o, _, ho, _ => ho
  | x :: b, o, hb, ho, h => by
    obtain ⟨b1, b2⟩ := List.pairwise_cons.1 hb
    unfold inL
    split
    · exact inL_srt a b o b2 ho fun x hx => h x (List.mem_cons_of_mem _ hx)
    · rename_i hx
      refine inL_srt a b (insL o x) b2 (insL_srt o x ho (h x List.mem_cons_self hx)) fun z hz hza y hy => ?_
      rcases (insL_mem o x y).1 hy with rfl | hy
      · have := b1 z hz
        omega
      · exact h z (List.mem_cons_of_mem _ hz) hza y hy
theorem in_mw {a b : List Inf} (ha : sdL a = true) (hb : sdL b = true) (h : ∀ x ∈ a, ∀ y ∈ b, x.1.1 = y.1.1 → x = y) : inL a b a = mwL a b := by
  refine srt_ext (inL_srt a b a (sd_srt hb) (sd_srt ha) fun x hx hxa y hy e => hxa ?_) (mwL_srt a b (sd_srt ha) (sd_srt hb) h) fun z => ?_
  · rw [← h y hy x hx e]; exact hy
  · rw [inL_mem a b a (fun z hz => hz), mwL_mem]
theorem in_mg {a b : List Inf} (ha : sdL a = true) (hb : sdL b = true) : (if sdL (inL a b a) = true then (inL a b a, (0 : Int)) else ([], 21)) = if sdL (mwL a b) = true then (mwL a b, 0) else ([], 21) := by
  by_cases h1 : sdL (mwL a b) = true
  · rw [in_mw ha hb fun x hx y hy e => sd_from h1 ((mwL_mem a b x).2 (.inl hx)) ((mwL_mem a b y).2 (.inr hy)) e]
  · by_cases h2 : sdL (inL a b a) = true
    · rw [in_mw ha hb fun x hx y hy e => sd_from h2 ((inL_mem a b a (fun z hz => hz) x).2 (.inl hx)) ((inL_mem a b a (fun z hz => hz) y).2 (.inr hy)) e]
    · rw [if_neg h1, if_neg h2]
end Nt.Ev.Ytjobobdijjppkaa.Sm

set_option linter.unusedVariables false
set_option linter.unusedSimpArgs false
set_option linter.unusedSectionVars false
namespace Nt.Ev.Ytjobobdijjppkaa.Sm
open Go Go.RowKit Nt Nt.Num Nt.Sps Nt.Ev.Ytjobobdijjppkaa.Sp Go.Proofs.Ytjobobdijjppkaa
noncomputable def insV (o : List V) (p : Inf) : List V := o.take (kL (infOf o) p) ++ nrm p :: o.drop (kL (infOf o) p)
theorem insV_inf (o : List V) (p : Inf) : infOf (insV o p) = insL (infOf o) p := by
  unfold insV
  rw [infOf_app, infOf_cons, infC_nrm, insL_cut]
  unfold infOf
  rw [List.map_take, List.map_drop]
theorem insV_len (o : List V) (p : Inf) : (insV o p).length = o.length + 1 := by
  have := congrArg List.length (insV_inf o p)
  rw [inf_len, insL_len, inf_len] at this
  exact this
noncomputable def ivV (xs : List V) : List V → List V → List V
  | [], o => o
  | y :: b, o => if infC y ∈ infOf xs then ivV xs b o else ivV xs b (insV o (infC y))
theorem ivV_inf (xs : List V) : ∀ (b o : List V), infOf (ivV xs b o) = inL (infOf xs) (infOf b) (infOf o)
  | [], o => rfl
  | y :: b, o => by
    rw [infOf_cons, inL, ivV]
    split
    · exact ivV_inf xs b o
    · rw [ivV_inf xs b (insV o (infC y)), insV_inf]
theorem kL_lt : ∀ (o : List Inf) (p : Inf) (k : Nat), k < kL o p → ∃ h : k < o.length, (o[k]).1.1 < p.1.1
  | [], p, k, h => absurd h (Nat.not_lt_zero k)
  | y :: o, p, k, h => by
    unfold kL at h
    split at h
    · rename_i hy
      cases k with
      | zero => exact ⟨by rw [List.length_cons]; omega, hy⟩
      | succ k =>
        obtain ⟨h1, h2⟩ := kL_lt o p k (by omega)
        exact ⟨by rw [List.length_cons]; omega, h2⟩
    · exact absurd h (Nat.not_lt_zero k)
theorem kL_stop : ∀ (o : List Inf) (p : Inf) (h : kL o p < o.length), ¬ (o[kL o p]).1.1 < p.1.1
  | [], p, h => absurd h (Nat.not_lt_zero _)
  | y :: o, p, h => by
    by_cases hy : y.1.1 < p.1.1
    · have e : kL (y :: o) p = kL o p + 1 := by rw [kL, if_pos hy]
      have h2 : kL o p < o.length := by rw [e, List.length_cons] at h; omega
      have := kL_stop o p h2
      simp only [e, List.getElem_cons_succ]
      exact this
    · have e : kL (y :: o) p = 0 := by rw [kL, if_neg hy]
      simp only [e, List.getElem_cons_zero]
      exact hy
theorem from_at (o : List V) (k : Nat) (h : k < o.length) : asInt (acell (lget o (k : Int)) 0) = ((infOf o)[k]'(by rw [inf_len]; exact h)).1.1 := by
  rw [lget_nat]
  unfold infOf
  rw [List.getElem_map, List.getD_eq_getElem?_getD, List.getElem?_eq_getElem h]
  rfl
theorem m39_L1 (F m0 : Nat) (xs ys out : List V) (p : Inf) (x22 x23 : Int) (hl : out.length ≤ 100000) : ∀ (j k n : Nat), k + j = kL (infOf out) p → j < n →
    mMerge39_L1 F [m0] n xs ys out (k : Int) ys x22 x23 p.1.1 p.1.2 p.2.1 p.2.2.1 p.2.2.2 some = mMerge39_L0 F [] m0 xs ys (insV out p) ys x22 (iadd .i64 x23 1) some := by
  intro j
  have hle := kL_le (infOf out) p
  rw [inf_len] at hle
  induction j with
  | zero =>
    intro k n hk hn
    obtain ⟨n, rfl⟩ : ∃ m, n = m + 1 := ⟨n - 1, by omega⟩
    have hk : k = kL (infOf out) p := by omega
    have b1 : band (ile 0 (k : Int)) (ile (k : Int) (llen out)) = true := by rw [band_iff, ile_iff, ile_iff, llen_nat]; omega
    have s1 : lsub out 0 (k : Int) = out.take k := by unfold lsub; simp
    have s2 : lsub out (k : Int) (llen out) = out.drop k := by
      unfold lsub
      rw [llen_nat]
      exact List.take_of_length_le (by simp)
    have e0 : V.agg [.int .i64 p.1.1, .int .i64 p.1.2, .int .i64 p.2.1, .int .i64 p.2.2.1, .str p.2.2.2] = nrm p := rfl
    have c1 : lcat [] (out.take k) = out.take k := rfl
    have c2 : lcat (lcat (out.take k) [nrm p]) (out.drop k) = insV out p := by
      unfold lcat insV
      rw [← hk, List.append_assoc]; rfl
    have o1 : okApp [] (out.take k) = true := by rw [okApp_iff]; simp only [List.length_nil, List.length_take]; omega
    have o2 : okApp (out.take k) [nrm p] = true := by rw [okApp_iff]; simp only [List.length_cons, List.length_nil, List.length_take]; omega
    have o3 : okApp (lcat (out.take k) [nrm p]) (out.drop k) = true := by rw [okApp_iff]; simp only [lcat, List.length_append, List.length_cons, List.length_nil, List.length_take, List.length_drop]; omega
    rw [mMerge39_L1_succ]
    simp only [b1, s1, s2, e0, c1, c2, o1, o2, o3, both_self, st]
    by_cases hlt : k < out.length
    · rw [sel_pos (ilt_t (by rw [llen_nat]; omega)), sel_pos (by rw [band_iff, ile_iff, ilt_iff, llen_nat]; omega), sel_neg (ilt_f ?_)]
      rw [from_at out k hlt]
      subst hk
      have := kL_stop (infOf out) p (by rw [inf_len]; exact hlt)
      omega
    · rw [sel_neg (ilt_f (by rw [llen_nat]; omega))]
  | succ j ih =>
    intro k n hk hn
    obtain ⟨n, rfl⟩ : ∃ m, n = m + 1 := ⟨n - 1, by omega⟩
    obtain ⟨h1, h2⟩ := kL_lt (infOf out) p k (by omega)
    rw [inf_len] at h1
    rw [mMerge39_L1_succ, sel_pos (ilt_t (by rw [llen_nat]; omega)), sel_pos (by rw [band_iff, ile_iff, ilt_iff, llen_nat]; omega), sel_pos (ilt_t (by rw [from_at out k h1]; exact h2)), iadd64 (by omega), show (k : Int) + 1 = ((k + 1 : Nat) : Int) by omega]
    exact ih (k + 1) n (by omega) (by omega)
theorem m39_L0 (F : Nat) (xs ys : List V) (hx : xs.length ≤ 30000) (hy : ys.length ≤ 30000) (hF : xs.length + ys.length + 2 ≤ F) : ∀ (j i n : Nat) (out : List V), i + j = ys.length → j < n → out.length ≤ xs.length + i →
    mMerge39_L0 F [] n xs ys out ys (llen ys) (i : Int) some = some (mgR (ivV xs (ys.drop i) out)) := by
  intro j
  induction j with
  | zero =>
    intro i n out hi hn ho
    obtain ⟨n, rfl⟩ : ∃ m, n = m + 1 := ⟨n - 1, by omega⟩
    rw [mMerge39_L0_succ, sel_neg (ilt_f (by rw [llen_nat]; omega)), sel_pos (by rw [band_iff, ile_iff, llen_nat]; exact ⟨rfl, by omega⟩), mg_end, List.drop_of_length_le (by omega)]
    rfl
  | succ j ih =>
    intro i n out hi hn ho
    obtain ⟨n, rfl⟩ : ∃ m, n = m + 1 := ⟨n - 1, by omega⟩
    have hlt : i < ys.length := by omega
    have hd : ys.drop i = lget ys (i : Int) :: ys.drop (i + 1) := by
      rw [List.drop_eq_getElem_cons hlt, lget_nat, List.getD_eq_getElem?_getD, List.getElem?_eq_getElem hlt]; rfl
    obtain ⟨y, hy0⟩ : ∃ y, lget ys (i : Int) = y := ⟨_, rfl⟩
    rw [hy0] at hd
    obtain ⟨p, hp⟩ : ∃ p, infC y = p := ⟨_, rfl⟩
    have p0 : asInt (acell y 0) = p.1.1 := by rw [← hp]; rfl
    have p1 : asInt (acell y 1) = p.1.2 := by rw [← hp]; rfl
    have p2 : asInt (acell y 2) = p.2.1 := by rw [← hp]; rfl
    have p3 : asInt (acell y 3) = p.2.2.1 := by rw [← hp]; rfl
    have p4 : asStr (acell y 4) = p.2.2.2 := by rw [← hp]; rfl
    have hz : ((0 : Nat) : Int) = 0 := rfl
    rw [mMerge39_L0_succ, sel_pos (ilt_t (by rw [llen_nat]; omega)), sel_pos (by rw [band_iff, ile_iff, ilt_iff, llen_nat]; omega), sel_pos (by rw [band_iff, ile_iff, llen_nat]; exact ⟨rfl, by omega⟩), hy0, p0, p1, p2, p3, p4, hd, ivV, hp]
    have hI : iadd .i64 (i : Int) 1 = ((i + 1 : Nat) : Int) := by rw [iadd64 (by omega)]; omega
    by_cases hm : p ∈ infOf xs
    · rw [if_pos hm, sel_pos (by unfold haB; exact decide_eq_true hm), hI]
      exact ih (i + 1) n out (by omega) (by omega) (by omega)
    · have hkl := kL_le (infOf out) p
      rw [inf_len] at hkl
      rw [if_neg hm, sel_neg (by unfold haB; exact decide_eq_false hm), ← hz, m39_L1 F n xs ys out p (llen ys) (i : Int) (by omega) (kL (infOf out) p) 0 F (by omega) (by omega), hI]
      exact ih (i + 1) n (insV out p) (by omega) (by omega) (by rw [insV_len]; omega)
noncomputable def mrV (xs ys : List V) : List V := if sdB xs = true ∧ sdB ys = true ∧ sdB (ivV xs ys xs) = true then ivV xs ys xs else []
theorem mr_both {xs ys : List V} (h1 : sdB xs = true) (h2 : sdB ys = true) : (if sdB (ivV xs ys xs) = true then (infOf (ivV xs ys xs), (0 : Int)) else ([], 21)) = mgL (infOf xs) (infOf ys) := by
  have h : sdB (ivV xs ys xs) = sdL (inL (infOf xs) (infOf ys) (infOf xs)) := by unfold sdB; rw [ivV_inf]
  rw [h, ivV_inf]
  unfold mgL
  rw [if_pos (show sdL (infOf xs) = true ∧ sdL (infOf ys) = true from ⟨h1, h2⟩)]
  exact in_mg h1 h2
theorem mr_val (xs ys : List V) : infOf (mrV xs ys) = (mgL (infOf xs) (infOf ys)).1 := by
  by_cases h1 : sdB xs = true
  · by_cases h2 : sdB ys = true
    · rw [← mr_both h1 h2]
      unfold mrV
      by_cases h3 : sdB (ivV xs ys xs) = true
      · rw [if_pos h3, if_pos ⟨h1, h2, h3⟩]
      · rw [if_neg h3, if_neg fun q => h3 q.2.2]; rfl
    · unfold mrV mgL
      rw [if_neg fun q => h2 q.2.1, if_neg (show ¬ (sdL (infOf xs) = true ∧ sdL (infOf ys) = true) from fun q => h2 q.2)]; rfl
  · unfold mrV mgL
    rw [if_neg fun q => h1 q.1, if_neg (show ¬ (sdL (infOf xs) = true ∧ sdL (infOf ys) = true) from fun q => h1 q.1)]; rfl
theorem mMerge39_ev (xs ys : List V) (h1 : xs.length ≤ 30000) (h2 : ys.length ≤ 30000) : Contract sE 31 [.sl 65 K5 none xs, .sl 65 K5 none ys] (.tup [.sl 65 K5 (some 0) (mrV xs ys), .int .i64 (mgE xs ys)]) := by
  refine contract_of_body sE_ok mS1_ok (xs.length + ys.length + 2) 2 ?_
  rw [mMerge39_top, sel_pos (by rw [band_iff, ile_iff, llen_nat]; exact ⟨rfl, by omega⟩), mg_err]
  cases c1 : sdB xs with
  | false =>
    have c1' : sdL (infOf xs) = false := c1
    unfold mrV mgL
    rw [sel_pos (show bnot false = true from rfl), if_neg (by rw [c1]; rintro ⟨q, _⟩; cases q), c1', if_neg (by rintro ⟨q, _⟩; cases q)]
  | true =>
    rw [sel_neg (show bnot true = false from rfl), sel_pos (by rw [band_iff, ile_iff, llen_nat]; exact ⟨rfl, by omega⟩)]
    cases c2 : sdB ys with
    | false =>
      have c2' : sdL (infOf ys) = false := c2
      unfold mrV mgL
      rw [sel_pos (show bnot false = true from rfl), if_neg (by rw [c2]; rintro ⟨_, q, _⟩; cases q), c2', if_neg (by rintro ⟨_, q⟩; cases q)]
    | true =>
      have hz : ((0 : Nat) : Int) = 0 := rfl
      have hc : lcat [] xs = xs := rfl
      rw [sel_neg (show bnot true = false from rfl), sel_pos (by rw [okApp_iff]; simp only [List.length_nil]; omega), hc, ← hz, m39_L0 _ xs ys h1 h2 (Nat.le_refl _) ys.length 0 _ xs (by omega) (by omega) (by omega), List.drop_zero, ← mr_both c1 c2]
      unfold mgR mrV
      rw [c1, c2]
      cases sdB (ivV xs ys xs) with
      | true => rw [if_pos rfl, if_pos rfl, if_pos ⟨rfl, rfl, rfl⟩, if_pos rfl]
      | false => rw [if_neg (by decide), if_neg (by decide), if_neg (by rintro ⟨_, _, q⟩; cases q), if_neg (by decide)]
end Nt.Ev.Ytjobobdijjppkaa.Sm

set_option linter.unusedVariables false
set_option linter.unusedSimpArgs false
set_option linter.unusedSectionVars false
namespace Nt.Ev.Ytjobobdijjppkaa.Sm
open Go Nt.Num Go.Proofs.Ytjobobdijjppkaa
open Nt.Ev.Ytjobobdijjppkaa.Sp
noncomputable def mMrS : FSpec := fun a => match a with | [x, y] => some (band (band (isIn x) (isIn y)) (band (ile (llen (infs x)) 30000) (ile (llen (infs y)) 30000)), .tup [.sl 65 [.int .i64, .int .i64, .int .i64, .int .i64, .str] (some 0) (mrV (infs x) (infs y)), .int .i64 (mgE (infs x) (infs y))]) | _ => none
noncomputable def mL3 : List (Nat × FSpec) := (31, mMrS) :: mL
set_option maxRecDepth 100000 in
theorem l39T_top (F : Nat) (xs : List V) (ys : List V) (a : Int) (b : Int) (K : V → Option V) :
 evBd sE (evFn sE mL3 F 2) F 6 [(V.sl 65 [(Kd.int .i64), (Kd.int .i64), (Kd.int .i64), (Kd.int .i64), (Kd.str)] none xs), (V.sl 65 [(Kd.int .i64), (Kd.int .i64), (Kd.int .i64), (Kd.int .i64), (Kd.str)] none ys), (V.agg [(V.int .i64 a), (V.int .i64 b)])] K =
 sel (ilt 40 (llen xs))
 (K (V.bool true))
 (sel (ilt 40 (llen ys))
 (K (V.bool true))
 (sel (band (band true true) (band (ile (llen xs) 30000) (ile (llen ys) 30000)))
 (sel (band (band true true) (band (ile (llen xs) 30000) (ile (llen ys) 30000)))
 (sel (band (band true true) (ile (llen (mgV xs ys)) 1000000))
 (sel (siB (mgV xs ys) (mrV xs ys))
 (sel (ieq (mgE xs ys) (mgE xs ys))
 (sel (band true (ile (llen xs) 1000000))
 (sel (band true (ile (llen xs) 1000000))
 (sel (beq (sdB xs) (sdB xs))
 (sel (band true (ile (llen xs) 30000))
 (sel (band true (ile (llen xs) 30000))
 (sel (band (band true true) (band (ile (llen (paV xs)) 1000000) (ile (llen (paV xs)) 1000000)))
 (sel (saB (paV xs) (paV xs))
 (sel (band true (ile (llen xs) 30000))
 (sel (band true (ile (llen xs) 30000))
 (sel (band (band true true) (band (ile (llen (miV xs a b)) 1000000) (ile (llen (miV xs a b)) 1000000)))
 (sel (saB (miV xs a b) (miV xs a b))
 (sel (band true (ile (llen xs) 30000))
 (sel (band true (ile (llen xs) 30000))
 (sel (band (band true true) (ile (llen (cuV xs a b)) 1000000))
 (sel (siB (cuV xs a b) (cuV xs a b))
 (K (V.bool true))
 (K (V.bool false)))
 (none))
 (none))
 (none))
 (K (V.bool false)))
 (none))
 (none))
 (none))
 (K (V.bool false)))
 (none))
 (none))
 (none))
 (K (V.bool false)))
 (none))
 (none))
 (K (V.bool false)))
 (K (V.bool false)))
 (none))
 (none))
 (none))) := by kernel_rfl
end Nt.Ev.Ytjobobdijjppkaa.Sm

set_option linter.unusedVariables false
set_option linter.unusedSimpArgs false
set_option linter.unusedSectionVars false
namespace Nt.Ev.Ytjobobdijjppkaa.Sm
open Go Go.RowKit Nt Nt.Num Nt.Sps Nt.Ev.Ytjobobdijjppkaa.Sp Go.Proofs.Ytjobobdijjppkaa
theorem mMrS_ok (x y : V) (hc : band (band (isIn x) (isIn y)) (band (ile (llen (infs x)) 30000) (ile (llen (infs y)) 30000)) = true) : Contract sE 31 [x, y] (.tup [.sl 65 K5 (some 0) (mrV (infs x) (infs y)), .int .i64 (mgE (infs x) (infs y))]) := by
  rw [band_iff, band_iff, band_iff, ile_iff, ile_iff, llen_nat, llen_nat] at hc
  exact ci2 hc.1.1 hc.1.2 (mMerge39_ev _ _ (by omega) (by omega))
theorem mL3_ok : SOk sE mL3 := by
  unfold mL3
  refine SOk.cons (fun args r h => ?_) (mL_ok)
  · unfold mMrS at h
    split at h
    · simp only [Option.some.injEq, Prod.mk.injEq] at h
      obtain ⟨hc, rfl⟩ := h
      exact mMrS_ok _ _ hc
    · cases h
theorem siB_self (xs : List V) : siB xs xs = true := siB_iff.2 rfl
theorem mg_T (xs ys : List V) (a b : Int) : Contract sE 6 [.sl 65 K5 none xs, .sl 65 K5 none ys, .agg [.int .i64 a, .int .i64 b]] (.bool true) := by
  refine contract_of_body sE_ok mL3_ok 5 2 ?_
  rw [l39T_top]
  by_cases c1 : 40 < llen xs
  · rw [sel_pos (ilt_t c1)]
  rw [sel_neg (ilt_f (by omega))]
  by_cases c2 : 40 < llen ys
  · rw [sel_pos (ilt_t c2)]
  rw [sel_neg (ilt_f (by omega))]
  rw [llen_nat] at c1 c2
  have l1 := cuV_len xs a b
  have l2 := paV_len xs
  have l3 : (miV xs a b).length ≤ 1 + xs.length := by
    have := leV_len [V.agg [.int .i64 a, .int .i64 b]] (paV xs)
    rw [List.length_singleton] at this
    unfold miV
    omega
  have l4 := mgV_len xs ys
  have e1 := ll xs 30000 (by omega)
  have e2 := ll ys 30000 (by omega)
  have e3 := ll xs 1000000 (by omega)
  have e5 := ll (cuV xs a b) 1000000 (by omega)
  have e6 := ll (paV xs) 1000000 (by omega)
  have e7 := ll (miV xs a b) 1000000 (by omega)
  have e9 := ll (mgV xs ys) 1000000 (by omega)
  have f1 : siB (mgV xs ys) (mrV xs ys) = true := by rw [siB_iff, mg_val, mr_val]
  simp only [e1, e2, e3, e5, e6, e7, e9, f1, siB_self, saB_self, ieq_self, beq_self, band_t, st]
end Nt.Ev.Ytjobobdijjppkaa.Sm
