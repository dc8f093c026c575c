/-
  The evaluator's operations, continued: indexes, slices, lengths, boxes.
-/
import Derived.Test.YtnchnnbggfeknaaDoorEvOps3
set_option linter.unusedVariables false
set_option linter.unusedSimpArgs false
namespace Nt.Ev
open Go Go.RowKit
section
variable {P : Program} {ρ : Operand → Value} {o : Oper} {B : Nat} {w : World} {g : Gh} {bx : List (Nat × List V)}

theorem band_true {a b : Bool} (h : band a b = true) : a = true ∧ b = true := by
  cases a
  · cases h
  · exact ⟨rfl, h⟩
theorem ile_true {a b : Int} (h : ile a b = true) : a ≤ b := of_decide_eq_true h
theorem ilt_true {a b : Int} (h : ilt a b = true) : a < b := of_decide_eq_true h

theorem elemT_spec {t e : TypeId} (h : elemT P t = some e) : P.underlying t = some (.slice e) := by
  unfold elemT at h
  split at h
  · rename_i e' he; simp only [Option.some.injEq] at h; subst h; exact he
  · cases h

theorem cond_some {α : Type} {c : Bool} {x : Option α} {y : α} (h : (bif c then x else none) = some y) : c = true ∧ x = some y := by
  cases c
  · cases h
  · exact ⟨rfl, h⟩

theorem lget_some {xs : List V} {i : Int} (h0 : 0 ≤ i) (h1 : i < xs.length) : xs[i.toNat]? = some (lget xs i) := by
  unfold lget
  exact getD_some (by omega)

theorem indexAddr_sound {t : TypeId} {x i : Operand} {X : V} {k : IntKind} {n : Int} {eff : Eff} (ho : o.op = .indexAddr t x i) (hx : trep g X (ρ x)) (hi : ρ i = .int k n) (h : indexAddrV P t X n = some (true, eff)) : Does P ρ o B w g bx eff := by
  have he : execOp ρ o = (do pure (.value (← Instr.indexAt t (ρ x) (ρ i)))) := by simp only [execOp, ho]
  unfold indexAddrV at h
  split at h
  · rename_i e sh ow xs
    split at h
    · rename_i e' hel
      have hu := elemT_spec hel
      split at h
      · rename_i m hs
        have hh := cond_some h
        clear h
        obtain ⟨hm, h⟩ := hh
        obtain rfl : m = sh.length := by simpa using hm
        clear hm
        simp only [Option.some.injEq, Prod.mk.injEq] at h
        obtain ⟨hc, rfl⟩ := h
        obtain ⟨h0, h1⟩ := band_true hc
        have h0 := ile_true h0
        have h1 := ilt_true h1
        unfold llen at h1
        have hr := trep_slice hx
        unfold rep at hr
        obtain ⟨p, cap, hv, hcap, hr⟩ := hr
        have hget := lget_some h0 h1
        rcases hr with hr | ⟨b, off, l, rfl, hG, hE⟩
        · rw [hr] at h1; simp at h1; omega
        · obtain ⟨hf, u, hu', hcs⟩ := repE_get xs _ hE _ _ hget
          refine does_val he (u := .pointer (some ⟨b, off + n.toNat * sh.length, none⟩)) ?_ ?_
          · rw [hv, hi]
            simp [Instr.indexAt, asIntOf, run_underlying hu, h0, h1, sizeT_run hs, Addr.add_mid]
          · rw [trep_rptr]
            refine ⟨b, off + n.toNat * sh.length, l, rfl, hG, hf, u, hu', ?_⟩
            rw [List.drop_drop] at hcs
            exact hcs
      · cases h
    · cases h
  · rename_i sh cs
    split at h
    · rename_i m e hu
      split at h
      · rename_i sz ag hs hag
        have hh := cond_some h
        clear h
        obtain ⟨hm, h⟩ := hh
        simp only [Bool.and_eq_true, beq_iff_eq] at hm
        obtain ⟨⟨⟨hm1, hm2⟩, hm3⟩, hm4⟩ := hm
        have hm2 : 0 < sz := by simpa [Nat.blt_eq] using hm2
        simp only [Option.some.injEq, Prod.mk.injEq] at h
        obtain ⟨hc, rfl⟩ := h
        obtain ⟨h0, h1⟩ := band_true hc
        have h0 := ile_true h0
        have h1 := ilt_true h1
        rw [trep_rptr] at hx
        obtain ⟨b, q, l, hp, hG, hf, u, hr, hcs⟩ := hx
        have hr' := hr
        unfold rep at hr'
        obtain ⟨a, rfl, hL⟩ := hr'
        rw [repL_iff] at hL
        have hshl := fitsL_len _ _ hf
        unfold V.cells at hshl
        simp only at hshl
        have htl : (sh.take sz).length = sz := by
          rw [List.length_take]
          have : 0 < m := by omega
          have : sz ≤ m * sz := Nat.le_mul_of_pos_left _ this
          omega
        have hcl : (chunks ag sz m cs).length = m := by
          have : ∀ (m : Nat) (cs : List V), (chunks ag sz m cs).length = m := by
            intro m
            induction m with
            | zero => intro cs; rfl
            | succ m ih => intro cs; unfold chunks; rw [List.length_cons, ih]
          exact this m cs
        have hE := chunks_repE (sh := sh.take sz) (ag := ag) (by rw [htl]; exact hm3) m cs a hL (by rw [htl]; omega) (by rw [htl]; exact hm2) (by rw [htl]; exact hm4)
        rw [htl] at hE
        have hget := lget_some (xs := chunks ag sz m cs) h0 (by rw [hcl]; exact h1)
        obtain ⟨hf', u, hu', hcs'⟩ := repE_get _ _ hE _ _ hget
        refine does_val he (u := .pointer (some ⟨b, q + n.toNat * sz, none⟩)) ?_ ?_
        · rw [hp, hi]
          simp [Instr.indexAt, asIntOf, run_underlying hu, h0, h1, Instr.sureAddr, sizeT_run hs, Addr.add_mid]
        · rw [trep_rptr]
          refine ⟨b, q + n.toNat * sz, l, rfl, hG, hf', u, hu', ?_⟩
          rw [cells_agg] at hcs
          rw [htl] at hcs' ⊢
          rw [← hcs', ← hcs, ← List.drop_drop]
          rw [List.drop_take, List.take_take]
          congr 1
          have : sz ≤ sh.length - n.toNat * sz := by
            have h2 : n.toNat + 1 ≤ m := by omega
            have h3 := Nat.mul_le_mul_right sz h2
            rw [Nat.add_mul, Nat.one_mul] at h3
            omega
          omega
      · cases h
    · cases h
  · cases h

theorem sat_get {l : List UInt8} {i : Int} (h0 : 0 ≤ i) (h1 : i < l.length) : (⟨l.toArray⟩ : ByteArray)[i.toNat]? = some (l.getD i.toNat 0) := by
  have hlt : i.toNat < l.length := by omega
  have : i.toNat < (⟨l.toArray⟩ : ByteArray).size := by simpa [ByteArray.size] using hlt
  rw [getElem?_pos (⟨l.toArray⟩ : ByteArray) i.toNat this]
  congr 1
  show l.toArray[i.toNat] = _
  rw [List.getD_eq_getElem?_getD, List.getElem?_eq_getElem hlt]
  simp

theorem index_sound {t : TypeId} {x i : Operand} {X : V} {k : IntKind} {n : Int} {eff : Eff} (ho : o.op = .index t x i) (hx : trep g X (ρ x)) (hi : ρ i = .int k n) (h : indexV P t X n = some (true, eff)) : Does P ρ o B w g bx eff := by
  have he : execOp ρ o = (do pure (.value (← Instr.index t (ρ x) (ρ i)))) := by simp only [execOp, ho]
  unfold indexV at h
  split at h
  · rename_i l
    split at h
    · rename_i hu
      simp only [Option.some.injEq, Prod.mk.injEq] at h
      obtain ⟨hc, rfl⟩ := h
      obtain ⟨h0, h1⟩ := band_true hc
      have h0 := ile_true h0
      have h1 := ilt_true h1
      unfold slen at h1
      rw [trep_str] at hx
      refine does_val he (u := .int .u8 (sat l n)) ?_ (trep_int.2 rfl)
      rw [hx, hi]
      simp only [Instr.index, asIntOf, Sem.run_bind, Sem.run_pure, Result.andThen_ok, run_underlying hu, h0, if_true, sat_get h0 h1]
      rfl
    · cases h
  · cases h

theorem bs_size (l : List UInt8) : (⟨l.toArray⟩ : ByteArray).size = l.length := by simp [ByteArray.size]
theorem bs_sub (l : List UInt8) (a b : Int) : (⟨l.toArray⟩ : ByteArray).extract a.toNat b.toNat = ⟨(ssub l a b).toArray⟩ := by
  apply ByteArray.ext
  simp [ssub, List.drop_take]

theorem bound_run {y : Nat} {k : IntKind} {i : Int} {code : BoundsCode} (h0 : 0 ≤ i) (h1 : i ≤ y) : (Instr.sliceBound (.int k i) y code).run P w = .ok i.toNat w := by
  simp [Instr.sliceBound, asIntOf, h0, h1]

/-- A bound of a slicing, as the model reads it. -/
def bnd (x : Option V) (d : Int) : Int := match x with | some (.int _ n) => n | _ => d

theorem bounds_run {isSl : Bool} {len cap : Nat} {lo hi : Option Value} {a b : Int} (ha : (lo = none ∧ a = 0) ∨ ∃ k, lo = some (.int k a)) (hb : (hi = none ∧ b = len) ∨ ∃ k, hi = some (.int k b)) (h0 : 0 ≤ a) (h1 : a ≤ b) (h2 : b ≤ cap) :
    (Instr.sliceBounds isSl len cap lo hi none).run P w = .ok (a.toNat, b.toNat, cap) w := by
  unfold Instr.sliceBounds
  have hb0 : 0 ≤ b := by omega
  have hbn : (b.toNat : Int) = b := Int.toNat_of_nonneg hb0
  have h1' : a ≤ (b.toNat : Int) := by omega
  rcases hb with ⟨rfl, hb⟩ | ⟨kb, rfl⟩ <;> rcases ha with ⟨rfl, rfl⟩ | ⟨ka, rfl⟩
  · have : len = b.toNat := by omega
    simp [this]
  · have : len = b.toNat := by omega
    simp [bound_run h0 h1', this]
  · simp [bound_run hb0 h2]
  · simp [bound_run hb0 h2, bound_run h0 h1']

theorem slice_str_run {t : TypeId} {l : List UInt8} {lo hi : Option Value} {a b : Int} (hu : P.underlying t = some .string) (ha : (lo = none ∧ a = 0) ∨ ∃ k, lo = some (.int k a)) (hb : (hi = none ∧ b = l.length) ∨ ∃ k, hi = some (.int k b))
    (h0 : 0 ≤ a) (h1 : a ≤ b) (h2 : b ≤ l.length) : (Instr.sliceAt t (.string ⟨l.toArray⟩) lo hi none).run P w = .ok (.string ⟨(ssub l a b).toArray⟩) w := by
  have e : (Instr.sliceAt t (.string ⟨l.toArray⟩) lo hi none).run P w = (Instr.slice t (.string ⟨l.toArray⟩) lo hi none).run P w := by
    simp [Instr.sliceAt, run_underlying hu]
  rw [e]
  simp only [Instr.slice, Sem.run_bind, run_underlying hu, Result.andThen_ok, Option.isSome_none, Bool.false_eq_true, if_false, Sem.run_pure,
    bounds_run (P := P) (w := w) (isSl := false) (len := (⟨l.toArray⟩ : ByteArray).size) (cap := (⟨l.toArray⟩ : ByteArray).size) ha (by rw [bs_size]; exact hb) h0 h1 (by rw [bs_size]; exact h2), bs_sub]

theorem slice_row_run {t e : TypeId} {p : Option Addr} {len cap sz : Nat} {lo hi : Option Value} {a b : Int} (hu : P.underlying t = some (.slice e)) (hs : sizeT P e = some sz) (ha : (lo = none ∧ a = 0) ∨ ∃ k, lo = some (.int k a)) (hb : (hi = none ∧ b = len) ∨ ∃ k, hi = some (.int k b))
    (h0 : 0 ≤ a) (h1 : a ≤ b) (h2 : b ≤ cap) : (Instr.sliceAt t (.slice p len cap) lo hi none).run P w = .ok (.slice (if cap = a.toNat then p else p.map (·.add (a.toNat * sz))) (b.toNat - a.toNat) (cap - a.toNat)) w := by
  have e' : (Instr.sliceAt t (.slice p len cap) lo hi none).run P w = (Instr.slice t (.slice p len cap) lo hi none).run P w := by
    simp [Instr.sliceAt, run_underlying hu]
  rw [e']
  simp only [Instr.slice, Sem.run_bind, run_underlying hu, Result.andThen_ok, Sem.run_pure, bounds_run (P := P) (w := w) (isSl := true) (len := len) (cap := cap) ha hb h0 h1 h2, sizeT_run hs]

theorem rep_sub {G : Known} {e : Nat} {sh : List Kd} {ow : Option Nat} {xs : List V} {p : Option Addr} {len cap : Nat} {a b : Int} (h : rep G (.sl e sh ow xs) (.slice p len cap)) (h0 : 0 ≤ a) (h1 : a ≤ b) (h2 : b ≤ xs.length) :
    rep G (.sl e sh none (lsub xs a b)) (.slice (if cap = a.toNat then p else p.map (·.add (a.toNat * sh.length))) (b.toNat - a.toNat) (cap - a.toNat)) := by
  unfold rep at h ⊢
  obtain ⟨p', cap', hv, hcap, h⟩ := h
  simp only [Value.slice.injEq] at hv
  obtain ⟨rfl, rfl, rfl⟩ := hv
  have hlen : (lsub xs a b).length = b.toNat - a.toNat := by unfold lsub; simp; omega
  refine ⟨_, cap - a.toNat, by rw [hlen], by rw [hlen]; omega, ?_⟩
  rcases h with h | ⟨bb, off, l, rfl, hG, hE⟩
  · refine .inl ?_
    rw [h]; unfold lsub; simp
  · by_cases he : lsub xs a b = []
    · exact .inl he
    · refine .inr ⟨bb, off + a.toNat * sh.length, l, ?_, hG, ?_⟩
      · have : ¬ cap = a.toNat := by
          intro hc
          apply he
          apply List.eq_nil_of_length_eq_zero
          rw [hlen]; omega
        rw [if_neg this, Option.map_some, Addr.add_mid]
      · rw [← List.drop_drop]
        unfold lsub
        exact repE_take _ _ _ (repE_drop a.toNat xs _ hE)

theorem optMap {E : Env} {fr : List V} {ac : Act} (hE : ∀ y, trep g (evalO E fr y) (ac.eval y)) (lo : Option Operand) (d : Int) :
    (∀ k n, lo.map (evalO E fr) = some (.int k n) → ∃ k, lo.map ac.eval = some (.int k n)) ∧ (lo.map (evalO E fr) = none → lo.map ac.eval = none) := by
  cases lo with
  | none => exact ⟨fun _ _ h => (by cases h), fun _ => rfl⟩
  | some y =>
    refine ⟨fun k n h => ?_, fun h => ?_⟩
    case refine_2 => cases h
    simp only [Option.map_some, Option.some.injEq] at h
    have := hE y
    rw [h, trep_int] at this
    exact ⟨k, by rw [Option.map_some, this]⟩

theorem slice_sound {E : Env} {fr : List V} {ac : Act} {t : TypeId} {x : Operand} {lo hi : Option Operand} {eff : Eff} (ho : o.op = .slice t x lo hi none) (hE : ∀ y, trep g (evalO E fr y) (ac.eval y))
    (h : sliceV P t (evalO E fr x) (lo.map (evalO E fr)) (hi.map (evalO E fr)) = some (true, eff)) : Does P ac.eval o B w g bx eff := by
  have he : execOp ac.eval o = (do pure (.value (← Instr.sliceAt t (ac.eval x) (lo.map ac.eval) (hi.map ac.eval) none))) := by simp only [execOp, ho, Option.map_none]
  have hx := hE x
  obtain ⟨l1, l2⟩ := optMap hE lo 0
  obtain ⟨r1, r2⟩ := optMap hE hi 0
  unfold sliceV at h
  split at h
  · rename_i l hX
    rw [hX, trep_str] at hx
    have key : ∀ a b : Int, P.underlying t = some .string → ((lo.map ac.eval = none ∧ a = 0) ∨ ∃ k, lo.map ac.eval = some (.int k a)) → ((hi.map ac.eval = none ∧ b = l.length) ∨ ∃ k, hi.map ac.eval = some (.int k b)) → 0 ≤ a → a ≤ b → b ≤ l.length → Does P ac.eval o B w g bx (.val (.str (ssub l a b))) := by
      intro a b hu ha hb h0 h1 h2
      refine does_val he (u := .string ⟨(ssub l a b).toArray⟩) ?_ (trep_str.2 rfl)
      rw [hx]
      exact slice_str_run hu ha hb h0 h1 h2
    split at h
    · rename_i k a k' b hu e1 e2
      simp only [Option.some.injEq, Prod.mk.injEq] at h
      obtain ⟨hc, rfl⟩ := h
      obtain ⟨hc1, hc2⟩ := band_true hc
      obtain ⟨c1, c2⟩ := band_true hc1
      obtain ⟨c3, c4⟩ := band_true hc2
      exact key a b hu (.inr (l1 _ _ e1)) (.inr (r1 _ _ e2)) (ile_true c3) (ile_true c4) (ile_true c2)
    · rename_i k' b hu e1 e2
      simp only [Option.some.injEq, Prod.mk.injEq] at h
      obtain ⟨hc, rfl⟩ := h
      obtain ⟨c1, c2⟩ := band_true hc
      exact key 0 b hu (.inl ⟨l2 e1, rfl⟩) (.inr (r1 _ _ e2)) (Int.le_refl _) (ile_true c1) (ile_true c2)
    · rename_i k a hu e1 e2
      simp only [Option.some.injEq, Prod.mk.injEq] at h
      obtain ⟨hc, rfl⟩ := h
      obtain ⟨c1, c2⟩ := band_true hc
      exact key a (slen l) hu (.inr (l1 _ _ e1)) (.inl ⟨r2 e2, rfl⟩) (ile_true c1) (ile_true c2) (Int.le_refl _)
    · rename_i hu e1 e2
      simp only [ok, Option.some.injEq, Prod.mk.injEq, true_and] at h
      subst h
      have := key 0 l.length hu (.inl ⟨l2 e1, rfl⟩) (.inl ⟨r2 e2, rfl⟩) (Int.le_refl _) (by omega) (Int.le_refl _)
      have e : ssub l 0 (l.length : Int) = l := by unfold ssub; simp
      rwa [e] at this
    · cases h
  · rename_i e sh ow xs hX
    rw [hX] at hx
    have hr := trep_slice hx
    have hr' := hr
    unfold rep at hr'
    obtain ⟨p, cap, hv, hcap, _⟩ := hr'
    rw [hv] at hr
    split at h
    · cases h
    · rename_i e' hel
      have hu := elemT_spec hel
      split at h
      · cases h
      · rename_i n hs
        have hh := cond_some h
        clear h
        obtain ⟨hn, h⟩ := hh
        obtain rfl : n = sh.length := by simpa using hn
        clear hn
        have key : ∀ a b : Int, ((lo.map ac.eval = none ∧ a = 0) ∨ ∃ k, lo.map ac.eval = some (.int k a)) → ((hi.map ac.eval = none ∧ b = xs.length) ∨ ∃ k, hi.map ac.eval = some (.int k b)) → 0 ≤ a → a ≤ b → b ≤ xs.length → Does P ac.eval o B w g bx (.val (.sl e sh none (lsub xs a b))) := by
          intro a b ha hb h0 h1 h2
          refine does_val he (u := .slice (if cap = a.toNat then p else p.map (·.add (a.toNat * sh.length))) (b.toNat - a.toNat) (cap - a.toNat)) ?_ (rep_sub hr h0 h1 h2)
          rw [hv]
          exact slice_row_run hu hs ha hb h0 h1 (by omega)
        split at h
        · rename_i k a k' b e1 e2
          simp only [Option.some.injEq, Prod.mk.injEq] at h
          obtain ⟨hc, rfl⟩ := h
          obtain ⟨hc1, hc2⟩ := band_true hc
          obtain ⟨c1, c2⟩ := band_true hc1
          obtain ⟨c3, c4⟩ := band_true hc2
          exact key a b (.inr (l1 _ _ e1)) (.inr (r1 _ _ e2)) (ile_true c3) (ile_true c4) (ile_true c2)
        · rename_i k' b e1 e2
          simp only [Option.some.injEq, Prod.mk.injEq] at h
          obtain ⟨hc, rfl⟩ := h
          obtain ⟨c1, c2⟩ := band_true hc
          exact key 0 b (.inl ⟨l2 e1, rfl⟩) (.inr (r1 _ _ e2)) (Int.le_refl _) (ile_true c1) (ile_true c2)
        · rename_i k a e1 e2
          simp only [Option.some.injEq, Prod.mk.injEq] at h
          obtain ⟨hc, rfl⟩ := h
          obtain ⟨c1, c2⟩ := band_true hc
          exact key a (llen xs) (.inr (l1 _ _ e1)) (.inl ⟨r2 e2, rfl⟩) (ile_true c1) (ile_true c2) (Int.le_refl _)
        · rename_i e1 e2
          simp only [ok, Option.some.injEq, Prod.mk.injEq, true_and] at h
          subst h
          have := key 0 xs.length (.inl ⟨l2 e1, rfl⟩) (.inl ⟨r2 e2, rfl⟩) (Int.le_refl _) (by omega) (Int.le_refl _)
          have e : lsub xs 0 (xs.length : Int) = xs := by unfold lsub; simp
          rwa [e] at this
        · cases h
  · cases h

theorem len_sound {t : TypeId} {x : Operand} {X : V} {c : Call} {eff : Eff} (ho : o.op = .call c) (hc : c.callee = .builtin .len) (ht : c.argTypes.toList = [t]) (ha : c.args.toList = [x]) (hx : trep g X (ρ x)) (h : lenV P t X = some (true, eff)) : Does P ρ o B w g bx eff := by
  obtain ⟨callee, args, argTypes⟩ := c
  simp only at hc ht ha
  subst hc
  obtain rfl : args = #[x] := by rw [← Array.toList_inj]; simpa using ha
  obtain rfl : argTypes = #[t] := by rw [← Array.toList_inj]; simpa using ht
  have key : ∀ u, (Builtin.len_ #[t] o.type #[ρ x]).run P w = .ok u w → (execOp ρ o).run P w = .ok (.value u) w := by
    intro u hu
    simp [execOp, ho, resolve, invoke, builtin, hu]
  unfold lenV at h
  split at h
  · rename_i l hu
    simp only [ok, Option.some.injEq, Prod.mk.injEq, true_and] at h
    subst h
    rw [trep_str] at hx
    exact ⟨_, key (.int .i64 (slen l)) (by rw [hx]; simp [Builtin.len_, run_underlying hu, goInt, slen, bs_size]), trep_int.2 rfl⟩
  · rename_i e' e sh ow xs hu
    simp only [ok, Option.some.injEq, Prod.mk.injEq, true_and] at h
    subst h
    have hr := trep_slice hx
    unfold rep at hr
    obtain ⟨p, cap, hv, _⟩ := hr
    exact ⟨_, key (.int .i64 (llen xs)) (by rw [hv]; simp [Builtin.len_, run_underlying hu, goInt, llen]), trep_int.2 rfl⟩
  · rename_i e hu
    simp only [ok, Option.some.injEq, Prod.mk.injEq, true_and] at h
    subst h
    rw [trep_nilsl] at hx
    exact ⟨_, key (.int .i64 0) (by rw [hx]; simp [Builtin.len_, run_underlying hu, goInt]), trep_int.2 rfl⟩
  · rename_i n e hu
    simp only [ok, Option.some.injEq, Prod.mk.injEq, true_and] at h
    subst h
    exact ⟨_, key (.int .i64 n) (by simp [Builtin.len_, run_underlying hu, goInt]), trep_int.2 rfl⟩
  · cases h

theorem extract_sound {x : Operand} {i : Nat} {vs : List V} (ho : o.op = .extract x i) (hx : trep g (.tup vs) (ρ x)) (hi : i < vs.length) (hv : (match vs.getD i .any with | .tup _ => false | .fn _ _ => false | _ => true) = true) : Does P ρ o B w g bx (.val (vs.getD i .any)) := by
  have he : execOp ρ o = (do pure (.value (← Instr.extract (ρ x) i))) := by simp only [execOp, ho]
  obtain ⟨a, ha, hpw⟩ := hx
  obtain ⟨u, hu, hr⟩ := hpw.get (getD_some hi)
  refine does_val he (u := u) ?_ ?_
  · rw [ha]
    simp [Instr.extract, hu]
  · generalize vs.getD i .any = y at hr hv
    cases y with
    | tup _ => cases hv
    | fn _ _ => cases hv
    | _ => simp only [trep]; exact hr
end
end Nt.Ev
