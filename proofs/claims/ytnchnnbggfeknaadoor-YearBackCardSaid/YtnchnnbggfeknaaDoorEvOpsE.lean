/-
  More operations: structs held against each other, places of arrays that are told by a number, min and max.
-/
import Derived.Test.YtnchnnbggfeknaaDoorEvOps4
import Derived.Laws.StructEq
import Derived.ChangeKeysEq
set_option linter.unusedVariables false
set_option linter.unusedSimpArgs false
namespace Nt.Ev
open Go Go.RowKit
section
variable {P : Program} {ρ : Operand → Value} {o : Oper} {B : Nat} {w : World} {g : Gh} {bx : List (Nat × List V)}

theorem part_agg {t : TypeId} {arr : List Value} {off n : Nat} (ha : isAggT P t = some true) (hs : sizeT P t = some n) : (part t arr.toArray off).run P w = .ok (.agg ((arr.drop off).take n).toArray) w := by
  simp only [part, Sem.run_bind, isAggT_run ha, Result.andThen_ok, if_true, sizeT_run hs, Sem.run_pure]
  have e : arr.toArray.extract off (off + n) = (List.take n (List.drop off arr)).toArray := by
    rw [← Array.toList_inj]
    simp
  rw [e]
theorem part_one {t : TypeId} {arr : List Value} {off : Nat} {v : Value} (ha : isAggT P t = some false) (hv : arr[off]? = some v) : (part t arr.toArray off).run P w = .ok v w := by
  simp [part, isAggT_run ha, hv]

/-- A type's value, by its cells. -/
def cval (P : Program) (t : TypeId) (us : List Value) (u : Value) : Prop := (isAggT P t = some true ∧ u = .agg us.toArray) ∨ (isAggT P t = some false ∧ us = [u])

theorem part_cval {t : TypeId} {arr : List Value} {off n : Nat} {b : Bool} (ha : isAggT P t = some b) (hs : sizeT P t = some n) (h1 : b = false → ((arr.drop off).take n).length = 1) :
    ∃ u, (part t arr.toArray off).run P w = .ok u w ∧ cval P t ((arr.drop off).take n) u := by
  cases b with
  | true => exact ⟨_, part_agg ha hs, .inl ⟨ha, rfl⟩⟩
  | false =>
    have h1 := h1 rfl
    cases hd : (arr.drop off).take n with
    | nil => rw [hd] at h1; cases h1
    | cons u t' =>
      cases t' with
      | cons _ _ => rw [hd] at h1; simp at h1
      | nil =>
        refine ⟨u, part_one ha ?_, .inr ⟨ha, rfl⟩⟩
        have h0 : ((arr.drop off).take n)[0]? = some u := by rw [hd]; rfl
        rw [List.getElem?_take] at h0
        split at h0
        · rw [List.getElem?_drop, Nat.add_zero] at h0; exact h0
        · cases h0

theorem eqT_kind {m : Nat} {t : TypeId} {xs ys : List V} {c : Bool} (h : eqT P m t xs ys = some c) : ∃ b, isAggT P t = some b ∧ (b = false → xs.length = 1 ∧ ys.length = 1) := by
  cases m with
  | zero => cases h
  | succ m =>
    unfold eqT at h
    unfold isAggT
    split at h
    · rename_i hu
      rw [hu]
      refine ⟨false, rfl, fun _ => ?_⟩
      split at h
      · exact ⟨rfl, rfl⟩
      · cases h
    · rename_i k hu
      rw [hu]
      refine ⟨false, rfl, fun _ => ?_⟩
      split at h
      · exact ⟨rfl, rfl⟩
      · cases h
    · rename_i hu
      rw [hu]
      refine ⟨false, rfl, fun _ => ?_⟩
      split at h
      · exact ⟨rfl, rfl⟩
      · cases h
    · rename_i fs hu
      rw [hu]
      exact ⟨true, rfl, fun h => by cases h⟩
    · rename_i k e hu
      rw [hu]
      exact ⟨true, rfl, fun h => by cases h⟩
    · cases h

/-- What a part's comparison gives. -/
def EqOk (P : Program) (w : World) (m d : Nat) : Prop := ∀ (t : TypeId) (xs ys : List V) (c : Bool), eqT P m t xs ys = some c → ∀ (G : Known) (us vs : List Value) (u v : Value), PW (rep G) xs us → PW (rep G) ys vs → cval P t us u → cval P t vs v →
  (Op.equalIn (d + m) t u v).run P w = .ok c w

theorem step_ok {m d : Nat} (ih : EqOk P w m d) {t : TypeId} {n off : Nat} {xs ys : List V} {c : Bool} (hs : sizeT P t = some n) (h : eqT P m t ((xs.drop off).take n) ((ys.drop off).take n) = some c) {G : Known} {us vs : List Value} (hx : PW (rep G) xs us) (hy : PW (rep G) ys vs) :
    ∃ a b, (part t us.toArray off).run P w = .ok a w ∧ (part t vs.toArray off).run P w = .ok b w ∧ (Op.equalIn (d + m) t a b).run P w = .ok c w := by
  obtain ⟨b, hb, h1⟩ := eqT_kind h
  have hx' := (hx.drop off).take n
  have hy' := (hy.drop off).take n
  obtain ⟨u, hu, cu⟩ := part_cval (w := w) (arr := us) (off := off) hb hs (fun e => by rw [← hx'.1]; exact (h1 e).1)
  obtain ⟨v, hv, cv⟩ := part_cval (w := w) (arr := vs) (off := off) hb hs (fun e => by rw [← hy'.1]; exact (h1 e).2)
  exact ⟨u, v, hu, hv, ih t _ _ c h G _ _ u v hx' hy' cu cv⟩

theorem allEq_cons {α : Type} {f : α → Option Bool} {a : α} {l : List α} {c : Bool} (h : allEq f (a :: l) = some c) : ∃ p q, f a = some p ∧ allEq f l = some q ∧ c = (match p with | true => q | false => false) := by
  cases l with
  | nil =>
    simp only [allEq] at h
    refine ⟨c, true, h, rfl, ?_⟩
    cases c <;> rfl
  | cons b l =>
    simp only [allEq] at h
    split at h
    · rename_i p q hp hq
      simp only [Option.some.injEq] at h
      subst h
      exact ⟨p, q, hp, hq, rfl⟩
    · cases h

theorem fields_ok {m d : Nat} (ih : EqOk P w m d) {xs ys : List V} {G : Known} {us vs : List Value} (hx : PW (rep G) xs us) (hy : PW (rep G) ys vs) : ∀ (fs : List Field) (c : Bool),
    allEq (fun f => bif f.name == "_" then none else match sizeT P f.type with
        | some n => eqT P m f.type ((xs.drop f.offset).take n) ((ys.drop f.offset).take n)
        | none => none) fs = some c → (Op.eqFields (d + m) us.toArray vs.toArray fs).run P w = .ok c w
  | [], c, h => by
    simp only [allEq, Option.some.injEq] at h
    subst h
    rfl
  | f :: fs, c, h => by
    obtain ⟨p, q, h1, h2, rfl⟩ := allEq_cons h
    have h3 := fields_ok ih hx hy fs q h2
    cases hn : f.name == "_" with
    | true => rw [hn] at h1; cases h1
    | false =>
      rw [hn, cond_false] at h1
      have hne : f.name ≠ "_" := by simpa using hn
      split at h1
      · rename_i n hs
        obtain ⟨a, b, pa, pb, pe⟩ := step_ok ih hs h1 hx hy
        simp only [Op.eqFields, hne, ne_eq, not_false_eq_true, if_true, Sem.run_bind, pa, pb, pe, Result.andThen_ok]
        cases p
        · rfl
        · simpa using h3
      · cases h1

theorem items_ok {m d : Nat} (ih : EqOk P w m d) {e : TypeId} {n : Nat} (hs : sizeT P e = some n) {xs ys : List V} {G : Known} {us vs : List Value} (hx : PW (rep G) xs us) (hy : PW (rep G) ys vs) : ∀ (is : List Nat) (c : Bool),
    allEq (fun i => eqT P m e ((xs.drop (i * n)).take n) ((ys.drop (i * n)).take n)) is = some c → (Op.eqItems (d + m) e n us.toArray vs.toArray is).run P w = .ok c w
  | [], c, h => by
    simp only [allEq, Option.some.injEq] at h
    subst h
    rfl
  | i :: is, c, h => by
    obtain ⟨p, q, h1, h2, rfl⟩ := allEq_cons h
    have h3 := items_ok ih hs hx hy is q h2
    obtain ⟨a, b, pa, pb, pe⟩ := step_ok ih hs h1 hx hy
    simp only [Op.eqItems, Sem.run_bind, pa, pb, pe, Result.andThen_ok]
    cases p
    · rfl
    · simpa using h3

theorem eqT_sound (d : Nat) : ∀ m, EqOk P w m d
  | 0 => fun t xs ys c h => by cases h
  | m + 1 => by
    intro t xs ys c h G us vs u v hx hy cu cv
    have ih := eqT_sound d m
    show (Op.equalIn ((d + m) + 1) t u v).run P w = .ok c w
    unfold eqT at h
    split at h
    · rename_i hu
      have hk : isAggT P t = some false := by unfold isAggT; rw [hu]
      split at h
      · simp only [Option.some.injEq] at h
        subst h
        obtain ⟨u', t', rfl, hu1, ht'⟩ := hx.cons_inv
        obtain ⟨v', s', rfl, hv1, hs'⟩ := hy.cons_inv
        rw [ht'.nil_iff] at cu
        rw [hs'.nil_iff] at cv
        unfold rep at hu1 hv1
        rcases cu with ⟨hk', _⟩ | ⟨_, cu⟩
        · rw [hk] at hk'; cases hk'
        · rcases cv with ⟨hk', _⟩ | ⟨_, cv⟩
          · rw [hk] at hk'; cases hk'
          · simp only [List.cons.injEq, and_true] at cu cv
            rw [← cu, ← cv, hu1, hv1]
            exact run_equalIn_bool' w _ t _ _ hu
      · cases h
    · rename_i k hu
      have hk : isAggT P t = some false := by unfold isAggT; rw [hu]
      split at h
      · have hh := cond_some h
        clear h
        obtain ⟨hk1, h⟩ := hh
        have hk2 := of_decide_eq_true hk1
        clear hk1
        subst hk2
        simp only [Option.some.injEq] at h
        subst h
        obtain ⟨u', t', rfl, hu1, ht'⟩ := hx.cons_inv
        obtain ⟨v', s', rfl, hv1, hs'⟩ := hy.cons_inv
        rw [ht'.nil_iff] at cu
        rw [hs'.nil_iff] at cv
        unfold rep at hu1 hv1
        rcases cu with ⟨hk', _⟩ | ⟨_, cu⟩
        · rw [hk] at hk'; cases hk'
        · rcases cv with ⟨hk', _⟩ | ⟨_, cv⟩
          · rw [hk] at hk'; cases hk'
          · simp only [List.cons.injEq, and_true] at cu cv
            rw [← cu, ← cv, hu1, hv1]
            exact run_equalIn_int w _ t _ _ _ _ hu
      · cases h
    · rename_i hu
      have hk : isAggT P t = some false := by unfold isAggT; rw [hu]
      split at h
      · simp only [Option.some.injEq] at h
        subst h
        obtain ⟨u', t', rfl, hu1, ht'⟩ := hx.cons_inv
        obtain ⟨v', s', rfl, hv1, hs'⟩ := hy.cons_inv
        rw [ht'.nil_iff] at cu
        rw [hs'.nil_iff] at cv
        unfold rep at hu1 hv1
        rcases cu with ⟨hk', _⟩ | ⟨_, cu⟩
        · rw [hk] at hk'; cases hk'
        · rcases cv with ⟨hk', _⟩ | ⟨_, cv⟩
          · rw [hk] at hk'; cases hk'
          · simp only [List.cons.injEq, and_true] at cu cv
            rw [← cu, ← cv, hu1, hv1, run_equalIn_string w _ t _ _ hu, seq_toList]
      · cases h
    · rename_i fs hu
      have hk : isAggT P t = some true := by unfold isAggT; rw [hu]
      cases hst : P.stoodInHeld t with
      | true => rw [hst] at h; cases h
      | false =>
        rw [hst, cond_false] at h
        rcases cu with ⟨_, rfl⟩ | ⟨hk', _⟩
        · rcases cv with ⟨_, rfl⟩ | ⟨hk', _⟩
          · have hfs : P.fieldsOf t = fs := by unfold Program.fieldsOf; rw [hu]
            rw [run_equalIn_struct w _ t _ _ (by rw [hfs]; exact hu) hst, hfs]
            exact fields_ok ih hx hy fs.toList c h
          · rw [hk] at hk'; cases hk'
        · rw [hk] at hk'; cases hk'
    · rename_i k e hu
      have hk : isAggT P t = some true := by unfold isAggT; rw [hu]
      split at h
      · rename_i n hs
        obtain ⟨i, hi, hin⟩ := sizeT_info hs
        rcases cu with ⟨_, rfl⟩ | ⟨hk', _⟩
        · rcases cv with ⟨_, rfl⟩ | ⟨hk', _⟩
          · have hc : P.cellsOf e = n := by simp [Program.cellsOf, hi, hin]
            rw [run_equalIn_array w _ _ _ hu hi, hc]
            exact items_ok ih hs hx hy (List.range k) c h
          · rw [hk] at hk'; cases hk'
        · rw [hk] at hk'; cases hk'
      · cases h
    · cases h

theorem binT_sound {op : BinOp} {xt yt : TypeId} {x y : Operand} {X Y : V} {eff : Eff} (ho : o.op = .binOp op xt x y yt) (hx : trep g X (ρ x)) (hy : trep g Y (ρ y)) (h : binT P op xt X Y = some (true, eff))
    (hother : ∀ {eff : Eff}, (bif boolOk P xt X then resV (binV op X Y) else none) = some (true, eff) → Does P ρ o B w g bx eff) : Does P ρ o B w g bx eff := by
  have he : execOp ρ o = (do pure (.value (← (do eqGuard op xt x y (ρ x) (ρ y); binOp op xt (ρ x) (ρ y))))) := by simp only [execOp, ho]
  unfold binT at h
  split at h
  · rename_i as bs
    cases hg : P.eqGuardType P.depth xt with
    | true => rw [hg] at h; cases h
    | false =>
      rw [hg, cond_false] at h
      obtain ⟨us, hus, hpu⟩ := trep_agg.1 hx
      obtain ⟨vs, hvs, hpv⟩ := trep_agg.1 hy
      split at h
      · rename_i c hag hc
        simp only [ok, Option.some.injEq, Prod.mk.injEq, true_and] at h
        subst h
        have := eqT_sound (P := P) (w := w) 9992 8 xt as bs c hc g.G us vs _ _ hpu hpv (.inl ⟨hag, rfl⟩) (.inl ⟨hag, rfl⟩)
        refine does_val he (u := .bool c) ?_ (trep_bool.2 rfl)
        rw [hus, hvs]
        simp only [Sem.run_bind, run_eqGuard_agg w _ _ _ _ _ _ hg, Result.andThen_ok, run_eql_struct, this]
      · rename_i c hag hc
        simp only [ok, Option.some.injEq, Prod.mk.injEq, true_and] at h
        subst h
        have := eqT_sound (P := P) (w := w) 9992 8 xt as bs c hc g.G us vs _ _ hpu hpv (.inl ⟨hag, rfl⟩) (.inl ⟨hag, rfl⟩)
        refine does_val he (u := .bool (bnot c)) ?_ (trep_bool.2 rfl)
        rw [hus, hvs]
        simp only [Sem.run_bind, run_eqGuard_agg w _ _ _ _ _ _ hg, Result.andThen_ok, run_neq_struct, this]
        rfl
      · cases h
  · exact hother h

theorem boxAddr_sound {t : TypeId} {x i : Operand} {k off : Nat} {q : IntKind} {n : Int} {eff : Eff} (ho : o.op = .indexAddr t x i) (hx : trep g (.box k off) (ρ x)) (hi : ρ i = .int q n) (h : boxAddrV P t k off n = some (true, eff)) : Does P ρ o B w g bx eff := by
  have he : execOp ρ o = (do pure (.value (← Instr.indexAt t (ρ x) (ρ i)))) := by simp only [execOp, ho]
  unfold boxAddrV at h
  split at h
  · rename_i m e hu
    split at h
    · rename_i sz hs
      obtain ⟨h0, h⟩ := cond_some h
      simp only [Option.some.injEq, Prod.mk.injEq, true_and] at h
      subst h
      obtain ⟨b, hb, hp⟩ := trep_box.1 hx
      intro j v hj hv
      subst hj
      rw [List.getElem?_map] at hv
      obtain ⟨j', hj', rfl⟩ := Option.map_eq_some_iff.1 hv
      have hlt : j < m := by
        have := (List.getElem?_eq_some_iff.1 hj').1
        simpa using this
      rw [List.getElem?_range hlt] at hj'
      simp only [Option.some.injEq] at hj'
      subst hj'
      obtain ⟨u, hu1, hu2⟩ := (does_val (B := B) (bx := bx) (v := .box k (off + j * sz)) he (u := .pointer (some ⟨b, off + j * sz, none⟩)) (by
        rw [hp, hi]
        have h1 : (j : Int) < (m : Int) := by omega
        simp [Instr.indexAt, asIntOf, run_underlying hu, h1, Instr.sureAddr, sizeT_run hs, Addr.add_mid]
        intro hh
        exact absurd hh (by omega)) (trep_box.2 ⟨b, hb, rfl⟩) : Does P ρ o B w g bx (.val (.box k (off + j * sz))))
      exact ⟨u, hu1, hu2⟩
    · cases h
  · cases h

theorem chunks_get {ag : Bool} {sz : Nat} : ∀ (n : Nat) (cs : List V) (j : Nat) (v : V), (chunks ag sz n cs)[j]? = some v → j < n ∧ v = (match ag with | true => V.agg ((cs.drop (j * sz)).take sz) | false => cellOne ((cs.drop (j * sz)).getD 0 .any))
  | 0, cs, j, v, h => by simp [chunks] at h
  | n + 1, cs, j, v, h => by
    unfold chunks at h
    cases j with
    | zero =>
      simp only [List.getElem?_cons_zero, Option.some.injEq] at h
      subst h
      refine ⟨by omega, ?_⟩
      cases ag <;> simp
    | succ j =>
      simp only [List.getElem?_cons_succ] at h
      obtain ⟨h1, h2⟩ := chunks_get n _ j v h
      refine ⟨by omega, ?_⟩
      rw [h2]
      rw [List.drop_drop, show sz + j * sz = (j + 1) * sz by rw [Nat.add_mul]; omega]

theorem one_plain {v : V} (h : v.one = true) : v.plain = true ∧ cellOne v = v := by
  cases v with
  | sl e sh ow xs => cases ow <;> first | exact ⟨rfl, rfl⟩ | cases h
  | any => cases h
  | agg _ => cases h
  | tup _ => cases h
  | box _ _ => cases h
  | fn _ _ => cases h
  | _ => exact ⟨rfl, rfl⟩

theorem aggIndex_sound {t : TypeId} {x i : Operand} {cs : List V} {q : IntKind} {n : Int} {eff : Eff} (ho : o.op = .index t x i) (hx : trep g (.agg cs) (ρ x)) (hi : ρ i = .int q n) (h : aggIndexV P t cs n = some (true, eff)) : Does P ρ o B w g bx eff := by
  have he : execOp ρ o = (do pure (.value (← Instr.index t (ρ x) (ρ i)))) := by simp only [execOp, ho]
  unfold aggIndexV at h
  split at h
  · rename_i m e hu
    split at h
    · rename_i sz ag hs hag
      obtain ⟨hm, h⟩ := cond_some h
      simp only [Bool.and_eq_true, beq_iff_eq] at hm
      obtain ⟨⟨⟨hm1, hm2⟩, hm3⟩, hm4⟩ := hm
      have hm2 : 0 < sz := by simpa [Nat.blt_eq] using hm2
      simp only [Option.some.injEq, Prod.mk.injEq, true_and] at h
      subst h
      obtain ⟨a, ha, hpw⟩ := trep_agg.1 hx
      intro j v hj hv
      subst hj
      obtain ⟨hlt, rfl⟩ := chunks_get _ _ _ _ hv
      have h1 : (j : Int) < (m : Int) := by omega
      have hrun : (Instr.index t (.agg a.toArray) (.int q (j : Int))).run P w = (part e a.toArray (j * sz)).run P w := by
        simp [Instr.index, asIntOf, run_underlying hu, h1, sizeT_run hs]
        intro hh
        exact absurd hh (by omega)
      rw [List.all_eq_true] at hm4
      cases ag with
      | true =>
        obtain ⟨u, hu1, hu2⟩ := (does_val (B := B) (bx := bx) (v := .agg ((cs.drop (j * sz)).take sz)) he (u := .agg ((a.drop (j * sz)).take sz).toArray) (by
          rw [ha, hi, hrun]
          exact part_agg hag hs) (trep_agg.2 ⟨_, rfl, (hpw.drop _).take _⟩) : Does P ρ o B w g bx (.val (.agg ((cs.drop (j * sz)).take sz))))
        exact ⟨u, hu1, hu2⟩
      | false =>
        have hsz : sz = 1 := by simpa using hm3
        subst hsz
        rw [Nat.mul_one] at hm1
        rw [Nat.mul_one]
        have hjl : j < cs.length := by omega
        have hget : (cs.drop j).getD 0 .any = cs.getD j .any := by
          rw [List.getD_eq_getElem?_getD, List.getElem?_drop, Nat.add_zero, List.getD_eq_getElem?_getD]
        rw [hget]
        obtain ⟨u, hu', hr⟩ := hpw.get (getD_some hjl)
        have hone := one_plain (hm4 _ (show cs.getD j .any ∈ cs by rw [List.getD_eq_getElem?_getD, List.getElem?_eq_getElem hjl]; exact List.getElem_mem hjl))
        rw [hone.2]
        obtain ⟨u', hu1, hu2⟩ := (does_val (B := B) (bx := bx) (v := cs.getD j .any) he (u := u) (by
          rw [ha, hi, hrun, Nat.mul_one]
          exact part_one hag hu') (trep_of_rep hone.1 hr) : Does P ρ o B w g bx (.val (cs.getD j .any)))
        exact ⟨u', hu1, hu2⟩
    · cases h
  · cases h

theorem minmax_sound {great : Bool} {x y : Operand} {X Y : V} {c : Call} {eff : Eff} (ho : o.op = .call c) (hc : c.callee = .builtin (match great with | true => .max | false => .min)) (ha : c.args.toList = [x, y]) (hx : trep g X (ρ x)) (hy : trep g Y (ρ y)) (h : minmaxV great X Y = some (true, eff)) : Does P ρ o B w g bx eff := by
  obtain ⟨callee, args, argTypes⟩ := c
  simp only at hc ha
  subst hc
  obtain rfl : args = #[x, y] := by rw [← Array.toList_inj]; simpa using ha
  unfold minmaxV at h
  split at h
  · rename_i k a k' b
    obtain ⟨hk, h⟩ := cond_some h
    simp only [ok, Option.some.injEq, Prod.mk.injEq, true_and] at h
    subst h
    rw [trep_int] at hx hy
    cases great with
    | true =>
      refine ⟨.int k (imax a b), ?_, trep_int.2 rfl⟩
      simp only [execOp, ho]
      simp [resolve, invoke, builtin, hx, hy, run_max_int2]
      unfold imax
      omega
    | false =>
      refine ⟨.int k (imin a b), ?_, trep_int.2 rfl⟩
      simp only [execOp, ho]
      simp [resolve, invoke, builtin, hx, hy, run_min_int2]
      unfold imin
      omega
  · cases h
end
end Nt.Ev
