/-
  The evaluator's operations, all of them.
-/
import Derived.Test.YtnchnnbggfeknaaDoorEvOps5
set_option linter.unusedVariables false
set_option linter.unusedSimpArgs false
namespace Nt.Ev
open Go Go.RowKit
section
variable {P : Program} {o : Oper} {B : Nat} {w : World} {g : Gh} {bx : List (Nat × List V)} {E : Env} {fr : List V} {ac : Act}

theorem parts_maps (parts : Array (Nat × Operand)) (f : Operand → V) (r : Operand → Value) :
    (parts.toList.map fun (i, x) => (i, f x)).map (·.1) = ((parts.map fun (i, x) => (i, r x)).toList).map (·.1) := by
  simp [Array.toList_map, List.map_map, Function.comp_def]
theorem parts_rep (hE : ∀ y, trep g (evalO E fr y) (ac.eval y)) (parts : Array (Nat × Operand)) : ∀ (i : Nat) (x : V) (v : Value), ((parts.toList.map fun (i, x) => (i, evalO E fr x))[i]?).map (fun (p : Nat × V) => p.2) = some x →
    (((parts.map fun (i, x) => (i, ac.eval x)).toList)[i]?).map (fun (p : Nat × Value) => p.2) = some v → ∀ y, x.deep = some y → rep g.G y v := by
  intro i x v hx hv y hy
  simp only [Array.toList_map, List.getElem?_map, Option.map_map, Function.comp_def] at hx hv
  cases hp : parts.toList[i]? with
  | none => rw [hp] at hx; cases hx
  | some p =>
    rw [hp] at hx hv
    simp only [Option.map_some, Option.some.injEq] at hx hv
    subst hx; subst hv
    exact trep_deep (hE p.2) hy

theorem zeroArr_pw {G : Known} {zv : Value} (hz : absV zv ≠ .any) (n sz : Nat) (hs : zv.cells.size = sz) (h0 : 0 < sz) : PW (rep G) (zerosV (absV zv) n sz) ((Array.range (n * sz)).map (zv.cells[· % zv.cells.size]!)).toList := by
  obtain ⟨hl, hpw⟩ := rep_cells (absV_rep G zv) hz
  unfold zerosV
  refine ⟨by simp, fun i x v hx hv => ?_⟩
  have hi : i < n * sz := by
    have := (List.getElem?_eq_some_iff.1 hx).1
    simpa using this
  simp only [List.getElem?_map, List.getElem?_range hi, Option.map_some, Option.some.injEq] at hx
  subst hx
  have hm : i % sz < sz := Nat.mod_lt _ h0
  simp only [Array.toList_map, List.getElem?_map, Array.toList_range, List.getElem?_range hi, Option.map_some, Option.some.injEq, hs] at hv
  subst hv
  have hm2 : i % sz < (absV zv).cells.length := by omega
  refine hpw.2 (i % sz) _ _ (getD_some hm2) ?_
  have hm3 : i % sz < zv.cells.size := by omega
  simp [hm3]

theorem buildSlice_sound {t : TypeId} {n : Nat} {parts : Array (Nat × Operand)} {eff : Eff} (ho : o.op = .buildSlice t n parts) (hG : GOk g.G w) (hE : ∀ y, trep g (evalO E fr y) (ac.eval y))
    (h : buildSliceV P t n (parts.toList.map fun (i, x) => (i, evalO E fr x)) = some (true, eff)) : Does P ac.eval o B w g bx eff := by
  have he : execOp ac.eval o = (do pure (.value (← Instr.buildSlice t n (parts.map fun (i, x) => (i, ac.eval x))))) := by simp only [execOp, ho]
  unfold buildSliceV at h
  split at h
  · rename_i e sh z hel
    obtain ⟨hu, i, zv, hi, hz, rfl, _, hsz, h0, hzc, hby, hfit⟩ := elemOf_spec hel
    by_cases hn : n = 0
    · subst hn
      simp only [beq_self_eq_true, cond_true] at h
      split at h
      · rename_i hpn
        simp only [Option.some.injEq, Prod.mk.injEq, true_and] at h
        subst h
        have hpe : parts = #[] := by
          have := congrArg List.length hpn
          simp at this
          exact this
        subst hpe
        obtain ⟨G', hN, hF⟩ := own_new (e := e) (sh := sh) (xs := []) (cap := 0) (c := #[]) hG (below_alloc w (.cells #[] e)) (heap_alloc_new w _) h0 (Nat.le_refl _) (by unfold maxLen; omega) (by simp) repE_nil
        refine ⟨_, _, G', ?_, hN, hF⟩
        rw [he]
        have e0 : ∀ f : Nat → Value, Array.map f (Array.range 0) = #[] := fun f => by rw [← Array.toList_inj]; simp
        simp [Instr.buildSlice, run_underlying hu, Go.sizeOf, typeInfo, hi, Instr.fill, newRow, e0]
      · cases h
    · have hn' : (n == 0) = false := by simpa using hn
      rw [hn'] at h
      simp only [cond_false] at h
      split at h
      · rename_i ag cs hag hfl
        have hh := cond_some h
        clear h
        obtain ⟨hc, h⟩ := hh
        simp only [Option.some.injEq, Prod.mk.injEq, true_and] at h
        subst h
        simp only [Bool.and_eq_true] at hc
        obtain ⟨⟨hc1, hc2⟩, hc3⟩ := hc
        have hc3 := Nat.le_of_ble_eq_true hc3
        have hzne : absV zv ≠ .any := fun e => by rw [e, fitsE_any] at hfit; cases hfit
        have hpz := zeroArr_pw (G := g.G) hzne n sh.length hzc h0
        obtain ⟨outs, hfo, hpo⟩ := fill_sound _ _ _ cs _ (parts_maps parts _ ac.eval) (parts_rep hE parts) hpz hfl
        have hlen : cs.length = n * sh.length := by
          have h1 : ∀ (pl : Nat → Option (Nat × Nat)) (ps : List (Nat × V)) (a b : List V), fillV pl a ps = some b → b.length = a.length := by
            intro pl ps
            induction ps with
            | nil => intro a b h; simp only [fillV, Option.some.injEq] at h; rw [h]
            | cons p ps ih =>
              intro a b h
              obtain ⟨i, x⟩ := p
              simp only [fillV] at h
              split at h
              · have hh := cond_some h
                obtain ⟨hc, h2⟩ := hh
                simp only [Bool.and_eq_true, beq_iff_eq] at hc
                have := Nat.le_of_ble_eq_true hc.2
                rw [ih _ _ h2]
                unfold over
                simp
                omega
              · cases h
          rw [h1 _ _ _ _ hfl]
          unfold zerosV
          simp
        have hcl : ∀ (m : Nat) (cs : List V), (chunks ag sh.length m cs).length = m := by
          intro m
          induction m with
          | zero => intro cs; rfl
          | succ m ih => intro cs; unfold chunks; rw [List.length_cons, ih]
        have hrep := chunks_repE hc1 n cs outs.toList hpo hlen h0 hc2
        have hos : outs.size = n * sh.length := by
          have := hpo.1
          rw [hlen] at this
          simpa using this.symm
        obtain ⟨G', hN, hF⟩ := own_new (e := e) (sh := sh) (xs := chunks ag sh.length n cs) (cap := n) (c := outs) hG (below_alloc w (.cells outs e)) (heap_alloc_new w _) h0 (by rw [hcl]; exact Nat.le_refl _) (by
          unfold maxLen
          have := Nat.le_mul_of_pos_right n h0
          omega) hos (repE_cells _ _ hrep).2
        refine ⟨_, _, G', ?_, hN, hF⟩
        rw [he, hcl]
        have hnz : ¬ n * i.size = 0 := by
          rw [hsz]
          have := Nat.mul_pos (Nat.pos_of_ne_zero hn) h0
          omega
        have hr := run_buildSlice (P := P) w t e n (parts.map fun (i, x) => (i, ac.eval x)) outs i zv hu hi hz (by rw [hsz]; omega) hnz (by rw [hsz]; exact hfo)
        simp only [Sem.run_bind, hr, Result.andThen_ok, Sem.run_pure]
      · cases h
  · cases h

theorem mapM_sizes {fs : Array Field} (h : fs.all (fun f => (sizeT P f.type).isSome) = true) : (fs.mapM fun (f : Field) => (do pure (f.offset, ← Go.sizeOf f.type) : Sem (Nat × Nat))).run P w = .ok (fs.map fun f => (f.offset, (sizeT P f.type).getD 0)) w := by
  rw [Array.mapM_eq_mapM_toList]
  have key : ∀ l : List Field, (∀ f ∈ l, (sizeT P f.type).isSome = true) → (l.mapM fun (f : Field) => (do pure (f.offset, ← Go.sizeOf f.type) : Sem (Nat × Nat))).run P w = .ok (l.map fun f => (f.offset, (sizeT P f.type).getD 0)) w := by
    intro l
    induction l with
    | nil => intro _; rfl
    | cons f l ih =>
      intro hl
      have hf := hl f (by simp)
      obtain ⟨n, hn⟩ := Option.isSome_iff_exists.1 hf
      rw [List.mapM_cons]
      simp only [Sem.run_bind, sizeT_run hn, Result.andThen_ok, Sem.run_pure, ih (fun x hx => hl x (by simp [hx]))]
      simp [hn]
  have := key fs.toList (fun f hf => by
    have h2 := Array.all_eq_true_iff_forall_mem.1 h f (by simpa using hf)
    exact h2)
  simp only [Sem.run_bind, Sem.run_map, this, Result.andThen_ok]
  congr 1
  rw [← Array.toList_inj]
  simp

theorem build_sound {t : TypeId} {parts : Array (Nat × Operand)} {eff : Eff} (ho : o.op = .build t parts) (hE : ∀ y, trep g (evalO E fr y) (ac.eval y))
    (h : buildV P t (parts.toList.map fun (i, x) => (i, evalO E fr x)) = some (true, eff)) : Does P ac.eval o B w g bx eff := by
  have he : execOp ac.eval o = (do pure (.value (← Instr.build t (parts.map fun (i, x) => (i, ac.eval x))))) := by simp only [execOp, ho]
  unfold buildV at h
  split at h
  · rename_i i hi
    split at h
    · rename_i z fs hz hu
      split at h
      · rename_i cs hfl
        have hh := cond_some h
        clear h
        obtain ⟨hc, h⟩ := hh
        simp only [ok, Option.some.injEq, Prod.mk.injEq, true_and] at h
        subst h
        have hpz : PW (rep g.G) (z.toList.map absC) z.toList := ⟨by simp, fun j x v hx hv => by
          simp only [List.getElem?_map, hv, Option.map_some, Option.some.injEq] at hx
          subst hx; exact absC_rep g.G v⟩
        obtain ⟨outs, hfo, hpo⟩ := fill_sound _ _ _ cs z (parts_maps parts _ ac.eval) (parts_rep hE parts) hpz hfl
        have hpl : placeV P fs = fun (j : Nat) => ((fs.map fun (f : Field) => (f.offset, (sizeT P f.type).getD 0))[j]?) := by
          funext j
          unfold placeV
          rw [Array.getElem?_map]
          cases hj : fs[j]? with
          | none => rfl
          | some f =>
            have h2 := Array.all_eq_true_iff_forall_mem.1 hc f (Array.mem_of_getElem? hj)
            obtain ⟨n, hn⟩ := Option.isSome_iff_exists.1 h2
            simp [hn]
        rw [hpl] at hfo
        refine does_val he (u := .agg outs) ?_ (trep_agg.2 ⟨outs.toList, by simp, hpo⟩)
        have hzr : (zeroValue t).run P w = .ok (.agg z) w := by simp [zeroValue, typeInfo, hi, hz]
        simp only [Instr.build, Sem.run_bind, hzr, Result.andThen_ok, run_underlying hu, mapM_sizes hc, Value.cells, hfo, Sem.run_pure]
      · cases h
    · cases h
  · cases h

theorem boxCells_rep {x : V} {cs : List V} {u : Value} (h : boxCells x = some cs) (hx : trep g x u) : PW (trep g) cs u.cells.toList ∧ ∀ c ∈ u.cells.toList, c.oneCell' = true := by
  have one : ∀ (y : V) (c : Value), y.one = true → rep g.G y c → trep g y c ∧ c.oneCell' = true := by
    intro y c hy hr
    cases y with
    | sl e sh ow xs =>
      cases ow with
      | none => exact ⟨hr, by unfold rep at hr; obtain ⟨p, cap, rfl, _⟩ := hr; rfl⟩
      | some L => cases hy
    | bool b => refine ⟨hr, ?_⟩; unfold rep at hr; subst hr; rfl
    | int k n => refine ⟨hr, ?_⟩; unfold rep at hr; subst hr; rfl
    | str l => refine ⟨hr, ?_⟩; unfold rep at hr; subst hr; rfl
    | nilsl => refine ⟨hr, ?_⟩; unfold rep at hr; subst hr; rfl
    | rptr sh x off => refine ⟨hr, ?_⟩; unfold rep at hr; obtain ⟨b, q, l, rfl, _⟩ := hr; rfl
    | _ => cases hy
  cases x with
  | agg ds =>
    unfold boxCells at h
    have hh := cond_some h
    obtain ⟨h1, h2⟩ := hh
    simp only [Option.some.injEq] at h2
    subst h2
    obtain ⟨a, rfl, hp⟩ := trep_agg.1 hx
    rw [cells_agg]
    rw [List.all_eq_true] at h1
    refine ⟨hp.mono fun y hy v hv => (one y v (h1 y hy) hv).1, fun c hc => ?_⟩
    obtain ⟨j, hj, rfl⟩ := List.getElem_of_mem hc
    have hj' : j < ds.length := by rw [hp.1]; exact hj
    exact (one _ _ (h1 _ (List.getElem_mem hj')) (hp.2 j _ _ (List.getElem?_eq_getElem hj') (List.getElem?_eq_getElem hj))).2
  | any => cases h
  | tup vs => cases h
  | bool b => simp only [boxCells, Option.some.injEq] at h; subst h; have h1 := trep_bool.1 hx; subst h1; exact ⟨.cons hx .nil, by simp [Value.cells, Value.oneCell']⟩
  | int k n => simp only [boxCells, Option.some.injEq] at h; subst h; have h1 := trep_int.1 hx; subst h1; exact ⟨.cons hx .nil, by simp [Value.cells, Value.oneCell']⟩
  | str l => simp only [boxCells, Option.some.injEq] at h; subst h; have h1 := trep_str.1 hx; subst h1; exact ⟨.cons hx .nil, by simp [Value.cells, Value.oneCell']⟩
  | nilsl => simp only [boxCells, Option.some.injEq] at h; subst h; have h1 := trep_nilsl.1 hx; subst h1; exact ⟨.cons hx .nil, by simp [Value.cells, Value.oneCell']⟩
  | sl e sh ow xs =>
    simp only [boxCells, Option.some.injEq] at h; subst h
    have h1 := trep_slice hx
    unfold rep at h1
    obtain ⟨p, cap, rfl, _⟩ := h1
    exact ⟨.cons hx .nil, by simp [Value.cells, Value.oneCell']⟩
  | rptr sh y off => simp only [boxCells, Option.some.injEq] at h; subst h; obtain ⟨b, q, l, rfl, _⟩ := trep_rptr.1 hx; exact ⟨.cons hx .nil, by simp [Value.cells, Value.oneCell']⟩
  | box k off => simp only [boxCells, Option.some.injEq] at h; subst h; obtain ⟨b, _, rfl⟩ := trep_box.1 hx; exact ⟨.cons hx .nil, by simp [Value.cells, Value.oneCell']⟩
  | fn f c =>
    simp only [boxCells, Option.some.injEq] at h; subst h
    have hx' := hx
    obtain ⟨a, rfl, _⟩ := hx'
    exact ⟨.cons hx .nil, by simp [Value.cells, Value.oneCell']⟩

theorem box_sound {t : TypeId} {x : Operand} {cs : List V} (ho : o.op = .box t x) (hE : ∀ y, trep g (evalO E fr y) (ac.eval y)) (h : boxCells (evalO E fr x) = some cs) : Does P ac.eval o B w g bx (.newBox t cs) := by
  obtain ⟨h1, h2⟩ := boxCells_rep h (hE x)
  refine ⟨(ac.eval x).cells, ?_, h1, h2⟩
  simp [execOp, ho, Instr.box, newVar, newRow]

theorem alloc_sound {t : TypeId} {i : TypeInfo} {z : Value} {cs : List V} (ho : o.op = .alloc t) (hi : P.info? t = some i) (hz : i.zero = some z) (h : boxCells (absV z) = some cs) : Does P ac.eval o B w g bx (.newBox t cs) := by
  obtain ⟨h1, h2⟩ := boxCells_rep h (trep_of_rep (absV_plain z) (absV_rep g.G z))
  refine ⟨z.cells, ?_, h1, h2⟩
  simp [execOp, ho, Instr.alloc, zeroValue, typeInfo, hi, hz, newVar, newRow]

theorem store_sound {t : TypeId} {a x : Operand} {k off n : Nat} {cells vs : List V} (ho : o.op = .store t a x) (hB : BOk B g bx w) (hE : ∀ y, trep g (evalO E fr y) (ac.eval y)) (ha : evalO E fr a = .box k off) (hx : boxCells (evalO E fr x) = some vs)
    (hl : lookBx bx k = some cells) (hs : sizeT P t = some n) (h1 : vs.length = n) (h2 : off + n ≤ cells.length) : Does P ac.eval o B w g bx (.put k off vs) := by
  have hpa := hE a
  rw [ha] at hpa
  obtain ⟨b, hb, hp⟩ := trep_box.1 hpa
  obtain ⟨b', c, e, hb', hBb, hh, hpw, hone, hGn⟩ := hB.1 k cells hl
  rw [hb] at hb'
  simp only [Option.some.injEq] at hb'
  subst hb'
  obtain ⟨r1, r2⟩ := boxCells_rep hx (hE x)
  have hsz : (ac.eval x).cells.size = n := by
    have := r1.1
    simp only [Array.length_toList] at this
    omega
  have hcs : cells.length = c.size := by rw [hpw.1]; simp
  refine ⟨b, c, e, (ac.eval x).cells.toList, cells, hb, hl, hh, hpw, ?_, r1, r2, by omega⟩
  have hst := run_storeCells_at P b off e (ac.eval x).cells.toList 0 c w hh (by simp; omega) r2
  simp only [Nat.add_zero] at hst
  obtain ⟨i, hi, hin⟩ := sizeT_info hs
  simp [execOp, ho, hp, Instr.storeAt, Instr.sureAddr, storeVar, Go.sizeOf, typeInfo, hi, hsz, hin, hst]

theorem fold_push : ∀ (l : List Int) (acc : ByteArray), l.foldl (fun r n => r.push (UInt8.ofNat n.toNat)) acc = ⟨acc.data ++ (l.map fun n => UInt8.ofNat n.toNat).toArray⟩
  | [], acc => by simp
  | n :: l, acc => by
    rw [List.foldl_cons, fold_push l]
    apply ByteArray.ext
    simp [ByteArray.push]

/-- A row of bytes, as the model reads it. -/
theorem bytes_row {G : Known} : ∀ (xs : List V) (cells : List Value), repE G [.int .u8] xs cells → cells.take xs.length = (xs.map fun x => asInt (acell x 0)).map (Value.int .u8)
  | [], cells, _ => by simp
  | x :: xs, cells, h => by
    unfold repE at h
    obtain ⟨hf, ⟨u, hu, hc⟩, ht⟩ := h
    have ih := bytes_row xs _ ht
    have hx : ∃ n, x = .int .u8 n ∨ x = .agg [.int .u8 n] := by
      cases x with
      | int k n =>
        by_cases hk : IntKind.u8 = k
        · subst hk; exact ⟨n, .inl rfl⟩
        · have e : (IntKind.u8 == k) = false := by simpa using hk
          simp only [fitsE, V.cells, fitsL, fits, band, e] at hf
          cases hf
      | agg cs =>
        cases cs with
        | nil => simp [fitsE, V.cells, fitsL] at hf
        | cons c cs =>
          cases cs with
          | nil =>
            cases c with
            | int k n =>
              by_cases hk : IntKind.u8 = k
              · subst hk; exact ⟨n, .inr rfl⟩
              · have e : (IntKind.u8 == k) = false := by simpa using hk
                simp only [fitsE, V.cells, fitsL, fits, band, e] at hf
                cases hf
            | _ => simp [fitsE, V.cells, fitsL, fits, band] at hf
          | cons d cs => exfalso; unfold fitsE V.cells at hf; have := fitsL_len _ _ hf; simp at this
      | _ => simp [fitsE, V.cells, fitsL, fits, band] at hf
    cases cells with
    | nil =>
      have := fit_cells hf hu
      rw [← hc] at this
      simp at this
    | cons c cells =>
      simp only [List.length_singleton, List.take_succ_cons, List.take_zero] at hc
      simp only [List.length_singleton, List.drop_succ_cons, List.drop_zero] at ih
      obtain ⟨n, rfl | rfl⟩ := hx
      · unfold rep at hu
        subst hu
        simp [Value.cells] at hc
        subst hc
        simp [ih, asInt, acell]
      · unfold rep at hu
        obtain ⟨a, rfl, hL⟩ := hu
        rw [repL_iff] at hL
        obtain ⟨v, t, rfl, hv, ht'⟩ := hL.cons_inv
        have := ht'.nil_iff
        subst this
        unfold rep at hv
        subst hv
        simp [Value.cells] at hc
        subst hc
        simp [ih, asInt, acell]
end
end Nt.Ev
