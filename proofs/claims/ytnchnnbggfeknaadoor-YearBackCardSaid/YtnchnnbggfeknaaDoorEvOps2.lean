/-
  The evaluator's operations, continued: cells, rows, fields.
-/
import Derived.Test.YtnchnnbggfeknaaDoorEvOps
import Derived.Deep.MidRow
import Derived.Great.BuildSlice
import Derived.Laws.MakeOwn
import Derived.Laws.BytesString
set_option linter.unusedVariables false
set_option linter.unusedSimpArgs false
namespace Nt.Ev
open Go Go.RowKit

mutual
theorem Kd.eq_sound : ∀ (a b : Kd), Kd.eq a b = true → a = b
  | .bool, .bool, _ => rfl
  | .int k, .int k', h => by simp only [Kd.eq, beq_iff_eq] at h; rw [h]
  | .str, .str, _ => rfl
  | .sl e sh, .sl e' sh', h => by
    simp only [Kd.eq, Bool.and_eq_true, beq_iff_eq] at h
    rw [h.1, Kd.eqL_sound sh sh' h.2]
  | .oth, .oth, h => by simp [Kd.eq] at h
  | .bool, .int _, h => by simp [Kd.eq] at h
  | .bool, .str, h => by simp [Kd.eq] at h
  | .bool, .sl _ _, h => by simp [Kd.eq] at h
  | .bool, .oth, h => by simp [Kd.eq] at h
  | .int _, .bool, h => by simp [Kd.eq] at h
  | .int _, .str, h => by simp [Kd.eq] at h
  | .int _, .sl _ _, h => by simp [Kd.eq] at h
  | .int _, .oth, h => by simp [Kd.eq] at h
  | .str, .bool, h => by simp [Kd.eq] at h
  | .str, .int _, h => by simp [Kd.eq] at h
  | .str, .sl _ _, h => by simp [Kd.eq] at h
  | .str, .oth, h => by simp [Kd.eq] at h
  | .sl _ _, .bool, h => by simp [Kd.eq] at h
  | .sl _ _, .int _, h => by simp [Kd.eq] at h
  | .sl _ _, .str, h => by simp [Kd.eq] at h
  | .sl _ _, .oth, h => by simp [Kd.eq] at h
  | .oth, .bool, h => by simp [Kd.eq] at h
  | .oth, .int _, h => by simp [Kd.eq] at h
  | .oth, .str, h => by simp [Kd.eq] at h
  | .oth, .sl _ _, h => by simp [Kd.eq] at h
theorem Kd.eqL_sound : ∀ (a b : List Kd), Kd.eqL a b = true → a = b
  | [], [], _ => rfl
  | [], _ :: _, h => by simp [Kd.eqL] at h
  | _ :: _, [], h => by simp [Kd.eqL] at h
  | a :: l, b :: m, h => by
    simp only [Kd.eqL, Bool.and_eq_true] at h
    rw [Kd.eq_sound a b h.1, Kd.eqL_sound l m h.2]
end

theorem fitsL_get : ∀ (sh : List Kd) (vs : List V), fitsL sh vs = true → ∀ (j : Nat) k v, sh[j]? = some k → vs[j]? = some v → fits k v = true
  | [], _, _, j, _, _, h, _ => by simp at h
  | _ :: _, [], h, _, _, _, _, _ => by simp [fitsL] at h
  | k :: sh, v :: vs, h, 0, k', v', h1, h2 => by
    simp only [fitsL, band] at h
    simp at h1 h2
    subst h1; subst h2
    split at h
    · assumption
    · cases h
  | k :: sh, v :: vs, h, j + 1, k', v', h1, h2 => by
    simp only [fitsL, band] at h
    split at h
    · exact fitsL_get sh vs h j k' v' (by simpa using h1) (by simpa using h2)
    · cases h

theorem fits_one {G : Known} {k : Kd} {v : V} {u : Value} (hf : fits k v = true) (h : rep G v u) : u.oneCell' = true := by
  cases v <;> cases k <;> simp [fits] at hf <;> unfold rep at h
  all_goals first | (subst h; rfl) | (obtain ⟨p, cap, rfl, _⟩ := h; rfl)

theorem eta_rep {G : Known} {k : Kd} {v : V} {u : Value} (hf : fits k v = true) (h : rep G v u) : rep G (eta k v) u := by
  cases k with
  | bool => cases v <;> simp [fits] at hf; exact h
  | int k =>
    cases v <;> simp [fits] at hf
    subst hf; exact h
  | str => cases v <;> simp [fits] at hf; exact h
  | sl e sh =>
    cases v with
    | sl e' sh' o xs =>
      simp only [fits, Bool.and_eq_true, beq_iff_eq] at hf
      obtain ⟨rfl, h2⟩ := hf
      obtain rfl := Kd.eqL_sound _ _ h2
      exact rep_label h
    | nilsl =>
      unfold rep at h; subst h
      show rep G (.sl e sh none []) _
      unfold rep
      exact ⟨none, 0, rfl, Nat.le_refl _, .inl rfl⟩
    | _ => simp [fits] at hf
  | oth => cases v <;> simp [fits] at hf

theorem eta_plain {k : Kd} {v : V} (hf : fits k v = true) : (eta k v).plain = true := by
  cases k <;> first | rfl | (cases v <;> simp [fits] at hf)

theorem acell_get {x y : V} {j : Nat} (h : x.cells[j]? = some y) : acell x j = y := by
  cases x with
  | agg cs => simp only [V.cells] at h; simp [acell, h]
  | _ =>
    simp only [V.cells] at h
    cases j with
    | zero => simp at h; subst h; rfl
    | succ j => simp at h

section
variable {P : Program} {ρ : Operand → Value} {o : Oper} {B : Nat} {w : World} {g : Gh} {bx : List (Nat × List V)}

theorem isAggT_true {t : TypeId} (h : isAggT P t = some true) : ∃ d, P.underlying t = some d ∧ d.isRow = true := by
  unfold isAggT at h
  split at h
  · rename_i hd; exact ⟨_, hd, rfl⟩
  · rename_i hd; exact ⟨_, hd, rfl⟩
  · cases h
  · cases h
theorem isAggT_run {t : TypeId} {b : Bool} (h : isAggT P t = some b) : (isAgg t).run P w = .ok b w := by
  unfold isAggT at h
  split at h
  · rename_i hd; simp only [Option.some.injEq] at h; subst h; simp [isAgg, run_underlying hd]
  · rename_i hd; simp only [Option.some.injEq] at h; subst h; simp [isAgg, run_underlying hd]
  · rename_i d h1 h2 hd
    simp only [Option.some.injEq] at h; subst h
    simp only [isAgg, Sem.run_bind, run_underlying hd, Result.andThen_ok]
    cases d <;> first | rfl | exact absurd rfl (h1 _) | exact absurd rfl (h2 _ _)
  · cases h
theorem sizeT_info {t : TypeId} {n : Nat} (h : sizeT P t = some n) : ∃ i, P.info? t = some i ∧ i.size = n := by
  unfold sizeT at h
  split at h
  · rename_i i hi; exact ⟨i, hi, by simpa using h⟩
  · cases h
theorem sizeT_run {t : TypeId} {n : Nat} (h : sizeT P t = some n) : (Go.sizeOf t).run P w = .ok n w := by
  obtain ⟨i, hi, rfl⟩ := sizeT_info h
  simp [Go.sizeOf, typeInfo, hi]

/-- A row that is known, read in the world. -/
theorem known_cell {G : Known} (hG : GOk G w) {b : Nat} {l : List Value} (h : G b = some l) {j : Nat} {u : Value} (hu : l[j]? = some u) : w.cell? ⟨b, j, none⟩ = some u := by
  obtain ⟨c, e, fr, hc, ht⟩ := hG b l h
  have : c.toList[j]? = some u := by
    rw [← ht, List.getElem?_take] at hu
    split at hu
    · exact hu
    · cases hu
  simp [World.cell?, hc, Array.getElem?_toList] at this ⊢
  simpa using this

theorem load_agg {t : TypeId} {b o : Nat} {cs : List Value} (ha : isAggT P t = some true) (hs : sizeT P t = some cs.length) (hc : ∀ j u, cs[j]? = some u → w.cell? ⟨b, o + j, none⟩ = some u) :
    (Instr.loadAt t (.pointer (some ⟨b, o, none⟩))).run P w = .ok (.agg cs.toArray) w := by
  obtain ⟨d, hd, hr⟩ := isAggT_true ha
  obtain ⟨i, hi, hn⟩ := sizeT_info hs
  exact run_loadAt_mid w b o t cs d hc hd hr (by rw [hi]; simp [hn])
theorem load_one {t : TypeId} {b o : Nat} {u : Value} (ha : isAggT P t = some false) (hc : w.cell? ⟨b, o, none⟩ = some u) :
    (Instr.loadAt t (.pointer (some ⟨b, o, none⟩))).run P w = .ok u w := by
  simp only [Instr.loadAt, Instr.sureAddr, loadVar, Sem.run_bind, Sem.run_pure, Result.andThen_ok, isAggT_run ha, Bool.false_eq_true, if_false, run_load, hc]

theorem ok_inj {v w : V} (h : ok v = some (true, .val w)) : v = w := by
  unfold ok at h
  simp only [Option.some.injEq, Prod.mk.injEq, Eff.val.injEq, true_and] at h
  exact h

theorem loadV_sound {t : TypeId} {a : Operand} {sh : List Kd} {x : V} {off : Nat} {eff : Eff} (ho : o.op = .load t a) (hG : GOk g.G w) (ha : trep g (.rptr sh x off) (ρ a)) (h : loadV P t sh x off = some (true, eff)) : Does P ρ o B w g bx eff := by
  rw [trep_rptr] at ha
  obtain ⟨b, q, l, hp, hl, hf, u, hu, hc⟩ := ha
  have he : execOp ρ o = (do pure (.value (← Instr.loadAt t (ρ a)))) := by simp only [execOp, ho]
  have hx : x ≠ .any := fun e => by rw [e, fitsE_any] at hf; cases hf
  obtain ⟨hlen, hpw⟩ := rep_cells hu hx
  have hshl := fitsL_len _ _ hf
  have hcell : ∀ j v, u.cells.toList[j]? = some v → w.cell? ⟨b, q + j, none⟩ = some v := by
    intro j v hv
    refine known_cell hG hl ?_
    rw [← hc, List.getElem?_take] at hv
    split at hv
    · rw [List.getElem?_drop] at hv; exact hv
    · cases hv
  have heta : ∀ j k v, sh[j]? = some k → u.cells.toList[j]? = some v → fits k (acell x j) = true ∧ rep g.G (eta k (acell x j)) v := by
    intro j k v hk hv
    have hj : j < x.cells.length := by
      have := (List.getElem?_eq_some_iff.1 hk).1
      unfold fitsE at hf; omega
    have hy := List.getElem?_eq_getElem hj
    rw [acell_get hy]
    have h1 := fitsL_get sh x.cells hf j k _ hk hy
    exact ⟨h1, eta_rep h1 (hpw.2 j _ v hy hv)⟩
  unfold loadV at h
  split at h
  · rename_i n hagg hs
    simp only [cond_eq_ite] at h
    split at h
    · rename_i hle
      have hle := Nat.le_of_ble_eq_true hle
      simp only [ok, Option.some.injEq, Prod.mk.injEq, true_and] at h
      subst h
      have hcs : ((u.cells.toList.drop off).take n).length = n := by simp; omega
      refine does_val he (u := .agg ((u.cells.toList.drop off).take n).toArray) ?_ (trep_agg.2 ⟨_, rfl, ?_⟩)
      · rw [hp]
        refine load_agg hagg (by rw [hcs]; exact hs) ?_
        intro j v hv
        rw [List.getElem?_take] at hv
        split at hv
        · rw [List.getElem?_drop] at hv
          rw [Nat.add_assoc]
          exact hcell _ _ hv
        · cases hv
      · refine ⟨by simp; omega, fun j y v hy hv => ?_⟩
        rw [List.getElem?_take] at hv
        split at hv
        · rename_i hj
          rw [List.getElem?_drop] at hv
          simp only [List.getElem?_map, List.getElem?_range hj, Option.map_some, Option.some.injEq] at hy
          subst hy
          have hk : off + j < sh.length := by omega
          rw [List.getD_eq_getElem?_getD, List.getElem?_eq_getElem hk]
          exact (heta _ _ _ (List.getElem?_eq_getElem hk) hv).2
        · cases hv
    · cases h
  · rename_i hagg
    simp only [cond_eq_ite] at h
    split at h
    · rename_i hlt
      have hlt : off < sh.length := by simpa [Nat.blt_eq] using hlt
      simp only [ok, Option.some.injEq, Prod.mk.injEq, true_and] at h
      subst h
      have hj : off < u.cells.toList.length := by simp; unfold fitsE at hf; omega
      have hv := List.getElem?_eq_getElem hj
      have hk := List.getElem?_eq_getElem hlt
      obtain ⟨h1, h2⟩ := heta off _ _ hk hv
      refine does_val he (u := u.cells.toList[off]) ?_ ?_
      · rw [hp]; exact load_one hagg (hcell _ _ hv)
      · rw [List.getD_eq_getElem?_getD, hk]
        exact trep_of_rep (eta_plain h1) h2
    · cases h
  · cases h

theorem readBx_pw {cells cs : List V} {us : List Value} {off n : Nat} (h : readBx cells off n = some cs) (hp : PW (trep g) cells us) : off + n ≤ us.length ∧ PW (rep g.G) cs ((us.drop off).take n) := by
  unfold readBx at h
  simp only [cond_eq_ite] at h
  split at h
  · rename_i hle
    have hle := Nat.le_of_ble_eq_true hle
    exact ⟨by rw [← hp.1]; exact hle, deepL_pw _ _ _ h ((hp.drop off).take n)⟩
  · cases h

theorem getD_some {l : List V} {i : Nat} (h : i < l.length) : l[i]? = some (l.getD i .any) := by
  rw [List.getD_eq_getElem?_getD, List.getElem?_eq_getElem h]; rfl

theorem loadBx_sound {t : TypeId} {a : Operand} {k off : Nat} {cells : List V} (ho : o.op = .load t a) (hB : BOk B g bx w) (ha : trep g (.box k off) (ρ a)) (hl : lookBx bx k = some cells) :
    (∀ n cs, isAggT P t = some true → sizeT P t = some n → readBx cells off n = some cs → Does P ρ o B w g bx (.val (.agg cs))) ∧
    (isAggT P t = some false → off < cells.length → Does P ρ o B w g bx (.val (cells.getD off .any))) := by
  have he : execOp ρ o = (do pure (.value (← Instr.loadAt t (ρ a)))) := by simp only [execOp, ho]
  obtain ⟨b, hb, hp⟩ := trep_box.1 ha
  obtain ⟨b', c, e, hb', _, hh, hpw, _, _⟩ := hB.1 k cells hl
  rw [hb] at hb'
  simp only [Option.some.injEq] at hb'
  subst hb'
  have hcell : ∀ j v, c.toList[j]? = some v → w.cell? ⟨b, j, none⟩ = some v := by
    intro j v hv
    simp only [World.cell?, hh]
    simpa using hv
  constructor
  · intro n cs hagg hs hr
    obtain ⟨h1, h2⟩ := readBx_pw hr hpw
    have hlen : ((c.toList.drop off).take n).length = n := by rw [List.length_take, List.length_drop]; omega
    refine does_val he (u := .agg ((c.toList.drop off).take n).toArray) ?_ (trep_agg.2 ⟨_, rfl, h2⟩)
    rw [hp]
    refine load_agg hagg (by rw [hlen]; exact hs) ?_
    intro j v hv
    rw [List.getElem?_take] at hv
    split at hv
    · rw [List.getElem?_drop] at hv; exact hcell _ _ hv
    · cases hv
  · intro hagg hlt
    obtain ⟨v, hv, hr⟩ := hpw.get (getD_some hlt)
    refine does_val he (u := v) ?_ hr
    rw [hp]; exact load_one hagg (hcell _ _ hv)

theorem fieldOf_spec {t : TypeId} {f : Nat} {fd : Field} (h : fieldOf P t f = some fd) : ∃ fs, P.underlying t = some (.struct fs) ∧ fs[f]? = some fd := by
  unfold fieldOf at h
  split at h
  · rename_i fs hfs; exact ⟨fs, hfs, h⟩
  · cases h

theorem fieldAddr_run {t : TypeId} {f : Nat} {fd : Field} {n b q : Nat} (h : fieldOf P t f = some fd) (hs : sizeT P fd.type = some n) (hn : n ≠ 0) :
    (Instr.fieldAt t (.pointer (some ⟨b, q, none⟩)) f).run P w = .ok (.pointer (some ⟨b, q + fd.offset, none⟩)) w := by
  obtain ⟨fs, hfs, hf⟩ := fieldOf_spec h
  simp [Instr.fieldAt, run_underlying hfs, hf, Instr.sureAddr, fieldPlace, sizeT_run hs, hn, Addr.add_mid]

theorem rep_deep {G : Known} {x y : V} {v : Value} (h : rep G x v) (hd : x.deep = some y) : rep G y v := by
  cases x <;> simp [V.deep] at hd <;> subst hd <;> first | exact h | exact rep_label h

theorem partOf_sound {t : TypeId} {x : Operand} {f : Nat} {fd : Field} {cs : List V} {eff : Eff} (ho : o.op = .field t x f) (hf : fieldOf P t f = some fd) (hx : trep g (.agg cs) (ρ x)) (h : partOf P fd.type cs fd.offset = some (true, eff)) : Does P ρ o B w g bx eff := by
  obtain ⟨a, ha, hpw⟩ := trep_agg.1 hx
  have he : execOp ρ o = (do pure (.value (← Instr.field t (ρ x) f))) := by simp only [execOp, ho]
  obtain ⟨fs, hfs, hfd⟩ := fieldOf_spec hf
  have hrun : (Instr.field t (ρ x) f).run P w = (part fd.type a.toArray fd.offset).run P w := by
    rw [ha]
    simp [Instr.field, run_underlying hfs, hfd, asAgg]
  unfold partOf at h
  split at h
  · rename_i n hagg hs
    simp only [cond_eq_ite] at h
    split at h
    · rename_i hle
      simp only [ok, Option.some.injEq, Prod.mk.injEq, true_and] at h
      subst h
      refine does_val he (u := .agg ((a.drop fd.offset).take n).toArray) ?_ (trep_agg.2 ⟨_, rfl, (hpw.drop _).take _⟩)
      rw [hrun]
      simp only [part, Sem.run_bind, isAggT_run hagg, Result.andThen_ok, if_true, sizeT_run hs, Sem.run_pure]
      have e : a.toArray.extract fd.offset (fd.offset + n) = (List.take n (List.drop fd.offset a)).toArray := by
        rw [← Array.toList_inj]
        simp
      rw [e]
    · cases h
  · rename_i hagg
    simp only [cond_eq_ite] at h
    split at h
    · rename_i hlt
      have hlt : fd.offset < cs.length := by simpa [Nat.blt_eq] using hlt
      split at h
      · rename_i y hy
        simp only [ok, Option.some.injEq, Prod.mk.injEq, true_and] at h
        subst h
        obtain ⟨v, hv, hr⟩ := hpw.get (getD_some hlt)
        refine does_val he (u := v) ?_ (trep_of_rep (deep_plain hy) (rep_deep hr hy))
        rw [hrun]
        simp [part, isAggT_run hagg, hv]
      · cases h
    · cases h
  · cases h
end
end Nt.Ev
