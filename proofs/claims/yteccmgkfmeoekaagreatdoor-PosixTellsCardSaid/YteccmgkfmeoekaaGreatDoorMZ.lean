/-
  What a row's arguments are, by their data: structs of whole numbers, texts and truth values. How long the strings among an argument's cells are at most: what a claim says of sizes. A row's frame: the given variables' data and the world's shape together.
-/
import Derived.Test.YteccmgkfmeoekaaGreatDoorMBB
import Derived.SizedLaws
import Derived.Handed
import Derived.HandedShaped
set_option linter.unusedVariables false
set_option linter.unusedSimpArgs false
namespace Nt.Ev
open Go Go.RowKit
def okCell : V → Prop
  | .int k n => (Lit.int k n).wf = true
  | .str l => l.length ≤ maxLen
  | _ => True
def contig (P : Program) : List Field → Nat → Option Nat
  | [], off => some off
  | f :: l, off => bif f.offset == off then contig P l (off + P.cellsOf f.type) else none
def okT (P : Program) : Nat → TypeId → Bool
  | 0, _ => false
  | f + 1, t => match P.underlying t with
    | some .bool => true
    | some (.int _) => true
    | some .string => true
    | some (.struct fs) => (match contig P fs.toList 0 with | some n => n == P.cellsOf t | none => false) && fs.toList.all fun fd => okT P f fd.type
    | _ => false
theorem fitsL_app : ∀ (a b : List Kd) (xs ys : List V), fitsL a xs = true → fitsL b ys = true → fitsL (a ++ b) (xs ++ ys) = true
  | [], b, [], ys, _, h => h
  | [], _, _ :: _, _, h, _ => by simp [fitsL] at h
  | _ :: _, _, [], _, h, _ => by simp [fitsL] at h
  | k :: a, b, x :: xs, ys, h, h2 => by
    simp only [fitsL] at h
    obtain ⟨h3, h4⟩ := band_true h
    simp only [List.cons_append, fitsL, h3, fitsL_app a b xs ys h4 h2, band]
variable {H : Type} {enc : TypeId × Value → H} {P : Program} {w : World} {base : Nat} {spare : Nat → Bool} {held : Bool}
theorem fields_fit (G : Known) (f : Nat) (ih : ∀ (t : TypeId), okT P f t = true → ∀ (fuel : Nat) (cs : List Value) (d : DataW H) (p : List MemPlace), DataW.trod enc P w base spare held fuel t cs = some (d, p) →
      ∃ xs, PW (rep G) xs cs ∧ fitsL (shapeT P f t) xs = true ∧ ∀ x ∈ xs, okCell x) (cs : List Value) (n : Nat) : ∀ (fs : List Field) (off tot : Nat), contig P fs off = some tot → (fs.all fun fd => okT P f fd.type) = true →
      (∀ fd ∈ fs, ∃ d p, DataW.trod enc P w base spare held n fd.type ((cs.drop fd.offset).take (P.cellsOf fd.type)) = some (d, p)) → tot ≤ cs.length →
      ∃ xs, PW (rep G) xs ((cs.drop off).take (tot - off)) ∧ off ≤ tot ∧ fitsL (fs.flatMap fun fd => shapeT P f fd.type) xs = true ∧ ∀ x ∈ xs, okCell x
  | [], off, tot, hc, _, _, _ => by
    simp only [contig, Option.some.injEq] at hc
    subst hc
    exact ⟨[], by simpa using PW.nil, Nat.le_refl _, rfl, fun x hx => by cases hx⟩
  | fd :: fs, off, tot, hc, ha, hd, hl => by
    simp only [contig] at hc
    obtain ⟨h1, h2⟩ := cond_some hc
    obtain rfl : fd.offset = off := by simpa using h1
    simp only [List.all_cons, Bool.and_eq_true] at ha
    obtain ⟨xs, k1, k2, k3, k4⟩ := fields_fit G f ih cs n fs _ tot h2 ha.2 (fun g hg => hd g (List.mem_cons_of_mem _ hg)) hl
    obtain ⟨d, p, ht⟩ := hd fd List.mem_cons_self
    obtain ⟨ys, q1, q2, q3⟩ := ih fd.type ha.1 n _ d p ht
    refine ⟨ys ++ xs, ?_, by omega, ?_, ?_⟩
    · have e : (cs.drop fd.offset).take (tot - fd.offset) = (cs.drop fd.offset).take (P.cellsOf fd.type) ++ (cs.drop (fd.offset + P.cellsOf fd.type)).take (tot - (fd.offset + P.cellsOf fd.type)) := by
        rw [show tot - fd.offset = P.cellsOf fd.type + (tot - (fd.offset + P.cellsOf fd.type)) by omega, List.take_add, List.drop_drop]
      rw [e]
      exact q1.append k1
    · exact fitsL_app _ _ _ _ q2 k3
    · intro x hx
      rw [List.mem_append] at hx
      exact hx.elim (q3 x) (k4 x)
theorem trod_fit (G : Known) : ∀ (f : Nat) (t : TypeId), okT P f t = true → ∀ (fuel : Nat) (cs : List Value) (d : DataW H) (p : List MemPlace), DataW.trod enc P w base spare held fuel t cs = some (d, p) →
      ∃ xs, PW (rep G) xs cs ∧ fitsL (shapeT P f t) xs = true ∧ ∀ x ∈ xs, okCell x
  | 0, t, h, _, _, _, _, _ => by cases h
  | f + 1, t, h, fuel, cs, d, p, hd => by
    unfold okT at h
    unfold shapeT
    split at h
    · rename_i hu
      obtain ⟨b, rfl, _⟩ := DataW.trod_bool hu hd
      rw [hu]
      exact ⟨[.bool b], .cons (by unfold rep; rfl) .nil, rfl, by simp [okCell]⟩
    · rename_i k hu
      obtain ⟨n, rfl, _, hw⟩ := DataW.trod_int hu hd
      rw [hu]
      exact ⟨[.int k n], .cons (by unfold rep; rfl) .nil, by simp [fitsL, fits, band], by simpa [okCell] using hw⟩
    · rename_i hu
      obtain ⟨s, rfl, _, hw⟩ := DataW.trod_string hu hd
      rw [hu]
      refine ⟨[.str s.data.toList], .cons (by unfold rep; cases s; simp) .nil, rfl, ?_⟩
      simp only [List.mem_singleton, forall_eq, okCell]
      simpa using hw
    · rename_i fs hu
      rw [Bool.and_eq_true] at h
      obtain ⟨h1, h2⟩ := h
      split at h1
      · rename_i n hc
        have hn : n = P.cellsOf t := by simpa using h1
        obtain ⟨xs, m, _, _, hlen, hsz, hel⟩ := DataW.trod_struct hu hd
        rw [hu]
        obtain ⟨ys, q1, q2, q3, q4⟩ := fields_fit (enc := enc) (w := w) (base := base) (spare := spare) (held := held) G f (trod_fit G f) cs m fs.toList 0 n hc h2 (fun fd hfd => by
          obtain ⟨i, hi⟩ := List.getElem?_of_mem hfd
          have hi' : fs[i]? = some fd := by simpa using hi
          have := hel i fd hi'
          have hil : i < xs.length := by rw [hsz]; exact (Array.getElem?_eq_some_iff.1 hi').1
          rw [List.getElem?_eq_getElem hil] at this
          exact ⟨_, _, this⟩) (by omega)
        refine ⟨ys, ?_, q3, q4⟩
        rw [List.drop_zero, Nat.sub_zero, hn, ← hlen, List.take_length] at q1
        exact q1
      · cases h1
    · cases h
theorem fitsL_cons {k : Kd} {l : List Kd} {xs : List V} (h : fitsL (k :: l) xs = true) : ∃ x t, xs = x :: t ∧ fits k x = true ∧ fitsL l t = true := by
  cases xs with
  | nil => simp [fitsL] at h
  | cons x t =>
    simp only [fitsL] at h
    obtain ⟨h1, h2⟩ := band_true h
    exact ⟨x, t, rfl, h1, h2⟩
theorem fitsL_nil {xs : List V} (h : fitsL [] xs = true) : xs = [] := by
  cases xs with
  | nil => rfl
  | cons _ _ => simp [fitsL] at h
theorem fits_int {k : IntKind} {x : V} (h : fits (.int k) x = true) : ∃ n, x = .int k n := by
  cases x <;> simp [fits] at h
  subst h; exact ⟨_, rfl⟩
theorem fits_str {x : V} (h : fits .str x = true) : ∃ l, x = .str l := by
  cases x <;> simp [fits] at h
  exact ⟨_, rfl⟩
theorem fitsL_int {k : IntKind} {l : List Kd} {xs : List V} (h : fitsL (.int k :: l) xs = true) (ho : ∀ x ∈ xs, okCell x) : ∃ n t, xs = .int k n :: t ∧ (Lit.int k n).wf = true ∧ fitsL l t = true ∧ ∀ x ∈ t, okCell x := by
  obtain ⟨x, t, rfl, h1, h2⟩ := fitsL_cons h
  obtain ⟨n, rfl⟩ := fits_int h1
  exact ⟨n, t, rfl, ho _ List.mem_cons_self, h2, fun x hx => ho x (List.mem_cons_of_mem _ hx)⟩
theorem fitsL_str {l : List Kd} {xs : List V} (h : fitsL (.str :: l) xs = true) (ho : ∀ x ∈ xs, okCell x) : ∃ s t, xs = .str s :: t ∧ s.length ≤ maxLen ∧ fitsL l t = true ∧ ∀ x ∈ t, okCell x := by
  obtain ⟨x, t, rfl, h1, h2⟩ := fitsL_cons h
  obtain ⟨n, rfl⟩ := fits_str h1
  exact ⟨n, t, rfl, ho _ List.mem_cons_self, h2, fun x hx => ho x (List.mem_cons_of_mem _ hx)⟩
theorem open_fit {r : Reach} {b0 : Nat} {t : TypeId} {v : Value} {d : DataW H} {ps : List MemPlace} {sh : List Kd} (hk : okT P 8 t = true) (ha : isAggT P t = some true) (hs : shapeT P 8 t = sh) (hval : Value.okWide P w r b0 t v) (hd : DataW.Trod enc P w base spare held t v d ps) :
    ∃ a xs, v = .agg a ∧ PW (rep (heapG w)) xs a.toList ∧ fitsL sh xs = true ∧ (∀ x ∈ xs, okCell x) := by
  obtain ⟨dd, hu, hrow⟩ := isAggT_true ha
  have hv : ∃ cs, v = .agg cs := by
    unfold Value.okWide at hval
    rw [hu] at hval
    cases dd <;> simp only [TypeDesc.isRow, Bool.false_eq_true] at hrow
    · obtain ⟨cs, rfl, _⟩ := hval; exact ⟨cs, rfl⟩
    · obtain ⟨cs, rfl, _⟩ := hval; exact ⟨cs, rfl⟩
  obtain ⟨a, rfl⟩ := hv
  obtain ⟨fuel, hf⟩ := hd
  obtain ⟨xs, h1, h2, h3⟩ := trod_fit (heapG w) 8 t hk fuel _ d ps hf
  rw [hs] at h2
  exact ⟨a, xs, rfl, h1, h2, h3⟩
end Nt.Ev

set_option linter.unusedVariables false
set_option linter.unusedSimpArgs false
namespace Nt.Ev
open Go Go.RowKit
section
variable {H : Type} {enc : TypeId × Value → H} {P : Program} {w : World} {base : Nat} {spare : Nat → Bool} {held : Bool}
theorem contig_mem (cs : List Value) (v : Value) : ∀ (fs : List Field) (off tot : Nat), contig P fs off = some tot → v ∈ (cs.drop off).take (tot - off) → ∃ (i : Nat) (fd : Field), fs[i]? = some fd ∧ v ∈ (cs.drop fd.offset).take (P.cellsOf fd.type)
  | [], off, tot, hc, hv => by
    simp only [contig, Option.some.injEq] at hc
    subst hc
    simp at hv
  | fd :: fs, off, tot, hc, hv => by
    simp only [contig] at hc
    obtain ⟨h1, h2⟩ := cond_some hc
    obtain rfl : fd.offset = off := by simpa using h1
    by_cases h : v ∈ (cs.drop fd.offset).take (P.cellsOf fd.type)
    · exact ⟨0, fd, rfl, h⟩
    · have h3 : v ∈ (cs.drop (fd.offset + P.cellsOf fd.type)).take (tot - (fd.offset + P.cellsOf fd.type)) := by
        by_cases hle : fd.offset + P.cellsOf fd.type ≤ tot
        · have e : (cs.drop fd.offset).take (tot - fd.offset) = (cs.drop fd.offset).take (P.cellsOf fd.type) ++ (cs.drop (fd.offset + P.cellsOf fd.type)).take (tot - (fd.offset + P.cellsOf fd.type)) := by
            rw [show tot - fd.offset = P.cellsOf fd.type + (tot - (fd.offset + P.cellsOf fd.type)) by omega, List.take_add, List.drop_drop]
          rw [e, List.mem_append] at hv
          exact hv.resolve_left h
        · refine absurd ?_ h
          exact (List.take_subset_take_left _ (by omega)) hv
      obtain ⟨i, g, k1, k2⟩ := contig_mem cs v fs _ tot h2 h3
      exact ⟨i + 1, g, by simpa using k1, k2⟩
theorem trod_wt : ∀ (f : Nat) (t : TypeId), okT P f t = true → ∀ (fuel : Nat) (cs : List Value) (d : DataW H) (p : List MemPlace), DataW.trod enc P w base spare held fuel t cs = some (d, p) →
    ∀ b : ByteArray, Value.string b ∈ cs → b.data.toList.length ∈ d.weights P t
  | 0, t, h, _, _, _, _, _, _, _ => by cases h
  | f + 1, t, h, fuel, cs, d, p, hd, b, hb => by
    unfold okT at h
    split at h
    · rename_i hu
      obtain ⟨c, rfl, _⟩ := DataW.trod_bool hu hd
      simp at hb
    · rename_i k hu
      obtain ⟨n, rfl, _, hw⟩ := DataW.trod_int hu hd
      simp at hb
    · rename_i hu
      obtain ⟨s, rfl, hx, hw⟩ := DataW.trod_string hu hd
      simp only [Prod.mk.injEq] at hx
      obtain ⟨rfl, _⟩ := hx
      simp only [List.mem_singleton, Value.string.injEq] at hb
      subst hb
      simp [DataW.weights]
    · rename_i fs hu
      rw [Bool.and_eq_true] at h
      obtain ⟨h1, h2⟩ := h
      split at h1
      · rename_i n hc
        have hn : n = P.cellsOf t := by simpa using h1
        obtain ⟨xs, m, _, hx, hlen, hsz, hel⟩ := DataW.trod_struct hu hd
        simp only [Prod.mk.injEq] at hx
        obtain ⟨rfl, _⟩ := hx
        obtain ⟨i, fd, k1, k2⟩ := contig_mem cs (.string b) fs.toList 0 n hc (by rw [List.drop_zero, Nat.sub_zero, hn, ← hlen, List.take_length]; exact hb)
        have k1' : fs[i]? = some fd := by simpa using k1
        have he := hel i fd k1'
        have hil : i < xs.length := by rw [hsz]; exact (Array.getElem?_eq_some_iff.1 k1').1
        rw [List.getElem?_eq_getElem hil] at he
        have hw := trod_wt f fd.type (by rw [List.all_eq_true] at h2; exact h2 fd (List.mem_of_getElem? k1)) m _ _ _ he b k2
        unfold DataW.weights
        rw [hu]
        exact DataW.weights_mem_each (j := i) (t := fd.type) (d := (xs[i]).1) (by rw [List.getElem?_map, k1]; rfl) (by rw [List.getElem?_map, List.getElem?_eq_getElem hil]; rfl) _ hw
      · cases h1
    · cases h
theorem sized_agg {ts : List TypeId} {ds : List (DataW H)} (h : (DataW.weightsEach P ts ds).all (· ≤ reachBytes) = true) {j : Nat} {t : TypeId} {d : DataW H} {a : Array Value} {ps : List MemPlace} {xs : List V} {G : Known} (ht : ts[j]? = some t) (hd' : ds[j]? = some d) (hk : okT P 8 t = true)
    (hd : DataW.Trod enc P w base spare held t (.agg a) d ps) (hx : PW (rep G) xs a.toList) (s : List UInt8) (hs : V.str s ∈ xs) : s.length ≤ 1152921504606846976 := by
  obtain ⟨fuel, hf⟩ := hd
  obtain ⟨i, hi⟩ := List.getElem?_of_mem hs
  obtain ⟨v, hv, hr⟩ := hx.get hi
  unfold rep at hr
  subst hr
  have h1 := trod_wt 8 t hk fuel _ d ps hf ⟨s.toArray⟩ (List.mem_of_getElem? hv)
  have h2 := List.all_eq_true.1 h _ (DataW.weights_mem_each ht hd' _ h1)
  have h3 : s.length ≤ reachBytes := by simpa using h2
  exact Nat.le_trans h3 (by decide)
end
end Nt.Ev

set_option linter.unusedVariables false
namespace Nt.Ev
open Go
variable {H : Type} {enc : TypeId × Value → H}
theorem returnsInHanded_and_shaped {a : Assume} {C : Checked} {os : Os} {f : FuncId} {fn : Func} {s : ChangeSpec} {conds : List PathCond} {apart fresh handsOn again : Bool} {X : World → Array Value → Prop}
    (hX : ∀ (w w' : World) (args : Array Value), w.heap = w'.heap → X w args → X w' args)
    (own : ownKnob C.prog.godebug = none) (started : os.Started) (noInit : C.prog.inits.idxOf? f = none) (hfn : C.prog.funcs[f]? = some fn)
    (witness : ∃ (w : World) (tape : Tape) (i : Input), w.os = os ∧ (w.forCall tape i).Shaped C.prog ∧ i.vars = [] ∧ Input.okWide C.prog (w.forCall tape i) .any w.heap.size f i ∧
      ((s.pre enc C.prog fn conds apart (w.forCall tape i).memory i.args ∧ X (w.forCall tape i).memory i.args) ∧ sizedMet enc C.prog fn (OpenSpec.ofChange s) apart (w.forCall tape i).memory i.args) ∧ a.holds C.prog (lone (Frame.enter C.prog f i.args .normal) [] (w.forCall tape i)))
    (contract : ∀ (W : World) (base : Nat) (args : Array Value) (ds gs : List (DataW H)) (before : List MemPlace),
      (∀ (j : Nat) t v, fn.params[j]? = some t → args[j]? = some v → Value.okWide C.prog W .any base t v) →
      DataW.Whole enc C.prog fn.params.toList s.vars apart W args.toList ds gs before →
      conds.all (PathCond.test C.prog ⟨fn.params.toList, ds, s.plain.varTypes C.prog, gs⟩) = true →
      (DataW.weightsEach C.prog (fn.params.toList ++ s.plain.varTypes C.prog) (ds ++ gs)).all (· ≤ reachBytes) = true → X W args → W.ShapedOpen C.prog →
      Calls C.prog f args W fun e W' => ∃ v, e = .returned v ∧ s.post enc C.prog fn apart fresh handsOn again W args v W') :
    ReturnsInHanded a C os f .any (fun w args => (s.pre enc C.prog fn conds apart w args ∧ X w args) ∧ sizedMet enc C.prog fn (OpenSpec.ofChange s) apart w args) (s.post enc C.prog fn apart fresh handsOn again) := by
  refine returnsInHanded_of_calls own started noInit witness ?_
  intro w tape i _ hsh _ hok hpre hholds
  obtain ⟨_, _, _, fn', hfn', _, _, _, _, hval⟩ := hok
  have e : fn' = fn := Option.some.inj (hfn'.symm.trans hfn)
  subst e
  obtain ⟨⟨⟨ds, gs, before, hw, hc⟩, hx⟩, hz⟩ := hpre
  have hw' := DataW.Whole.of_heap (w' := w.forCall tape i) (by rfl) hw
  refine (contract (w.forCall tape i) w.heap.size i.args ds gs before hval hw' hc (hz.weights hw) (hX _ _ _ (by rfl) hx) hsh).mono fun e W' ⟨v, he, hp⟩ => ?_
  subst he
  exact ChangeSpec.post_blind hp
end Nt.Ev
