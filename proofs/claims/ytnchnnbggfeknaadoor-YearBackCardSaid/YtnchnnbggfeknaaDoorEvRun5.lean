/-
  A region that draws its order: the rule.
-/
import Derived.Test.YtnchnnbggfeknaaDoorEvRun4
set_option linter.unusedVariables false
set_option linter.unusedSimpArgs false
namespace Nt.Ev
open Go Go.RowKit

theorem opR_congr {E : Env} {fr fr' : List V} {bx : List (Nat × List V)} {o : Oper} (h : ∀ x ∈ o.op.operands.toList, evalO E fr x = evalO E fr' x) : opR E fr bx o = opR E fr' bx o := by
  have hmap : ∀ l : List Operand, (∀ x ∈ l, evalO E fr x = evalO E fr' x) → l.map (evalO E fr) = l.map (evalO E fr') := fun l hl => List.map_congr_left hl
  unfold opR
  simp only
  cases ho : o.op with
  | move x => simp only; rw [h x (by simp [ho, Op.operands])]
  | assign x => simp only; rw [h x (by simp [ho, Op.operands])]
  | pick c x y => simp only; rw [h c (by simp [ho, Op.operands]), h x (by simp [ho, Op.operands]), h y (by simp [ho, Op.operands])]
  | alloc t => rfl
  | box t x => simp only; rw [h x (by simp [ho, Op.operands])]
  | build t parts =>
    simp only
    have : (parts.toList.map fun (i, x) => (i, evalO E fr x)) = parts.toList.map fun (i, x) => (i, evalO E fr' x) := by
      refine List.map_congr_left fun p hp => ?_
      obtain ⟨i, x⟩ := p
      simp only
      rw [h x (by rw [ho]; simp only [Op.operands]; simp; exact ⟨i, by simpa using hp⟩)]
    rw [this]
  | buildSlice t n parts =>
    simp only
    have : (parts.toList.map fun (i, x) => (i, evalO E fr x)) = parts.toList.map fun (i, x) => (i, evalO E fr' x) := by
      refine List.map_congr_left fun p hp => ?_
      obtain ⟨i, x⟩ := p
      simp only
      rw [h x (by rw [ho]; simp only [Op.operands]; simp; exact ⟨i, by simpa using hp⟩)]
    rw [this]
  | load t x => simp only; rw [h x (by simp [ho, Op.operands])]
  | store t x y => simp only; rw [h x (by simp [ho, Op.operands]), h y (by simp [ho, Op.operands])]
  | nilCheck x => simp only; rw [h x (by simp [ho, Op.operands])]
  | binOp op t x y yt => simp only; rw [h x (by simp [ho, Op.operands]), h y (by simp [ho, Op.operands])]
  | unOp op t x => simp only; rw [h x (by simp [ho, Op.operands])]
  | convert src dst x => simp only; rw [h x (by simp [ho, Op.operands])]
  | makeFunc fn first caps =>
    cases fn with
    | func f =>
      simp only
      rw [hmap caps.toList fun x hx => h x (by rw [ho]; simp only [Op.operands]; simp; right; simpa using hx)]
    | _ => rfl
  | makeSlice t l c => simp only; rw [h l (by simp [ho, Op.operands]), h c (by simp [ho, Op.operands])]
  | slice t x lo hi mx =>
    cases mx with
    | some m => rfl
    | none =>
      simp only
      rw [h x (by simp [ho, Op.operands])]
      have h1 : lo.map (evalO E fr) = lo.map (evalO E fr') := by
        cases lo with
        | none => rfl
        | some y => simp only [Option.map_some]; rw [h y (by simp [ho, Op.operands])]
      have h2 : hi.map (evalO E fr) = hi.map (evalO E fr') := by
        cases hi with
        | none => rfl
        | some y => simp only [Option.map_some]; rw [h y (by simp [ho, Op.operands])]
      rw [h1, h2]
  | fieldAddr t x f => simp only; rw [h x (by simp [ho, Op.operands])]
  | field t x f => simp only; rw [h x (by simp [ho, Op.operands])]
  | indexAddr t x i => simp only; rw [h x (by simp [ho, Op.operands]), h i (by simp [ho, Op.operands])]
  | index t x i => simp only; rw [h x (by simp [ho, Op.operands]), h i (by simp [ho, Op.operands])]
  | extract x i => simp only; rw [h x (by simp [ho, Op.operands])]
  | call c =>
    obtain ⟨callee, args, ts⟩ := c
    have hargs : ∀ x ∈ args.toList, evalO E fr x = evalO E fr' x := fun x hx => h x (by rw [ho]; cases callee <;> simp only [Op.operands, Call.operands] <;> simp <;> (try right) <;> simpa using hx)
    cases callee with
    | value f =>
      simp only
      rw [h f (by rw [ho]; simp [Op.operands, Call.operands]), hmap args.toList hargs]
    | invoke r m => rfl
    | builtin b =>
      simp only
      have two : ∀ (f : V → V → Res), (match args.toList with | [x, y] => f (evalO E fr x) (evalO E fr y) | _ => none) = (match args.toList with | [x, y] => f (evalO E fr' x) (evalO E fr' y) | _ => none) := by
        intro f
        cases hl : args.toList with
        | nil => rfl
        | cons x l =>
          cases l with
          | nil => rfl
          | cons y l =>
            cases l with
            | nil => simp only; rw [hargs x (by rw [hl]; simp), hargs y (by rw [hl]; simp)]
            | cons z l => rfl
      cases b <;> simp only
      · -- append
        cases hl : args.toList with
        | nil => rfl
        | cons x l =>
          cases l with
          | nil => rfl
          | cons y l =>
            cases l with
            | nil => simp only; rw [hargs x (by rw [hl]; simp), hargs y (by rw [hl]; simp)]
            | cons z l => rfl
      · -- len
        cases hl : args.toList with
        | nil => cases ts.toList with
          | nil => rfl
          | cons t ts => cases ts <;> rfl
        | cons x l =>
          cases l with
          | nil =>
            cases ts.toList with
            | nil => rfl
            | cons t ts =>
              cases ts with
              | nil => simp only; rw [hargs x (by rw [hl]; simp)]
              | cons u ts => rfl
          | cons y l => cases ts.toList with
            | nil => rfl
            | cons t ts => cases ts <;> rfl
      · exact two (minmaxV true)
      · exact two (minmaxV false)
  | _ => rfl

theorem evalO_slot {E : Env} {fr fr' : List V} {l : List Operand} (h : ∀ t ∈ tmpsOf l, slot fr t = slot fr' t) : ∀ x ∈ l, evalO E fr x = evalO E fr' x := by
  intro x hx
  cases x with
  | tmp t => exact h t (by unfold tmpsOf; rw [List.mem_filterMap]; exact ⟨_, hx, rfl⟩)
  | _ => rfl

section
variable {E : Env} {B : Nat} {G0 : Known} {w0 : World}

theorem Inv.drew {s : St} {g : Gh} {a : Act} {w : World} (h : Inv E B G0 w0 s g a w) : Inv E B G0 w0 s g a { w with drawn := w.drawn + 1 } :=
  ⟨h.fr, h.df, h.gok, h.own, h.bxs, ⟨h.bel.os, h.bel.tape, h.bel.output, h.bel.size, h.bel.block⟩, h.hB, h.ext, h.glob⟩

/-- The change that a step of such a region is. -/
theorem step_chg {ops : List Oper} {bx : List (Nat × List V)} {s s' : St} {o : Oper} {d : Nat} (hd : o.dst = some d) (h : StepRel E ops (some bx) s o s') :
    ∃ c : Chg, c.d = d ∧ s' = c.app s ∧ ∀ S : St, wantV ops S o = wantV ops s o → opR E S.fr bx o = opR E s.fr bx o → S.noLabel d = true → S.noBox d = true → StepRel E ops (some bx) S o (c.app S) := by
  rcases h with ⟨hw, eff, ho, hbad, hr⟩ | ⟨hw, rfl⟩
  · simp only [Option.isSome_some, Bool.true_and] at hbad
    have fin : ∀ c : Chg, c.d = d → s' = c.app s → (∀ S : St, S.noLabel d = true → S.noBox d = true → EffRel E S o.dst eff (c.app S)) → _ := fun c h1 h2 h3 =>
      (⟨c, h1, h2, fun S hw' ho' hl hb => .inl ⟨hw'.trans hw, eff, ho'.trans ho, by simpa using hbad, h3 S hl hb⟩⟩ : ∃ c : Chg, c.d = d ∧ s' = c.app s ∧ ∀ S : St, wantV ops S o = wantV ops s o → opR E S.fr bx o = opR E s.fr bx o → S.noLabel d = true → S.noBox d = true → StepRel E ops (some bx) S o (c.app S))
    rw [hd] at hr fin
    cases eff with
    | val v => exact fin ⟨d, v, none⟩ rfl hr fun S _ _ => rfl
    | newSl e sh xs => exact fin ⟨d, .sl e sh none xs, none⟩ rfl hr fun S _ _ => rfl
    | own e sh xs =>
      obtain ⟨k, hk, _, rfl⟩ := hr
      simp only [Option.some.injEq] at hk
      subst hk
      exact fin ⟨d, .sl e sh (some d) xs, none⟩ rfl rfl fun S hl _ => ⟨d, rfl, hl, rfl⟩
    | app L e sh xs => cases hbad
    | newBox e cs =>
      obtain ⟨k, hk, _, hcs, rfl⟩ := hr
      simp only [Option.some.injEq] at hk
      subst hk
      exact fin ⟨d, .box d 0, some cs⟩ rfl rfl fun S _ hb => ⟨d, rfl, hb, hcs, rfl⟩
    | put k off cs => cases hbad
    | call f args =>
      rcases hr with ⟨k, r, hk, _, hc, rfl⟩ | ⟨r, hk, _⟩
      · simp only [Option.some.injEq] at hk
        subst hk
        exact fin ⟨d, r.relab d, none⟩ rfl rfl fun S hl _ => .inl ⟨d, r, rfl, hl, hc, rfl⟩
      · cases hk
    | pick b x y =>
      cases b with
      | true => exact fin ⟨d, x, none⟩ rfl hr fun S _ _ => rfl
      | false => exact fin ⟨d, y, none⟩ rfl hr fun S _ _ => rfl
    | alts i vs =>
      obtain ⟨j, v, h1, h2, rfl⟩ := hr
      exact fin ⟨d, v, none⟩ rfl rfl fun S _ _ => ⟨j, v, h1, h2, rfl⟩
  · rw [hd]
    exact ⟨⟨d, .tup [], none⟩, rfl, rfl, fun S hw' _ _ _ => .inr ⟨hw'.trans hw, by rw [hd]; rfl⟩⟩

/-- All changes of a region, and the states between. -/
theorem trace_chgs {ops : List Oper} {bx : List (Nat × List V)} : ∀ (l : List Oper) (s s' : St), (∀ o ∈ l, ∃ d, o.dst = some d) → Trace E ops (some bx) l s s' →
    ∃ cs : List Chg, cs.length = l.length ∧ (∀ (i : Nat) o c, l[i]? = some o → cs[i]? = some c → o.dst = some c.d ∧
      ∃ si, Alike si (selSt (fun j => decide (j < i)) cs 0 s) ∧ si = selSt (fun j => decide (j < i)) cs 0 s ∧ ∀ S : St, wantV ops S o = wantV ops si o → opR E S.fr bx o = opR E si.fr bx o → S.noLabel c.d = true → S.noBox c.d = true → StepRel E ops (some bx) S o (c.app S)) ∧
      s' = selSt (fun _ => true) cs 0 s
  | [], s, s', _, h => by
    cases h
    exact ⟨[], rfl, fun i o c h => by simp at h, rfl⟩
  | o :: l, s, s', hd, h => by
    cases h with
    | cons hs ht =>
      rename_i s1
      obtain ⟨d, hod⟩ := hd o List.mem_cons_self
      obtain ⟨c, hcd, rfl, hstep⟩ := step_chg hod hs
      obtain ⟨cs, hlen, hcs, hfin⟩ := trace_chgs l _ s' (fun x hx => hd x (List.mem_cons_of_mem _ hx)) ht
      have shift : ∀ (sel : Nat → Bool) (sel' : Nat → Bool) (k : Nat), (∀ j, sel (j + 1) = sel' j) → ∀ (cs : List Chg) (k : Nat) (s : St), selSt sel cs (k + 1) s = selSt sel' cs k s := by
        intro sel sel' _ hsel cs
        induction cs with
        | nil => intro k s; rfl
        | cons c cs ih =>
          intro k s
          unfold selSt
          rw [hsel k, ih]
      refine ⟨c :: cs, by simp [hlen], ?_, ?_⟩
      · intro i o' c' ho' hc'
        cases i with
        | zero =>
          simp only [List.getElem?_cons_zero, Option.some.injEq] at ho' hc'
          subst ho'; subst hc'
          have e1 : selSt (fun j => decide (j < 0)) (c :: cs) 0 s = s := by
            have : ∀ (cs : List Chg) (k : Nat) (s : St), selSt (fun j => decide (j < 0)) cs k s = s := by
              intro cs
              induction cs with
              | nil => intro k s; rfl
              | cons c cs ih => intro k s; unfold selSt; rw [ih]; simp
            exact this _ _ _
          exact ⟨by rw [hod, hcd], s, by rw [e1]; exact .refl _, e1.symm, by rw [hcd]; exact hstep⟩
        | succ i =>
          simp only [List.getElem?_cons_succ] at ho' hc'
          obtain ⟨h1, si, h2, h3, h4⟩ := hcs i o' c' ho' hc'
          have e1 : selSt (fun j => decide (j < i + 1)) (c :: cs) 0 s = selSt (fun j => decide (j < i)) cs 0 (c.app s) := by
            rw [selSt]
            rw [if_pos (by simp)]
            exact shift _ _ 0 (fun j => by simp) cs 0 _
          exact ⟨h1, si, by rw [e1]; exact h2, by rw [e1]; exact h3, h4⟩
      · rw [hfin, selSt, if_pos rfl]
        exact (shift (fun _ => true) (fun _ => true) 0 (fun j => rfl) cs 0 _).symm
theorem nodup_inj {l : List Nat} (h : l.Nodup) {i j : Nat} (hi : i < l.length) (hj : j < l.length) (e : l[i] = l[j]) : i = j := by
  have hp := List.pairwise_iff_getElem.1 h
  rcases Nat.lt_trichotomy i j with h1 | h1 | h1
  · exact absurd e (hp i j hi hj h1)
  · exact h1
  · exact absurd e.symm (hp j i hj hi h1)

theorem zip_all {α : Type} {l : List α} {p : α × Nat → Bool} (h : l.zipIdx.all p = true) : ∀ (i : Nat) (x : α), l[i]? = some x → p (x, i) = true := by
  intro i x hx
  rw [List.all_eq_true] at h
  exact h (x, i) (List.mem_zipIdx_iff_getElem?.2 hx)

/-- A set of operations that holds, with each, those that it waits for. -/
def Closed (ops : List Oper) (sel : Nat → Bool) : Prop := ∀ (j : Nat) o, ops[j]? = some o → sel j = true → ∀ e ∈ o.after, Region.binds .any e = true → sel e.on = true

theorem waits_closed {ops : List Oper} {sel : Nat → Bool} (hc : Closed ops sel) : ∀ (n j i : Nat), waits ops n j i = true → sel j = true → sel i = true
  | 0, _, _, h, _ => by cases h
  | n + 1, j, i, h, hj => by
    unfold waits at h
    split at h
    · rename_i o ho
      rw [List.any_eq_true] at h
      obtain ⟨e, he, h⟩ := h
      rw [Bool.and_eq_true, Bool.or_eq_true, beq_iff_eq] at h
      have h1 := hc j o ho hj e (by simpa using he) h.1
      rcases h.2 with h2 | h2
      · rw [← h2]; exact h1
      · exact waits_closed hc n e.on i h2 h1
    · cases h

theorem selSt_bx_mem (sel : Nat → Bool) : ∀ (l : List Chg) (k : Nat) (s : St) (p : Nat × List V), p ∈ (selSt sel l k s).bx → p ∈ s.bx ∨ ∃ (j : Nat) (c : Chg) (cs : List V), l[j]? = some c ∧ sel (k + j) = true ∧ c.bx = some cs ∧ p = (c.d, cs)
  | [], k, s, p, h => .inl h
  | c :: l, k, s, p, h => by
    unfold selSt at h
    rcases selSt_bx_mem sel l (k + 1) _ p h with h | ⟨j, c', cs, h1, h2, h3, h4⟩
    · split at h
      · rename_i hk
        unfold Chg.app at h
        cases hb : c.bx with
        | none => rw [hb] at h; exact .inl h
        | some cs =>
          rw [hb] at h
          simp only [List.mem_cons] at h
          rcases h with rfl | h
          · exact .inr ⟨0, c, cs, rfl, by simpa using hk, hb, rfl⟩
          · exact .inl h
      · exact .inl h
    · exact .inr ⟨j + 1, c', cs, by simpa using h1, by rw [show k + (j + 1) = k + 1 + j by omega]; exact h2, h3, h4⟩
theorem selSt_bx_all (l : List Chg) : ∀ (k : Nat) (s : St), (∀ p ∈ s.bx, p ∈ (selSt (fun _ => true) l k s).bx) ∧ ∀ (j : Nat) (c : Chg) (cs : List V), l[j]? = some c → c.bx = some cs → (c.d, cs) ∈ (selSt (fun _ => true) l k s).bx := by
  induction l with
  | nil => intro k s; exact ⟨fun p h => h, fun j c cs h => by simp at h⟩
  | cons c l ih =>
    intro k s
    unfold selSt
    rw [if_pos rfl]
    obtain ⟨h1, h2⟩ := ih (k + 1) (c.app s)
    refine ⟨fun p hp => h1 p ?_, fun j c' cs hj hc => ?_⟩
    · unfold Chg.app
      cases c.bx with
      | none => exact hp
      | some cs => exact List.mem_cons_of_mem _ hp
    · cases j with
      | zero =>
        simp only [List.getElem?_cons_zero, Option.some.injEq] at hj
        subst hj
        refine h1 _ ?_
        unfold Chg.app
        rw [hc]
        exact List.mem_cons_self
      | succ j => exact h2 j c' cs (by simpa using hj) hc

theorem bnot_false {b : Bool} (h : b = false) : bnot b = true := by subst h; rfl

/-- What is not yet made is named nowhere. -/
theorem fresh_sel {ops : List Oper} {s0 : St} {cs : List Chg} {sel : Nat → Bool} (hlen : cs.length = ops.length) (hcs : ∀ (i : Nat) o c, ops[i]? = some o → cs[i]? = some c → o.dst = some c.d) (hn : (cs.map (·.d)).Nodup) (hfr : ∀ c ∈ cs, c.d < s0.fr.length)
    (hst : drawStart ops s0 = true) (hen : drawEnd ops (selSt (fun _ => true) cs 0 s0) = true) (hcl : Closed ops sel) {i : Nat} {c : Chg} (hi : cs[i]? = some c) (hsel : sel i = false) :
    (selSt sel cs 0 s0).noLabel c.d = true ∧ (selSt sel cs 0 s0).noBox c.d = true := by
  have hiL : i < ops.length := by rw [← hlen]; exact (List.getElem?_eq_some_iff.1 hi).1
  have hoi := List.getElem?_eq_getElem hiL
  have hdi := hcs i _ c hoi hi
  unfold drawStart at hst
  rw [List.all_eq_true] at hst
  have hst := hst _ (List.getElem_mem hiL)
  rw [hdi] at hst
  simp only [Bool.and_eq_true] at hst
  obtain ⟨hsl, hsb⟩ := hst
  unfold drawEnd at hen
  simp only at hen
  have hen := zip_all hen i _ hoi
  simp only [hdi, Bool.and_eq_true] at hen
  obtain ⟨hen1, hen2⟩ := hen
  -- a slot's value
  have hslot : ∀ t, t < s0.fr.length → (slot (selSt sel cs 0 s0).fr t).hasLabel c.d = false ∧ (slot (selSt sel cs 0 s0).fr t).hasBox c.d = false := by
    intro t ht
    have h0 : (slot s0.fr t).hasLabel c.d = false ∧ (slot s0.fr t).hasBox c.d = false := by
      have hm : slot s0.fr t ∈ s0.fr := by
        unfold slot
        rw [List.getD_eq_getElem?_getD, List.getElem?_eq_getElem ht]
        exact List.getElem_mem ht
      exact ⟨noLabel_fr hsl _ hm, noBox_fr hsb _ hm⟩
    by_cases hex : ∃ cj ∈ cs, cj.d = t
    · obtain ⟨cj, hm, rfl⟩ := hex
      obtain ⟨j, hj⟩ := List.getElem?_of_mem hm
      have hjL : j < ops.length := by rw [← hlen]; exact (List.getElem?_eq_some_iff.1 hj).1
      have hoj := List.getElem?_eq_getElem hjL
      rw [selSt_slot sel j cs 0 s0 cj (Nat.zero_le _) (by simpa using hj) hn ht]
      split
      · rename_i hjs
        have h2 := zip_all hen1 j _ hoj
        simp only [hcs j _ cj hoj hj] at h2
        rw [selSt_slot (fun _ => true) j cs 0 s0 cj (Nat.zero_le _) (by simpa using hj) hn ht, if_pos rfl] at h2
        simp only [Bool.or_eq_true, Bool.and_eq_true, beq_iff_eq] at h2
        rcases h2 with (h2 | h2) | h2
        · subst h2; rw [hsel] at hjs; cases hjs
        · exact ⟨bnot_true h2.1, bnot_true h2.2⟩
        · have := waits_closed hcl _ _ _ h2 hjs
          rw [hsel] at this; cases this
      · exact h0
    · rw [selSt_other sel t cs 0 s0 fun cj hm e => hex ⟨cj, hm, e⟩]
      exact h0
  have hfrall : ∀ x ∈ (selSt sel cs 0 s0).fr, x.hasLabel c.d = false ∧ x.hasBox c.d = false := by
    intro x hx
    obtain ⟨t, ht, rfl⟩ := List.getElem_of_mem hx
    have h := hslot t (by rw [selSt_len] at ht; exact ht)
    unfold slot at h
    rw [List.getD_eq_getElem?_getD, List.getElem?_eq_getElem ht] at h
    exact h
  have hbx : ∀ p ∈ (selSt sel cs 0 s0).bx, p.1 ≠ c.d ∧ ∀ x ∈ p.2, x.hasLabel c.d = false ∧ x.hasBox c.d = false := by
    intro p hp
    rcases selSt_bx_mem sel cs 0 s0 p hp with hp | ⟨j, cj, ds, hj, hjs, hjb, rfl⟩
    · unfold St.noLabel at hsl
      unfold St.noBox at hsb
      simp only [Bool.and_eq_true, List.all_eq_true] at hsl hsb
      have h1 := hsl.2 p hp
      have h2 := hsb.2 p hp
      refine ⟨fun e => ?_, fun x hx => ⟨bnot_true (h1 x hx), bnot_true (h2.2 x hx)⟩⟩
      have := bnot_true h2.1
      rw [beq_eq_false_iff_ne] at this
      exact this e
    · rw [Nat.zero_add] at hjs
      have hne : cj.d ≠ c.d := by
        intro e
        have : i = j := by
          have hil : i < (cs.map (·.d)).length := by rw [List.length_map]; exact (List.getElem?_eq_some_iff.1 hi).1
          have hjl : j < (cs.map (·.d)).length := by rw [List.length_map]; exact (List.getElem?_eq_some_iff.1 hj).1
          refine nodup_inj hn hil hjl ?_
          simp only [List.getElem_map]
          rw [(List.getElem?_eq_some_iff.1 hi).2, (List.getElem?_eq_some_iff.1 hj).2, e]
        subst this
        rw [hsel] at hjs; cases hjs
      refine ⟨hne, ?_⟩
      have hm := (selSt_bx_all cs 0 s0).2 j cj ds hj hjb
      rw [List.all_eq_true] at hen2
      have h2 := hen2 _ hm
      simp only [Bool.or_eq_true, List.all_eq_true, List.any_eq_true, Bool.and_eq_true, beq_iff_eq] at h2
      rcases h2 with h2 | ⟨⟨oj', j'⟩, hm', hd', hw⟩
      · exact fun x hx => ⟨bnot_true (h2 x hx).1, bnot_true (h2 x hx).2⟩
      · exfalso
        have hoj' := List.mem_zipIdx_iff_getElem?.1 hm'
        simp only at hoj' hd' hw
        have hj'L : j' < ops.length := (List.getElem?_eq_some_iff.1 hoj').1
        have hj'C : j' < cs.length := by omega
        have hcj' := hcs j' oj' _ hoj' (List.getElem?_eq_getElem hj'C)
        rw [hd'] at hcj'
        simp only [Option.some.injEq] at hcj'
        have : j = j' := by
          have hjl : j < (cs.map (·.d)).length := by rw [List.length_map]; exact (List.getElem?_eq_some_iff.1 hj).1
          have hj'l : j' < (cs.map (·.d)).length := by rw [List.length_map]; exact hj'C
          refine nodup_inj hn hjl hj'l ?_
          simp only [List.getElem_map]
          rw [(List.getElem?_eq_some_iff.1 hj).2, hcj']
        subst this
        have := waits_closed hcl _ _ _ hw hjs
        rw [hsel] at this; cases this
  unfold St.noLabel St.noBox
  simp only [Bool.and_eq_true, List.all_eq_true]
  exact ⟨⟨fun x hx => bnot_false (hfrall x hx).1, fun p hp x hx => bnot_false ((hbx p hp).2 x hx).1⟩, ⟨fun x hx => bnot_false (hfrall x hx).2, fun p hp => ⟨bnot_false (by rw [beq_eq_false_iff_ne]; exact (hbx p hp).1), fun x hx => bnot_false ((hbx p hp).2 x hx).2⟩⟩⟩
end
end Nt.Ev
