/-
  An operation's effect leaves the state right; a region in the text's order.
-/
import Derived.Test.YtnchnnbggfeknaaDoorEvRun2
set_option linter.unusedVariables false
set_option linter.unusedSimpArgs false
namespace Nt.Ev
open Go Go.RowKit
section
variable {E : Env} {B : Nat} {G0 : Known} {w0 : World} {s s' : St} {g : Gh} {a : Act} {w : World} {bx : List (Nat × List V)} {o : Oper} {eff : Eff}

theorem BOk.sub {bx bx' : List (Nat × List V)} (h : BOk B g bx' w) (hs : ∀ k cs, lookBx bx k = some cs → lookBx bx' k = some cs) : BOk B g bx w :=
  ⟨fun k cs hk => h.1 k cs (hs k cs hk), fun k k' cs cs' hk hk' => h.2 k k' cs cs' (hs k cs hk) (hs k' cs' hk')⟩

/-- Results that come back from a call. -/
theorem sres_plain {G : Known} {w : World} {B : Nat} {x : V} {v : Value} {g : Gh} (hg : g.G = G) (hl : hasL x = false) (h : sres G w B x v) : srep g x v := by
  subst hg
  cases x with
  | sl e sh ow xs =>
    cases ow with
    | none => exact h
    | some L => cases hl
  | box k off => simp only [sres] at h; unfold rep at h; exact h.elim
  | _ => exact h

theorem relabL_none : ∀ (d : Nat) (l : List V), l.countP hasL = 0 → ∀ b, relabL d b l = l
  | d, [], _, b => by cases b <;> rfl
  | d, x :: l, h, b => by
    rw [List.countP_cons] at h
    have hx : hasL x = false := by
      cases hq : hasL x with
      | false => rfl
      | true => rw [hq] at h; simp at h
    rw [hx] at h
    have ih := relabL_none d l (by simpa using h) b
    cases x with
    | sl e sh ow xs =>
      cases ow with
      | none => cases b <;> simp only [relabL, ih]
      | some L => cases hx
    | _ => cases b <;> simp only [relabL, ih]

theorem relab_inv (h : Inv E B G0 w0 s g a w) {d : Nat} {r : V} {v : Value} {b0 : Nat} (hd : s.noLabel d = true) (hb0 : B ≤ b0) (hlt : ∀ L v e sz b, g.O L = some (v, e, sz) → v.ownBlock = some b → b < b0) (hr : resrep g.G w b0 r v) :
    ∃ g', Inv E B G0 w0 s g' a w ∧ trep g' (r.relab d) v := by
  have own_ok : ∀ {e sh xs u}, ownFacts g.G w b0 e sh xs u → ownFacts g.G w B e sh xs u := by
    rintro e sh xs u ⟨h1, h2⟩
    refine ⟨h1, h2.imp id ?_⟩
    rintro ⟨b, cap, cur, l, hv, hb, rest⟩
    exact ⟨b, cap, cur, l, hv, by omega, rest⟩
  have own_new : ∀ {e sh xs u}, ownFacts g.G w b0 e sh xs u → ∀ L v e sz b, g.O L = some (v, e, sz) → L ≠ d → v.ownBlock = some b → u.ownBlock ≠ some b := by
    rintro e sh xs u ⟨h1, h2⟩ L v e' sz b hL _ hb hu
    have h3 := hlt L v e' sz b hL hb
    rcases h2 with ⟨rfl, _⟩ | ⟨b', cap, cur, l, rfl, hb', _⟩
    · cases hu
    · simp [Value.ownBlock] at hu
      omega
  cases r with
  | tup vs =>
    obtain ⟨us, rfl, hp, hc⟩ := hr
    -- at most one is owned
    have key : ∀ (xs : List V) (us : List Value), PW (sres g.G w b0) xs us → xs.countP hasL ≤ 1 → ∃ g', g'.G = g.G ∧ Inv E B G0 w0 s g' a w ∧ PW (srep g') (relabL d true xs) us := by
      intro xs
      induction xs with
      | nil => intro us hp _; exact ⟨g, rfl, h, by rw [hp.nil_iff]; exact .nil⟩
      | cons x xs ih =>
        intro us hp hc
        obtain ⟨u, t, rfl, h1, h2⟩ := hp.cons_inv
        rw [List.countP_cons] at hc
        cases hx : hasL x with
        | true =>
          rw [hx] at hc
          have h0 : xs.countP hasL = 0 := by rw [if_pos rfl] at hc; omega
          cases x with
          | sl e sh ow ys =>
            cases ow with
            | none => cases hx
            | some L =>
              have h1 : ownFacts g.G w b0 e sh ys u := h1
              obtain ⟨g', hg, hi, hs⟩ := h.label (e := e) (sh := sh) (xs := ys) (u := u) hd (own_ok h1) (own_new h1)
              refine ⟨g', hg, hi, ?_⟩
              show PW (srep g') (V.sl e sh (some d) ys :: relabL d false xs) (u :: t)
              rw [relabL_none d xs h0]
              refine .cons hs (h2.mono fun y hy v hv => sres_plain hg ?_ hv)
              have := List.countP_eq_zero.1 h0 y hy
              simpa using this
          | _ => cases hx
        | false =>
          rw [hx] at hc
          obtain ⟨g', hg, hi, hs⟩ := ih t h2 (by simpa using hc)
          refine ⟨g', hg, hi, ?_⟩
          have e1 : relabL d true (x :: xs) = x :: relabL d true xs := by
            cases x with
            | sl e sh ow ys => cases ow with
              | none => rfl
              | some L => cases hx
            | _ => rfl
          rw [e1]
          exact .cons (sres_plain hg hx h1) hs
    obtain ⟨g', _, hi, hs⟩ := key vs us hp hc
    exact ⟨g', hi, us, rfl, hs⟩
  | sl e sh ow xs =>
    cases ow with
    | none => exact ⟨g, h, hr⟩
    | some L =>
      have hr : ownFacts g.G w b0 e sh xs v := hr
      obtain ⟨g', hg, hi, hs⟩ := h.label (e := e) (sh := sh) (xs := xs) (u := v) hd (own_ok hr) (own_new hr)
      exact ⟨g', hi, hs⟩
  | box k off => simp only [resrep, sres] at hr; unfold rep at hr; exact hr.elim
  | fn f c => simp only [resrep, sres] at hr; unfold rep at hr; exact hr.elim
  | _ => exact ⟨g, h, hr⟩

theorem noLabel_put {s : St} : True := trivial

/-- What an operation leaves. -/
theorem eff_inv (h : Inv E B G0 w0 s g a w) (hd : Does E.P a.eval o B w g bx eff) (hs : ∀ k cs, lookBx bx k = some cs → lookBx s.bx k = some cs) (hr : EffRel E s o.dst eff s') {next : Act → World → Prop} {Q : Exit → Act → World → Prop}
    (hk : ∀ g' a' w', Inv E B G0 w0 s' g' a' w' → (∃ u, a' = a.put o.dst u) → next a' w') : o.wp E.P a w next Q := by
  unfold Oper.wp
  cases eff with
  | val v =>
    obtain ⟨u, hu, ht⟩ := hd
    have e1 : s' = s.put o.dst v := hr
    subst e1
    rw [hu]
    exact hk g _ _ (h.put o.dst ht) ⟨u, rfl⟩
  | newSl e sh xs =>
    obtain ⟨u, w', G', hu, hn, ht⟩ := hd
    obtain ⟨h1, _⟩ := h.new hn
    rw [hu]
    have e1 : s' = s.put o.dst (.sl e sh none xs) := hr
    subst e1
    exact hk _ _ _ (h1.put o.dst (v := .sl e sh none xs) ht) ⟨u, rfl⟩
  | own e sh xs =>
    obtain ⟨u, w', G', hu, hn, hf⟩ := hd
    obtain ⟨k, hk1, hk2, rfl⟩ := hr
    obtain ⟨h1, _⟩ := h.new hn
    rw [hu]
    have hf' : ownFacts G' w' B e sh xs u := by
      refine ⟨hf.1, hf.2.imp id ?_⟩
      rintro ⟨b, cap, cur, l, hv, hb, rest⟩
      exact ⟨b, cap, cur, l, hv, by have := h.hB; omega, rest⟩
    obtain ⟨g', hg, hi, ht⟩ := h1.label (e := e) (sh := sh) (xs := xs) (u := u) hk2 hf' (by
      intro L v e' sz b hL _ hb hub
      have h3 := own_lt h.gok h.own hL hb
      rcases hf.2 with ⟨rfl, _⟩ | ⟨b', cap, cur, l, rfl, hb', _⟩
      · cases hub
      · simp [Value.ownBlock] at hub; omega)
    have := hi.put (some k) (v := .sl e sh (some k) xs) (u := u) ht
    rw [Oper.upon_value]
    rw [hk1] at hk ⊢
    exact hk _ _ _ this ⟨u, rfl⟩
  | app L e sh xs =>
    obtain ⟨v0, u, w', G', hOL, hu, hgr, hG1, hmore, hGk, hf, hub⟩ := hd
    obtain ⟨k, hk1, hk2, rfl⟩ := hr
    have h1 := h.kill L
    rw [hu]
    have hrow : ∀ b, v0.ownBlock = some b → B ≤ b := by
      intro b hb
      rcases (h.own.1 L v0 e sh.length hOL).2 with hv | ⟨b', n, cap, cur, l, hv, hB', _⟩
      · rw [hv] at hb; cases hb
      · rw [hv] at hb; simp [Value.ownBlock] at hb; omega
    have hother : ∀ L' v e' sz b, (if L' = L then none else g.O L') = some (v, e', sz) → v.ownBlock = some b → b < w.heap.size ∧ some b ≠ v0.ownBlock := by
      intro L' v e' sz b hL' hb
      split at hL'
      · cases hL'
      · rename_i hne
        refine ⟨own_lt h.gok h.own hL' hb, fun e1 => hne ?_⟩
        exact h.own.2 L' L v v0 _ _ _ _ b hL' hOL hb e1.symm
    have hext : Ext { g with O := fun k => if k = L then none else g.O k } { g with O := (fun k => if k = L then none else g.O k), G := G' } :=
      ⟨hmore, fun _ _ h => h, fun L' v e' sz b hL' hb => by obtain ⟨h2, h3⟩ := hother L' v e' sz b hL' hb; exact hG1 b h2 h3, fun _ _ h => h⟩
    have h2 : Inv E B G0 w0 (s.kill L) { g with O := (fun k => if k = L then none else g.O k), G := G' } a w' := by
      refine ⟨h1.fr.mono fun x _ v => trep_ext hext, h1.df, hGk, ⟨fun L' v e' sz hL' => ?_, h1.own.2⟩, ⟨fun j cs hj => ?_, h1.bxs.2⟩, ?_, Nat.le_trans h.hB hgr.size, fun b hb => ?_, h1.glob.more hmore⟩
      · obtain ⟨p1, p2⟩ := h1.own.1 L' v e' sz hL'
        refine ⟨p1, p2.imp id ?_⟩
        rintro ⟨b, n, cap, cur, l, hv, hb, hh, hnc, hcm, hcs, hGb, hl⟩
        obtain ⟨q1, q2⟩ := hother L' v e' sz b hL' (by rw [hv]; rfl)
        exact ⟨b, n, cap, cur, l, hv, hb, by rw [hgr.block b q1 q2]; exact hh, hnc, hcm, hcs, by show G' b = _; rw [hG1 b q1 q2]; exact hGb, hl⟩
      · obtain ⟨b, c, e2, hb, hBb, hh, hp, ho, hGb⟩ := h1.bxs.1 j cs hj
        have hlt := (Array.getElem?_eq_some_iff.1 hh).1
        have hne : some b ≠ v0.ownBlock := by
          intro e1
          rcases (h.own.1 L v0 e sh.length hOL).2 with hv | ⟨b', n, cap, cur, l, hv, hB', hh', _, _, _, hG', _⟩
          · rw [hv] at e1; cases e1
          · rw [hv] at e1
            simp [Value.ownBlock] at e1
            subst e1
            have hGb : g.G b = none := hGb
            rw [hGb] at hG'; cases hG'
        exact ⟨b, c, e2, hb, hBb, by rw [hgr.block b hlt hne]; exact hh, hp.mono fun x _ v => trep_ext hext, ho, by show G' b = _; rw [hG1 b hlt hne]; exact hGb⟩
      · exact h.bel.grown hgr h.hB (fun b hb => hrow b hb)
      · have hlt : b < w.heap.size := by have := h.hB; omega
        have hne : some b ≠ v0.ownBlock := fun e1 => by have := hrow b e1.symm; omega
        exact (hG1 b hlt hne).trans (h.ext b hb)
    obtain ⟨g', hg, hi, ht⟩ := h2.label (e := e) (sh := sh) (xs := xs) (u := u) hk2 hf (by
      intro L' v e' sz b hL' _ hb hub'
      obtain ⟨q1, q2⟩ := hother L' v e' sz b hL' hb
      rcases hub with hub | hub
      · rw [hub'] at hub; exact q2 hub
      · have := hub b hub'; omega)
    have := hi.put (some k) (v := .sl e sh (some k) xs) (u := u) ht
    rw [Oper.upon_value]
    rw [hk1] at hk ⊢
    exact hk _ _ _ this ⟨u, rfl⟩
  | newBox e cs =>
    obtain ⟨c, hu, hp, ho⟩ := hd
    obtain ⟨k, hk1, hk2, hk3, rfl⟩ := hr
    rw [hu]
    obtain ⟨g', hi⟩ := h.newBox (e := e) hk2 hp ho hk3
    rw [Oper.upon_value]
    rw [hk1] at hk ⊢
    exact hk _ _ _ hi ⟨_, rfl⟩
  | put k off cs =>
    obtain ⟨b, c, e, us, old, hb, hl, hh, hp, hu, hv, ho, hle⟩ := hd
    obtain ⟨old', hl', rfl⟩ := hr
    rw [hs k old hl] at hl'
    simp only [Option.some.injEq] at hl'
    subst hl'
    rw [hu]
    have h1 := h.store (off := off) (vs := cs) (us := us) hb (hs k old hl) hh hp hv ho hle
    exact hk _ _ _ (h1.put o.dst (v := .tup []) (u := undef) ⟨[], rfl, .nil⟩) ⟨_, rfl⟩
  | call f args =>
    obtain ⟨vs, hu, hp⟩ := hd
    rw [hu]
    have key : ∀ r, Contract E f args r → (∀ v w' G', New w w' g.G G' → resrep G' w' w.heap.size r v → next (a.put o.dst v) w') → o.upon E.P a next Q (.ok (.enter f vs.toArray) w) := by
      intro r hc hn
      refine Calls.mono (hc g.G w vs h.gok h.glob hp) ?_
      rintro e w' ⟨v, G', rfl, h1, h2⟩
      exact hn v w' G' h1 h2
    rcases hr with ⟨k, r, hk1, hk2, hc, rfl⟩ | ⟨r, hk1, hc, rfl⟩
    · refine key r hc fun v w' G' hn hres => ?_
      obtain ⟨h1, _⟩ := h.new hn
      obtain ⟨g', hi, ht⟩ := relab_inv h1 (d := k) (r := r) (v := v) (b0 := w.heap.size) hk2 h.hB (fun L v e sz b hL hb => own_lt h.gok h.own hL hb) hres
      have := hi.put (some k) ht
      rw [hk1] at hk ⊢
      exact hk _ _ _ this ⟨v, rfl⟩
    · refine key r hc fun v w' G' hn hres => ?_
      obtain ⟨h1, _⟩ := h.new hn
      have := h1.put none (v := .any) (u := v) trep_any
      rw [hk1] at hk ⊢
      exact hk _ _ _ this ⟨v, rfl⟩
  | pick b x y =>
    obtain ⟨u, hu, ht⟩ := hd
    rw [hu]
    cases b with
    | true =>
      have e1 : s' = s.put o.dst x := hr
      subst e1
      exact hk _ _ _ (h.put o.dst ht) ⟨u, rfl⟩
    | false =>
      have e1 : s' = s.put o.dst y := hr
      subst e1
      exact hk _ _ _ (h.put o.dst ht) ⟨u, rfl⟩

  | alts i vs =>
    obtain ⟨j, v, h1, h2, rfl⟩ := hr
    obtain ⟨u, hu, ht⟩ := hd j v h1 h2
    rw [hu]
    exact hk g _ _ (h.put o.dst ht) ⟨u, rfl⟩

/-- Whether an operation is wanted, as the state tells. -/
def wantV (ops : List Oper) (s : St) (o : Oper) : Option Bool :=
  match o.guard with
  | none => some true
  | some (j, want) => match ops[j]? with
    | none => none
    | some oj => match oj.dst with
      | none => none
      | some d => match slot s.fr d with
        | .bool b => some (b == want)
        | .tup [] => some false
        | _ => none

theorem slot_pw (h : PW (trep g) s.fr a.tmps.toList) {d : Nat} {x : V} (hx : slot s.fr d = x) (hne : x ≠ .any) : d < s.fr.length ∧ ∃ u, a.tmps[d]? = some u ∧ trep g x u := by
  unfold slot at hx
  have hd : d < s.fr.length := by
    refine Nat.lt_of_not_le fun hle => hne ?_
    rw [← hx, List.getD_eq_getElem?_getD, List.getElem?_eq_none hle]; rfl
  obtain ⟨u, hu, ht⟩ := h.get (getD_some hd)
  rw [hx] at ht
  exact ⟨hd, u, by simpa using hu, ht⟩

theorem wantV_sound {ops : Array Oper} (h : PW (trep g) s.fr a.tmps.toList) {b : Bool} (hw : wantV ops.toList s o = some b) : Region.wanted o (yielded ops a.tmps) = b := by
  unfold wantV at hw
  unfold Region.wanted
  split at hw
  · rename_i hg
    rw [hg]
    simp only [Option.some.injEq] at hw
    exact hw
  · rename_i j want hg
    rw [hg]
    simp only
    split at hw
    · cases hw
    · rename_i oj hoj
      split at hw
      · cases hw
      · rename_i d hd
        have hoj' : ops[j]? = some oj := by simpa using hoj
        split at hw
        · rename_i c hc
          obtain ⟨_, u, hu, ht⟩ := slot_pw h hc (by intro e; cases e)
          rw [trep_bool] at ht
          subst ht
          simp only [Option.some.injEq] at hw
          subst hw
          simp [yielded, hoj', hd, hu]
        · rename_i hc
          obtain ⟨_, u, hu, ht⟩ := slot_pw h hc (by intro e; cases e)
          obtain ⟨us, rfl, hp⟩ := ht
          simp only [Option.some.injEq] at hw
          subst hw
          simp [yielded, hoj', hd, hu]
        · cases hw

def StepRel (E : Env) (ops : List Oper) (bx : Option (List (Nat × List V))) (s : St) (o : Oper) (s' : St) : Prop :=
  (wantV ops s o = some true ∧ ∃ eff, opR E s.fr (match bx with | some b => b | none => s.bx) o = some (true, eff) ∧ (bx.isSome && effBad eff) = false ∧ EffRel E s o.dst eff s') ∨ (wantV ops s o = some false ∧ s' = s.put o.dst (.tup []))

inductive Trace (E : Env) (ops : List Oper) (bx : Option (List (Nat × List V))) : List Oper → St → St → Prop
  | nil (s : St) : Trace E ops bx [] s s
  | cons {o : Oper} {l : List Oper} {s s1 s' : St} (h : StepRel E ops bx s o s1) (t : Trace E ops bx l s1 s') : Trace E ops bx (o :: l) s s'

theorem sel_some {α : Type} {c : Bool} {x y : Option α} {r : α} (h : sel c x y = some r) : (c = true ∧ x = some r) ∨ (c = false ∧ y = some r) := by
  cases c
  · exact .inr ⟨rfl, h⟩
  · exact .inl ⟨rfl, h⟩

theorem set_same {fr : List V} {d : Nat} {x : V} (h : slot fr d = x) : fr.set d x = fr := by
  by_cases hd : d < fr.length
  · unfold slot at h
    rw [List.getD_eq_getElem?_getD, List.getElem?_eq_getElem hd] at h
    simp only [Option.getD_some] at h
    rw [← h]
    exact List.set_getElem_self hd
  · exact List.set_eq_of_length_le (by omega)

theorem forceL_eq {β : Type} : ∀ (l : List V) (k : List V → β), forceL l k = k l
  | [], _ => rfl
  | v :: l, k => by unfold forceL; exact forceL_eq l _
theorem pf_eq {α : Type} (K : St → Option α) : pf K = K := by
  funext s
  unfold pf
  rw [forceL_eq]

theorem evOp_rel {α : Type} {call : Caller α} (hc : CallOk E call) {bx : Option (List (Nat × List V))} {K : St → Option α} {r : α} (h : evOp E call bx o s K = some r) : ∃ eff s', (opR E s.fr (match bx with | some b => b | none => s.bx) o = some (true, eff) ∧ (bx.isSome && effBad eff) = false ∧ EffRel E s o.dst eff s') ∧ K s' = some r := by
  unfold evOp at h
  split at h
  · cases h
  · rename_i c eff ho
    cases hb : bx.isSome && effBad eff with
    | true => rw [hb] at h; cases h
    | false =>
    rw [hb, cond_false] at h
    rcases sel_some h with ⟨rfl, h⟩ | ⟨_, h⟩
    · obtain ⟨s', h1, h2⟩ := effK_rel hc h
      exact ⟨eff, s', ⟨ho, hb, h1⟩, h2⟩
    · cases h

theorem evOps_rel {α : Type} {call : Caller α} (hc : CallOk E call) {ops : List Oper} {bx : Option (List (Nat × List V))} : ∀ (l : List Oper) (s : St) (K : St → Option α) (r : α), evOps E call ops bx l s K = some r → ∃ s', Trace E ops bx l s s' ∧ K s' = some r
  | [], s, K, r, h => ⟨s, .nil s, h⟩
  | o :: l, s, K, r, h => by
    unfold evOps at h
    simp only [pf_eq] at h
    split at h
    · rename_i hg
      obtain ⟨eff, s1, h1, h3⟩ := evOp_rel hc h
      obtain ⟨s', h4, h5⟩ := evOps_rel hc l s1 K r h3
      exact ⟨s', .cons (.inl ⟨by unfold wantV; rw [hg], eff, h1⟩) h4, h5⟩
    · rename_i j want hg
      unfold guardV at h
      split at h
      · cases h
      · rename_i oj hoj
        split at h
        · cases h
        · rename_i d hd
          split at h
          · rename_i b hb
            have hs : ∀ c, b = c → (⟨s.fr.set d (.bool c), s.bx⟩ : St) = s := by
              intro c e
              subst e
              rw [set_same hb]
            rcases sel_some h with ⟨hbt, h⟩ | ⟨hbt, h⟩
            · rw [hs true hbt] at h
              cases want with
              | true =>
                obtain ⟨eff, s1, h1, h3⟩ := evOp_rel hc h
                obtain ⟨s', h4, h5⟩ := evOps_rel hc l s1 K r h3
                exact ⟨s', .cons (.inl ⟨by unfold wantV; simp [hg, hoj, hd, hb, hbt], eff, h1⟩) h4, h5⟩
              | false =>
                obtain ⟨s', h4, h5⟩ := evOps_rel hc l _ K r h
                exact ⟨s', .cons (.inr ⟨by unfold wantV; simp [hg, hoj, hd, hb, hbt], rfl⟩) h4, h5⟩
            · rw [hs false hbt] at h
              cases want with
              | true =>
                obtain ⟨s', h4, h5⟩ := evOps_rel hc l _ K r h
                exact ⟨s', .cons (.inr ⟨by unfold wantV; simp [hg, hoj, hd, hb, hbt], rfl⟩) h4, h5⟩
              | false =>
                obtain ⟨eff, s1, h1, h3⟩ := evOp_rel hc h
                obtain ⟨s', h4, h5⟩ := evOps_rel hc l s1 K r h3
                exact ⟨s', .cons (.inl ⟨by unfold wantV; simp [hg, hoj, hd, hb, hbt], eff, h1⟩) h4, h5⟩
          · rename_i hb
            obtain ⟨s', h4, h5⟩ := evOps_rel hc l _ K r h
            exact ⟨s', .cons (.inr ⟨by unfold wantV; simp [hg, hoj, hd, hb], rfl⟩) h4, h5⟩
          · cases h

/-- A region in the text's order. -/
theorem trace_wp (hE : EOk E) {ops : Array Oper} {Q : Exit → Act → World → Prop} : ∀ (l : List Oper) (i : Nat) (s s' : St) (g : Gh) (a : Act) (w : World), ops.toList.drop i = l → Trace E ops.toList none l s s' → Inv E B G0 w0 s g a w →
    (∀ g' a' w', Inv E B G0 w0 s' g' a' w' → Q .normal a' w') → wpOps E.P ops Q (List.range' i l.length) a w
  | [], i, s, s', g, a, w, hd, ht, h, hk => by
    cases ht
    exact hk g a w h
  | o :: l, i, s, s', g, a, w, hd, ht, h, hk => by
    cases ht with
    | cons hs ht =>
      rename_i s1
      have hi : ops[i]? = some o := by
        have := congrArg (fun l => l[0]?) hd
        simpa using this
      have hd' : ops.toList.drop (i + 1) = l := by
        rw [← List.drop_drop, hd]; rfl
      rw [List.length_cons, List.range'_succ]
      unfold wpOps
      rw [hi]
      simp only
      rcases hs with ⟨hw, eff, ho, _, hr⟩ | ⟨hw, rfl⟩
      · rw [if_pos (wantV_sound h.fr hw)]
        refine .inl ?_
        have hdo := opR_sound (ac := a) (B := B) (w := w) (g := g) hE rfl h.gok h.own h.bxs h.hB (fun y => evalO_rep h.fr h.glob y) ho
        exact eff_inv h hdo (fun _ _ h => h) hr fun g' a' w' h' _ => trace_wp hE l (i + 1) s1 s' g' a' w' hd' ht h' hk
      · rw [if_neg (by rw [wantV_sound h.fr hw]; decide)]
        exact trace_wp hE l (i + 1) _ s' g _ w hd' ht (h.put o.dst (v := .tup []) (u := undef) ⟨[], rfl, .nil⟩) hk
end
end Nt.Ev
